-- Written by a changed copy of the kit's printer (wip/mp.py of this repo), for this claim; Lean checks it.
import Derived.Test.YtodcckiphdnjeaaQFnFilledx0
import Derived.Test.YtodcckiphdnjeaaQFnFilledx2
import Derived.Test.YtodcckiphdnjeaaQFnFilledx4
namespace Go.Proofs.Ytodcckiphdnjeaa.QFnFilled
open Go.RowKit Go.Proofs.YtodcckiphdnjeaaW.PrintWords Go.Proofs.YtodcckiphdnjeaaW.PrintLast Go.Proofs.YtodcckiphdnjeaaW.PrintMore
attribute [local go_sem] max2_int min2_int max_two min_two max_three min_three max_four min_four   -- for this text's walks alone
set_option linter.unusedVariables false
set_option linter.unusedSimpArgs false

theorem z5_0 {p : Prop} (h : p := by repeat (first | (with_reducible first | exact HB.out | apply below_alloc | apply pw_below_drewN | apply below_drew1) | exact HB.out)) : p := h
theorem z5_1 {p : Prop} (h : p := by (try simp only [List.map_toArray, List.map_cons, List.map_nil]); first | done | rfl | (simp only [List.length_drop, List.length_take]; rfl)) : p := h
theorem z5_2 {p : Prop} (h : p := by first | (with_reducible assumption) | assumption) : p := h
theorem z5_3 {p : Prop} (h : p := by first | rfl | (simp; done) | (simp [*]; done)) : p := h
theorem z5_4 {p : Prop} (h : p := by repeat (first | exact Drawn0.refl _ | apply Drawn0.step)) : p := h
/-! ### impl_alone: function 48 (given) -/
def aloneL (c : Int) : Bool := decide (97 ≤ c ∧ c ≤ 122)
theorem aloneL_eq (c : Int) : impl_isLetter.f c = some (aloneL c) := by
  unfold impl_isLetter.f aloneL
  by_cases h : c ≥ 97
  · rw [if_pos h]
    congr 1
    simp
    omega
  · rw [if_neg h]
    congr 1
    simp
    omega
/-- Is this cell white, in no slot and without a letter? -/
def aloneAt (ks : List Int) (s fill : ByteArray) (i : Nat) : Bool := decide (bt s i = 46) && (decide ((i : Int) ∉ ks) && !aloneL (bt fill i))
def aloneKeys (ks : List Int) : DataW Unit := Go.Maps.setOf (.lit (.int .i64 1)) (ks.map fun x => Lit.int .i64 x)
theorem aloneKeys_snoc (ks : List Int) (x : Int) : aloneKeys (ks ++ [x]) = (aloneKeys ks).put (.int .i64 x) (.lit (.int .i64 1)) := by
  unfold aloneKeys
  rw [List.map_append, List.map_cons, List.map_nil, Go.Maps.setOf_snoc]
theorem aloneKeys_fold (x : Int) (z : DataW Unit) : ∀ (ks : List Int) (m : DataW Unit), Go.Maps.IsMap m → ((ks.map fun x => Lit.int .i64 x).foldl (fun m x => m.put x (.lit (.int .i64 1))) m).atKey (.int .i64 x) z = if x ∈ ks then .lit (.int .i64 1) else m.atKey (.int .i64 x) z
  | [], m, _ => by simp
  | y :: ks, m, hm => by
    rw [List.map_cons, List.foldl_cons, aloneKeys_fold x z ks _ (hm.put _ _)]
    by_cases hx : x ∈ ks
    · rw [if_pos hx, if_pos (by simp [hx])]
    · rw [if_neg hx]
      by_cases hy : x = y
      · subst hy
        rw [if_pos (by simp), Go.Maps.atKey_put_same hm (by simp [WideAt.IsKeyLit])]
      · rw [if_neg (by simp [hx, hy]), Go.Maps.atKey_put_other (by simpa using hy)]
theorem aloneKeys_at (ks : List Int) (x : Int) : (aloneKeys ks).atKey (.int .i64 x) (.lit (.int .i64 0)) = .lit (.int .i64 (if x ∈ ks then 1 else 0)) := by
  unfold aloneKeys Go.Maps.setOf
  rw [aloneKeys_fold x _ ks _ ⟨[], rfl⟩]
  split <;> rfl
theorem aloneLaw : Go.Maps.Keyed Try.prog 3 := Go.Maps.int_keyed Try.underlying3
theorem aloneZero (w : World) : (zeroValue 3).run Try.prog w = .ok (.int .i64 0) w := by kernel_rfl
theorem aloneWf {x : Int} (h : 0 ≤ x ∧ x ≤ 1000000) : (Lit.int .i64 x).wf = true := WalkArith.wf_i64 ⟨by omega, by omega⟩
abbrev aloneOk (L : List (List Int)) (s fill : ByteArray) : Prop := (L.length ≤ 1000 ∧ ∀ l ∈ L, l.length ≤ 1000 ∧ ∀ x ∈ l, 0 ≤ x ∧ x ≤ 1000000) ∧ s.size ≤ fill.size ∧ fill.size ≤ 1000000
def impl_alone.f (k : Nat) (a0_0 a0_1 : Int) (a0_2 a1 : ByteArray) : Option Bool := (impl_layout.f k a0_0 a0_1 a0_2).bind fun L => if aloneOk L a0_2 a1 then some ((List.range' 0 a0_2.size).any (aloneAt L.flatten a0_2 a1)) else none
theorem impl_alone.mono : ∀ a0 a1 a2 a3 k, LeO (impl_alone.f k a0 a1 a2 a3) (impl_alone.f (k + 1) a0 a1 a2 a3) := by
  intro a0 a1 a2 a3 k
  unfold impl_alone.f
  exact LeO.bind (impl_layout.mono _ _ _ _) (fun _ => LeO.refl _)
theorem alone_take {L : List (List Int)} {i : Nat} (h : i < L.length) : (L.take (i + 1)).flatten = (L.take i).flatten ++ L[i] := by
  rw [List.take_succ_eq_append_getElem h, List.flatten_append]
  simp
theorem alone_flat_le {L : List (List Int)} (h : ∀ l ∈ L, l.length ≤ 1000) : L.flatten.length ≤ 1000 * L.length := by
  induction L with
  | nil => simp
  | cons a L ih =>
    have := ih (fun l hl => h l (by simp [hl]))
    have := h a (by simp)
    simp only [List.flatten_cons, List.length_append, List.length_cons]; omega
theorem alone_box_cell {w w1 : World} {cs : Array Value} {t : TypeId} (hb : Below (w.alloc (.cells cs t)).heap.size (w.alloc (.cells cs t)) w1) (j : Nat) (v : Value) (h : cs[j]? = some v) : w1.cell? ⟨w.heap.size, j, none⟩ = some v := by
  have h1 : (⟨w.heap.size, j, none⟩ : Addr).block < (w.alloc (.cells cs t)).heap.size := by simp [World.alloc, -World.alloc_eq]
  rw [hb.cell h1]
  simp [World.cell?, World.alloc, -World.alloc_eq, h]
theorem alone_rest (ks : List Int) (s fill : ByteArray) {i : Nat} (h : i < s.size) : (List.range' i (s.size - i)).any (aloneAt ks s fill) = (aloneAt ks s fill i || (List.range' (i + 1) (s.size - (i + 1))).any (aloneAt ks s fill)) := by
  rw [show s.size - i = (s.size - (i + 1)) + 1 by omega, List.range'_succ, List.any_cons]
/-- What the loops keep: the grid's text, the rows, the map. -/
structure AlW (wb : World) (B G : Nat) (s : ByteArray) (vL : Value) (L : List (List Int)) (ks : List Int) (w : World) : Prop where
  g2 : w.cell? ⟨G, 2, none⟩ = some (.string s)
  gb : G ≠ B
  eB : B = wb.heap.size
  sl : Kd.S (Kd.slice 3 (Kd.int .i64)) 62 w B (fun k_ => k_ ≠ B) vL L
  mp : w.ownsMap Try.prog 3 (plainElem Try.prog 3) B ks.length (aloneKeys ks)
  hb : Below wb.heap.size wb w
theorem AlW.drewN {wb : World} {B G : Nat} {s : ByteArray} {vL : Value} {L : List (List Int)} {ks : List Int} {w : World} (h : AlW wb B G s vL L ks w) (n : Nat) : AlW wb B G s vL L ks (w.drewN n) :=
  ⟨h.g2, h.gb, h.eB, Kd.S_drewN h.sl n, h.mp, pw_below_drewN h.hb n⟩
theorem AlW.put {wb : World} {B G : Nat} {s : ByteArray} {vL : Value} {L : List (List Int)} {ks : List Int} {w w' : World} (h : AlW wb B G s vL L ks w) (x : Int) (hm : w'.ownsMap Try.prog 3 (plainElem Try.prog 3) B (ks.length + 1) ((aloneKeys ks).put (.int .i64 x) (.lit (.int .i64 1)))) (hg : w.grownBy w' (some B)) : AlW wb B G s vL L (ks ++ [x]) w' :=
  ⟨cell_grown hg h.g2 (fun e => by injection e with e; exact h.gb e), h.gb, h.eB, Kd.S_grown h.sl hg (fun k_ hk e => by injection e with e; exact hk e), by rw [aloneKeys_snoc, List.length_append]; exact hm, pw_below_grown h.hb _ h.hb.size hg (fun k_ e => by injection e with e; have := h.eB; omega)⟩
set_option maxHeartbeats 4000000 in
set_option maxRecDepth 100000 in
theorem impl_alone.calls (k : Nat) (a0_0 a0_1 : Int) (a0_2 a1 : ByteArray) (r : Bool) (w : World) (h : impl_alone.f k a0_0 a0_1 a0_2 a1 = some r) :
    Calls Try.prog 48 #[.agg #[.int .i64 a0_0, .int .i64 a0_1, .string a0_2], .string a1] w fun e w' => e = .returned (.bool r) ∧ Below w.heap.size w w' := by
  unfold impl_alone.f at h
  obtain ⟨L, hL, h⟩ := Option.bind_eq_some_iff.mp h; by_cases hok : aloneOk L a0_2 a1
  · rw [if_pos hok] at h
    injection h with h
    obtain ⟨⟨hl0, hrow⟩, hsz, hfl⟩ := hok; have kl := fun W => impl_layout.calls k a0_0 a0_1 a0_2 L W hL
    have hmm := @run_makeMap Try.prog; have HR := Aside0.mk hrow; have HRES := Aside0.mk h; have HFL := Aside0.mk (Nat.le_trans (alone_flat_le (fun l hl => (hrow l hl).1)) (Nat.mul_le_mul_left 1000 hl0)); clear hL hrow h; go_enter Try.func48, Try.ntmps48
    go_wp2_with fail
    go_at_call 50
    refine (kl _).mono ?_
    rintro e w1 ⟨v0, rfl, hS, hb1⟩
    have hsz : ((w.alloc (.cells #[.int .i64 a0_0, .int .i64 a0_1, .string a0_2] 28)).alloc (.map #[] 0)).heap.size = (w.alloc (.cells #[.int .i64 a0_0, .int .i64 a0_1, .string a0_2] 28)).heap.size + 1 := by simp [World.alloc, -World.alloc_eq]
    have hwb : (w.alloc (.cells #[.int .i64 a0_0, .int .i64 a0_1, .string a0_2] 28)).heap.size = w.heap.size + 1 := by simp [World.alloc, -World.alloc_eq]
    rw [hwb] at hsz
    have HA0 : AlW (w.alloc (.cells #[.int .i64 a0_0, .int .i64 a0_1, .string a0_2] 28)) (w.heap.size + 1) w.heap.size a0_2 v0 L [] w1 :=
      ⟨alone_box_cell (below_step (below_alloc (Below.refl _ _) _) hb1) 2 _ rfl, by omega, hwb.symm, Kd.S_lower (Kd.S_mono (Kd.S_bound hS) (fun k_ hk e => by have h2 := hk.2.1; rw [hsz] at h2; omega)) (by rw [hsz]; omega),
        by rw [← hwb]; exact (World.ownsMap_made (H := Unit) (w.alloc (.cells #[.int .i64 a0_0, .int .i64 a0_1, .string a0_2] 28)) Try.prog 3 (plainElem Try.prog 3)).kept (grown_of_below hb1 none) (by simp), below_step (below_alloc (Below.refl _ _) _) hb1⟩
    have HA := Aside0.mk HA0; obtain ⟨A13, c13, rfl⟩ := Kd.S_slice hS; have HBW := Aside0.mk (below_alloc (Below.refl w.heap.size w) (.cells #[.int .i64 a0_0, .int .i64 a0_1, .string a0_2] 28)); have HWS := Aside0.mk (show w.heap.size ≤ (w.alloc (.cells #[.int .i64 a0_0, .int .i64 a0_1, .string a0_2] 28)).heap.size from by simp); clear kl hmm hb1 hS HA0 hsz hwb; generalize (w.alloc (.cells #[.int .i64 a0_0, .int .i64 a0_1, .string a0_2] 28)) = wb at HA HBW HWS ⊢
    have hL0 := hl0; go_wp2
    go_loopg [15] L.length (fun kq v15 w' => ∃ (i : Nat), v15 = .int .i64 (i : Int) ∧ Aside0 (i ≤ L.length) ∧ Aside0 (L.length - i ≤ kq) ∧ Aside0 (AlW wb (w.heap.size + 1) w.heap.size a0_2 (.slice A13 L.length c13) L (L.take i).flatten w'))
    case atStart => exact ⟨0, rfl, ⟨Nat.zero_le _⟩, ⟨by omega⟩, HA⟩
    case round =>
      clear HA; obtain ⟨i, rfl, hi, hk, HA⟩ := hrel; obtain ⟨wo, rfl⟩ : ∃ wo : World, wo = wr := ⟨_, rfl⟩; by_cases hlt : i < L.length
      · have cb0 : decide ((i : Int) < (L.length : Int)) = true := by simp; exact hlt
        obtain ⟨g, co, eg, hg1, hg2, _⟩ := Kd.S_form HA.out.sl (by omega); injection eg with ea _ ec
        subst ea ec; obtain ⟨c, hcl, ⟨v, rfl, hR⟩, hcc⟩ := Kd.S_get HA.out.sl [] (i : Int) (by omega) (by omega); have hxr := hcc 0 v rfl; rw [show (Kd.slice 3 (Kd.int .i64)).sz = 1 from rfl, Int.toNat_natCast, Nat.mul_one, Nat.add_zero, add_plain] at hxr
        have hli : L.getD i [] = L[i] := by rw [List.getD_eq_getElem?_getD, List.getElem?_eq_getElem hlt]; rfl
        rw [Int.toNat_natCast, hli] at hR
        have hnext := alone_take hlt; obtain ⟨hrl, hrx⟩ := HR.out _ (List.getElem_mem hlt)
        have hkl : (L.take i).flatten.length + L[i].length ≤ 1000000 := by
          have h1 := HFL.out
          have h2 : (L.take i).flatten.length + L[i].length ≤ L.flatten.length := by
            rw [← List.length_append, ← hnext]
            conv => rhs; rw [← List.take_append_drop (i + 1) L, List.flatten_append, List.length_append]
            omega
          omega
        generalize L[i] = row at hR hnext hrl hrx hkl
        obtain ⟨Ai, ci, ei⟩ := Kd.R_slice hR; subst ei; have HRW := Aside0.mk (Kd.R_mono (ok' := fun k_ => k_ ≠ w.heap.size + 1) hR (fun k_ hk => hk.1)); have HN := Aside0.mk hnext; have HX := Aside0.mk hrx; have HKL := Aside0.mk hkl; have p1 : (0 ≤ (i : Int)) = True := eq_true (by omega); have q1 : ((i : Int) < (L.length : Int)) = True := eq_true (by omega); clear hcl hcc hR hli hnext hrx hkl hg1 hg2; go_wp2
        go_loopg [21] row.length (fun kq v21 w'' => ∃ (j : Nat), v21 = .int .i64 (j : Int) ∧ Aside0 (j ≤ row.length) ∧ Aside0 (row.length - j ≤ kq) ∧ Aside0 (AlW wb (w.heap.size + 1) w.heap.size a0_2 (.slice (some ⟨g, 0, none⟩) L.length c13) L ((L.take i).flatten ++ row.take j) w'') ∧ Aside0 (Kd.R (Kd.int .i64) 3 w'' (w.heap.size + 1) (fun k_ => k_ ≠ w.heap.size + 1) (.slice Ai row.length ci) row))
        case atStart => exact ⟨0, rfl, ⟨Nat.zero_le _⟩, ⟨by omega⟩, ⟨by rw [List.take_zero, List.append_nil]; exact HA.out⟩, HRW⟩
        case round =>
          clear HA HRW hxr; obtain ⟨j, rfl, hj, hkj, HA, HRW⟩ := hrel; by_cases hjl : j < row.length
          · have cb1 : decide ((j : Int) < (row.length : Int)) = true := by simp; exact hjl
            obtain ⟨ad, e1, hx⟩ := Kd.at_int (Kd.R_reads' HRW.out).2.2 (j : Int) (by omega) (by omega)
            cases e1; have hrd : rd row (j : Int) = row[j] := by unfold rd; simp [hjl]
            rw [hrd] at hx
            simp only [Int.toNat_natCast] at hx; have hxj := HX.out _ (List.getElem_mem hjl); have htk := List.take_succ_eq_append_getElem hjl; generalize row[j] = x at hx hxj htk
            have hkey : keyOf Try.prog 3 (.int .i64 x) = some (.int .i64 x) := Maps.keyOf_int_mk Try.underlying3 (aloneWf hxj); have HT := Aside0.mk htk; have hown := HA.out.mp
            have hn : ((L.take i).flatten ++ row.take j).length < maxLen := by
              have := HKL.out
              rw [List.length_append]
              have := List.length_take_le j row
              unfold maxLen
              omega
            have p2 : (0 ≤ (j : Int)) = True := eq_true (by omega); have q2 : ((j : Int) < (row.length : Int)) = True := eq_true (by omega); clear hrd hxj htk; go_wp2_with (at_mapUpdate; go_loud (refine wpList_mapUpdate_own _ rfl _ _ _ 97 rfl 3 3 aloneLaw Try.underlying97 _ (w.heap.size + 1) _ _ rfl hown hn _ _ _ rfl rfl hkey _ [] (plainElem_int Try.underlying3 (by decide)) ?_; intro w1 hown1 hgrow1))
            have HA2 := Aside0.mk (HA.out.put x hown1 hgrow1); have HRW2 := Aside0.mk (Kd.R_grown HRW.out hgrow1 (fun k_ hk e => by injection e with e; exact hk e)); clear hown hown1 hgrow1 hn hkey hx; go_roundg (row.length - (j + 1))
            case measure => have := hkj.out; omega
            case rel => exact ⟨j + 1, by simp, ⟨by omega⟩, ⟨Nat.le_refl _⟩, ⟨by rw [HT.out, ← List.append_assoc]; exact HA2.out⟩, HRW2⟩
          · have cb1 : decide ((j : Int) < (row.length : Int)) = false := by simp; omega
            have HA2 := Aside0.mk (show AlW wb (w.heap.size + 1) w.heap.size a0_2 (.slice (some ⟨g, 0, none⟩) L.length c13) L (L.take (i + 1)).flatten wr from by rw [HN.out]; have h := HA.out; rw [List.take_of_length_le (l := row) (by omega)] at h; exact h); go_wp2
            go_roundg (L.length - (i + 1))
            case measure => have := hk.out; omega
            case rel => exact ⟨i + 1, by simp, ⟨by omega⟩, ⟨Nat.le_refl _⟩, HA2⟩
      · have cb0 : decide ((i : Int) < (L.length : Int)) = false := by simp; omega
        have HA1 := Aside0.mk (show AlW wb (w.heap.size + 1) w.heap.size a0_2 (.slice A13 L.length c13) L L.flatten wo from by have h := HA.out; rw [List.take_of_length_le (by omega)] at h; exact h); clear HA; have g2 := HA1.out.g2; go_wp2
        clear g2; go_loopg [32] a0_2.size (fun kq v32 w' => ∃ (i : Nat), v32 = .int .i64 (i : Int) ∧ Aside0 (i ≤ a0_2.size) ∧ Aside0 (a0_2.size - i ≤ kq) ∧ Aside0 ((List.range' i (a0_2.size - i)).any (aloneAt L.flatten a0_2 a1) = r) ∧ Aside0 (AlW wb (w.heap.size + 1) w.heap.size a0_2 (.slice A13 L.length c13) L L.flatten w'))
        case atStart => exact ⟨0, rfl, ⟨Nat.zero_le _⟩, ⟨by omega⟩, ⟨by rw [Nat.sub_zero]; exact HRES.out⟩, HA1⟩
        case round =>
          clear HA1 HRES; obtain ⟨q, rfl, hq, hkq, heq, HA⟩ := hrel; by_cases hlq : q < a0_2.size
          · have cb1 : decide ((q : Int) < (a0_2.size : Int)) = true := by simp; exact hlq
            have heq' := heq.out
            rw [alone_rest _ _ _ hlq] at heq'
            unfold aloneAt at heq'
            have hx8 := bt_at a0_2 (q : Int); simp only [Int.toNat_natCast] at hx8; replace hx8 := hx8 hlq; have p1 : (0 ≤ (q : Int)) = True := eq_true (by omega); have q1 : ((q : Int) < (a0_2.size : Int)) = True := eq_true (by omega); have q2 : ((q : Int) < (a1.size : Int)) = True := eq_true (by omega); have g2 := HA.out.g2; by_cases hw : bt a0_2 (q : Int) = 46
            · have zb : (bt a0_2 (q : Int) == 46) = true := beq_iff_eq.mpr hw
              rw [decide_eq_true hw, Bool.true_and] at heq'
              obtain ⟨c, hrun, hat, _⟩ := HA.out.mp.lookup_int aloneLaw Try.underlying97 Try.underlying3 (aloneZero _) (key := .int .i64 (q : Int)) (Maps.keyOf_int_mk Try.underlying3 (aloneWf ⟨by omega, by omega⟩)); rw [aloneKeys_at] at hat
              by_cases hm : (q : Int) ∈ L.flatten
              · rw [if_pos hm] at hat
                obtain rfl : (1 : Int) = c := by injection hat with hat; injection hat
                rw [decide_eq_false (by simpa using hm), Bool.false_and, Bool.false_or] at heq'
                have HE := Aside0.mk heq'; rw [← hx8] at zb
                clear heq heq' hw hm hat hx8; go_wp2
                go_roundg (a0_2.size - (q + 1))
                case measure => have := hkq.out; omega
                case rel => exact ⟨q + 1, by simp, ⟨by omega⟩, ⟨Nat.le_refl _⟩, HE, HA⟩
              · rw [if_neg hm] at hat
                obtain rfl : (0 : Int) = c := by injection hat with hat; injection hat
                rw [decide_eq_true hm, Bool.true_and] at heq'
                have kl := fun W => impl_isLetter.calls (bt a1 (q : Int)) (aloneL (bt a1 (q : Int))) W (aloneL_eq _)
                have hy8 := bt_at a1 (q : Int); simp only [Int.toNat_natCast] at hy8; replace hy8 := hy8 (by omega); rw [← hx8] at zb
                have KL := Aside0.mk kl; have HE := Aside0.mk heq'; clear heq heq' hw hm hat hx8 kl; go_wp2_with fail
                go_at_call 77
                have kl := KL.out; refine (kl _).mono ?_
                rintro e w2 ⟨rfl, nd, rfl⟩
                clear kl KL hy8; have hE := HE.out
                cases hal : aloneL (bt a1 (q : Int)) with
                | true =>
                  rw [hal, Bool.not_true, Bool.false_or] at hE
                  have HE := Aside0.mk hE; clear hE hal; go_wp2
                  go_roundg (a0_2.size - (q + 1))
                  case measure => have := hkq.out; omega
                  case rel => exact ⟨q + 1, by simp, ⟨by omega⟩, ⟨Nat.le_refl _⟩, HE, ⟨HA.out.drewN _⟩⟩
                | false =>
                  rw [hal, Bool.not_false, Bool.true_or] at hE
                  have HE := Aside0.mk hE; clear hE hal; go_wp2
                  go_ret
                  exact ⟨by rw [← HE.out] <;> rfl, below_step (w := w) HBW.out (pw_below_drewN HA.out.hb nd)⟩
            · have zb : (bt a0_2 (q : Int) == 46) = false := beq_eq_false_iff_ne.mpr hw
              rw [decide_eq_false hw, Bool.false_and, Bool.false_or] at heq'
              have HE := Aside0.mk heq'; rw [← hx8] at zb
              clear heq heq' hw hx8; go_wp2
              go_roundg (a0_2.size - (q + 1))
              case measure => have := hkq.out; omega
              case rel => exact ⟨q + 1, by simp, ⟨by omega⟩, ⟨Nat.le_refl _⟩, HE, HA⟩
          · have cb1 : decide ((q : Int) < (a0_2.size : Int)) = false := by simp; omega
            have heq' := heq.out
            rw [show a0_2.size - q = 0 by omega] at heq'
            have HE := Aside0.mk (show false = r from heq'); have g2 := HA.out.g2; clear heq heq'; go_wp2
            go_ret
            exact ⟨by rw [← HE.out] <;> rfl, below_step (w := w) HBW.out HA.out.hb⟩
  · rw [if_neg hok] at h
    cases h


/-! ### slices_Index_string_string: function 99 -/
def slices_Index_string_string.l0 : Nat → List ByteArray → ByteArray → Int → Int → Option (Int)
  | 0, _, _, _, _ => none
  | k + 1, x0, x1, x7, x8 => if x8 < x7 then (if 0 ≤ x8 then (if x8 < (x0.length : Int) then (if x1.toList = (rdOf ByteArray.empty x0 x8).toList then (some x8) else (slices_Index_string_string.l0 k x0 x1 x7 (wrap64 (x8 + 1)))) else (none)) else (none)) else (some (-1))
def slices_Index_string_string.f (k : Nat) (l0 : List ByteArray) (a1 : ByteArray) : Option (Int) := slices_Index_string_string.l0 k l0 a1 (l0.length : Int) 0
theorem slices_Index_string_string.mono_l : ∀ k, (∀ y0 y1 y2 y3, LeO (slices_Index_string_string.l0 k y0 y1 y2 y3) (slices_Index_string_string.l0 (k + 1) y0 y1 y2 y3))
  | 0 => fun _ _ _ _ r h => by simp [slices_Index_string_string.l0] at h
  | k + 1 => by
   have ih0 := slices_Index_string_string.mono_l k
   ·intro y0 y1 y2 y3
    unfold slices_Index_string_string.l0
    with_reducible repeat' first
    | exact ih0 _ _ _ _
    | exact LeO.refl _
    | exact LeO.none _
    | refine LeO.ite ?_ ?_
    | refine LeO.bind ?_ (fun _ => ?_)
theorem slices_Index_string_string.mono : ∀ a0 a1 k, LeO (slices_Index_string_string.f k a0 a1) (slices_Index_string_string.f (k + 1) a0 a1) := by
  intro a0 a1 k
  have ih0 := slices_Index_string_string.mono_l k; unfold slices_Index_string_string.f
  with_reducible repeat' first
  | exact ih0 _ _ _ _
  | exact LeO.refl _
  | exact LeO.none _
  | refine LeO.ite ?_ ?_
  | refine LeO.bind ?_ (fun _ => ?_)
set_option maxHeartbeats 8000000 in
set_option maxRecDepth 100000 in
theorem slices_Index_string_string.calls (k : Nat) (A0 : Option Addr) (c0 : Nat) (l0 : List ByteArray) (a1 : ByteArray) (r : Int) (w : World) (hr0 : Kd.C Kd.string w A0 l0.length l0) (hc0 : l0.length ≤ c0) (h : slices_Index_string_string.f k l0 a1 = some r) :
   Calls Try.prog 99 #[.slice A0 l0.length c0, .string a1] w fun e w' => e = .returned (.int .i64 r) ∧ Drawn0 w w' := by
  have HR0 := Aside0.mk hr0; have HC0 := Aside0.mk hc0; clear hr0 hc0; have H : (slices_Index_string_string.l0 k l0 a1 (l0.length : Int) 0) = some r := h; clear h; have H' := Aside0.mk H
  clear H; go_enter Try.func99, Try.ntmps99
  go_wp2
  go_loopg [8] k (fun kq v8 w' => ∃ (x8_1 : Int), v8 = .int .i64 x8_1 ∧ Aside0 (slices_Index_string_string.l0 kq l0 a1 (l0.length : Int) x8_1 = some r) ∧ Aside0 (kq ≤ k) ∧ Drawn0 w w')
  case atStart => exact ⟨(0), z5_3, H', ⟨Nat.le_refl _⟩, z5_4⟩
  case round =>
   clear H'; try clear p2
   obtain ⟨x8_1, rfl, HA, HK1, ⟨m1, rfl⟩⟩ := hrel
   cases gk with
   | zero => exact absurd HA.out (by simp [slices_Index_string_string.l0])
   | succ k1 =>
    have H := HA.out; clear HA; simp only [slices_Index_string_string.l0] at H; by_cases c3 : x8_1 < (l0.length : Int)
    ·rw [if_pos c3] at H
     have c3b0 : decide (x8_1 < (l0.length : Int)) = true := decide_eq_true c3; clear c3; by_cases c4 : 0 ≤ x8_1
     ·rw [if_pos c4] at H
      have c4b0 : decide (0 ≤ x8_1) = true := decide_eq_true c4; clear c4; by_cases c5 : x8_1 < (l0.length : Int)
      ·rw [if_pos c5] at H
       have c5b0 : decide (x8_1 < (l0.length : Int)) = true := decide_eq_true c5; clear c5; by_cases c6 : a1.toList = (rdOf ByteArray.empty l0 x8_1).toList
       ·rw [if_pos c6] at H
        have c6b0 : (a1.toList == (rdOf ByteArray.empty l0 x8_1).toList) = true := beq_iff_eq.mpr c6; have c6b1 : (a1.toList != (rdOf ByteArray.empty l0 x8_1).toList) = false := bne_eq_false_iff_eq.mpr c6; clear c6; obtain rfl := Option.some.inj H; have p138 : 0 ≤ (x8_1 : Int) := of_decide_eq_true z5_2; have q138 : x8_1 < (l0.length : Int) := of_decide_eq_true z5_2; obtain ⟨ad138, e138, hx138_0⟩ := Kd.at_string HR0.out x8_1 p138 q138
        cases e138; replace p138 := eq_true p138; replace q138 := eq_true q138; go_wp2
        go_ret
        exact ⟨z5_3, z5_4⟩
       ·rw [if_neg c6] at H
        have c6b0 : (a1.toList == (rdOf ByteArray.empty l0 x8_1).toList) = false := beq_eq_false_iff_ne.mpr c6; have c6b1 : (a1.toList != (rdOf ByteArray.empty l0 x8_1).toList) = true := bne_iff_ne.mpr c6; have H' := Aside0.mk H
        clear H; have p138 : 0 ≤ (x8_1 : Int) := of_decide_eq_true z5_2; have q138 : x8_1 < (l0.length : Int) := of_decide_eq_true z5_2; obtain ⟨ad138, e138, hx138_0⟩ := Kd.at_string HR0.out x8_1 p138 q138
        cases e138; replace p138 := eq_true p138; replace q138 := eq_true q138; go_wp2
        go_roundg k1
        case measure => have := HK1.out; omega
        case rel => exact ⟨(wrap64 (x8_1 + 1)), z5_3, H', ⟨by have := HK1.out; omega⟩, z5_4⟩
      ·rw [if_neg c5] at H
       exact absurd H (by simp)
     ·rw [if_neg c4] at H
      exact absurd H (by simp)
    ·rw [if_neg c3] at H
     have c3b0 : decide (x8_1 < (l0.length : Int)) = false := decide_eq_false c3; clear c3; obtain rfl := Option.some.inj H; go_wp2
     go_ret
     exact ⟨z5_3, z5_4⟩

/-! ### slices_Contains_string_string: function 63 -/
def slices_Contains_string_string.f (k : Nat) (l0 : List ByteArray) (a1 : ByteArray) : Option (Bool) := (slices_Index_string_string.f k l0 a1).bind fun t139 => (some (decide (t139 ≥ 0)))
theorem slices_Contains_string_string.mono : ∀ a0 a1 k, LeO (slices_Contains_string_string.f k a0 a1) (slices_Contains_string_string.f (k + 1) a0 a1) := by
  intro a0 a1 k
  unfold slices_Contains_string_string.f
  with_reducible repeat' first
  | exact slices_Index_string_string.mono _ _ _
  | exact LeO.refl _
  | exact LeO.none _
  | refine LeO.ite ?_ ?_
  | refine LeO.bind ?_ (fun _ => ?_)
set_option maxHeartbeats 8000000 in
set_option maxRecDepth 100000 in
theorem slices_Contains_string_string.calls (k : Nat) (A0 : Option Addr) (c0 : Nat) (l0 : List ByteArray) (a1 : ByteArray) (r : Bool) (w : World) (hr0 : Kd.C Kd.string w A0 l0.length l0) (hc0 : l0.length ≤ c0) (h : slices_Contains_string_string.f k l0 a1 = some r) :
   Calls Try.prog 63 #[.slice A0 l0.length c0, .string a1] w fun e w' => e = .returned (.bool r) ∧ Drawn0 w w' := by
  have HR0 := Aside0.mk hr0; have HC0 := Aside0.mk hc0; clear hr0 hc0; have H : ((slices_Index_string_string.f k l0 a1).bind fun t139 => (some (decide (t139 ≥ 0)))) = some r := h; clear h; replace H := Option.bind_eq_some_iff.mp H; obtain ⟨t139, A30, H⟩ := H; try dsimp only at H
  have A3 := Aside0.mk A30; clear A30; obtain rfl := Option.some.inj H; go_enter Try.func63, Try.ntmps63
  go_wp2_with (first | ((with_reducible refine gate_callee (f := 99) rfl ?_); refine goesL_ (some 7) rfl rfl Try.func99 (by kernel_rfl) rfl #[.slice A0 l0.length c0, .string a1] rfl z5_1 ?_; (with_reducible refine (slices_Index_string_string.calls k _ _ l0 a1 t139 _ ?side1 ?side2 A3.out).mono ?_); (case side1 => repeat (first | exact HR0.out | (with_reducible refine Kd.C_alloc ?_ _) | (with_reducible refine Kd.C_drewN ?_ _) | (with_reducible refine Kd.C_drew ?_))); (case side2 => exact HC0.out); rintro e w' ⟨rfl, ⟨nd, rfl⟩⟩; refine ⟨_, rfl, ?_⟩))
  go_ret
  exact ⟨z5_3, z5_4⟩

/-! ### impl_once: function 51 -/
def impl_once.l0 : Nat → List ByteArray → List ByteArray → Int → Int → Option (List ByteArray)
  | 0, _, _, _, _ => none
  | k + 1, x3, x6, x7, x8 => if x8 < x7 then (if 0 ≤ x8 then (if x8 < (x6.length : Int) then ((slices_Contains_string_string.f k x3 (rdOf ByteArray.empty x6 x8)).bind fun t141 => (if t141 = true then (impl_once.l0 k x3 x6 x7 (wrap64 (x8 + 1))) else (if x3.length < 8796093022208 then (impl_once.l0 k (x3 ++ [rdOf ByteArray.empty x6 x8]) x6 x7 (wrap64 (x8 + 1))) else (none)))) else (none)) else (none)) else (some x3)
def impl_once.f (k : Nat) (l0 : List ByteArray) : Option (List ByteArray) := impl_once.l0 k ([] : List ByteArray) l0 (l0.length : Int) 0
theorem impl_once.mono_l : ∀ k, (∀ y0 y1 y2 y3, LeO (impl_once.l0 k y0 y1 y2 y3) (impl_once.l0 (k + 1) y0 y1 y2 y3))
  | 0 => fun _ _ _ _ r h => by simp [impl_once.l0] at h
  | k + 1 => by
   have ih0 := impl_once.mono_l k
   ·intro y0 y1 y2 y3
    unfold impl_once.l0
    with_reducible repeat' first
    | exact ih0 _ _ _ _
    | exact slices_Contains_string_string.mono _ _ _
    | exact LeO.refl _
    | exact LeO.none _
    | refine LeO.ite ?_ ?_
    | refine LeO.bind ?_ (fun _ => ?_)
theorem impl_once.mono : ∀ a0 k, LeO (impl_once.f k a0) (impl_once.f (k + 1) a0) := by
  intro a0 k
  have ih0 := impl_once.mono_l k; unfold impl_once.f
  with_reducible repeat' first
  | exact ih0 _ _ _ _
  | exact slices_Contains_string_string.mono _ _ _
  | exact LeO.refl _
  | exact LeO.none _
  | refine LeO.ite ?_ ?_
  | refine LeO.bind ?_ (fun _ => ?_)
set_option maxHeartbeats 8000000 in
set_option maxRecDepth 100000 in
theorem impl_once.calls (k : Nat) (A0 : Option Addr) (c0 : Nat) (l0 : List ByteArray) (r : List ByteArray) (w : World) (hr0 : Kd.C Kd.string w A0 l0.length l0) (hc0 : l0.length ≤ c0) (h : impl_once.f k l0 = some r) :
   Calls Try.prog 51 #[.slice A0 l0.length c0] w fun e w' => ∃ v0_ : Value, e = .returned (v0_) ∧ Kd.R Kd.string 9 w' w.heap.size (fun _ => True) v0_ r ∧ Below w.heap.size w w' := by
  have HR0 := Aside0.mk hr0; have HC0 := Aside0.mk hc0; clear hr0 hc0; have HB := Aside0.mk (Below.refl w.heap.size w); have H : (impl_once.l0 k ([] : List ByteArray) l0 (l0.length : Int) 0) = some r := h; clear h; have H' := Aside0.mk H
  clear H; go_enter Try.func51, Try.ntmps51
  go_wp2
  go_loopg [3, 8] k (fun kq v3 v8 w' => ∃ (x3_1 : List ByteArray) (x8_1 : Int), v8 = .int .i64 x8_1 ∧ Aside0 (impl_once.l0 kq x3_1 l0 (l0.length : Int) x8_1 = some r) ∧ Aside0 (kq ≤ k) ∧ Aside0 (Kd.R Kd.string 9 w' w.heap.size (fun _ => True) v3 x3_1) ∧ Aside0 (Below w.heap.size w w'))
  case atStart => exact ⟨(([] : List ByteArray)), (0), z5_3, H', ⟨Nat.le_refl _⟩, ⟨by first | exact Kd.R_nil _ _ _ _ _ | exact Kd.N_nil _ _ _ _ _ | exact Kd.V_nil _ _ _ _ _ | exact Kd.Q_nil _ _ _ _ _ | exact Kd.S_nil _ _ _ _ _⟩, ⟨z5_0⟩⟩
  case round =>
   clear H'; obtain ⟨x3_1, x8_1, rfl, HA, HK1, HO_3, HB⟩ := hrel
   cases gk with
   | zero => exact absurd HA.out (by simp [impl_once.l0])
   | succ k1 =>
    have H := HA.out; clear HA; simp only [impl_once.l0] at H; by_cases c2 : x8_1 < (l0.length : Int)
    ·rw [if_pos c2] at H
     have c2b0 : decide (x8_1 < (l0.length : Int)) = true := decide_eq_true c2; clear c2; by_cases c3 : 0 ≤ x8_1
     ·rw [if_pos c3] at H
      have c3b0 : decide (0 ≤ x8_1) = true := decide_eq_true c3; clear c3; by_cases c4 : x8_1 < (l0.length : Int)
      ·rw [if_pos c4] at H
       have c4b0 : decide (x8_1 < (l0.length : Int)) = true := decide_eq_true c4; clear c4; replace H := Option.bind_eq_some_iff.mp H; obtain ⟨t141, A50, H⟩ := H; try dsimp only at H
       have A5 := Aside0.mk A50; clear A50; by_cases c6 : t141 = true
       ·subst c6; rw [if_pos rfl] at H
        have H' := Aside0.mk H
        clear H; have p140 : 0 ≤ (x8_1 : Int) := of_decide_eq_true z5_2; have q140 : x8_1 < (l0.length : Int) := of_decide_eq_true z5_2; obtain ⟨ad140, e140, hx140_0⟩ := Kd.at_string HR0.out x8_1 p140 q140
        cases e140; try replace hx140_0 := (HB.out.cell (World.block_lt_of_cell? w _ hx140_0)).trans hx140_0
        replace p140 := eq_true p140; replace q140 := eq_true q140; obtain ⟨Ao7, co7, eo7⟩ := Kd.R_slice HO_3.out; subst eo7; go_wp2_with (first | ((with_reducible refine gate_callee (f := 63) rfl ?_); refine goesL_ (some 14) rfl rfl Try.func63 (by kernel_rfl) rfl #[.slice Ao7 x3_1.length co7, .string (rdOf ByteArray.empty l0 x8_1)] rfl z5_1 ?_; (with_reducible refine (slices_Contains_string_string.calls k1 _ _ x3_1 (rdOf ByteArray.empty l0 x8_1) true _ ?side1 ?side2 A5.out).mono ?_); (case side1 => repeat (first | exact (Kd.R_reads' HO_3.out).2.2 | (with_reducible refine Kd.C_alloc ?_ _) | (with_reducible refine Kd.C_drewN ?_ _) | (with_reducible refine Kd.C_drew ?_))); (case side2 => exact (Kd.R_reads' HO_3.out).2.1); rintro e w' ⟨rfl, ⟨nd, rfl⟩⟩; refine ⟨_, rfl, ?_⟩))
        go_roundg k1
        case measure => have := HK1.out; omega
        case rel => exact ⟨(x3_1), (wrap64 (x8_1 + 1)), z5_3, H', ⟨by have := HK1.out; omega⟩, ⟨by (with_reducible repeat (first | apply Kd.R_alloc | apply Kd.R_drewN | apply Kd.R_drew)); exact HO_3.out⟩, ⟨z5_0⟩⟩
       ·replace c6 := Bool.eq_false_iff.mpr c6; subst c6; rw [if_neg (show ¬ (false = true) by decide)] at H
        by_cases c8 : x3_1.length < 8796093022208
        ·rw [if_pos c8] at H
         have LMc8 := Aside0.mk c8; clear c8; obtain ⟨y142, hy142⟩ : ∃ y_ : List ByteArray, y_ = (x3_1 ++ [rdOf ByteArray.empty l0 x8_1]) := ⟨_, rfl⟩; replace H : (impl_once.l0 k1 y142 l0 (l0.length : Int) (wrap64 (x8_1 + 1))) = some r := by first | (rw [hy142]; with_reducible exact H) | (have H2_ := (Option.bind_some _ _).symm.trans H; rw [hy142]; with_reducible exact H2_) | (have H2_ := (Option.bind_some _ _).symm.trans H; with_reducible exact H2_) | with_reducible exact H | (rw [hy142]; exact H) | exact H
         have Ny142 := Aside0.mk hy142; clear hy142; have H' := Aside0.mk H
         clear H; have p140 : 0 ≤ (x8_1 : Int) := of_decide_eq_true z5_2; have q140 : x8_1 < (l0.length : Int) := of_decide_eq_true z5_2; obtain ⟨ad140, e140, hx140_0⟩ := Kd.at_string HR0.out x8_1 p140 q140
         cases e140; try replace hx140_0 := (HB.out.cell (World.block_lt_of_cell? w _ hx140_0)).trans hx140_0
         replace p140 := eq_true p140; replace q140 := eq_true q140; obtain ⟨Ao9, co9, eo9⟩ := Kd.R_slice HO_3.out; subst eo9; go_wp2_with (first | ((with_reducible refine gate_callee (f := 63) rfl ?_); refine goesL_ (some 14) rfl rfl Try.func63 (by kernel_rfl) rfl #[.slice Ao9 x3_1.length co9, .string (rdOf ByteArray.empty l0 x8_1)] rfl z5_1 ?_; (with_reducible refine (slices_Contains_string_string.calls k1 _ _ x3_1 (rdOf ByteArray.empty l0 x8_1) false _ ?side1 ?side2 A5.out).mono ?_); (case side1 => repeat (first | exact (Kd.R_reads' HO_3.out).2.2 | (with_reducible refine Kd.C_alloc ?_ _) | (with_reducible refine Kd.C_drewN ?_ _) | (with_reducible refine Kd.C_drew ?_))); (case side2 => exact (Kd.R_reads' HO_3.out).2.1); rintro e w' ⟨rfl, ⟨nd, rfl⟩⟩; refine ⟨_, rfl, ?_⟩) | ((with_reducible refine gate_builtin (b := .append) (xs := #[.tmp 16, .tmp 18]) rfl ?_); at_builtin; refine Kd.R_append Kd.string (w0 := w) w.heap.size rfl (.tmp 16) (.tmp 18) 24 9 (.string ⟨#[]⟩) 16 rfl Try.underlying24 info9 rfl (by decide) (by omega) (.slice Ao9 x3_1.length co9) x3_1 (rdOf ByteArray.empty l0 x8_1) [.string (rdOf ByteArray.empty l0 x8_1)] (fun _ => True) (fun _ => False) rfl rfl ?aP (fun _ hk => hk.elim) ?aF ?aO ?aB ?aS ?aL ?_; (case aP => exact rfl); (case aB => exact z5_0); (case aF => exact (fun _ _ => trivial)); (case aO => exact (by (with_reducible repeat (first | apply Kd.R_alloc | apply Kd.R_drewN | apply Kd.R_drew)); exact HO_3.out)); (case aS => exact (below_size z5_0)); (case aL => have := LMc8.out; omega); intro v143 w10 ho hb hg hat; rw [← Ny142.out] at ho; have n0_ := Aside0.mk (hb); have n1_ := Aside0.mk (ho); clear HB; clear HO_3; have HB := n0_; have HO144 := n1_; clear n0_ n1_; clear ho hb hg hat))
         go_roundg k1
         case measure => have := HK1.out; omega
         case rel => exact ⟨(y142), (wrap64 (x8_1 + 1)), z5_3, H', ⟨by have := HK1.out; omega⟩, ⟨by (with_reducible repeat (first | apply Kd.R_alloc | apply Kd.R_drewN | apply Kd.R_drew)); exact HO144.out⟩, ⟨z5_0⟩⟩
        ·rw [if_neg c8] at H
         exact absurd H (by simp)
      ·rw [if_neg c4] at H
       exact absurd H (by simp)
     ·rw [if_neg c3] at H
      exact absurd H (by simp)
    ·rw [if_neg c2] at H
     have c2b0 : decide (x8_1 < (l0.length : Int)) = false := decide_eq_false c2; clear c2; obtain rfl := Option.some.inj H; go_wp2
     go_ret
     exact ⟨_, by first | rfl | (simp [errW_none, errW_some] <;> rfl) | (simp [*, errW_none, errW_some] <;> rfl), by (with_reducible repeat (first | apply Kd.R_alloc | apply Kd.R_drewN | apply Kd.R_drew)); exact HO_3.out, z5_0⟩

/-! ### impl_readCells: function 88 -/
def impl_readCells.l0 : Nat → ByteArray → List Int → List Int → Int → Int → Option (ByteArray)
  | 0, _, _, _, _, _ => none
  | k + 1, x0, x5, x8, x9, x10 => if x10 < x9 then (if 0 ≤ x10 then (if x10 < (x8.length : Int) then (if 0 ≤ (rd x8 x10) then (if (rd x8 x10) < (x0.size : Int) then (if x5.length < 140737488355328 then (impl_readCells.l0 k x0 (x5 ++ [bt x0 (rd x8 x10)]) x8 x9 (wrap64 (x10 + 1))) else (none)) else (none)) else (none)) else (none)) else (none)) else (some (strOfNums x5))
def impl_readCells.f (k : Nat) (a0 : ByteArray) (l1 : List Int) : Option (ByteArray) := impl_readCells.l0 k a0 ([] : List Int) l1 (l1.length : Int) 0
theorem impl_readCells.mono_l : ∀ k, (∀ y0 y1 y2 y3 y4, LeO (impl_readCells.l0 k y0 y1 y2 y3 y4) (impl_readCells.l0 (k + 1) y0 y1 y2 y3 y4))
  | 0 => fun _ _ _ _ _ r h => by simp [impl_readCells.l0] at h
  | k + 1 => by
   have ih0 := impl_readCells.mono_l k
   ·intro y0 y1 y2 y3 y4
    unfold impl_readCells.l0
    with_reducible repeat' first
    | exact ih0 _ _ _ _ _
    | exact LeO.refl _
    | exact LeO.none _
    | refine LeO.ite ?_ ?_
    | refine LeO.bind ?_ (fun _ => ?_)
theorem impl_readCells.mono : ∀ a0 a1 k, LeO (impl_readCells.f k a0 a1) (impl_readCells.f (k + 1) a0 a1) := by
  intro a0 a1 k
  have ih0 := impl_readCells.mono_l k; unfold impl_readCells.f
  with_reducible repeat' first
  | exact ih0 _ _ _ _ _
  | exact LeO.refl _
  | exact LeO.none _
  | refine LeO.ite ?_ ?_
  | refine LeO.bind ?_ (fun _ => ?_)
set_option maxHeartbeats 8000000 in
set_option maxRecDepth 100000 in
theorem impl_readCells.calls (k : Nat) (a0 : ByteArray) (A1 : Option Addr) (c1 : Nat) (l1 : List Int) (r : ByteArray) (w : World) (hr1 : Kd.C (Kd.int .i64) w A1 l1.length l1) (hc1 : l1.length ≤ c1) (h : impl_readCells.f k a0 l1 = some r) :
   Calls Try.prog 88 #[.string a0, .slice A1 l1.length c1] w fun e w' => e = .returned (.string r) ∧ Below w.heap.size w w' := by
  have HR1 := Aside0.mk hr1; have HC1 := Aside0.mk hc1; clear hr1 hc1; have HB := Aside0.mk (Below.refl w.heap.size w); have H : (impl_readCells.l0 k a0 ([] : List Int) l1 (l1.length : Int) 0) = some r := h; clear h; have H' := Aside0.mk H
  clear H; go_enter Try.func88, Try.ntmps88
  go_wp2
  go_loopg [5, 10] k (fun kq v5 v10 w' => ∃ (x5_1 : List Int) (x10_1 : Int), v10 = .int .i64 x10_1 ∧ Aside0 (impl_readCells.l0 kq a0 x5_1 l1 (l1.length : Int) x10_1 = some r) ∧ Aside0 (kq ≤ k) ∧ Aside0 (Kd.R (Kd.int .u8) 5 w' w.heap.size (fun _ => True) v5 x5_1) ∧ Aside0 (Below w.heap.size w w'))
  case atStart => exact ⟨(([] : List Int)), (0), z5_3, H', ⟨Nat.le_refl _⟩, ⟨by first | exact Kd.R_nil _ _ _ _ _ | exact Kd.N_nil _ _ _ _ _ | exact Kd.V_nil _ _ _ _ _ | exact Kd.Q_nil _ _ _ _ _ | exact Kd.S_nil _ _ _ _ _⟩, ⟨z5_0⟩⟩
  case round =>
   clear H'; try clear c1
   try clear p2
   obtain ⟨x5_1, x10_1, rfl, HA, HK1, HO_5, HB⟩ := hrel
   cases gk with
   | zero => exact absurd HA.out (by simp [impl_readCells.l0])
   | succ k1 =>
    have H := HA.out; clear HA; simp only [impl_readCells.l0] at H; by_cases c3 : x10_1 < (l1.length : Int)
    ·rw [if_pos c3] at H
     have c3b0 : decide (x10_1 < (l1.length : Int)) = true := decide_eq_true c3; clear c3; by_cases c4 : 0 ≤ x10_1
     ·rw [if_pos c4] at H
      have c4b0 : decide (0 ≤ x10_1) = true := decide_eq_true c4; clear c4; by_cases c5 : x10_1 < (l1.length : Int)
      ·rw [if_pos c5] at H
       have c5b0 : decide (x10_1 < (l1.length : Int)) = true := decide_eq_true c5; clear c5; by_cases c6 : 0 ≤ (rd l1 x10_1)
       ·rw [if_pos c6] at H
        have c6b0 : decide (0 ≤ (rd l1 x10_1)) = true := decide_eq_true c6; clear c6; by_cases c7 : (rd l1 x10_1) < (a0.size : Int)
        ·rw [if_pos c7] at H
         have c7b0 : decide ((rd l1 x10_1) < (a0.size : Int)) = true := decide_eq_true c7; clear c7; by_cases c9 : x5_1.length < 140737488355328
         ·rw [if_pos c9] at H
          have LMc9 := Aside0.mk c9; clear c9; obtain ⟨y146, hy146⟩ : ∃ y_ : List Int, y_ = (x5_1 ++ [bt a0 (rd l1 x10_1)]) := ⟨_, rfl⟩; replace H : (impl_readCells.l0 k1 a0 y146 l1 (l1.length : Int) (wrap64 (x10_1 + 1))) = some r := by first | (rw [hy146]; with_reducible exact H) | (have H2_ := (Option.bind_some _ _).symm.trans H; rw [hy146]; with_reducible exact H2_) | (have H2_ := (Option.bind_some _ _).symm.trans H; with_reducible exact H2_) | with_reducible exact H | (rw [hy146]; exact H) | exact H
          have Ny146 := Aside0.mk hy146; clear hy146; have H' := Aside0.mk H
          clear H; have p145 : 0 ≤ (x10_1 : Int) := of_decide_eq_true z5_2; have q145 : x10_1 < (l1.length : Int) := of_decide_eq_true z5_2; obtain ⟨ad145, e145, hx145_0⟩ := Kd.at_int HR1.out x10_1 p145 q145
          cases e145; try replace hx145_0 := (HB.out.cell (World.block_lt_of_cell? w _ hx145_0)).trans hx145_0
          replace p145 := eq_true p145; replace q145 := eq_true q145; have p8 : 0 ≤ ((rd l1 x10_1) : Int) := of_decide_eq_true z5_2; have q8 : (rd l1 x10_1) < (a0.size : Int) := of_decide_eq_true z5_2; have hx8 := bt_at a0 (rd l1 x10_1); replace p8 := eq_true p8; replace q8 := eq_true q8; go_wp2_with (first | ((with_reducible refine gate_builtin (b := .append) (xs := #[.tmp 14, .tmp 18]) rfl ?_); at_builtin; refine Kd.R_append (Kd.int .u8) (w0 := w) w.heap.size rfl (.tmp 14) (.tmp 18) 37 5 (.int .u8 0) 1 rfl Try.underlying37 info5 rfl (by decide) (by omega) u5 x5_1 (bt a0 (rd l1 x10_1)) [.int .u8 (bt a0 (rd l1 x10_1))] (fun _ => True) (fun _ => False) rfl rfl ?aP (fun _ hk => hk.elim) ?aF ?aO ?aB ?aS ?aL ?_; (case aP => exact rfl); (case aB => exact z5_0); (case aF => exact (fun _ _ => trivial)); (case aO => exact (by (with_reducible repeat (first | apply Kd.R_alloc | apply Kd.R_drewN | apply Kd.R_drew)); exact HO_5.out)); (case aS => exact (below_size z5_0)); (case aL => have := LMc9.out; omega); intro v147 w10 ho hb hg hat; rw [← Ny146.out] at ho; have n0_ := Aside0.mk (hb); have n1_ := Aside0.mk (ho); clear HB; clear HO_5; have HB := n0_; have HO148 := n1_; clear n0_ n1_; clear ho hb hg hat))
          go_roundg k1
          case measure => have := HK1.out; omega
          case rel => exact ⟨(y146), (wrap64 (x10_1 + 1)), z5_3, H', ⟨by have := HK1.out; omega⟩, ⟨by (with_reducible repeat (first | apply Kd.R_alloc | apply Kd.R_drewN | apply Kd.R_drew)); exact HO148.out⟩, ⟨z5_0⟩⟩
         ·rw [if_neg c9] at H
          exact absurd H (by simp)
        ·rw [if_neg c7] at H
         exact absurd H (by simp)
       ·rw [if_neg c6] at H
        exact absurd H (by simp)
      ·rw [if_neg c5] at H
       exact absurd H (by simp)
     ·rw [if_neg c4] at H
      exact absurd H (by simp)
    ·rw [if_neg c3] at H
     have c3b0 : decide (x10_1 < (l1.length : Int)) = false := decide_eq_false c3; clear c3; obtain rfl := Option.some.inj H; have hcv11 := own_string (P := Try.prog) Try.underlying37 Try.underlying5 Try.underlying9 (Kd.own_of_R HO_5.out); go_wp2
     go_ret
     exact ⟨by first | rfl | (simp [errW_none, errW_some] <;> rfl) | (simp [*, errW_none, errW_some] <;> rfl), z5_0⟩

-- NOT PRINTED: function 120 (slices_IndexFunc_string_string)

-- NOT PRINTED: function 103 (slices_ContainsFunc_string_string)

/-! ### impl_IsWord: function 70 -/
def impl_IsWord.l0 : Nat → ByteArray → Int → Int → Option (Bool)
  | 0, _, _, _ => none
  | k + 1, x0, x9, x10 => if x10 < x9 then (if 0 ≤ x10 then (if x10 < (x0.size : Int) then ((impl_isLetter.f (bt x0 x10)).bind fun t150 => (if t150 = true then (impl_IsWord.l0 k x0 x9 (wrap64 (x10 + 1))) else (some false))) else (none)) else (none)) else (some true)
def impl_IsWord.f (k : Nat) (a0 : ByteArray) : Option (Bool) := (impl_InRange.f (a0.size : Int) 1 8).bind fun t149 => (if t149 = true then (impl_IsWord.l0 k a0 (a0.size : Int) 0) else (some false))
theorem impl_IsWord.mono_l : ∀ k, (∀ y0 y1 y2, LeO (impl_IsWord.l0 k y0 y1 y2) (impl_IsWord.l0 (k + 1) y0 y1 y2))
  | 0 => fun _ _ _ r h => by simp [impl_IsWord.l0] at h
  | k + 1 => by
   have ih0 := impl_IsWord.mono_l k
   ·intro y0 y1 y2
    unfold impl_IsWord.l0
    with_reducible repeat' first
    | exact ih0 _ _ _
    | exact LeO.refl _
    | exact LeO.none _
    | refine LeO.ite ?_ ?_
    | refine LeO.bind ?_ (fun _ => ?_)
theorem impl_IsWord.mono : ∀ a0 k, LeO (impl_IsWord.f k a0) (impl_IsWord.f (k + 1) a0) := by
  intro a0 k
  have ih0 := impl_IsWord.mono_l k; unfold impl_IsWord.f
  with_reducible repeat' first
  | exact ih0 _ _ _
  | exact LeO.refl _
  | exact LeO.none _
  | refine LeO.ite ?_ ?_
  | refine LeO.bind ?_ (fun _ => ?_)
set_option maxHeartbeats 8000000 in
set_option maxRecDepth 100000 in
theorem impl_IsWord.calls (k : Nat) (a0 : ByteArray) (r : Bool) (w : World) (h : impl_IsWord.f k a0 = some r) :
   Calls Try.prog 70 #[.string a0] w fun e w' => e = .returned (.bool r) ∧ Drawn0 w w' := by
  have H : ((impl_InRange.f (a0.size : Int) 1 8).bind fun t149 => (if t149 = true then (impl_IsWord.l0 k a0 (a0.size : Int) 0) else (some false))) = some r := h; clear h; replace H := Option.bind_eq_some_iff.mp H; obtain ⟨t149, A20, H⟩ := H; try dsimp only at H
  have A2 := Aside0.mk A20; clear A20; by_cases c3 : t149 = true
  ·subst c3; rw [if_pos rfl] at H
   have H' := Aside0.mk H
   clear H; go_enter Try.func70, Try.ntmps70
   go_wp2_with (first | ((with_reducible refine gate_callee (f := 49) rfl ?_); refine goesL_ (some 6) rfl rfl Try.func49 (by kernel_rfl) rfl #[.int .i64 (a0.size : Int), .int .i64 1, .int .i64 8] rfl z5_1 ?_; (with_reducible refine (impl_InRange.calls (a0.size : Int) 1 8 true _ A2.out).mono ?_); rintro e w' ⟨rfl, ⟨nd, rfl⟩⟩; refine ⟨_, rfl, ?_⟩))
   go_loopg [10] k (fun kq v10 w' => ∃ (x10_1 : Int), v10 = .int .i64 x10_1 ∧ Aside0 (impl_IsWord.l0 kq a0 (a0.size : Int) x10_1 = some r) ∧ Aside0 (kq ≤ k) ∧ Drawn0 w w')
   case atStart => exact ⟨(0), z5_3, H', ⟨Nat.le_refl _⟩, z5_4⟩
   case round =>
    clear H'; try clear p2
    try clear c3
    obtain ⟨x10_1, rfl, HA, HK1, ⟨m1, rfl⟩⟩ := hrel
    cases gk with
    | zero => exact absurd HA.out (by simp [impl_IsWord.l0])
    | succ k1 =>
     have H := HA.out; clear HA; simp only [impl_IsWord.l0] at H; by_cases c4 : x10_1 < (a0.size : Int)
     ·rw [if_pos c4] at H
      have c4b0 : decide (x10_1 < (a0.size : Int)) = true := decide_eq_true c4; clear c4; by_cases c5 : 0 ≤ x10_1
      ·rw [if_pos c5] at H
       have c5b0 : decide (0 ≤ x10_1) = true := decide_eq_true c5; clear c5; by_cases c6 : x10_1 < (a0.size : Int)
       ·rw [if_pos c6] at H
        have c6b0 : decide (x10_1 < (a0.size : Int)) = true := decide_eq_true c6; clear c6; replace H := Option.bind_eq_some_iff.mp H; obtain ⟨t150, A80, H⟩ := H; try dsimp only at H
        have A8 := Aside0.mk A80; clear A80; by_cases c9 : t150 = true
        ·subst c9; rw [if_pos rfl] at H
         have H' := Aside0.mk H
         clear H; have p7 : 0 ≤ (x10_1 : Int) := of_decide_eq_true z5_2; have q7 : x10_1 < (a0.size : Int) := of_decide_eq_true z5_2; have hx7 := bt_at a0 x10_1; replace p7 := eq_true p7; replace q7 := eq_true q7; go_wp2_with (first | ((with_reducible refine gate_callee (f := 77) rfl ?_); refine goesL_ (some 16) rfl rfl Try.func77 (by kernel_rfl) rfl #[.int .u8 (bt a0 x10_1)] rfl z5_1 ?_; (with_reducible refine (impl_isLetter.calls (bt a0 x10_1) true _ A8.out).mono ?_); rintro e w' ⟨rfl, ⟨nd, rfl⟩⟩; refine ⟨_, rfl, ?_⟩))
         go_roundg k1
         case measure => have := HK1.out; omega
         case rel => exact ⟨(wrap64 (x10_1 + 1)), z5_3, H', ⟨by have := HK1.out; omega⟩, z5_4⟩
        ·replace c9 := Bool.eq_false_iff.mpr c9; subst c9; rw [if_neg (show ¬ (false = true) by decide)] at H
         obtain rfl := Option.some.inj H; have p7 : 0 ≤ (x10_1 : Int) := of_decide_eq_true z5_2; have q7 : x10_1 < (a0.size : Int) := of_decide_eq_true z5_2; have hx7 := bt_at a0 x10_1; replace p7 := eq_true p7; replace q7 := eq_true q7; go_wp2_with (first | ((with_reducible refine gate_callee (f := 77) rfl ?_); refine goesL_ (some 16) rfl rfl Try.func77 (by kernel_rfl) rfl #[.int .u8 (bt a0 x10_1)] rfl z5_1 ?_; (with_reducible refine (impl_isLetter.calls (bt a0 x10_1) false _ A8.out).mono ?_); rintro e w' ⟨rfl, ⟨nd, rfl⟩⟩; refine ⟨_, rfl, ?_⟩))
         go_ret
         exact ⟨z5_3, z5_4⟩
       ·rw [if_neg c6] at H
        exact absurd H (by simp)
      ·rw [if_neg c5] at H
       exact absurd H (by simp)
     ·rw [if_neg c4] at H
      have c4b0 : decide (x10_1 < (a0.size : Int)) = false := decide_eq_false c4; clear c4; obtain rfl := Option.some.inj H; go_wp2
      go_ret
      exact ⟨z5_3, z5_4⟩
  ·replace c3 := Bool.eq_false_iff.mpr c3; subst c3; rw [if_neg (show ¬ (false = true) by decide)] at H
   obtain rfl := Option.some.inj H; go_enter Try.func70, Try.ntmps70
   go_wp2_with (first | ((with_reducible refine gate_callee (f := 49) rfl ?_); refine goesL_ (some 6) rfl rfl Try.func49 (by kernel_rfl) rfl #[.int .i64 (a0.size : Int), .int .i64 1, .int .i64 8] rfl z5_1 ?_; (with_reducible refine (impl_InRange.calls (a0.size : Int) 1 8 false _ A2.out).mono ?_); rintro e w' ⟨rfl, ⟨nd, rfl⟩⟩; refine ⟨_, rfl, ?_⟩))
   go_ret
   exact ⟨z5_3, z5_4⟩

end Go.Proofs.Ytodcckiphdnjeaa.QFnFilled
