-- Written by a changed copy of the kit's printer (wip/mp.py of this repo), for this claim; Lean checks it.
import Derived.Test.YtodcckiphdnjeaaQFnFilledx0
import Derived.Test.YtodcckiphdnjeaaQFnFilledx2
import Derived.Test.YtodcckiphdnjeaaQFnFilledx4
import Derived.Test.YtodcckiphdnjeaaQFnFilledx5
import Derived.Test.YtodcckiphdnjeaaQFnFilledx6
namespace Go.Proofs.Ytodcckiphdnjeaa.QFnFilled
open Go.RowKit Go.Proofs.YtodcckiphdnjeaaW.PrintWords Go.Proofs.YtodcckiphdnjeaaW.PrintLast Go.Proofs.YtodcckiphdnjeaaW.PrintMore
attribute [local go_sem] max2_int min2_int max_two min_two max_three min_three max_four min_four   -- for this text's walks alone
set_option linter.unusedVariables false
set_option linter.unusedSimpArgs false

theorem bc3_7_ {W : World} {g : Nat} {v0 v1 v2 : Value} {t : TypeId} (h : W.heap[g]? = some (.cells #[v0, v1, v2] t (0, 0))) : W.cell? ⟨g, 0, none⟩ = some v0 ∧ W.cell? ⟨g, 1, none⟩ = some v1 ∧ W.cell? ⟨g, 2, none⟩ = some v2 ∧ W.frozen? ⟨g, 0, none⟩ = false ∧ W.frozen? ⟨g, 1, none⟩ = false ∧ W.frozen? ⟨g, 2, none⟩ = false := ⟨(blk_cell h 0).trans rfl, (blk_cell h 1).trans rfl, (blk_cell h 2).trans rfl, blk_frozen h 0, blk_frozen h 1, blk_frozen h 2⟩
theorem bd7_ {p q : Prop} (h0 : q) (h : q → p := by intro h_; (with_reducible repeat (first | refine blk_drewN ?_ _ | refine blk_drew ?_ | refine blk_alloc ?_ _)); exact h_) : p := h h0
theorem z7_0 {p : Prop} (h : p := by repeat (first | (with_reducible first | exact HB.out | apply below_alloc | apply pw_below_drewN | apply below_drew1) | exact HB.out)) : p := h
theorem z7_1 {p : Prop} (h : p := by repeat (first | (with_reducible first | exact HB.out | apply below_alloc | apply pw_below_drewN | apply below_drew1 | refine below_set ?_ GE161.out) | exact HB.out)) : p := h
/-! ### impl_FillsOf: function 18 (given) -/
/-- The place of the first word that fits. -/
def flIdx (k : Nat) (p : ByteArray) : List ByteArray → Nat → Option Int
  | [], _ => some (-1)
  | x :: l, i => (impl_FitsPattern.f k p x).bind fun b => if b = true then some (i : Int) else flIdx k p l (i + 1)
theorem flIdx_nil (k : Nat) (p : ByteArray) (i : Nat) : flIdx k p [] i = some (-1) := rfl
theorem flIdx_cons (k : Nat) (p x : ByteArray) (l : List ByteArray) (i : Nat) : flIdx k p (x :: l) i = (impl_FitsPattern.f k p x).bind fun b => if b = true then some (i : Int) else flIdx k p l (i + 1) := rfl
theorem flIdx_mono (p : ByteArray) (k : Nat) : ∀ l i, LeO (flIdx k p l i) (flIdx (k + 1) p l i)
  | [], _ => LeO.refl _
  | x :: l, i => by
    rw [flIdx_cons, flIdx_cons]
    exact LeO.bind (impl_FitsPattern.mono _ _ _) (fun _ => LeO.ite (LeO.refl _) (flIdx_mono p k l (i + 1)))
theorem fl_keep_calls (k : Nat) (p x : ByteArray) (b : Bool) (P : Nat) (w : World) (hp : w.cell? ⟨P, 0, none⟩ = some (.string p)) (h : impl_FitsPattern.f k p x = some b) :
    Calls Try.prog 115 #[.string x, .pointer (some ⟨P, 0, none⟩)] w fun e w' => e = .returned (.bool b) ∧ Below w.heap.size w w' := by
  have kf := fun W => impl_FitsPattern.calls k p x b W h
  clear h; go_enter Try.func115, Try.ntmps115
  go_wp2_with fail
  go_at_call 89
  refine (kf _).mono ?_
  rintro e w' ⟨rfl, hb⟩
  have HB := Aside0.mk (show Below w.heap.size w w' from by first | exact hb | exact hb.below)
  clear hb; go_wp2_with fail
  go_ret
  exact ⟨rfl, HB.out⟩
set_option maxHeartbeats 1600000 in
theorem fl_idx_calls (k : Nat) (p : ByteArray) (P : Nat) (A0 : Option Addr) (c0 : Nat) (l0 : List ByteArray) (r : Int) (w : World) (hp : w.cell? ⟨P, 0, none⟩ = some (.string p)) (hr0 : Kd.C Kd.string w A0 l0.length l0) (hl : l0.length ≤ 1048576) (h : flIdx k p l0 0 = some r) :
    Calls Try.prog 120 #[.slice A0 l0.length c0, .func (.func 115) #[] #[.pointer (some ⟨P, 0, none⟩)]] w fun e w' => e = .returned (.int .i64 r) ∧ Below w.heap.size w w' := by
  have HR0 := Aside0.mk hr0; have HP := Aside0.mk hp; have HH := Aside0.mk h; clear hr0 hp h; go_enter Try.func120, Try.ntmps120
  go_wp2
  go_loopg [8] l0.length (fun kq v8 w' => ∃ (i : Nat), v8 = .int .i64 (i : Int) ∧ Aside0 (i ≤ l0.length) ∧ Aside0 (l0.length - i ≤ kq) ∧ Aside0 (flIdx k p (l0.drop i) i = some r) ∧ Aside0 (Below w.heap.size w w'))
  case atStart => exact ⟨0, rfl, ⟨Nat.zero_le _⟩, ⟨by omega⟩, HH, ⟨Below.refl _ _⟩⟩
  case round =>
    clear HH; obtain ⟨i, rfl, hi, hk, heq, HB⟩ := hrel; by_cases hlt : i < l0.length
    · have cb0 : decide ((i : Int) < (l0.length : Int)) = true := by simp; exact hlt
      have hcr : rdOf ByteArray.empty l0 (i : Int) = l0[i] := by
        unfold rdOf
        simp [hlt]
      obtain ⟨ad, e1, hx⟩ := Kd.at_string HR0.out (i : Int) (by omega) (by omega)
      cases e1; rw [hcr] at hx
      simp only [Int.toNat_natCast] at hx; replace hx := pw_cell_below HB.out hx; have p1 : (0 ≤ (i : Int)) = True := eq_true (by omega); have q1 : ((i : Int) < (l0.length : Int)) = True := eq_true (by omega); have heq' := heq.out
      rw [List.drop_eq_getElem_cons hlt, flIdx_cons] at heq'
      obtain ⟨b, hb, heq'⟩ := Option.bind_eq_some_iff.mp heq'; have kk := fun W (hW : Below w.heap.size w W) => fl_keep_calls k p l0[i] b P W (pw_cell_below hW HP.out) hb
      generalize l0[i] = x at hx kk hb hcr
      cases b with
      | true =>
        rw [if_pos rfl] at heq'
        have HE := Aside0.mk (Option.some.inj heq'); clear heq heq' hcr hb; go_wp2_with fail
        go_at_call 115
        refine (kk _ HB.out).mono ?_
        rintro e w2 ⟨rfl, hb2⟩
        have HB2 := Aside0.mk (below_step HB.out hb2); clear hb2 kk; go_wp2
        go_ret
        exact ⟨by rw [← HE.out] <;> rfl, HB2.out⟩
      | false =>
        rw [if_neg (by simp)] at heq'
        have HE := Aside0.mk heq'; clear heq heq' hcr hb; go_wp2_with fail
        go_at_call 115
        refine (kk _ HB.out).mono ?_
        rintro e w2 ⟨rfl, hb2⟩
        have HB2 := Aside0.mk (below_step HB.out hb2); clear hb2 kk; go_wp2
        go_roundg (l0.length - (i + 1))
        case measure => have := hk.out; omega
        case rel => exact ⟨i + 1, by simp, ⟨by omega⟩, ⟨Nat.le_refl _⟩, HE, HB2⟩
    · have cb0 : decide ((i : Int) < (l0.length : Int)) = false := by simp; omega
      have heq' := heq.out
      rw [List.drop_eq_nil_of_le (by omega), flIdx_nil] at heq'
      have HE := Aside0.mk (Option.some.inj heq'); clear heq heq'; go_wp2
      go_ret
      exact ⟨by rw [← HE.out] <;> rfl, HB.out⟩
/-- Does some word fit? -/
def flAny (k : Nat) (p : ByteArray) (l : List ByteArray) : Option Bool := (flIdx k p l 0).bind fun i => some (decide (0 ≤ i))
theorem flAny_mono (p : ByteArray) (k : Nat) (l : List ByteArray) : LeO (flAny k p l) (flAny (k + 1) p l) := LeO.bind (flIdx_mono _ _ _ _) (fun _ => LeO.refl _)
theorem fl_has_calls (k : Nat) (p : ByteArray) (P : Nat) (A0 : Option Addr) (c0 : Nat) (l0 : List ByteArray) (r : Bool) (w : World) (hp : w.cell? ⟨P, 0, none⟩ = some (.string p)) (hr0 : Kd.C Kd.string w A0 l0.length l0) (hl : l0.length ≤ 1048576) (h : flAny k p l0 = some r) :
    Calls Try.prog 103 #[.slice A0 l0.length c0, .func (.func 115) #[] #[.pointer (some ⟨P, 0, none⟩)]] w fun e w' => e = .returned (.bool r) ∧ Below w.heap.size w w' := by
  unfold flAny at h
  obtain ⟨i, hi, h⟩ := Option.bind_eq_some_iff.mp h; injection h with h
  subst h; have kd := fl_idx_calls k p P A0 c0 l0 i w hp hr0 hl hi; clear hr0 hp hi; go_enter Try.func103, Try.ntmps103
  go_wp2_with fail
  go_at_call 120
  refine kd.mono ?_
  rintro e w' ⟨rfl, hb⟩
  have HB := Aside0.mk hb; clear hb; go_wp2
  go_ret
  exact ⟨rfl, HB.out⟩
/-- What the filler's struct says: its slots, its domains, its most, what it has found. -/
structure FlAt (N Fb : Nat) (AL : Option Addr) (cL : Nat) (L : List (List Int)) (AD : Option Addr) (cD : Nat) (D : List (List ByteArray)) (most : Int) (v : Value) (out : List ByteArray) (w : World) : Prop where
  c0 : w.cell? ⟨Fb, 0, none⟩ = some (.slice AL L.length cL)
  c1 : w.cell? ⟨Fb, 1, none⟩ = some (.slice AD D.length cD)
  c2 : w.cell? ⟨Fb, 2, none⟩ = some (.bool true)
  c3 : w.cell? ⟨Fb, 3, none⟩ = some (.int .i64 most)
  c4 : w.cell? ⟨Fb, 4, none⟩ = some v
  fz : w.frozen? ⟨Fb, 4, none⟩ = false
  fL : Kd.F (Kd.slice 3 (Kd.int .i64)) w (fun k => k < N ∧ k ≠ Fb) AL L.length L
  fD : Kd.F (Kd.slice 9 Kd.string) w (fun k => k < N ∧ k ≠ Fb) AD D.length D
  nF : Fb < N
  nN : N ≤ w.heap.size
  rv : Kd.R Kd.string 9 w N (fun _ => True) v out
theorem FlAt.below {N Fb : Nat} {AL : Option Addr} {cL : Nat} {L : List (List Int)} {AD : Option Addr} {cD : Nat} {D : List (List ByteArray)} {most : Int} {v : Value} {out : List ByteArray} {w w' : World} (h : FlAt N Fb AL cL L AD cD D most v out w) (hb : Below w.heap.size w w') : FlAt N Fb AL cL L AD cD D most v out w' :=
  ⟨pw_cell_below hb h.c0, pw_cell_below hb h.c1, pw_cell_below hb h.c2, pw_cell_below hb h.c3, pw_cell_below hb h.c4, (hb.frozen (World.block_lt_of_cell? _ _ h.c4)).trans h.fz, Kd.F_below h.fL hb, Kd.F_below h.fD hb, h.nF, Nat.le_trans h.nN hb.size, Kd.R_below h.rv hb⟩
/-- A row's element, and the row that it leads to. -/
theorem fl_row {α : Type} [Inhabited α] {d : Kd α} {e : Nat} {W : World} {ok : Nat → Prop} {A : Option Addr} {n : Nat} {xs : List (List α)} (h : Kd.F (Kd.slice e d) W ok A n xs) (i : Nat) (hi : i < n) :
    ∃ ad Ai ci, A = some ad ∧ W.cell? (ad.add i) = some (.slice Ai (xs.getD i []).length ci) ∧ (xs.getD i []).length ≤ ci ∧ Kd.F d W ok Ai (xs.getD i []).length (xs.getD i []) ∧ ok ad.block := by
  obtain ⟨ad, c, hA, hcl, hF, hcc, hin⟩ := Kd.F_get h [] (i : Int) (by omega) (by omega); rw [Int.toNat_natCast] at hF hcc
  obtain ⟨Ai, ci, rfl, hl, hC⟩ := Kd.FK_now hF; refine ⟨ad, Ai, ci, hA, ?_, hl, ?_, hin (show 0 < 1 by decide)⟩
  · have := hcc 0 _ rfl
    rw [show (Kd.slice e d).sz = 1 from rfl, Nat.mul_one, Nat.add_zero] at this
    exact this
  · refine Foot.imp hF (fun W' hK => ?_)
    obtain ⟨A2, c2, e2, _, hC2⟩ := hK; injection e2 with e2 _
    injection e2 with e3 _ _
    subst e3; exact hC2
theorem fl_box_cell {w w1 : World} {cs : Array Value} {t : TypeId} (hb : Below (w.alloc (.cells cs t)).heap.size (w.alloc (.cells cs t)) w1) (j : Nat) (v : Value) (h : cs[j]? = some v) : w1.cell? ⟨w.heap.size, j, none⟩ = some v := by
  have h1 : (⟨w.heap.size, j, none⟩ : Addr).block < (w.alloc (.cells cs t)).heap.size := by simp [World.alloc, -World.alloc_eq]
  rw [hb.cell h1]
  simp [World.cell?, World.alloc, -World.alloc_eq, h]
/-- Has no slot, from i on (d of them), lost its last word? -/
def flHope (k : Nat) (L : List (List Int)) (D : List (List ByteArray)) (fill : ByteArray) : Nat → Nat → Option Bool
  | 0, _ => some false
  | d + 1, i => (impl_readCells.f k fill (L.getD i [])).bind fun p => (flAny k p (D.getD i [])).bind fun b => if b = true then flHope k L D fill d (i + 1) else some true
theorem flHope_zero (k : Nat) (L : List (List Int)) (D : List (List ByteArray)) (fill : ByteArray) (i : Nat) : flHope k L D fill 0 i = some false := rfl
theorem flHope_succ (k : Nat) (L : List (List Int)) (D : List (List ByteArray)) (fill : ByteArray) (d i : Nat) : flHope k L D fill (d + 1) i = (impl_readCells.f k fill (L.getD i [])).bind fun p => (flAny k p (D.getD i [])).bind fun b => if b = true then flHope k L D fill d (i + 1) else some true := rfl
theorem flHope_mono (L : List (List Int)) (D : List (List ByteArray)) (fill : ByteArray) (k : Nat) : ∀ d i, LeO (flHope k L D fill d i) (flHope (k + 1) L D fill d i)
  | 0, _ => LeO.refl _
  | d + 1, i => by
    rw [flHope_succ, flHope_succ]
    exact LeO.bind (impl_readCells.mono _ _ _) (fun _ => LeO.bind (flAny_mono _ _ _) (fun _ => LeO.ite (flHope_mono L D fill k d (i + 1)) (LeO.refl _)))
set_option maxHeartbeats 1600000 in
set_option maxRecDepth 100000 in
theorem fl_hope_calls (k : Nat) (N Fb : Nat) (AL : Option Addr) (cL : Nat) (L : List (List Int)) (AD : Option Addr) (cD : Nat) (D : List (List ByteArray)) (most : Int) (v : Value) (out : List ByteArray) (fill : ByteArray) (i d : Nat) (b : Bool) (w : World)
    (hF : FlAt N Fb AL cL L AD cD D most v out w) (hid : i + d = L.length) (hDL : D.length = L.length) (hL : L.length ≤ 1000000) (hrow : ∀ l ∈ D, l.length ≤ 1048576) (h : flHope k L D fill d i = some b) :
    Calls Try.prog 87 #[.pointer (some ⟨Fb, 0, none⟩), .string fill, .int .i64 (i : Int)] w fun e w' => e = .returned (.bool b) ∧ Below w.heap.size w w' := by
  have HF := Aside0.mk hF; have HR := Aside0.mk hrow; have HDL := Aside0.mk hDL; have HH := Aside0.mk (show flHope k L D fill (L.length - i) i = some b by rw [show L.length - i = d by omega]; exact h); have hi : i ≤ L.length := by omega
  clear hF hrow h hid hDL; go_enter Try.func87, Try.ntmps87
  go_wp2
  go_loopg [7] (L.length - i) (fun kq v7 w' => ∃ (j : Nat), v7 = .int .i64 (j : Int) ∧ Aside0 (j ≤ L.length) ∧ Aside0 (L.length - j ≤ kq) ∧ Aside0 (flHope k L D fill (L.length - j) j = some b) ∧ Aside0 (Below w.heap.size w w'))
  case atStart => exact ⟨i, rfl, ⟨hi⟩, ⟨by omega⟩, HH, ⟨Below.refl _ _⟩⟩
  case round =>
    clear HH hi; obtain ⟨j, rfl, hj, hk, heq, HB⟩ := hrel; have HFw := Aside0.mk (HF.out.below HB.out); have c0 := HFw.out.c0; have c1 := HFw.out.c1; by_cases hlt : j < L.length
    · have cb0 : decide ((j : Int) < (L.length : Int)) = true := by simp; exact hlt
      have cb1 : decide (j < L.length) = true := decide_eq_true hlt; have heq' := heq.out
      rw [show L.length - j = (L.length - (j + 1)) + 1 by omega, flHope_succ] at heq'
      obtain ⟨p, hp, heq'⟩ := Option.bind_eq_some_iff.mp heq'; obtain ⟨b1, hb1, heq'⟩ := Option.bind_eq_some_iff.mp heq'; obtain ⟨ad, Ai, ci, e1, hx, hle, hFi, _⟩ := fl_row HFw.out.fL j hlt; obtain ⟨ad2, Ar, cr, e2, hxr, hler, hFr, _⟩ := fl_row HFw.out.fD j (by have := HDL.out; omega)
      cases e1
      cases e2
      have hrl : (D.getD j []).length ≤ 1048576 := by
        have hjD : j < D.length := by have := HDL.out; omega
        rw [List.getD_eq_getElem?_getD, List.getElem?_eq_getElem hjD]
        exact HR.out _ (List.getElem_mem hjD)
      generalize L.getD j [] = li at hp hx hle hFi
      generalize D.getD j [] = row at hb1 hxr hler hFr hrl
      have kr := impl_readCells.calls k fill Ai ci li p wr (Kd.F_now hFi) hle hp; have KH := Aside0.mk (fun P W (hP : W.cell? ⟨P, 0, none⟩ = some (.string p)) (hC : Kd.C Kd.string W Ar row.length row) => fl_has_calls k p P Ar cr row b1 W hP hC hrl hb1); have HFr := Aside0.mk hFr; have HXR := Aside0.mk hxr; have HE := Aside0.mk heq'; have p1 : (0 ≤ (j : Int)) = True := eq_true (by omega); have q1 : ((j : Int) < (L.length : Int)) = True := eq_true (by omega); have q2 : ((j : Int) < (D.length : Int)) = True := eq_true (by have := HDL.out; omega); have KR := Aside0.mk kr; clear heq heq' hp hb1 hFi hFr hrl hle hler hxr kr; go_wp2_with fail
      go_at_call 88
      refine KR.out.mono ?_
      rintro e w1 ⟨rfl, hb⟩
      have HB1 := Aside0.mk hb; have HBx := Aside0.mk (below_alloc hb (.cells #[.string p] 9)); have c1' := pw_cell_below hb c1
      have hxr' := pw_cell_below hb HXR.out
      have hz1 := World.block_lt_of_cell? _ _ c1'; have hz2 := World.block_lt_of_cell? _ _ hxr'; clear c0 c1 hx KR; go_wp2_with fail
      go_at_call 103
      refine (KH.out w1.heap.size _ (fl_box_cell (Below.refl _ _) 0 _ rfl) (Kd.F_now (Kd.F_below HFr.out HBx.out))).mono ?_
      rintro e w2 ⟨rfl, hb2⟩
      have HB2 := Aside0.mk (below_step HB.out (below_step HBx.out hb2)); have hE := HE.out; clear hb hb2 c1' hxr' KH
      cases b1 with
      | true =>
        rw [if_pos rfl] at hE
        have HE := Aside0.mk hE; clear hE; have hLm := hL; go_wp2
        go_roundg (L.length - (j + 1))
        case measure => have := hk.out; omega
        case rel => exact ⟨j + 1, by simp, ⟨by omega⟩, ⟨Nat.le_refl _⟩, HE, HB2⟩
      | false =>
        rw [if_neg (by simp)] at hE
        have HE := Aside0.mk (Option.some.inj hE); clear hE; go_wp2
        go_ret
        exact ⟨by rw [← HE.out] <;> rfl, HB2.out⟩
    · have cb0 : decide ((j : Int) < (L.length : Int)) = false := by simp; omega
      have cb1 : decide (j < L.length) = false := decide_eq_false hlt; have heq' := heq.out
      rw [show L.length - j = 0 by omega, flHope_zero] at heq'
      have HE := Aside0.mk (Option.some.inj heq'); clear heq heq'; go_wp2
      go_ret
      exact ⟨by rw [← HE.out] <;> rfl, HB.out⟩
/-- What a search leaves: its found row, all else as it was. -/
def FlStep (N Fb : Nat) (AL : Option Addr) (cL : Nat) (L : List (List Int)) (AD : Option Addr) (cD : Nat) (D : List (List ByteArray)) (most : Int) (v : Value) (w : World) (out : List ByteArray) (w' : World) : Prop := ∃ v' : Value, FlAt N Fb AL cL L AD cD D most v' out w' ∧ KeepBut w w' Fb v.ownBlock ∧ (v'.ownBlock = v.ownBlock ∨ ∃ b, v'.ownBlock = some b ∧ w.heap.size ≤ b) ∧ Below 0 w w'
structure FlGo (N Fb : Nat) (AL : Option Addr) (cL : Nat) (L : List (List Int)) (AD : Option Addr) (cD : Nat) (D : List (List ByteArray)) (most : Int) (w : World) (v : Value) (Au : Option Addr) (used : List ByteArray) (Ar : Option Addr) (row : List ByteArray) (Ai : Option Addr) (li : List Int) (sx : Addr) (ci : Nat) (v1 : Value) (o : List ByteArray) (w' : World) : Prop where
  st : FlAt N Fb AL cL L AD cD D most v1 o w'
  kb : KeepBut w w' Fb v.ownBlock
  nw : v1.ownBlock = v.ownBlock ∨ ∃ b, v1.ownBlock = some b ∧ w.heap.size ≤ b
  fu : Kd.F Kd.string w' (fun k => k ≠ Fb ∧ some k ≠ v1.ownBlock) Au used.length used
  fr : Kd.F Kd.string w' (fun k => k < N ∧ k ≠ Fb) Ar row.length row
  fi : Kd.F (Kd.int .i64) w' (fun k => k < N ∧ k ≠ Fb) Ai li.length li
  cx : w'.cell? sx = some (.slice Ai li.length ci)
  bx : sx.block < N ∧ sx.block ≠ Fb
  sm : Below 0 w w'
theorem FlGo.below {N Fb : Nat} {AL : Option Addr} {cL : Nat} {L : List (List Int)} {AD : Option Addr} {cD : Nat} {D : List (List ByteArray)} {most : Int} {w : World} {v : Value} {Au : Option Addr} {used : List ByteArray} {Ar : Option Addr} {row : List ByteArray} {Ai : Option Addr} {li : List Int} {sx : Addr} {ci : Nat} {v1 : Value} {o : List ByteArray} {w' w2 : World} (h : FlGo N Fb AL cL L AD cD D most w v Au used Ar row Ai li sx ci v1 o w') (hb : Below w'.heap.size w' w2) : FlGo N Fb AL cL L AD cD D most w v Au used Ar row Ai li sx ci v1 o w2 :=
  ⟨h.st.below hb, h.kb.trans (KeepBut.of_below hb Fb v.ownBlock) (.inl rfl), h.nw, Kd.F_below h.fu hb, Kd.F_below h.fr hb, Kd.F_below h.fi hb, pw_cell_below hb h.cx, h.bx, h.sm.trans (hb.mono (Nat.zero_le _))⟩
theorem FlGo.step {N Fb : Nat} {AL : Option Addr} {cL : Nat} {L : List (List Int)} {AD : Option Addr} {cD : Nat} {D : List (List ByteArray)} {most : Int} {w : World} {v : Value} {Au : Option Addr} {used : List ByteArray} {Ar : Option Addr} {row : List ByteArray} {Ai : Option Addr} {li : List Int} {sx : Addr} {ci : Nat} {v1 : Value} {o o2 : List ByteArray} {w' w2 : World} (h : FlGo N Fb AL cL L AD cD D most w v Au used Ar row Ai li sx ci v1 o w') (hs : FlStep N Fb AL cL L AD cD D most v1 w' o2 w2) : ∃ v2, FlGo N Fb AL cL L AD cD D most w v Au used Ar row Ai li sx ci v2 o2 w2 := by
  obtain ⟨v2, h1, h2, h3, hsm⟩ := hs; have hbase := Kd.R_base h.st.rv; have hkeep : ∀ k, k < N ∧ k ≠ Fb → k < w'.heap.size → w2.heap[k]? = w'.heap[k]? := fun k hk hlt => h2.2 k hlt hk.2 (fun e => by have := hbase k e.symm; omega)
  refine ⟨v2, h1, h.kb.trans h2 h.nw, ?_, ?_, Kd.F_step h.fr hkeep, Kd.F_step h.fi hkeep, ?_, h.bx, h.sm.trans hsm⟩
  · rcases h3 with h3 | ⟨b, h3, h4⟩
    · rw [h3]
      exact h.nw
    · exact .inr ⟨b, h3, Nat.le_trans h.kb.1 h4⟩
  · have hf := Kd.F_step (Kd.F_bound h.fu) (fun k hk hlt => h2.2 k hlt hk.1.1 hk.1.2)
    refine Kd.F_mono hf (fun k hk => ⟨hk.1.1, ?_⟩)
    rcases h3 with h3 | ⟨b, h3, h4⟩
    · rw [h3]
      exact hk.1.2
    · rw [h3]
      intro e
      injection e with e
      have := hk.2
      omega
  · have hs := hkeep sx.block h.bx (World.block_lt_of_cell? _ _ h.cx)
    rw [← h.cx]
    simp only [World.cell?, hs]
theorem FlGo.drewN {N Fb : Nat} {AL : Option Addr} {cL : Nat} {L : List (List Int)} {AD : Option Addr} {cD : Nat} {D : List (List ByteArray)} {most : Int} {w : World} {v : Value} {Au : Option Addr} {used : List ByteArray} {Ar : Option Addr} {row : List ByteArray} {Ai : Option Addr} {li : List Int} {sx : Addr} {ci : Nat} {v1 : Value} {o : List ByteArray} {w' : World} (h : FlGo N Fb AL cL L AD cD D most w v Au used Ar row Ai li sx ci v1 o w') (n : Nat) : FlGo N Fb AL cL L AD cD D most w v Au used Ar row Ai li sx ci v1 o (w'.drewN n) := h.below (pw_below_drewN (Below.refl _ _) n)
/-- A fill found. -/
theorem FlAt.found {N Fb : Nat} {AL : Option Addr} {cL : Nat} {L : List (List Int)} {AD : Option Addr} {cD : Nat} {D : List (List ByteArray)} {most : Int} {v v1 : Value} {out out1 : List ByteArray} {w w1 : World} (h : FlAt N Fb AL cL L AD cD D most v out w) (hr : Kd.R Kd.string 9 w1 N (fun _ => True) v1 out1) (hb : Below N w w1) (hg : w.grownBy w1 v.ownBlock) (hat : v1.ownBlock = v.ownBlock ∨ ∃ b, v1.ownBlock = some b ∧ w.heap.size ≤ b) :
    FlStep N Fb AL cL L AD cD D most v w out1 (w1.setCell ⟨Fb, 4, none⟩ v1) ∧ w1.cell? ⟨Fb, 4, none⟩ = some v ∧ w1.frozen? ⟨Fb, 4, none⟩ = false := by
  have hk : KeepBut w (w1.setCell ⟨Fb, 4, none⟩ v1) Fb v.ownBlock := (KeepBut.of_grown hg Fb).set_ 4 v1
  have hc : ∀ j u, j ≠ 4 → w.cell? ⟨Fb, j, none⟩ = some u → (w1.setCell ⟨Fb, 4, none⟩ v1).cell? ⟨Fb, j, none⟩ = some u := fun j u hj hu => by
    rw [World.cell?_setCell_other _ _ _ _ (by intro e; simp only [Addr.mk.injEq] at e; exact hj e.2.1.symm)]
    exact (hb.cell (p := ⟨Fb, j, none⟩) h.nF).trans hu
  have h4 : w1.cell? ⟨Fb, 4, none⟩ = some v := (hb.cell (p := ⟨Fb, 4, none⟩) h.nF).trans h.c4; have hz : w1.frozen? ⟨Fb, 4, none⟩ = false := (hb.frozen (p := ⟨Fb, 4, none⟩) h.nF).trans h.fz; have hF : ∀ {β : Type} {d : Kd β} {A : Option Addr} {n : Nat} {xs : List β}, Kd.F d w (fun k => k < N ∧ k ≠ Fb) A n xs → Kd.F d (w1.setCell ⟨Fb, 4, none⟩ v1) (fun k => k < N ∧ k ≠ Fb) A n xs := fun hf => Kd.F_far (Kd.F_step hf (fun k hk _ => hb.block k hk.1)) (p := ⟨Fb, 4, none⟩) (fun k hk => hk.2) v1
  refine ⟨⟨v1, ⟨hc 0 _ (by omega) h.c0, hc 1 _ (by omega) h.c1, hc 2 _ (by omega) h.c2, hc 3 _ (by omega) h.c3, World.cell?_setCell_same _ _ _ h4, by rw [World.frozen?_setCell]; exact hz, hF h.fL, hF h.fD, h.nF, Nat.le_trans h.nN hk.1, ?_⟩, hk, hat, (hb.mono (Nat.zero_le _)).setCell (Nat.zero_le _) v1⟩, h4, hz⟩
  exact Kd.R_mono (Kd.R_far (p := ⟨Fb, 4, none⟩) (Kd.R_bound hr) (fun k hk => by have := hk.2.1; have := h.nF; show k ≠ Fb; omega) v1) (fun _ _ => trivial)
def flLoop (k : Nat) (most : Int) (p : ByteArray) (used : List ByteArray) (g : ByteArray → List ByteArray → Option (List ByteArray)) : List ByteArray → List ByteArray → Option (List ByteArray)
  | [], out => some out
  | x :: l, out => if (out.length : Int) = most then some out else (impl_FitsPattern.f k p x).bind fun b => if b = true then ((slices_Contains_string_string.f k used x).bind fun c => if c = true then flLoop k most p used g l out else (g x out).bind fun o => flLoop k most p used g l o) else flLoop k most p used g l out
theorem flLoop_nil (k : Nat) (most : Int) (p : ByteArray) (used : List ByteArray) (g : ByteArray → List ByteArray → Option (List ByteArray)) (out : List ByteArray) : flLoop k most p used g [] out = some out := rfl
theorem flLoop_cons (k : Nat) (most : Int) (p : ByteArray) (used : List ByteArray) (g : ByteArray → List ByteArray → Option (List ByteArray)) (x : ByteArray) (l out : List ByteArray) : flLoop k most p used g (x :: l) out = if (out.length : Int) = most then some out else (impl_FitsPattern.f k p x).bind fun b => if b = true then ((slices_Contains_string_string.f k used x).bind fun c => if c = true then flLoop k most p used g l out else (g x out).bind fun o => flLoop k most p used g l o) else flLoop k most p used g l out := rfl
theorem flLoop_mono (most : Int) (p : ByteArray) (used : List ByteArray) (k : Nat) (g g' : ByteArray → List ByteArray → Option (List ByteArray)) (hg : ∀ x o, LeO (g x o) (g' x o)) : ∀ l out, LeO (flLoop k most p used g l out) (flLoop (k + 1) most p used g' l out)
  | [], _ => LeO.refl _
  | x :: l, out => by
    rw [flLoop_cons, flLoop_cons]
    exact LeO.ite (LeO.refl _) (LeO.bind (impl_FitsPattern.mono _ _ _) (fun _ => LeO.ite (LeO.bind (slices_Contains_string_string.mono _ _ _) (fun _ => LeO.ite (flLoop_mono most p used k g g' hg l out) (LeO.bind (hg x out) (fun o => flLoop_mono most p used k g g' hg l o)))) (flLoop_mono most p used k g g' hg l out)))
def flSrch (k : Nat) (L : List (List Int)) (D : List (List ByteArray)) (most : Int) : Nat → Nat → ByteArray → List ByteArray → List ByteArray → Option (List ByteArray)
  | 0, _, fill, _, out => if out.length < 1048576 then some (out ++ [fill]) else none
  | d + 1, i, fill, used, out => (flHope k L D fill (d + 1) i).bind fun b => if b = true then some out else (impl_readCells.f k fill (L.getD i [])).bind fun p => flLoop k most p used (fun x o => (impl_writeCells.f fill (L.getD i []) x).bind fun nf => if used.length < 1048576 then flSrch k L D most d (i + 1) nf (used ++ [x]) o else none) (D.getD i []) out
theorem flSrch_zero (k : Nat) (L : List (List Int)) (D : List (List ByteArray)) (most : Int) (i : Nat) (fill : ByteArray) (used out : List ByteArray) : flSrch k L D most 0 i fill used out = if out.length < 1048576 then some (out ++ [fill]) else none := rfl
theorem flSrch_succ (k : Nat) (L : List (List Int)) (D : List (List ByteArray)) (most : Int) (d i : Nat) (fill : ByteArray) (used out : List ByteArray) : flSrch k L D most (d + 1) i fill used out = (flHope k L D fill (d + 1) i).bind fun b => if b = true then some out else (impl_readCells.f k fill (L.getD i [])).bind fun p => flLoop k most p used (fun x o => (impl_writeCells.f fill (L.getD i []) x).bind fun nf => if used.length < 1048576 then flSrch k L D most d (i + 1) nf (used ++ [x]) o else none) (D.getD i []) out := rfl
theorem flSrch_mono (L : List (List Int)) (D : List (List ByteArray)) (most : Int) (k : Nat) : ∀ d i fill used out, LeO (flSrch k L D most d i fill used out) (flSrch (k + 1) L D most d i fill used out)
  | 0, _, _, _, _ => LeO.refl _
  | d + 1, i, fill, used, out => by
    rw [flSrch_succ, flSrch_succ]
    exact LeO.bind (flHope_mono _ _ _ _ _ _) (fun _ => LeO.ite (LeO.refl _) (LeO.bind (impl_readCells.mono _ _ _) (fun _ => flLoop_mono most _ used k _ _ (fun x o => LeO.bind (LeO.refl _) (fun nf => LeO.ite (flSrch_mono L D most k d (i + 1) nf _ o) (LeO.refl _))) _ _)))
set_option maxHeartbeats 4000000 in
set_option maxRecDepth 100000 in
theorem fl_search_calls (k : Nat) (N Fb : Nat) (AL : Option Addr) (cL : Nat) (L : List (List Int)) (AD : Option Addr) (cD : Nat) (D : List (List ByteArray)) (most : Int) (hDL : D.length = L.length) (hL : L.length ≤ 1000000) (hrow : ∀ l ∈ D, l.length ≤ 1048576) : ∀ (d i : Nat) (fill : ByteArray) (used out : List ByteArray) (v : Value) (Au : Option Addr) (cu : Nat) (w : World) (out' : List ByteArray), used.length = i → i + d = L.length →
    FlAt N Fb AL cL L AD cD D most v out w → Kd.F Kd.string w (fun k => k ≠ Fb ∧ some k ≠ v.ownBlock) Au used.length used → used.length ≤ cu → flSrch k L D most d i fill used out = some out' →
    Calls Try.prog 52 #[.pointer (some ⟨Fb, 0, none⟩), .string fill, .slice Au used.length cu] w fun e w' => e = .returned (.tuple #[]) ∧ FlStep N Fb AL cL L AD cD D most v w out' w'
  | 0, i, fill, used, out, v, Au, cu, w, out', hui, hid, hF, hu, hcu, h => by
    rw [flSrch_zero] at h
    by_cases hlo : out.length < 1048576
    · rw [if_pos hlo] at h
      injection h with h
      subst h; have zb : ((used.length : Int) == (L.length : Int)) = true := beq_iff_eq.mpr (by omega); have zb2 : (used.length == L.length) = true := beq_iff_eq.mpr (by omega); have c0 := hF.c0; have c4 := hF.c4; obtain ⟨Af, cf, ev⟩ := Kd.R_slice hF.rv; subst ev; have HF := Aside0.mk hF; have LM := Aside0.mk hlo; clear hF hu hlo hid hui; go_enter Try.func52, Try.ntmps52
      go_wp2_with ((with_reducible refine gate_builtin (b := .append) (xs := #[.tmp 23, .tmp 25]) rfl ?_); at_builtin; refine Kd.R_append Kd.string (w0 := w) N rfl (.tmp 23) (.tmp 25) 24 9 (.string ⟨#[]⟩) 16 rfl Try.underlying24 info9 rfl (by decide) (by omega) (.slice Af out.length cf) out fill [.string fill] (fun _ => True) (fun _ => False) rfl rfl ?aP (fun _ hk => hk.elim) ?aF ?aO ?aB ?aS ?aL ?_; (case aP => exact rfl); (case aB => exact Below.refl _ _); (case aF => exact (fun _ _ => trivial)); (case aO => exact HF.out.rv); (case aS => exact HF.out.nN); (case aL => have := LM.out; omega); intro v1 w1 ho hb hg hat; obtain ⟨A1, c1, rfl⟩ := Kd.R_slice ho; obtain ⟨hst, h4, hz⟩ := HF.out.found ho hb hg hat; have HST := Aside0.mk hst; clear ho hb hg hat hst c0 c4)
      exact bodyPost_ret (v := .tuple #[]) (by simp [results, Try.results52, go_sem]) rfl ⟨rfl, by have h := HST.out; rw [List.length_append, List.length_singleton] at h; exact h⟩
    · rw [if_neg hlo] at h
      cases h
  | d + 1, i, fill, used, out, v, Au, cu, w, out', hui, hid, hF, hu, hcu, h => by
    rw [flSrch_succ] at h
    obtain ⟨b, hb, h⟩ := Option.bind_eq_some_iff.mp h; have KH := Aside0.mk (fl_hope_calls k N Fb AL cL L AD cD D most v out fill i (d + 1) b w hF hid hDL hL hrow hb); have hlt : i < L.length := by omega
    have zb : ((used.length : Int) == (L.length : Int)) = false := beq_eq_false_iff_ne.mpr (by omega); have zb2 : (used.length == L.length) = false := beq_eq_false_iff_ne.mpr (by omega); have c0 := hF.c0; have IH := Aside0.mk (fl_search_calls k N Fb AL cL L AD cD D most hDL hL hrow d); have HF := Aside0.mk hF; have HU := Aside0.mk hu; have HID := Aside0.mk (show i + 1 + d = L.length by omega); have HUI := Aside0.mk hui; have HCU := Aside0.mk hcu; obtain ⟨ad, Ai, ci, e1, hx, hle, hFi, hbx⟩ := fl_row hF.fL i hlt; obtain ⟨ad2, Ar, cr, e2, hxr, hler, hFr, _⟩ := fl_row hF.fD i (by omega)
    have hrl : (D.getD i []).length ≤ 1048576 := by
      have hjD : i < D.length := by omega
      rw [List.getD_eq_getElem?_getD, List.getElem?_eq_getElem hjD]
      exact hrow _ (List.getElem_mem hjD)
    clear hb hF hu hid hcu
    cases b with
    | true =>
      rw [if_pos rfl] at h
      injection h with h
      subst h; subst hui; clear hx hxr hFi hFr hle hler e1 e2 hrl; go_enter Try.func52, Try.ntmps52
      go_wp2_with fail
      go_at_call 87
      refine KH.out.mono ?_
      rintro e w1 ⟨rfl, hb⟩
      have HB := Aside0.mk hb; clear hb KH c0 IH; go_wp2
      exact bodyPost_ret (v := .tuple #[]) (by simp [results, Try.results52, go_sem]) rfl ⟨rfl, v, HF.out.below HB.out, KeepBut.of_below HB.out _ _, .inl rfl, HB.out.mono (Nat.zero_le _)⟩
    | false =>
      rw [if_neg (by simp)] at h
      obtain ⟨p, hp, h⟩ := Option.bind_eq_some_iff.mp h
      cases e1
      cases e2; subst hui; have HLI := Aside0.mk (show L.getD used.length [] = L.getD used.length [] from rfl); generalize hrw : D.getD used.length [] = row at h hxr hler hFr hrl
      generalize hli : L.getD used.length [] = li at hp h hx hle hFi
      have HH := Aside0.mk h; have HFi := Aside0.mk hFi; have HFr := Aside0.mk hFr; have HX := Aside0.mk hx; have HXR := Aside0.mk hxr; have HLE := Aside0.mk hle; have HRL := Aside0.mk hrl; have KR := Aside0.mk (fun W hC => impl_readCells.calls k fill Ai ci li p W hC hle hp); have p1 : (0 ≤ (used.length : Int)) = True := eq_true (by omega); have q1 : ((used.length : Int) < (L.length : Int)) = True := eq_true (by omega); have q2 : ((used.length : Int) < (D.length : Int)) = True := eq_true (by omega); clear h hFi hFr hx hxr hle hrl hp hrw hli HLI; go_enter Try.func52, Try.ntmps52
      go_wp2_with fail
      go_at_call 87
      refine KH.out.mono ?_
      rintro e w1 ⟨rfl, hb1⟩
      have HB1 := Aside0.mk hb1; clear c0 KH; have c0 := pw_cell_below hb1 HF.out.c0; have hx := pw_cell_below hb1 HX.out; clear hb1; go_wp2_with fail
      go_at_call 88
      refine (KR.out _ (Kd.F_now (Kd.F_below HFi.out HB1.out))).mono ?_
      rintro e w2 ⟨rfl, hb2⟩
      have HB2 := Aside0.mk (below_step HB1.out hb2); clear c0 hx KR; have c1 := pw_cell_below HB2.out HF.out.c1; have hxr := pw_cell_below HB2.out HXR.out; clear hb2; have HG := Aside0.mk (show FlGo N Fb (some ad) cL L (some ad2) cD D most w v Au used Ar row Ai li (ad.add used.length) ci v out w2 from ⟨HF.out.below HB2.out, KeepBut.of_below HB2.out _ _, .inl rfl, Kd.F_below HU.out HB2.out, Kd.F_below HFr.out HB2.out, Kd.F_below HFi.out HB2.out, pw_cell_below HB2.out HX.out, by rw [add_block]; exact hbx, HB2.out.mono (Nat.zero_le _)⟩); go_wp2
      clear c1 hxr; go_loopg [50] row.length (fun kq v50 w' => ∃ (j : Nat) (o : List ByteArray) (v1 : Value), v50 = .int .i64 (j : Int) ∧ Aside0 (j ≤ row.length) ∧ Aside0 (row.length - j ≤ kq) ∧ Aside0 (flLoop k most p used (fun x o => (impl_writeCells.f fill li x).bind fun nf => if used.length < 1048576 then flSrch k L D most d (used.length + 1) nf (used ++ [x]) o else none) (row.drop j) o = some out') ∧ Aside0 (FlGo N Fb (some ad) cL L (some ad2) cD D most w v Au used Ar row Ai li (ad.add used.length) ci v1 o w'))
      case atStart => exact ⟨0, out, v, rfl, ⟨Nat.zero_le _⟩, ⟨by omega⟩, HH, HG⟩
      case round =>
        clear HH HG HB1 HB2 HF HU HFi HFr; obtain ⟨j, o, v1, rfl, hj, hk, heq, HG⟩ := hrel; by_cases hjl : j < row.length
        · have cb0 : decide ((j : Int) < (row.length : Int)) = true := by simp; exact hjl
          obtain ⟨ad3, e1, hx⟩ := Kd.at_string (Kd.F_now HG.out.fr) (j : Int) (by omega) (by omega)
          cases e1
          have hcr : rdOf ByteArray.empty row (j : Int) = row[j] := by
            unfold rdOf
            simp [hjl]
          rw [hcr] at hx
          simp only [Int.toNat_natCast] at hx; have heq' := heq.out
          rw [List.drop_eq_getElem_cons hjl, flLoop_cons] at heq'
          generalize row[j] = x at hx hcr heq'
          have p2 : (0 ≤ (j : Int)) = True := eq_true (by omega); have q3 : ((j : Int) < (row.length : Int)) = True := eq_true (by omega); have hrm : row.length ≤ 1048576 := HRL.out; clear hcr heq; obtain ⟨Af, cf, ev⟩ := Kd.R_slice HG.out.st.rv; subst ev; have c3 := HG.out.st.c3; have c4 := HG.out.st.c4; by_cases hmo : (o.length : Int) = most
          · rw [if_pos hmo] at heq'
            obtain rfl := Option.some.inj heq'; have zm : ((o.length : Int) == most) = true := beq_iff_eq.mpr hmo; clear heq' hmo; go_wp2
            go_quiet (fail)
            go_wp2
            exact bodyPost_ret (v := .tuple #[]) (by simp [results, Try.results52, go_sem]) rfl ⟨rfl, _, HG.out.st.below (pw_below_drewN (Below.refl _ _) _), (HG.out.below (pw_below_drewN (Below.refl _ _) _)).kb, HG.out.nw, (HG.out.below (pw_below_drewN (Below.refl _ _) _)).sm⟩
          · rw [if_neg hmo] at heq'
            have zm : ((o.length : Int) == most) = false := beq_eq_false_iff_ne.mpr hmo; obtain ⟨b, hb, heq'⟩ := Option.bind_eq_some_iff.mp heq'; have KF := Aside0.mk (fun W => impl_FitsPattern.calls k p x b W hb); have HEQ := Aside0.mk heq'; clear heq' hmo hb; go_wp2
            go_quiet (fail)
            go_wp2_with fail
            go_at_call 89
            refine (KF.out _).mono ?_
            rintro e w3 ⟨rfl, nd, rfl⟩
            have hE := HEQ.out; clear KF HEQ c3 c4
            cases b with
            | false =>
              rw [if_neg (by simp)] at hE
              have HE := Aside0.mk hE; clear hE; go_wp2
              go_roundg (row.length - (j + 1))
              case measure => have := hk.out; omega
              case rel => exact ⟨j + 1, o, _, by simp, ⟨by omega⟩, ⟨Nat.le_refl _⟩, HE, ⟨by repeat (first | exact HG.out | apply FlGo.drewN)⟩⟩
            | true =>
              rw [if_pos rfl] at hE
              obtain ⟨c, hc, hE⟩ := Option.bind_eq_some_iff.mp hE; have c2 := HG.out.st.c2; have KC := Aside0.mk (fun W hC => slices_Contains_string_string.calls k Au cu used x c W hC HCU.out hc); have HEQ := Aside0.mk hE; clear hE hc; go_wp2_with fail
              go_at_call 63
              refine (KC.out _ (by repeat (first | exact Kd.F_now HG.out.fu | (with_reducible refine Kd.C_drewN ?_ _)))).mono ?_
              rintro e w4 ⟨rfl, nd2, rfl⟩
              have hE := HEQ.out; clear KC HEQ c2
              cases c with
              | true =>
                rw [if_pos rfl] at hE
                have HE := Aside0.mk hE; clear hE; go_wp2
                go_roundg (row.length - (j + 1))
                case measure => have := hk.out; omega
                case rel => exact ⟨j + 1, o, _, by simp, ⟨by omega⟩, ⟨Nat.le_refl _⟩, HE, ⟨by repeat (first | exact HG.out | apply FlGo.drewN)⟩⟩
              | false =>
                rw [if_neg (by simp)] at hE
                obtain ⟨o2, ho2, hE⟩ := Option.bind_eq_some_iff.mp hE; obtain ⟨nf, hnf, ho2⟩ := Option.bind_eq_some_iff.mp ho2; by_cases hul : used.length < 1048576
                · rw [if_pos hul] at ho2
                  have KW := Aside0.mk (fun W hC => impl_writeCells.calls fill Ai ci li x nf W hC HLE.out hnf); have KN := Aside0.mk (fun W hC => slices_Clone_string_string.calls Au cu used used W hC HCU.out (by unfold slices_Clone_string_string.f; rw [if_pos (by omega)])); have HE := Aside0.mk hE; have HO2 := Aside0.mk ho2; have HUL := Aside0.mk hul; have c0 := HG.out.st.c0; have cx := HG.out.cx; clear hE ho2 hnf hul hx; go_wp2_with fail
                  go_at_call 90
                  refine (KW.out _ (by repeat (first | exact Kd.F_now HG.out.fi | (with_reducible refine Kd.C_drewN ?_ _)))).mono ?_
                  rintro e w5 ⟨rfl, hb5⟩
                  have HB5 := Aside0.mk (show Below wr.heap.size wr w5 from below_step (by repeat (first | exact Below.refl _ _ | apply pw_below_drewN)) hb5)
                  have HG5 := Aside0.mk (HG.out.below HB5.out); clear hb5 KW c0 cx HG HB5; go_wp2_with fail
                  go_at_call 91
                  refine (KN.out _ (Kd.F_now HG5.out.fu)).mono ?_
                  rintro e w6 ⟨vc, rfl, hrc, hb6⟩
                  obtain ⟨Ac, cc, rfl⟩ := Kd.R_slice hrc; have HG6 := Aside0.mk (HG5.out.below hb6); have HRC := Aside0.mk hrc; have HZ6 := Aside0.mk hb6.size; have HB6 := Aside0.mk hb6; clear hrc hb6 KN; go_wp2_with ((with_reducible refine gate_builtin (b := .append) (xs := #[.tmp 91, .tmp 93]) rfl ?_); at_builtin; refine Kd.R_append Kd.string (w0 := w5) w5.heap.size rfl (.tmp 91) (.tmp 93) 24 9 (.string ⟨#[]⟩) 16 rfl Try.underlying24 info9 rfl (by decide) (by omega) (.slice Ac used.length cc) used x [.string x] (fun _ => True) (fun _ => False) rfl rfl ?aP (fun _ hk => hk.elim) ?aF ?aO ?aB ?aS ?aL ?_; (case aP => exact rfl); (case aB => exact HB6.out); (case aF => exact (fun _ _ => trivial)); (case aO => exact HRC.out); (case aS => exact HZ6.out); (case aL => have := HUL.out; omega); intro v7 w7 ho hb hg hat; obtain ⟨A7, c7, rfl⟩ := Kd.R_slice ho; have HR7 := Aside0.mk ho; have HB7 := Aside0.mk hb; clear ho hb hg hat)
                  have HG7 := Aside0.mk (HG5.out.below HB7.out); have hlu : used.length + [x].length = used.length + 1 := rfl
                  have HF7 := Aside0.mk (Kd.R_F (Kd.R_mono (ok' := fun k => k ≠ Fb ∧ some k ≠ (Value.slice Af o.length cf).ownBlock) (Kd.R_bound HR7.out) (fun k hk => by
                    have h1 := hk.2.1; have h2 := HG5.out.st.nN; have h3 := HG5.out.st.nF; refine ⟨by omega, fun e => ?_⟩
                    have h4 := Kd.R_lt HG5.out.st.rv k e.symm; omega)))
                  have HC7 := Aside0.mk (Kd.R_reads' HR7.out).2.1; have KS := Aside0.mk (IH.out (used.length + 1) nf (used ++ [x]) o (.slice Af o.length cf) A7 c7 w7 o2 (by simp) HID.out HG7.out.st (by have h := HF7.out; exact h) (by have h := HC7.out; exact h) HO2.out); clear HR7 HB7 HG6 HG5 HB6 HZ6 HRC HF7 HC7; have KS2 := KS.out; rw [List.length_append, List.length_singleton] at KS2
                  refine KS2.mono ?_
                  clear KS2 KS; rintro e w8 ⟨rfl, hst⟩
                  obtain ⟨v2, hg8⟩ := HG7.out.step hst; have HG8 := Aside0.mk hg8; clear hst hg8 HG7; go_wp2
                  go_roundg (row.length - (j + 1))
                  case measure => have := hk.out; omega
                  case rel => exact ⟨j + 1, o2, v2, by simp, ⟨by omega⟩, ⟨Nat.le_refl _⟩, HE, HG8⟩
                · rw [if_neg hul] at ho2
                  cases ho2
        · have cb0 : decide ((j : Int) < (row.length : Int)) = false := by simp; omega
          have heq' := heq.out
          rw [List.drop_eq_nil_of_le (by omega), flLoop_nil] at heq'
          obtain rfl := Option.some.inj heq'; clear heq heq'; go_wp2
          go_end0
          exact ⟨rfl, v1, HG.out.st, HG.out.kb, HG.out.nw, HG.out.sm⟩
/-- The filler as it is laid: its slots, its domains so far. -/
structure FlPre (w : World) (Fb : Nat) (vL : Value) (L : List (List Int)) (most : Int) (vD : Value) (D : List (List ByteArray)) (w' : World) : Prop where
  bk : w'.heap[Fb]? = some (.cells #[vL, vD, .bool true, .int .i64 most, .slice none 0 0] 69 (0, 0))
  sL : Kd.S (Kd.slice 3 (Kd.int .i64)) 62 w' w.heap.size (fun k => k < Fb) vL L
  sD : Kd.S (Kd.slice 9 Kd.string) 24 w' (Fb + 1) (fun _ => True) vD D
  bl : Below w.heap.size w w'
  lo : w.heap.size ≤ Fb
theorem FlPre.below {w : World} {Fb : Nat} {vL : Value} {L : List (List Int)} {most : Int} {vD : Value} {D : List (List ByteArray)} {w' w2 : World} (h : FlPre w Fb vL L most vD D w') (hb : Below w'.heap.size w' w2) : FlPre w Fb vL L most vD D w2 :=
  ⟨blk_below h.bk hb, Kd.S_below h.sL hb, Kd.S_below h.sD hb, below_step h.bl hb, h.lo⟩
theorem FlPre.next {w : World} {Fb : Nat} {vL : Value} {L : List (List Int)} {most : Int} {vD : Value} {D D2 : List (List ByteArray)} {w2 w3 : World} {v3 : Value} (h : FlPre w Fb vL L most vD D w2) (hs : Kd.S (Kd.slice 9 Kd.string) 24 w3 (Fb + 1) (fun _ => True) v3 D2) (hb : Below (Fb + 1) w2 w3) :
    FlPre w Fb vL L most v3 D2 (w3.setCell ⟨Fb, 1, none⟩ v3) ∧ w3.cell? ⟨Fb, 1, none⟩ = some vD ∧ w3.frozen? ⟨Fb, 1, none⟩ = false := by
  have bk3 : w3.heap[Fb]? = some (.cells #[vL, vD, .bool true, .int .i64 most, .slice none 0 0] 69 (0, 0)) := (hb.block Fb (by omega)).trans h.bk; have hlo := h.lo; refine ⟨⟨blk_put bk3 1 v3 rfl, ?_, ?_, ?_, h.lo⟩, (blk_cell bk3 1).trans rfl, blk_frozen bk3 1⟩
  · exact Kd.S_far (Kd.S_step h.sL (fun k hk _ => hb.block k (by omega))) (fun k hk => by show k ≠ Fb; omega) v3
  · exact Kd.S_mono (Kd.S_far (p := ⟨Fb, 1, none⟩) (Kd.S_bound hs) (fun k hk => by have := hk.2.1; show k ≠ Fb; omega) v3) (fun _ _ => trivial)
  · exact below_set (h.bl.trans (hb.mono (by omega))) h.lo
theorem FlPre.at {w : World} {Fb : Nat} {AL : Option Addr} {cL : Nat} {L : List (List Int)} {most : Int} {AD : Option Addr} {cD : Nat} {D : List (List ByteArray)} {w' : World} (h : FlPre w Fb (.slice AL L.length cL) L most (.slice AD D.length cD) D w') : FlAt w'.heap.size Fb AL cL L AD cD D most (.slice none 0 0) [] w' := by
  have hlt := blk_lt h.bk; refine ⟨(blk_cell h.bk 0).trans rfl, (blk_cell h.bk 1).trans rfl, (blk_cell h.bk 2).trans rfl, (blk_cell h.bk 3).trans rfl, (blk_cell h.bk 4).trans rfl, blk_frozen h.bk 4, Kd.F_mono (Kd.S_F h.sL) (fun k hk => ⟨by omega, by omega⟩), Kd.F_mono (Kd.S_F (Kd.S_bound h.sD)) (fun k hk => ⟨hk.2.2.1, by have := hk.2.1; omega⟩), hlt, Nat.le_refl _, Kd.R_nil _ _ _ _ _⟩
theorem fl_below {w w1 w2 : World} {Fb : Nat} (h : Below w.heap.size w w1) (hk : KeepBut w1 w2 Fb none) (hs : Below 0 w1 w2) (hlo : w.heap.size ≤ Fb) : Below w.heap.size w w2 :=
  ⟨hs.os.trans h.os, hs.tape.trans h.tape, hs.output.trans h.output, Nat.le_trans h.size hk.1, fun k hlt => (hk.2 k (Nat.lt_of_lt_of_le hlt h.size) (by omega) (by simp)).trans (h.block k hlt)⟩
def flStart (k : Nat) (r c : Int) (s fill : ByteArray) (words : List ByteArray) (most : Int) : Option (List ByteArray) := (impl_layout.f k r c s).bind fun L => (impl_once.f k words).bind fun o => if L.length ≤ 1000000 then (if o.length ≤ 1048576 then flSrch k L (List.replicate L.length o) most L.length 0 fill [] [] else none) else none
theorem flStart_mono (r c : Int) (s fill : ByteArray) (words : List ByteArray) (most : Int) (k : Nat) : LeO (flStart k r c s fill words most) (flStart (k + 1) r c s fill words most) := by
  unfold flStart
  exact LeO.bind (impl_layout.mono _ _ _ _) (fun _ => LeO.bind (impl_once.mono _ _) (fun _ => LeO.ite (LeO.ite (flSrch_mono _ _ _ _ _ _ _ _ _) (LeO.refl _)) (LeO.refl _)))
def impl_FillsOf.f (k : Nat) (a0_0 a0_1 : Int) (a0_2 a1 : ByteArray) (l2 : List ByteArray) (a3 : Int) : Option (List ByteArray) := (impl_IsFill.f k a0_0 a0_1 a0_2 a1).bind fun b => if b = true then ((impl_alone.f k a0_0 a0_1 a0_2 a1).bind fun b2 => if b2 = true then some [] else (impl_InRange.f a3 1 30).bind fun b3 => if b3 = true then flStart k a0_0 a0_1 a0_2 a1 l2 a3 else some []) else some []
theorem impl_FillsOf.mono : ∀ a0 a1 a2 a3 a4 a5 k, LeO (impl_FillsOf.f k a0 a1 a2 a3 a4 a5) (impl_FillsOf.f (k + 1) a0 a1 a2 a3 a4 a5) := by
  intro a0 a1 a2 a3 a4 a5 k
  unfold impl_FillsOf.f
  exact LeO.bind (impl_IsFill.mono _ _ _ _ _) (fun _ => LeO.ite (LeO.bind (impl_alone.mono _ _ _ _ _) (fun _ => LeO.ite (LeO.refl _) (LeO.bind (LeO.refl _) (fun _ => LeO.ite (flStart_mono _ _ _ _ _ _ _) (LeO.refl _))))) (LeO.refl _))
set_option maxHeartbeats 4000000 in
set_option maxRecDepth 100000 in
theorem impl_FillsOf.calls (k : Nat) (a0_0 a0_1 : Int) (a0_2 a1 : ByteArray) (A2 : Option Addr) (c2 : Nat) (l2 : List ByteArray) (a3 : Int) (r : List ByteArray) (w : World) (hr2 : Kd.C Kd.string w A2 l2.length l2) (hc2 : l2.length ≤ c2) (h : impl_FillsOf.f k a0_0 a0_1 a0_2 a1 l2 a3 = some r) :
    Calls Try.prog 18 #[.agg #[.int .i64 a0_0, .int .i64 a0_1, .string a0_2], .string a1, .slice A2 l2.length c2, .int .i64 a3] w fun e w' => ∃ v0_ : Value, e = .returned v0_ ∧ Kd.R Kd.string 9 w' w.heap.size (fun _ => True) v0_ r ∧ Below w.heap.size w w' := by
  unfold impl_FillsOf.f at h
  obtain ⟨b, hb, h⟩ := Option.bind_eq_some_iff.mp h; have HR2 := Aside0.mk hr2; have HC2 := Aside0.mk hc2; have KB := Aside0.mk (fun W => impl_IsFill.calls k a0_0 a0_1 a0_2 a1 b W hb); have HH := Aside0.mk h; have HB := Aside0.mk (Below.refl w.heap.size w); clear hr2 hc2 hb h; go_enter Try.func18, Try.ntmps18
  go_wp2_with fail
  go_at_call 39
  refine (KB.out _).mono ?_
  rintro e w1 ⟨rfl, hb⟩
  have HB1 := Aside0.mk (below_step (below_alloc (Below.refl _ _) _) hb); have BK := Aside0.mk (blk_below (blk_new w _) hb); have hz0 := (blk_cell BK.out 0).trans rfl; have hz1 := (blk_cell BK.out 1).trans rfl; have hz2 := (blk_cell BK.out 2).trans rfl; have h := HH.out; clear KB hb HH
  cases b with
  | false =>
    rw [if_neg (by simp)] at h
    obtain rfl := Option.some.inj h; clear h; go_wp2
    go_ret
    exact ⟨_, rfl, Kd.R_nil _ _ _ _ _, HB1.out⟩
  | true =>
    rw [if_pos rfl] at h
    obtain ⟨b2, hb2, h⟩ := Option.bind_eq_some_iff.mp h; have KB := Aside0.mk (fun W => impl_alone.calls k a0_0 a0_1 a0_2 a1 b2 W hb2); have HH := Aside0.mk h; clear h hb2; go_wp2_with fail
    go_at_call 48
    refine (KB.out _).mono ?_
    rintro e w2 ⟨rfl, hb⟩
    have HB2 := Aside0.mk (below_step HB1.out hb); have BK2 := Aside0.mk (blk_below BK.out hb); clear hz0 hz1 hz2 HB1 BK; have hz0 := (blk_cell BK2.out 0).trans rfl; have hz1 := (blk_cell BK2.out 1).trans rfl; have hz2 := (blk_cell BK2.out 2).trans rfl; have h := HH.out; clear KB hb HH
    cases b2 with
    | true =>
      rw [if_pos rfl] at h
      obtain rfl := Option.some.inj h; clear h; go_wp2
      go_ret
      exact ⟨_, rfl, Kd.R_nil _ _ _ _ _, HB2.out⟩
    | false =>
      rw [if_neg (by simp)] at h
      obtain ⟨b3, hb3, h⟩ := Option.bind_eq_some_iff.mp h; have KB := Aside0.mk (fun W => impl_InRange.calls a3 1 30 b3 W hb3); have HH := Aside0.mk h; clear h hb3; go_wp2_with fail
      go_at_call 49
      refine (KB.out _).mono ?_
      rintro e w3 ⟨rfl, nd, rfl⟩
      have HB3 := Aside0.mk (pw_below_drewN HB2.out nd); have h := HH.out; clear KB HH
      cases b3 with
      | false =>
        rw [if_neg (by simp)] at h
        obtain rfl := Option.some.inj h; clear h; go_wp2
        go_ret
        exact ⟨_, rfl, Kd.R_nil _ _ _ _ _, HB3.out⟩
      | true =>
        rw [if_pos rfl] at h
        unfold flStart at h
        obtain ⟨L, hL, h⟩ := Option.bind_eq_some_iff.mp h; obtain ⟨o, ho, h⟩ := Option.bind_eq_some_iff.mp h; by_cases hl1 : L.length ≤ 1000000
        · rw [if_pos hl1] at h
          by_cases hl2 : o.length ≤ 1048576
          · rw [if_pos hl2] at h
            have KB := Aside0.mk (fun W => impl_layout.calls k a0_0 a0_1 a0_2 L W hL); have HH := Aside0.mk h; have HL1 := Aside0.mk hl1; have HL2 := Aside0.mk hl2; have KO := Aside0.mk (fun W hC => impl_once.calls k A2 c2 l2 o W hC HC2.out ho); clear h ho hL hl1 hl2; go_wp2_with fail
            go_at_call 50
            refine (KB.out _).mono ?_
            rintro e w4 ⟨vL, rfl, hr, hb⟩
            have HB4 := Aside0.mk (below_step HB3.out hb); have HSL := Aside0.mk (Kd.S_lower (Kd.S_bound hr) HB3.out.size); obtain ⟨AL, cL, rfl⟩ := Kd.S_slice hr; clear KB hb hr hz0 hz1 hz2 HB2 HB3 BK2; go_wp2
            go_loopg [31] L.length (fun kq v31 w' => ∃ (j : Nat) (vD : Value), v31 = .int .i64 (j : Int) ∧ Aside0 (j ≤ L.length) ∧ Aside0 (L.length - j ≤ kq) ∧ Aside0 (FlPre w w4.heap.size (.slice AL L.length cL) L a3 vD (List.replicate j o) w'))
            case atStart =>
              exact ⟨0, .slice none 0 0, rfl, ⟨Nat.zero_le _⟩, ⟨by omega⟩, ⟨⟨blk_new _ _, Kd.S_alloc (Kd.S_mono HSL.out (fun k hk => hk.2.2.1)) _, Kd.S_nil _ _ _ _ _, below_alloc HB4.out _, HB4.out.size⟩⟩⟩
            case round =>
              obtain ⟨j, vD, rfl, hj, hk, HP⟩ := hrel; have c0 := (blk_cell HP.out.bk 0).trans rfl; by_cases hlt : j < L.length
              · have cb0 : decide ((j : Int) < (L.length : Int)) = true := by simp; exact hlt
                have cb1 : decide (j < L.length) = true := decide_eq_true hlt; obtain ⟨AD, cD, ev⟩ := Kd.S_slice HP.out.sD; rw [List.length_replicate] at ev
                subst ev; have HPd := Aside0.mk (HP.out.below (Below.drew (Below.refl _ _))); have c1 := (blk_cell HPd.out.bk 1).trans rfl; have HC := Aside0.mk (show Kd.C Kd.string wr.drew A2 l2.length l2 from Kd.C_below HR2.out HPd.out.bl); have HLT := Aside0.mk hlt; clear HSL HB4 c0 HP hlt; go_wp2_with fail
                go_region_law (first | (go_simp; go_at_call 51; refine (KO.out _ HC.out).mono ?_; rintro e w5 ⟨vo, rfl, hr, hb⟩; obtain ⟨Ao, co, rfl⟩ := Kd.R_slice hr; have HP5 := Aside0.mk (HPd.out.below hb); have HMR := Aside0.mk (Kd.M_row (Kd.R_lower (Kd.R_mono (Kd.R_tight rfl hr) (fun _ h => h)) (show w4.heap.size + 1 ≤ wr.drew.heap.size from blk_lt HPd.out.bk))); have HOK := Aside0.mk (show ∀ k_, some k_ = (.slice Ao o.length co : Value).ownBlock → True ∧ some k_ ≠ (.slice AD j cD : Value).ownBlock from fun k_ hk_ => ⟨trivial, fun e_ => Nat.lt_irrefl _ (Nat.lt_of_lt_of_le (Kd.S_lt HPd.out.sD k_ e_.symm) (Kd.R_base hr k_ hk_.symm))⟩); have HSD := Aside0.mk (Kd.S_mono (ok' := fun k_ => True ∧ ¬ some k_ = (.slice Ao o.length co : Value).ownBlock) (Kd.S_below (Kd.S_bound HPd.out.sD) hb) (fun k_ hk_ => ⟨trivial, fun e_ => Nat.lt_irrefl _ (Nat.lt_of_lt_of_le hk_.2.2.1 (Kd.R_base hr k_ e_.symm))⟩)); have hz5 : w4.heap.size < w5.heap.size := blk_lt HP5.out.bk; have HSZ := Aside0.mk (show w4.heap.size + 1 ≤ w5.heap.size from blk_lt HP5.out.bk); clear c1; have c1 := (blk_cell HP5.out.bk 1).trans rfl; clear hb hr) | (refine Kd.S_append_step (Kd.slice 9 Kd.string) (w0 := w5) (w4.heap.size + 1) (by rfl) (.tmp 34) (.tmp 37) 48 24 (.slice none 0 0) 24 rfl Try.underlying48 (by kernel_rfl) rfl (by decide) (by omega) (.slice AD j cD) (List.replicate j o) o [.slice Ao o.length co] (fun _ => True) (fun k_ => some k_ = (.slice Ao o.length co : Value).ownBlock) rfl rfl ?aP ?aK ?aF ?aO ?aB ?aS ?aL ?_; (case aP => exact HMR.out); (case aK => exact HOK.out); (case aF => exact (fun _ _ => trivial)); (case aO => exact HSD.out); (case aB => exact Below.refl _ _); (case aS => exact HSZ.out); (case aL => have := HL1.out; have := HLT.out; rw [List.length_replicate]; omega); intro v3 w6 hs hb hg hat; obtain ⟨A3, c3, rfl⟩ := Kd.S_slice hs; obtain ⟨hp6, hc6, hz6⟩ := HP5.out.next hs hb; have HP6 := Aside0.mk hp6; clear hp6 hs hb hg hat c1 hz5))
                all_goals (have hL1 := HL1.out; have hLT := HLT.out; go_wp2; go_roundg (L.length - (j + 1)); (case measure => have := hk.out; have := HLT.out; omega); (case rel => exact ⟨j + 1, .slice A3 (j + 1) c3, by simp, ⟨by omega⟩, ⟨Nat.le_refl _⟩, ⟨by have h := HP6.out; simp only [List.length_append, List.length_replicate, List.length_singleton] at h; rw [List.replicate_succ']; exact h⟩⟩))
              · have cb0 : decide ((j : Int) < (L.length : Int)) = false := by simp; omega
                have cb1 : decide (j < L.length) = false := decide_eq_false hlt; obtain rfl : j = L.length := by have := hj.out; omega
                obtain ⟨AD, cD, rfl⟩ := Kd.S_slice HP.out.sD; have KS := Aside0.mk (fl_search_calls k wr.heap.size w4.heap.size AL cL L AD cD (List.replicate L.length o) a3 List.length_replicate HL1.out (fun l hl => by rw [List.eq_of_mem_replicate hl]; exact HL2.out) L.length 0 a1 [] [] (.slice none 0 0) none 0 wr r rfl (by omega) HP.out.at (Kd.F_nil _ _ _) (Nat.le_refl _) HH.out); go_wp2_with fail
                go_at_call 52
                refine KS.out.mono ?_
                rintro e w7 ⟨rfl, v7, hst, hkb, hnw, hsm⟩
                have c4 := hst.c4; have HRV := Aside0.mk (Kd.R_lower hst.rv HP.out.bl.size); have HBL := Aside0.mk (fl_below HP.out.bl hkb hsm HP.out.lo); clear KS HP hst hkb hnw hsm c0; go_wp2
                go_ret
                exact ⟨_, rfl, HRV.out, HBL.out⟩
          · rw [if_neg hl2] at h
            cases h
        · rw [if_neg hl1] at h
          cases h


/-! ### impl_IsUniqueFill: function 13 -/
def impl_IsUniqueFill.f (k : Nat) (a0_0 : Int) (a0_1 : Int) (a0_2 : ByteArray) (a1 : ByteArray) (l2 : List ByteArray) : Option (Bool) := (impl_FillsOf.f k a0_0 a0_1 a0_2 a1 l2 2).bind fun t158 => (some ((t158.length : Int) == 1))
theorem impl_IsUniqueFill.mono : ∀ a0 a1 a2 a3 a4 k, LeO (impl_IsUniqueFill.f k a0 a1 a2 a3 a4) (impl_IsUniqueFill.f (k + 1) a0 a1 a2 a3 a4) := by
  intro a0 a1 a2 a3 a4 k
  unfold impl_IsUniqueFill.f
  with_reducible repeat' first
  | exact impl_FillsOf.mono _ _ _ _ _ _ _
  | exact LeO.refl _
  | exact LeO.none _
  | refine LeO.ite ?_ ?_
  | refine LeO.bind ?_ (fun _ => ?_)
set_option maxHeartbeats 8000000 in
set_option maxRecDepth 100000 in
theorem impl_IsUniqueFill.calls (k : Nat) (a0_0 : Int) (a0_1 : Int) (a0_2 : ByteArray) (a1 : ByteArray) (A2 : Option Addr) (c2 : Nat) (l2 : List ByteArray) (r : Bool) (w : World) (hr2 : Kd.C Kd.string w A2 l2.length l2) (hc2 : l2.length ≤ c2) (h : impl_IsUniqueFill.f k a0_0 a0_1 a0_2 a1 l2 = some r) :
   Calls Try.prog 13 #[.agg #[.int .i64 a0_0, .int .i64 a0_1, .string a0_2], .string a1, .slice A2 l2.length c2] w fun e w' => e = .returned (.bool r) ∧ Below w.heap.size w w' := by
  have hu28 := Try.underlying28; have HR2 := Aside0.mk hr2; have HC2 := Aside0.mk hc2; clear hr2 hc2; have HB := Aside0.mk (Below.refl w.heap.size w); have H : ((impl_FillsOf.f k a0_0 a0_1 a0_2 a1 l2 2).bind fun t158 => (some ((t158.length : Int) == 1))) = some r := h; clear h; replace H := Option.bind_eq_some_iff.mp H; obtain ⟨t158, A40, H⟩ := H; try dsimp only at H
  have A4 := Aside0.mk A40; clear A40; obtain rfl := Option.some.inj H; go_enter Try.func13, Try.ntmps13
  go_wp2_with (first | ((with_reducible refine gate_dst (N := 3) rfl ?_); refine box_event ?hg (N := 3) ?hd (cs := #[.int .i64 a0_0, .int .i64 a0_1, .string a0_2]) (t := 28) ?hr ?_; (case hd => rfl); (case hg => rfl); (case hr => first | (go_simp; done) | (go_simp; rfl)); intro gb157 hg w5 hbox hb; have BK157 := Aside0.mk (hbox); have GW157 := Aside0.mk ((by rw [hg]; exact (below_size z7_0) : w.heap.size ≤ gb157)); have GE157 := Aside0.mk ((by rw [hg]; exact (below_size z7_0) : w.heap.size ≤ gb157)); replace HB := Aside0.mk (below_step z7_0 hb); clear hb hbox hg; obtain ⟨hcz6_0, hcz6_1, hcz6_2, hfz6_0, hfz6_1, hfz6_2⟩ := bc3_7_ BK157.out) | ((with_reducible refine gate_callee (f := 18) rfl ?_); refine goesL_ (some 10) rfl rfl Try.func18 (by kernel_rfl) rfl #[.agg #[.int .i64 a0_0, .int .i64 a0_1, .string a0_2], .string a1, .slice A2 l2.length c2, .int .i64 2] rfl (by (try simp only [List.map_toArray, List.map_cons, List.map_nil]); first | done | rfl | (simp only [List.length_drop, List.length_take]; rfl)) ?_; (with_reducible refine (impl_FillsOf.calls k a0_0 a0_1 a0_2 a1 _ _ l2 2 t158 _ ?side1 ?side2 A4.out).mono ?_); (case side1 => repeat (first | exact (Kd.C_below HR2.out HB.out) | (with_reducible refine Kd.C_alloc ?_ _) | (with_reducible refine Kd.C_drewN ?_ _) | (with_reducible refine Kd.C_drew ?_))); (case side2 => exact HC2.out); rintro e w7 ⟨v159, rfl, ho0, hb⟩; refine ⟨_, rfl, ?_⟩; have HO160 := Aside0.mk (Kd.R_lower ho0 (below_size (by repeat (first | (with_reducible first | exact HB.out | apply below_alloc | apply pw_below_drewN | apply below_drew1 | refine below_set ?_ GE157.out) | exact HB.out)))); replace BK157 := Aside0.mk (blk_below (g := gb157) (o := .cells #[.int .i64 a0_0, .int .i64 a0_1, .string a0_2] 28 (0, 0)) (bd7_ BK157.out) hb); replace HB := Aside0.mk (below_step (by repeat (first | (with_reducible first | exact HB.out | apply below_alloc | apply pw_below_drewN | apply below_drew1 | refine below_set ?_ GE157.out) | exact HB.out)) hb); (try clear hb); (try clear ho0); obtain ⟨Ao8, co8, eo8⟩ := Kd.R_slice HO160.out; subst eo8))
  go_ret
  exact ⟨by first | rfl | (simp [errW_none, errW_some] <;> rfl) | (simp [*, errW_none, errW_some] <;> rfl), by repeat (first | (with_reducible first | exact HB.out | apply below_alloc | apply pw_below_drewN | apply below_drew1 | refine below_set ?_ GE157.out) | exact HB.out)⟩

/-! ### impl_FillGrid: function 16 -/
def impl_FillGrid.f (k : Nat) (a0_0 : Int) (a0_1 : Int) (a0_2 : ByteArray) (a1 : ByteArray) (l2 : List ByteArray) : Option (ByteArray × Bool) := (impl_FillsOf.f k a0_0 a0_1 a0_2 a1 l2 1).bind fun t162 => (if (t162.length : Int) = 0 then (some ((⟨#[]⟩ : ByteArray), false)) else (if 0 < (t162.length : Int) then (some (rdOf ByteArray.empty t162 0, true)) else (none)))
theorem impl_FillGrid.mono : ∀ a0 a1 a2 a3 a4 k, LeO (impl_FillGrid.f k a0 a1 a2 a3 a4) (impl_FillGrid.f (k + 1) a0 a1 a2 a3 a4) := by
  intro a0 a1 a2 a3 a4 k
  unfold impl_FillGrid.f
  with_reducible repeat' first
  | exact impl_FillsOf.mono _ _ _ _ _ _ _
  | exact LeO.refl _
  | exact LeO.none _
  | refine LeO.ite ?_ ?_
  | refine LeO.bind ?_ (fun _ => ?_)
set_option maxHeartbeats 8000000 in
set_option maxRecDepth 100000 in
theorem impl_FillGrid.calls (k : Nat) (a0_0 : Int) (a0_1 : Int) (a0_2 : ByteArray) (a1 : ByteArray) (A2 : Option Addr) (c2 : Nat) (l2 : List ByteArray) (r1 : ByteArray) (r2 : Bool) (w : World) (hr2 : Kd.C Kd.string w A2 l2.length l2) (hc2 : l2.length ≤ c2) (h : impl_FillGrid.f k a0_0 a0_1 a0_2 a1 l2 = some (r1, r2)) :
   Calls Try.prog 16 #[.agg #[.int .i64 a0_0, .int .i64 a0_1, .string a0_2], .string a1, .slice A2 l2.length c2] w fun e w' => e = .returned (.tuple #[.string r1, .bool r2]) ∧ Below w.heap.size w w' := by
  have hu28 := Try.underlying28; have HR2 := Aside0.mk hr2; have HC2 := Aside0.mk hc2; clear hr2 hc2; have HB := Aside0.mk (Below.refl w.heap.size w); have H : ((impl_FillsOf.f k a0_0 a0_1 a0_2 a1 l2 1).bind fun t162 => (if (t162.length : Int) = 0 then (some ((⟨#[]⟩ : ByteArray), false)) else (if 0 < (t162.length : Int) then (some (rdOf ByteArray.empty t162 0, true)) else (none)))) = some (r1, r2) := h; clear h; replace H := Option.bind_eq_some_iff.mp H; obtain ⟨t162, A40, H⟩ := H; try dsimp only at H
  have A4 := Aside0.mk A40; clear A40; by_cases c5 : (t162.length : Int) = 0
  ·rw [if_pos c5] at H
   have c5b0 : ((t162.length : Int) == 0) = true := beq_iff_eq.mpr c5; have c5b1 : ((t162.length : Int) != 0) = false := bne_eq_false_iff_eq.mpr c5; clear c5; simp only [Option.some.injEq, Prod.mk.injEq] at H; obtain ⟨rfl, rfl⟩ := H; go_enter Try.func16, Try.ntmps16
   go_wp2_with (first | ((with_reducible refine gate_dst (N := 3) rfl ?_); refine box_event ?hg (N := 3) ?hd (cs := #[.int .i64 a0_0, .int .i64 a0_1, .string a0_2]) (t := 28) ?hr ?_; (case hd => rfl); (case hg => rfl); (case hr => first | (go_simp; done) | (go_simp; rfl)); intro gb161 hg w6 hbox hb; have BK161 := Aside0.mk (hbox); have GW161 := Aside0.mk ((by rw [hg]; exact (below_size z7_0) : w.heap.size ≤ gb161)); have GE161 := Aside0.mk ((by rw [hg]; exact (below_size z7_0) : w.heap.size ≤ gb161)); replace HB := Aside0.mk (below_step z7_0 hb); clear hb hbox hg; obtain ⟨hcz7_0, hcz7_1, hcz7_2, hfz7_0, hfz7_1, hfz7_2⟩ := bc3_7_ BK161.out) | ((with_reducible refine gate_callee (f := 18) rfl ?_); refine goesL_ (some 12) rfl rfl Try.func18 (by kernel_rfl) rfl #[.agg #[.int .i64 a0_0, .int .i64 a0_1, .string a0_2], .string a1, .slice A2 l2.length c2, .int .i64 1] rfl (by (try simp only [List.map_toArray, List.map_cons, List.map_nil]); first | done | rfl | (simp only [List.length_drop, List.length_take]; rfl)) ?_; (with_reducible refine (impl_FillsOf.calls k a0_0 a0_1 a0_2 a1 _ _ l2 1 t162 _ ?side1 ?side2 A4.out).mono ?_); (case side1 => repeat (first | exact (Kd.C_below HR2.out HB.out) | (with_reducible refine Kd.C_alloc ?_ _) | (with_reducible refine Kd.C_drewN ?_ _) | (with_reducible refine Kd.C_drew ?_))); (case side2 => exact HC2.out); rintro e w8 ⟨v163, rfl, ho0, hb⟩; refine ⟨_, rfl, ?_⟩; have HO164 := Aside0.mk (Kd.R_lower ho0 (below_size z7_1)); replace BK161 := Aside0.mk (blk_below (g := gb161) (o := .cells #[.int .i64 a0_0, .int .i64 a0_1, .string a0_2] 28 (0, 0)) (bd7_ BK161.out) hb); replace HB := Aside0.mk (below_step z7_1 hb); (try clear hb); (try clear ho0); obtain ⟨Ao9, co9, eo9⟩ := Kd.R_slice HO164.out; subst eo9))
   go_ret2
   exact ⟨by first | rfl | (simp [errW_none, errW_some] <;> rfl) | (simp [*, errW_none, errW_some] <;> rfl), z7_1⟩
  ·rw [if_neg c5] at H
   have c5b0 : ((t162.length : Int) == 0) = false := beq_eq_false_iff_ne.mpr c5; have c5b1 : ((t162.length : Int) != 0) = true := bne_iff_ne.mpr c5; have c5b2 : ¬ (t162 = []) := fun h_ => c5 (by rw [h_]; rfl)
   by_cases c10 : 0 < (t162.length : Int)
   ·rw [if_pos c10] at H
    have c10b0 : decide (0 < (t162.length : Int)) = true := decide_eq_true c10; have c10b1 : decide (0 < t162.length) = true := decide_eq_true (by omega); clear c10; simp only [Option.some.injEq, Prod.mk.injEq] at H; obtain ⟨rfl, rfl⟩ := H; go_enter Try.func16, Try.ntmps16
    go_wp2_with (first | ((with_reducible refine gate_dst (N := 3) rfl ?_); refine box_event ?hg (N := 3) ?hd (cs := #[.int .i64 a0_0, .int .i64 a0_1, .string a0_2]) (t := 28) ?hr ?_; (case hd => rfl); (case hg => rfl); (case hr => first | (go_simp; done) | (go_simp; rfl)); intro gb161 hg w11 hbox hb; have BK161 := Aside0.mk (hbox); have GW161 := Aside0.mk ((by rw [hg]; exact (below_size z7_0) : w.heap.size ≤ gb161)); have GE161 := Aside0.mk ((by rw [hg]; exact (below_size z7_0) : w.heap.size ≤ gb161)); replace HB := Aside0.mk (below_step z7_0 hb); clear hb hbox hg; obtain ⟨hcz12_0, hcz12_1, hcz12_2, hfz12_0, hfz12_1, hfz12_2⟩ := bc3_7_ BK161.out) | ((with_reducible refine gate_callee (f := 18) rfl ?_); refine goesL_ (some 12) rfl rfl Try.func18 (by kernel_rfl) rfl #[.agg #[.int .i64 a0_0, .int .i64 a0_1, .string a0_2], .string a1, .slice A2 l2.length c2, .int .i64 1] rfl (by (try simp only [List.map_toArray, List.map_cons, List.map_nil]); first | done | rfl | (simp only [List.length_drop, List.length_take]; rfl)) ?_; (with_reducible refine (impl_FillsOf.calls k a0_0 a0_1 a0_2 a1 _ _ l2 1 t162 _ ?side1 ?side2 A4.out).mono ?_); (case side1 => repeat (first | exact (Kd.C_below HR2.out HB.out) | (with_reducible refine Kd.C_alloc ?_ _) | (with_reducible refine Kd.C_drewN ?_ _) | (with_reducible refine Kd.C_drew ?_))); (case side2 => exact HC2.out); rintro e w13 ⟨v163, rfl, ho0, hb⟩; refine ⟨_, rfl, ?_⟩; have HO164 := Aside0.mk (Kd.R_lower ho0 (below_size z7_1)); replace BK161 := Aside0.mk (blk_below (g := gb161) (o := .cells #[.int .i64 a0_0, .int .i64 a0_1, .string a0_2] 28 (0, 0)) (bd7_ BK161.out) hb); replace HB := Aside0.mk (below_step z7_1 hb); (try clear hb); (try clear ho0); obtain ⟨Ao14, co14, eo14⟩ := Kd.R_slice HO164.out; subst eo14; have p165 : 0 ≤ (0 : Int) := (by omega); have q165 : 0 < (t162.length : Int) := of_decide_eq_true (by first | (with_reducible assumption) | assumption); obtain ⟨ad165, e165, hx165_0⟩ := Kd.at_string (Kd.R_reads' HO164.out).2.2 0 p165 q165; cases e165; have qi165 : (0 < t162.length) = True := eq_true (by omega); (try rw [show ((0 : Int)).toNat = 0 from rfl] at hx165_0); (try rw [Addr.add_zero'] at hx165_0); replace p165 := eq_true p165; replace q165 := eq_true q165))
    go_ret2
    exact ⟨by first | rfl | (simp [errW_none, errW_some] <;> rfl) | (simp [*, errW_none, errW_some] <;> rfl), z7_1⟩
   ·rw [if_neg c10] at H
    exact absurd H (by simp)

/-! ### laws_big: function 21 -/
def laws_big.f (l0 : List Int) : Option (Bool) := some (decide ((l0.length : Int) > 1048576))
set_option maxHeartbeats 8000000 in
set_option maxRecDepth 100000 in
theorem laws_big.calls (A0 : Option Addr) (c0 : Nat) (l0 : List Int) (r : Bool) (w : World) (hr0 : Kd.C (Kd.int .u8) w A0 l0.length l0) (hc0 : l0.length ≤ c0) (h : laws_big.f l0 = some r) :
   Calls Try.prog 21 #[.slice A0 l0.length c0] w fun e w' => e = .returned (.bool r) ∧ Drawn0 w w' := by
  have HR0 := Aside0.mk hr0; have HC0 := Aside0.mk hc0; clear hr0 hc0; have H : (some (decide ((l0.length : Int) > 1048576))) = some r := h; clear h; obtain rfl := Option.some.inj H; go_enter Try.func21, Try.ntmps21
  go_wp2
  go_ret
  exact ⟨by first | rfl | (simp; done) | (simp [*]; done), by repeat (first | exact Drawn0.refl _ | apply Drawn0.step)⟩

end Go.Proofs.Ytodcckiphdnjeaa.QFnFilled
