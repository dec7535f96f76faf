-- Written by a changed copy of the kit's printer (wip/mp.py of this repo), for this claim; Lean checks it.
import Derived.Test.YtodcckiphdnjeaaQFnFilledx0
import Derived.Test.YtodcckiphdnjeaaQFnFilledx6
import Derived.Test.YtodcckiphdnjeaaQFnFilledx10
import Derived.Test.YtodcckiphdnjeaaQFnFilledx13
import Derived.Test.YtodcckiphdnjeaaQFnFilledx14
import Derived.Test.YtodcckiphdnjeaaQFnFilledx15
import Derived.Test.YtodcckiphdnjeaaQFnFilledx17
namespace Go.Proofs.Ytodcckiphdnjeaa.QFnFilled
open Go.RowKit Go.Proofs.YtodcckiphdnjeaaW.PrintWords Go.Proofs.YtodcckiphdnjeaaW.PrintLast Go.Proofs.YtodcckiphdnjeaaW.PrintMore
attribute [local go_sem] max2_int min2_int max_two min_two max_three min_three max_four min_four   -- for this text's walks alone
set_option linter.unusedVariables false
set_option linter.unusedSimpArgs false

theorem bc3_18_ {W : World} {g : Nat} {v0 v1 v2 : Value} {t : TypeId} (h : W.heap[g]? = some (.cells #[v0, v1, v2] t (0, 0))) : W.cell? ⟨g, 0, none⟩ = some v0 ∧ W.cell? ⟨g, 1, none⟩ = some v1 ∧ W.cell? ⟨g, 2, none⟩ = some v2 ∧ W.frozen? ⟨g, 0, none⟩ = false ∧ W.frozen? ⟨g, 1, none⟩ = false ∧ W.frozen? ⟨g, 2, none⟩ = false := ⟨(blk_cell h 0).trans rfl, (blk_cell h 1).trans rfl, (blk_cell h 2).trans rfl, blk_frozen h 0, blk_frozen h 1, blk_frozen h 2⟩
theorem bd18_ {p q : Prop} (h0 : q) (h : q → p := by intro h_; (with_reducible repeat (first | refine blk_drewN ?_ _ | refine blk_drew ?_ | refine blk_alloc ?_ _)); exact h_) : p := h h0
theorem kd18_ {p q : Prop} (h0 : q) (h : q → p := by intro h_; (with_reducible repeat (first | apply Kd.R_alloc | apply Kd.R_drewN | apply Kd.R_drew)); exact h_) : p := h h0
theorem z18_0 {p : Prop} (h : p := by repeat (first | (with_reducible first | exact HB.out | apply below_alloc | apply pw_below_drewN | apply below_drew1) | exact HB.out)) : p := h
theorem z18_1 {p : Prop} (h : p := by repeat (first | (with_reducible first | exact HB.out | apply below_alloc | apply pw_below_drewN | apply below_drew1 | refine below_set ?_ GE405.out) | exact HB.out)) : p := h
theorem z18_2 {p : Prop} (h : p := by repeat (first | (with_reducible first | exact HB.out | apply below_alloc | apply pw_below_drewN | apply below_drew1 | refine below_set ?_ GE385.out) | exact HB.out)) : p := h
theorem z18_3 {p : Prop} (h : p := by (try simp only [List.map_toArray, List.map_cons, List.map_nil]); first | done | rfl | (simp only [List.length_drop, List.length_take]; rfl)) : p := h
theorem z18_4 {p : Prop} (h : p := by (with_reducible repeat (first | apply Kd.S_alloc | apply Kd.S_drewN | apply Kd.S_drew)); exact HO_7.out) : p := h
theorem z18_5 {p : Prop} (h : p := by first | rfl | (simp; done) | (simp [*]; done)) : p := h
theorem z18_6 {p : Prop} (h : p := by first | (with_reducible assumption) | assumption) : p := h
/-! ### impl_WordsFitting: function 64 (given) -/
def fitGo (k : Nat) (p : ByteArray) : List ByteArray → Option (List ByteArray)
  | [] => some []
  | w :: l => (impl_FitsPattern.f k p w).bind fun b => (fitGo k p l).bind fun r => some (if b = true then w :: r else r)
theorem fitGo_nil (k : Nat) (p : ByteArray) : fitGo k p [] = some [] := rfl
theorem fitGo_cons (k : Nat) (p w : ByteArray) (l : List ByteArray) : fitGo k p (w :: l) = (impl_FitsPattern.f k p w).bind fun b => (fitGo k p l).bind fun r => some (if b = true then w :: r else r) := rfl
theorem fitGo_mono (p : ByteArray) (k : Nat) : ∀ l, LeO (fitGo k p l) (fitGo (k + 1) p l)
  | [] => LeO.refl _
  | w :: l => by
    rw [fitGo_cons, fitGo_cons]
    exact LeO.bind (impl_FitsPattern.mono _ _ _) (fun _ => LeO.bind (fitGo_mono p k l) (fun _ => LeO.refl _))
theorem fitGo_length (k : Nat) (p : ByteArray) : ∀ (l r : List ByteArray), fitGo k p l = some r → r.length ≤ l.length
  | [], r, h => by
    rw [fitGo_nil] at h
    injection h with h
    subst h
    exact Nat.le_refl _
  | w :: l, r, h => by
    rw [fitGo_cons] at h
    obtain ⟨b, _, h⟩ := Option.bind_eq_some_iff.mp h; obtain ⟨q, hq, h⟩ := Option.bind_eq_some_iff.mp h; injection h with h
    subst h; have := fitGo_length k p l q hq
    split <;> simp <;> omega
theorem fit_keep_calls (k : Nat) (p x : ByteArray) (b : Bool) (P : Nat) (w : World) (hp : w.cell? ⟨P, 0, none⟩ = some (.string p)) (h : impl_FitsPattern.f k p x = some b) :
    Calls Try.prog 100 #[.string x, .pointer (some ⟨P, 0, none⟩)] w fun e w' => e = .returned (.bool b) ∧ Below w.heap.size w w' := by
  have kf := fun W => impl_FitsPattern.calls k p x b W h
  clear h; go_enter Try.func100, Try.ntmps100
  go_wp2_with fail
  go_at_call 89
  refine (kf _).mono ?_
  rintro e w' ⟨rfl, hb⟩
  have HB := Aside0.mk (show Below w.heap.size w w' from by first | exact hb | exact hb.below)
  clear hb; go_wp2_with fail
  go_ret
  exact ⟨rfl, HB.out⟩
set_option maxHeartbeats 1600000 in
set_option maxRecDepth 100000 in
theorem fit_those_calls (k : Nat) (p : ByteArray) (P : Nat) (A0 : Option Addr) (c0 : Nat) (l0 : List ByteArray) (r : List ByteArray) (w : World) (hp : w.cell? ⟨P, 0, none⟩ = some (.string p)) (hr0 : Kd.C Kd.string w A0 l0.length l0) (hl : l0.length ≤ 1048576) (h : fitGo k p l0 = some r) :
    Calls Try.prog 57 #[.slice A0 l0.length c0, .func (.func 100) #[] #[.pointer (some ⟨P, 0, none⟩)]] w fun e w' => ∃ v0_ : Value, e = .returned (v0_) ∧ Kd.R Kd.string 9 w' w.heap.size (fun _ => True) v0_ r ∧ Below w.heap.size w w' := by
  have HR0 := Aside0.mk hr0; have HP := Aside0.mk hp; have HH := Aside0.mk h; clear hr0 hp h; have HB := Aside0.mk (Below.refl w.heap.size w); go_enter Try.func57, Try.ntmps57
  go_wp2
  go_loopg [5, 10] l0.length (fun kq v5 v10 w' => ∃ (i : Nat) (acc : List ByteArray), v10 = .int .i64 (i : Int) ∧ Aside0 (i ≤ l0.length) ∧ Aside0 (l0.length - i ≤ kq) ∧ Aside0 (acc.length ≤ i) ∧ Aside0 (∃ q, fitGo k p (l0.drop i) = some q ∧ acc ++ q = r) ∧ Aside0 (Kd.R Kd.string 9 w' w.heap.size (fun _ => True) v5 acc) ∧ Aside0 (Below w.heap.size w w'))
  case atStart => exact ⟨0, [], rfl, ⟨Nat.zero_le _⟩, ⟨by omega⟩, ⟨Nat.le_refl _⟩, ⟨r, HH.out, rfl⟩, ⟨Kd.R_nil _ _ _ _ _⟩, ⟨z18_0⟩⟩
  case round =>
    clear HB; obtain ⟨i, acc, rfl, hi, hk, hn, heq, HO, HB⟩ := hrel; by_cases hlt : i < l0.length
    · have cb0 : decide ((i : Int) < (l0.length : Int)) = true := by simp; exact hlt
      have hcr : rdOf ByteArray.empty l0 (i : Int) = l0[i] := by
        unfold rdOf
        simp [hlt]
      obtain ⟨ad, e1, hx⟩ := Kd.at_string HR0.out (i : Int) (by omega) (by omega)
      cases e1; replace hx := (HB.out.cell (World.block_lt_of_cell? w _ hx)).trans hx; rw [hcr] at hx
      simp only [Int.toNat_natCast] at hx; have p1 : (0 ≤ (i : Int)) = True := eq_true (by omega); have q1 : ((i : Int) < (l0.length : Int)) = True := eq_true (by omega); obtain ⟨q, heq', hq⟩ := heq.out; rw [List.drop_eq_getElem_cons hlt, fitGo_cons] at heq'
      obtain ⟨b, hb, heq'⟩ := Option.bind_eq_some_iff.mp heq'; obtain ⟨q', hq', heq'⟩ := Option.bind_eq_some_iff.mp heq'; injection heq' with heq'
      have kk := fun W (hW : Below w.heap.size w W) => fit_keep_calls k p l0[i] b P W ((hW.cell (World.block_lt_of_cell? w _ HP.out)).trans HP.out) hb
      generalize l0[i] = x at hx kk hb heq'
      obtain ⟨Ao9, co9, eo9⟩ := Kd.R_slice HO.out; subst eo9; have LM := Aside0.mk (show acc.length ≤ 1048576 by have := hn.out; omega)
      cases b with
      | true =>
        rw [if_pos rfl] at heq'
        have HE := Aside0.mk (show ∃ q, fitGo k p (l0.drop (i + 1)) = some q ∧ (acc ++ [x]) ++ q = r from ⟨q', hq', by rw [← hq, ← heq']; simp⟩); clear heq' hq hq' hb hcr heq; go_wp2_with fail
        go_at_call 100
        refine (kk _ z18_0).mono ?_
        rintro e w2 ⟨rfl, hb2⟩
        have HO2 := Aside0.mk (Kd.R_below (kd18_ HO.out) hb2); have HB2 := Aside0.mk (below_step z18_0 hb2); clear HO HB hb2; go_wp2_with ((with_reducible refine gate_builtin (b := .append) (xs := #[.tmp 17, .tmp 19]) rfl ?_); at_builtin; refine Kd.R_append Kd.string (w0 := w) w.heap.size rfl (.tmp 17) (.tmp 19) 24 9 (.string ⟨#[]⟩) 16 rfl Try.underlying24 info9 rfl (by decide) (by omega) (.slice Ao9 acc.length co9) acc x [.string x] (fun _ => True) (fun _ => False) rfl rfl ?aP (fun _ hk => hk.elim) ?aF ?aO ?aB ?aS ?aL ?_; (case aP => exact rfl); (case aB => exact (by repeat (first | (with_reducible first | exact HB2.out | apply below_alloc | apply pw_below_drewN | apply below_drew1) | exact HB2.out))); (case aF => exact (fun _ _ => trivial)); (case aO => exact (kd18_ HO2.out)); (case aS => exact (below_size (by repeat (first | (with_reducible first | exact HB2.out | apply below_alloc | apply pw_below_drewN | apply below_drew1) | exact HB2.out)))); (case aL => have := LM.out; omega); intro v128 w10 ho hb hg hat; have HB := Aside0.mk (hb); have HO129 := Aside0.mk (ho); clear HB2; clear HO2; clear ho hb hg hat)
        go_roundg (l0.length - (i + 1))
        case measure => have := hk.out; omega
        case rel => exact ⟨i + 1, acc ++ [x], by simp, ⟨by omega⟩, ⟨Nat.le_refl _⟩, ⟨by have := hn.out; simp; omega⟩, HE, ⟨by (with_reducible repeat (first | apply Kd.R_alloc | apply Kd.R_drewN | apply Kd.R_drew)); exact HO129.out⟩, ⟨z18_0⟩⟩
      | false =>
        rw [if_neg (by simp)] at heq'
        have HE := Aside0.mk (show ∃ q, fitGo k p (l0.drop (i + 1)) = some q ∧ acc ++ q = r from ⟨q', hq', by rw [← hq, ← heq']⟩); clear heq' hq hq' hb hcr heq; go_wp2_with fail
        go_at_call 100
        refine (kk _ z18_0).mono ?_
        rintro e w2 ⟨rfl, hb2⟩
        have HO2 := Aside0.mk (Kd.R_below (kd18_ HO.out) hb2); have HB2 := Aside0.mk (below_step z18_0 hb2); clear HO HB hb2; go_wp2_with fail
        go_roundg (l0.length - (i + 1))
        case measure => have := hk.out; omega
        case rel => exact ⟨i + 1, acc, by simp, ⟨by omega⟩, ⟨Nat.le_refl _⟩, ⟨by have := hn.out; omega⟩, HE, ⟨by (with_reducible repeat (first | apply Kd.R_alloc | apply Kd.R_drewN | apply Kd.R_drew)); exact HO2.out⟩, ⟨by repeat (first | (with_reducible first | exact HB2.out | apply below_alloc | apply pw_below_drewN | apply below_drew1) | exact HB2.out)⟩⟩
    · have cb0 : decide ((i : Int) < (l0.length : Int)) = false := by simp; omega
      obtain ⟨q, hq, HE⟩ := heq.out; rw [List.drop_eq_nil_of_le (by omega), fitGo_nil] at hq
      injection hq with hq
      subst hq; rw [List.append_nil] at HE
      subst HE; clear heq; go_wp2
      go_ret
      exact ⟨_, rfl, by (with_reducible repeat (first | apply Kd.R_alloc | apply Kd.R_drewN | apply Kd.R_drew)); exact HO.out, z18_0⟩
def impl_WordsFitting.f (k : Nat) (l0 : List ByteArray) (a1 : ByteArray) : Option (List ByteArray) := if l0.length ≤ 1048576 then fitGo k a1 l0 else none
theorem impl_WordsFitting.mono : ∀ a0 a1 k, LeO (impl_WordsFitting.f k a0 a1) (impl_WordsFitting.f (k + 1) a0 a1) := by
  intro a0 a1 k
  unfold impl_WordsFitting.f
  exact LeO.ite (fitGo_mono _ _ _) (LeO.none _)
theorem impl_WordsFitting.calls (k : Nat) (A0 : Option Addr) (c0 : Nat) (l0 : List ByteArray) (a1 : ByteArray) (r : List ByteArray) (w : World) (hr0 : Kd.C Kd.string w A0 l0.length l0) (hc0 : l0.length ≤ c0) (h : impl_WordsFitting.f k l0 a1 = some r) :
    Calls Try.prog 64 #[.slice A0 l0.length c0, .string a1] w fun e w' => ∃ v0_ : Value, e = .returned (v0_) ∧ Kd.R Kd.string 9 w' w.heap.size (fun _ => True) v0_ r ∧ Below w.heap.size w w' := by
  unfold impl_WordsFitting.f at h
  by_cases hl : l0.length ≤ 1048576
  · rw [if_pos hl] at h
    have kt := fit_those_calls k a1 w.heap.size A0 c0 l0 r (w.alloc (.cells #[.string a1] 9)) (by simp [World.cell?, World.alloc, -World.alloc_eq]) (Kd.C_below hr0 (below_alloc (Below.refl _ _) _)) hl h; clear hr0 h; go_enter Try.func64, Try.ntmps64
    go_wp2_with fail
    go_at_call 57
    refine kt.mono ?_
    rintro e w2 ⟨v1, rfl, ho1, hb1⟩
    obtain ⟨A1, c1, rfl⟩ := Kd.R_slice ho1; have HO := Aside0.mk ho1; have HB := Aside0.mk hb1; clear ho1 hb1; go_wp2_with fail
    go_ret
    exact ⟨_, rfl, Kd.R_lower HO.out (by simp), below_step (w := w) (below_alloc (Below.refl _ _) _) HB.out⟩
  · rw [if_neg hl] at h
    cases h


/-! ### impl_DomainsOf: function 30 -/
def impl_DomainsOf.l0 : Nat → List ByteArray → List (List ByteArray) → List ByteArray → Int → Int → Option ((List (List ByteArray)))
  | 0, _, _, _, _, _ => none
  | k + 1, x2, x7, x12, x13, x14 => if x14 < x13 then (if 0 ≤ x14 then (if x14 < (x12.length : Int) then ((impl_WordsFitting.f k x2 (rdOf ByteArray.empty x12 x14)).bind fun t390 => (if x7.length < 5864062014805 then (impl_DomainsOf.l0 k x2 (x7 ++ [t390]) x12 x13 (wrap64 (x14 + 1))) else (none))) else (none)) else (none)) else (some x7)
def impl_DomainsOf.f (k : Nat) (a0_0 : Int) (a0_1 : Int) (a0_2 : ByteArray) (a1 : ByteArray) (l2 : List ByteArray) : Option ((List (List ByteArray))) := (impl_patterns.f k a0_0 a0_1 a0_2 a1).bind fun t386 => (impl_DomainsOf.l0 k l2 ([] : List (List ByteArray)) t386 (t386.length : Int) 0)
theorem impl_DomainsOf.mono_l : ∀ k, (∀ y0 y1 y2 y3 y4, LeO (impl_DomainsOf.l0 k y0 y1 y2 y3 y4) (impl_DomainsOf.l0 (k + 1) y0 y1 y2 y3 y4))
  | 0 => fun _ _ _ _ _ r h => by simp [impl_DomainsOf.l0] at h
  | k + 1 => by
   have ih0 := impl_DomainsOf.mono_l k
   ·intro y0 y1 y2 y3 y4
    unfold impl_DomainsOf.l0
    with_reducible repeat' first
    | exact ih0 _ _ _ _ _
    | exact impl_WordsFitting.mono _ _ _
    | exact impl_patterns.mono _ _ _ _ _
    | exact LeO.refl _
    | exact LeO.none _
    | refine LeO.ite ?_ ?_
    | refine LeO.bind ?_ (fun _ => ?_)
theorem impl_DomainsOf.mono : ∀ a0 a1 a2 a3 a4 k, LeO (impl_DomainsOf.f k a0 a1 a2 a3 a4) (impl_DomainsOf.f (k + 1) a0 a1 a2 a3 a4) := by
  intro a0 a1 a2 a3 a4 k
  have ih0 := impl_DomainsOf.mono_l k; unfold impl_DomainsOf.f
  with_reducible repeat' first
  | exact ih0 _ _ _ _ _
  | exact impl_WordsFitting.mono _ _ _
  | exact impl_patterns.mono _ _ _ _ _
  | exact LeO.refl _
  | exact LeO.none _
  | refine LeO.ite ?_ ?_
  | refine LeO.bind ?_ (fun _ => ?_)
set_option maxHeartbeats 8000000 in
set_option maxRecDepth 100000 in
theorem impl_DomainsOf.calls (k : Nat) (a0_0 : Int) (a0_1 : Int) (a0_2 : ByteArray) (a1 : ByteArray) (A2 : Option Addr) (c2 : Nat) (l2 : List ByteArray) (r : List (List ByteArray)) (w : World) (hr2 : Kd.C Kd.string w A2 l2.length l2) (hc2 : l2.length ≤ c2) (h : impl_DomainsOf.f k a0_0 a0_1 a0_2 a1 l2 = some r) :
   Calls Try.prog 30 #[.agg #[.int .i64 a0_0, .int .i64 a0_1, .string a0_2], .string a1, .slice A2 l2.length c2] w fun e w' => ∃ v0_ : Value, e = .returned (v0_) ∧ Kd.S (Kd.slice 9 Kd.string) 24 w' w.heap.size (fun _ => True) v0_ r ∧ Below w.heap.size w w' := by
  have hu28 := Try.underlying28; have HR2 := Aside0.mk hr2; have HC2 := Aside0.mk hc2; clear hr2 hc2; have HB := Aside0.mk (Below.refl w.heap.size w); have H : ((impl_patterns.f k a0_0 a0_1 a0_2 a1).bind fun t386 => (impl_DomainsOf.l0 k l2 ([] : List (List ByteArray)) t386 (t386.length : Int) 0)) = some r := h; clear h; replace H := Option.bind_eq_some_iff.mp H; obtain ⟨t386, A40, H⟩ := H; try dsimp only at H
  have A4 := Aside0.mk A40; clear A40; have H' := Aside0.mk H
  clear H; go_enter Try.func30, Try.ntmps30
  go_wp2_with (first | ((with_reducible refine gate_dst (N := 3) rfl ?_); refine box_event ?hg (N := 3) ?hd (cs := #[.int .i64 a0_0, .int .i64 a0_1, .string a0_2]) (t := 28) ?hr ?_; (case hd => rfl); (case hg => rfl); (case hr => first | (go_simp; done) | (go_simp; rfl)); intro gb385 hg w5 hbox hb; have BK385 := Aside0.mk (hbox); have GW385 := Aside0.mk ((by rw [hg]; exact (below_size z18_0) : w.heap.size ≤ gb385)); have GE385 := Aside0.mk ((by rw [hg]; exact (below_size z18_0) : w.heap.size ≤ gb385)); replace HB := Aside0.mk (below_step z18_0 hb); clear hb hbox hg; obtain ⟨hcz6_0, hcz6_1, hcz6_2, hfz6_0, hfz6_1, hfz6_2⟩ := bc3_18_ BK385.out) | ((with_reducible refine gate_callee (f := 58) rfl ?_); refine goesL_ (some 12) rfl rfl Try.func58 (by kernel_rfl) rfl #[.agg #[.int .i64 a0_0, .int .i64 a0_1, .string a0_2], .string a1] rfl z18_3 ?_; (with_reducible refine (impl_patterns.calls k a0_0 a0_1 a0_2 a1 t386 _ A4.out).mono ?_); rintro e w7 ⟨v387, rfl, ho0, hb⟩; refine ⟨_, rfl, ?_⟩; have HO388 := Aside0.mk (Kd.R_lower ho0 (below_size z18_2)); replace BK385 := Aside0.mk (blk_below (g := gb385) (o := .cells #[.int .i64 a0_0, .int .i64 a0_1, .string a0_2] 28 (0, 0)) (bd18_ BK385.out) hb); replace HB := Aside0.mk (below_step z18_2 hb); (try clear hb); (try clear ho0); obtain ⟨Ao8, co8, eo8⟩ := Kd.R_slice HO388.out; subst eo8))
  go_loopg [7, 14] k (fun kq v7 v14 w' => ∃ (x7_1 : List (List ByteArray)) (x14_1 : Int), v14 = .int .i64 x14_1 ∧ Aside0 (impl_DomainsOf.l0 kq l2 x7_1 t386 (t386.length : Int) x14_1 = some r) ∧ Aside0 (kq ≤ k) ∧ Aside0 (Kd.S (Kd.slice 9 Kd.string) 24 w' w.heap.size (fun k_ => some k_ ≠ ((.slice Ao8 t386.length co8) : Value).ownBlock) v7 x7_1) ∧ Aside0 (Kd.R Kd.string 9 w' w.heap.size (fun _ => True) (.slice Ao8 t386.length co8) t386) ∧ Aside0 (w'.heap[gb385]? = some (.cells #[.int .i64 a0_0, .int .i64 a0_1, .string a0_2] 28 (0, 0))) ∧ Aside0 (Below w.heap.size w w'))
  case atStart => exact ⟨(([] : List (List ByteArray))), (0), z18_5, H', ⟨Nat.le_refl _⟩, ⟨by first | exact Kd.S_nil _ _ _ _ _ | exact Kd.N_nil _ _ _ _ _ | exact Kd.V_nil _ _ _ _ _ | exact Kd.Q_nil _ _ _ _ _ | exact Kd.R_nil _ _ _ _ _⟩, ⟨by (with_reducible repeat (first | apply Kd.R_alloc | apply Kd.R_drewN | apply Kd.R_drew)); exact HO388.out⟩, ⟨by (with_reducible repeat (first | refine blk_drewN ?_ _ | refine blk_drew ?_ | refine blk_alloc ?_ _)); exact BK385.out⟩, ⟨z18_2⟩⟩
  case round =>
   clear H'; try clear c2
   try clear p2
   try clear c3
   try clear c5
   try clear hcz6_0
   try clear hcz6_1
   try clear hcz6_2
   try clear hfz6_0
   try clear hfz6_1
   try clear hfz6_2
   obtain ⟨x7_1, x14_1, rfl, HA, HK1, HO_7, HO_12, BK385, HB⟩ := hrel
   cases gk with
   | zero => exact absurd HA.out (by simp [impl_DomainsOf.l0])
   | succ k1 =>
    have H := HA.out; clear HA; simp only [impl_DomainsOf.l0] at H; by_cases c9 : x14_1 < (t386.length : Int)
    ·rw [if_pos c9] at H
     have c9b0 : decide (x14_1 < (t386.length : Int)) = true := decide_eq_true c9; clear c9; by_cases c10 : 0 ≤ x14_1
     ·rw [if_pos c10] at H
      have c10b0 : decide (0 ≤ x14_1) = true := decide_eq_true c10; clear c10; by_cases c11 : x14_1 < (t386.length : Int)
      ·rw [if_pos c11] at H
       have c11b0 : decide (x14_1 < (t386.length : Int)) = true := decide_eq_true c11; clear c11; replace H := Option.bind_eq_some_iff.mp H; obtain ⟨t390, A120, H⟩ := H; try dsimp only at H
       have A12 := Aside0.mk A120; clear A120; by_cases c13 : x7_1.length < 5864062014805
       ·rw [if_pos c13] at H
        have LMc13 := Aside0.mk c13; clear c13; obtain ⟨y393, hy393⟩ : ∃ y_ : List (List ByteArray), y_ = (x7_1 ++ [t390]) := ⟨_, rfl⟩; replace H : (impl_DomainsOf.l0 k1 l2 y393 t386 (t386.length : Int) (wrap64 (x14_1 + 1))) = some r := by first | (rw [hy393]; with_reducible exact H) | (have H2_ := (Option.bind_some _ _).symm.trans H; rw [hy393]; with_reducible exact H2_) | (have H2_ := (Option.bind_some _ _).symm.trans H; with_reducible exact H2_) | with_reducible exact H | (rw [hy393]; exact H) | exact H
        have Ny393 := Aside0.mk hy393; clear hy393; have H' := Aside0.mk H
        clear H; have p389 : 0 ≤ (x14_1 : Int) := of_decide_eq_true z18_6; have q389 : x14_1 < (t386.length : Int) := of_decide_eq_true z18_6; obtain ⟨ad389, e389, hx389_0⟩ := Kd.at_string (Kd.R_reads' HO_12.out).2.2 x14_1 p389 q389
        cases e389; replace p389 := eq_true p389; replace q389 := eq_true q389; go_wp2_with (first | ((with_reducible refine gate_callee (f := 64) rfl ?_); refine goesL_ (some 21) rfl rfl Try.func64 (by kernel_rfl) rfl #[.slice A2 l2.length c2, .string (rdOf ByteArray.empty t386 x14_1)] rfl z18_3 ?_; (with_reducible refine (impl_WordsFitting.calls k1 _ _ l2 (rdOf ByteArray.empty t386 x14_1) t390 _ ?side1 ?side2 A12.out).mono ?_); (case side1 => repeat (first | exact (Kd.C_below HR2.out HB.out) | (with_reducible refine Kd.C_alloc ?_ _) | (with_reducible refine Kd.C_drewN ?_ _) | (with_reducible refine Kd.C_drew ?_))); (case side2 => exact HC2.out); rintro e w14 ⟨v391, rfl, ho0, hb⟩; refine ⟨_, rfl, ?_⟩; replace HO_7 := Aside0.mk (Kd.S_elder' z18_4 (Kd.R_base ho0) hb); have HO392 := Aside0.mk (Kd.R_lower (Kd.R_new' ho0 (Kd.R_lt (kd18_ HO_12.out))) (below_size z18_2)); replace HO_12 := Aside0.mk (Kd.R_elder' (kd18_ HO_12.out) (Kd.R_base ho0) hb); replace BK385 := Aside0.mk (blk_below (g := gb385) (o := .cells #[.int .i64 a0_0, .int .i64 a0_1, .string a0_2] 28 (0, 0)) (bd18_ BK385.out) hb); replace HB := Aside0.mk (below_step z18_2 hb); (try clear hb); (try clear ho0); obtain ⟨Ao16, co16, eo16⟩ := Kd.R_slice HO392.out; subst eo16) | ((with_reducible refine gate_builtin (b := .append) (xs := #[.tmp 18, .tmp 22]) rfl ?_); at_builtin; refine Kd.S_append (Kd.slice 9 Kd.string) (w0 := w) w.heap.size rfl (.tmp 18) (.tmp 22) 48 24 (.slice none 0 0) 24 rfl Try.underlying48 info24 rfl (by decide) (by omega) u7 x7_1 t390 [.slice Ao16 t390.length co16] (fun k_ => some k_ ≠ (.slice (some ad389) t386.length co8 : Value).ownBlock) (fun k_ => some k_ = (.slice Ao16 t390.length co16 : Value).ownBlock) rfl rfl ?aP (fun k_ hk_ => ((Kd.R_mono (ok' := fun k_ => ((fun k_ => some k_ ≠ (.slice (some ad389) t386.length co8 : Value).ownBlock)) k_ ∧ some k_ ≠ (u7 : Value).ownBlock) (Kd.R_apart' (HO392.out) (Kd.S_typed HO_7.out) (by decide)) (fun k_ hk => ⟨hk.1.2, hk.2⟩))).1 k_ hk_.symm) ?aF ?aO ?aB ?aS ?aL ?_; (case aP => exact Kd.M_row (Kd.R_mono (Kd.R_tight rfl (Kd.R_mono (ok' := fun k_ => ((fun k_ => some k_ ≠ (.slice (some ad389) t386.length co8 : Value).ownBlock)) k_ ∧ some k_ ≠ (u7 : Value).ownBlock) (Kd.R_apart' (HO392.out) (Kd.S_typed HO_7.out) (by decide)) (fun k_ hk => ⟨hk.1.2, hk.2⟩))) (fun _ h_ => h_))); (case aB => exact z18_2); (case aF => exact (fun k_ hk => Kd.fresh' (Kd.R_lt (kd18_ HO_12.out)) k_ hk)); (case aO => exact (by (with_reducible repeat (first | apply Kd.S_alloc | apply Kd.S_drewN | apply Kd.S_drew)); exact Kd.S_mono HO_7.out (fun k_ hk => ⟨hk.1, fun e_ => hk.2 e_⟩))); (case aS => exact (below_size z18_2)); (case aL => have := LMc13.out; omega); intro v394 w15 ho hb hg hat; rw [← Ny393.out] at ho; have n0_ := Aside0.mk (Kd.R_over' (kd18_ HO_12.out) (Kd.S_typed z18_4) (by decide) hg); have n1_ := Aside0.mk (blk_grown (g := gb385) (o := .cells #[.int .i64 a0_0, .int .i64 a0_1, .string a0_2] 28 (0, 0)) (bd18_ BK385.out) hg (Kd.S_ne HO_7.out BK385.out (by decide))); have n2_ := Aside0.mk (hb); have n3_ := Aside0.mk (ho); clear HO_12; clear BK385; clear HB; clear HO_7; clear HO392; have HO_12 := n0_; have BK385 := n1_; have HB := n2_; have HO395 := n3_; clear n0_ n1_ n2_ n3_; clear ho hb hg hat))
        go_roundg k1
        case measure => have := HK1.out; omega
        case rel => exact ⟨(y393), (wrap64 (x14_1 + 1)), z18_5, H', ⟨by have := HK1.out; omega⟩, ⟨by (with_reducible repeat (first | apply Kd.S_alloc | apply Kd.S_drewN | apply Kd.S_drew)); exact HO395.out⟩, ⟨by (with_reducible repeat (first | apply Kd.R_alloc | apply Kd.R_drewN | apply Kd.R_drew)); exact Kd.R_mono HO_12.out (fun _ hk => trivial)⟩, ⟨by (with_reducible repeat (first | refine blk_drewN ?_ _ | refine blk_drew ?_ | refine blk_alloc ?_ _)); exact BK385.out⟩, ⟨z18_2⟩⟩
       ·rw [if_neg c13] at H
        exact absurd H (by simp)
      ·rw [if_neg c11] at H
       exact absurd H (by simp)
     ·rw [if_neg c10] at H
      exact absurd H (by simp)
    ·rw [if_neg c9] at H
     have c9b0 : decide (x14_1 < (t386.length : Int)) = false := decide_eq_false c9; clear c9; obtain rfl := Option.some.inj H; go_wp2
     go_ret
     exact ⟨_, by first | rfl | (simp [errW_none, errW_some] <;> rfl) | (simp [*, errW_none, errW_some] <;> rfl), by (with_reducible repeat (first | apply Kd.S_alloc | apply Kd.S_drewN | apply Kd.S_drew)); exact Kd.S_mono HO_7.out (fun _ hk => trivial), z18_2⟩

/-! ### spec_WordsFitting: function 65 -/
def spec_WordsFitting.l0 : Nat → List ByteArray → ByteArray → List ByteArray → Int → Option (List ByteArray)
  | 0, _, _, _, _ => none
  | k + 1, x0, x1, x5, x6 => if x6 < (x0.length : Int) then (if 0 ≤ x6 then ((spec_FitsPattern.f k x1 (rdOf ByteArray.empty x0 x6)).bind fun t400 => (if t400 = true then (if x5.length < 8796093022208 then (spec_WordsFitting.l0 k x0 x1 (x5 ++ [rdOf ByteArray.empty x0 x6]) (wrap64 (x6 + 1))) else (none)) else (spec_WordsFitting.l0 k x0 x1 x5 (wrap64 (x6 + 1))))) else (none)) else (some x5)
def spec_WordsFitting.f (k : Nat) (l0 : List ByteArray) (a1 : ByteArray) : Option (List ByteArray) := spec_WordsFitting.l0 k l0 a1 (([] : List ByteArray)) 0
theorem spec_WordsFitting.mono_l : ∀ k, (∀ y0 y1 y2 y3, LeO (spec_WordsFitting.l0 k y0 y1 y2 y3) (spec_WordsFitting.l0 (k + 1) y0 y1 y2 y3))
  | 0 => fun _ _ _ _ r h => by simp [spec_WordsFitting.l0] at h
  | k + 1 => by
   have ih0 := spec_WordsFitting.mono_l k
   ·intro y0 y1 y2 y3
    unfold spec_WordsFitting.l0
    with_reducible repeat' first
    | exact ih0 _ _ _ _
    | exact spec_FitsPattern.mono _ _ _
    | exact LeO.refl _
    | exact LeO.none _
    | refine LeO.ite ?_ ?_
    | refine LeO.bind ?_ (fun _ => ?_)
theorem spec_WordsFitting.mono : ∀ a0 a1 k, LeO (spec_WordsFitting.f k a0 a1) (spec_WordsFitting.f (k + 1) a0 a1) := by
  intro a0 a1 k
  have ih0 := spec_WordsFitting.mono_l k; unfold spec_WordsFitting.f
  with_reducible repeat' first
  | exact ih0 _ _ _ _
  | exact spec_FitsPattern.mono _ _ _
  | exact LeO.refl _
  | exact LeO.none _
  | refine LeO.ite ?_ ?_
  | refine LeO.bind ?_ (fun _ => ?_)
set_option maxHeartbeats 8000000 in
set_option maxRecDepth 100000 in
theorem spec_WordsFitting.calls (k : Nat) (A0 : Option Addr) (c0 : Nat) (l0 : List ByteArray) (a1 : ByteArray) (r : List ByteArray) (w : World) (hr0 : Kd.C Kd.string w A0 l0.length l0) (hc0 : l0.length ≤ c0) (h : spec_WordsFitting.f k l0 a1 = some r) :
   Calls Try.prog 65 #[.slice A0 l0.length c0, .string a1] w fun e w' => ∃ v0_ : Value, e = .returned (v0_) ∧ Kd.R Kd.string 9 w' w.heap.size (fun _ => True) v0_ r ∧ Below w.heap.size w w' := by
  have HR0 := Aside0.mk hr0; have HC0 := Aside0.mk hc0; clear hr0 hc0; have HB := Aside0.mk (Below.refl w.heap.size w); have H : (spec_WordsFitting.l0 k l0 a1 (([] : List ByteArray)) 0) = some r := h; clear h; obtain ⟨y396, hy396⟩ : ∃ y_ : List ByteArray, y_ = (([] : List ByteArray)) := ⟨_, rfl⟩; replace H : (spec_WordsFitting.l0 k l0 a1 y396 0) = some r := by first | (rw [hy396]; with_reducible exact H) | (have H2_ := (Option.bind_some _ _).symm.trans H; rw [hy396]; with_reducible exact H2_) | (have H2_ := (Option.bind_some _ _).symm.trans H; with_reducible exact H2_) | with_reducible exact H | (rw [hy396]; exact H) | exact H
  have Ny396 := Aside0.mk hy396; clear hy396; have H' := Aside0.mk H
  clear H; go_enter Try.func65, Try.ntmps65
  go_wp2_with (first | ((with_reducible refine gate_dst (N := 7) rfl ?_); refine Kd.R_lit Kd.string _ 9 ?hg (N := 7) ?hd (xs := ([] : List ByteArray)) (inner := []) (ok := fun _ => True) (okp := fun _ => True) ?hr ?hp (fun _ hk => hk) trivial (Below.refl _ _) (Nat.le_refl _) (by simp) ?_; (case hd => rfl); (case hg => rfl); (case hr => first | (go_simp; done) | (go_simp; rfl)); (case hp => exact (Reps.none _ _)); intro v397 w3 ho4 hb hg_ hnew_; clear hg_ hnew_; (first | rw [← Ny396.out] at ho4 | (simp only [Int.reduceToNat] at ho4; rw [← Ny396.out] at ho4)); have HO398 := Aside0.mk (Kd.R_lower ho4 (below_size z18_0)); replace HB := Aside0.mk (below_step z18_0 hb); clear hb ho4))
  go_loopg [5, 6] k (fun kq v5 v6 w' => ∃ (x5_1 : List ByteArray) (x6_1 : Int), v6 = .int .i64 x6_1 ∧ Aside0 (spec_WordsFitting.l0 kq l0 a1 x5_1 x6_1 = some r) ∧ Aside0 (kq ≤ k) ∧ Aside0 (Kd.R Kd.string 9 w' w.heap.size (fun _ => True) v5 x5_1) ∧ Aside0 (Below w.heap.size w w'))
  case atStart => exact ⟨(y396), (0), z18_5, H', ⟨Nat.le_refl _⟩, ⟨by (with_reducible repeat (first | apply Kd.R_alloc | apply Kd.R_drewN | apply Kd.R_drew)); exact HO398.out⟩, ⟨z18_0⟩⟩
  case round =>
   clear H'; try clear p2
   obtain ⟨x5_1, x6_1, rfl, HA, HK1, HO_5, HB⟩ := hrel
   cases gk with
   | zero => exact absurd HA.out (by simp [spec_WordsFitting.l0])
   | succ k1 =>
    have H := HA.out; clear HA; simp only [spec_WordsFitting.l0] at H; by_cases c5 : x6_1 < (l0.length : Int)
    ·rw [if_pos c5] at H
     have c5b0 : decide (x6_1 < (l0.length : Int)) = true := decide_eq_true c5; clear c5; by_cases c6 : 0 ≤ x6_1
     ·rw [if_pos c6] at H
      have c6b0 : decide (0 ≤ x6_1) = true := decide_eq_true c6; clear c6; replace H := Option.bind_eq_some_iff.mp H; obtain ⟨t400, A70, H⟩ := H; try dsimp only at H
      have A7 := Aside0.mk A70; clear A70; by_cases c8 : t400 = true
      ·subst c8; rw [if_pos rfl] at H
       by_cases c9 : x5_1.length < 8796093022208
       ·rw [if_pos c9] at H
        have LMc9 := Aside0.mk c9; clear c9; obtain ⟨y402, hy402⟩ : ∃ y_ : List ByteArray, y_ = (x5_1 ++ [rdOf ByteArray.empty l0 x6_1]) := ⟨_, rfl⟩; replace H : (spec_WordsFitting.l0 k1 l0 a1 y402 (wrap64 (x6_1 + 1))) = some r := by first | (rw [hy402]; with_reducible exact H) | (have H2_ := (Option.bind_some _ _).symm.trans H; rw [hy402]; with_reducible exact H2_) | (have H2_ := (Option.bind_some _ _).symm.trans H; with_reducible exact H2_) | with_reducible exact H | (rw [hy402]; exact H) | exact H
        have Ny402 := Aside0.mk hy402; clear hy402; have H' := Aside0.mk H
        clear H; have p399 : 0 ≤ (x6_1 : Int) := of_decide_eq_true z18_6; have q399 : x6_1 < (l0.length : Int) := of_decide_eq_true z18_6; obtain ⟨ad399, e399, hx399_0⟩ := Kd.at_string HR0.out x6_1 p399 q399
        cases e399; try replace hx399_0 := (HB.out.cell (World.block_lt_of_cell? w _ hx399_0)).trans hx399_0
        replace p399 := eq_true p399; replace q399 := eq_true q399; go_wp2_with (first | ((with_reducible refine gate_callee (f := 101) rfl ?_); refine goesL_ (some 19) rfl rfl Try.func101 (by kernel_rfl) rfl #[.string a1, .string (rdOf ByteArray.empty l0 x6_1)] rfl z18_3 ?_; (with_reducible refine (spec_FitsPattern.calls k1 a1 (rdOf ByteArray.empty l0 x6_1) true _ A7.out).mono ?_); rintro e w' ⟨rfl, ⟨nd, rfl⟩⟩; refine ⟨_, rfl, ?_⟩; have p401 : 0 ≤ (x6_1 : Int) := of_decide_eq_true z18_6; have q401 : x6_1 < (l0.length : Int) := of_decide_eq_true z18_6; obtain ⟨ad401, e401, hx401_0⟩ := Kd.at_string HR0.out x6_1 p401 q401; obtain rfl : ad399 = ad401 := (by injection e401); replace hx401_0 := (HB.out.cell (World.block_lt_of_cell? w _ hx401_0)).trans hx401_0; replace p401 := eq_true p401; replace q401 := eq_true q401) | ((with_reducible refine gate_builtin (b := .append) (xs := #[.tmp 20, .tmp 25]) rfl ?_); at_builtin; refine Kd.R_append Kd.string (w0 := w) w.heap.size rfl (.tmp 20) (.tmp 25) 24 9 (.string ⟨#[]⟩) 16 rfl Try.underlying24 info9 rfl (by decide) (by omega) u5 x5_1 (rdOf ByteArray.empty l0 x6_1) [.string (rdOf ByteArray.empty l0 x6_1)] (fun _ => True) (fun _ => False) rfl rfl ?aP (fun _ hk => hk.elim) ?aF ?aO ?aB ?aS ?aL ?_; (case aP => exact rfl); (case aB => exact z18_0); (case aF => exact (fun _ _ => trivial)); (case aO => exact (kd18_ HO_5.out)); (case aS => exact (below_size z18_0)); (case aL => have := LMc9.out; omega); intro v403 w10 ho hb hg hat; rw [← Ny402.out] at ho; have n0_ := Aside0.mk (hb); have n1_ := Aside0.mk (ho); clear HB; clear HO_5; have HB := n0_; have HO404 := n1_; clear n0_ n1_; clear ho hb hg hat))
        go_roundg k1
        case measure => have := HK1.out; omega
        case rel => exact ⟨(y402), (wrap64 (x6_1 + 1)), z18_5, H', ⟨by have := HK1.out; omega⟩, ⟨by (with_reducible repeat (first | apply Kd.R_alloc | apply Kd.R_drewN | apply Kd.R_drew)); exact HO404.out⟩, ⟨z18_0⟩⟩
       ·rw [if_neg c9] at H
        exact absurd H (by simp)
      ·replace c8 := Bool.eq_false_iff.mpr c8; subst c8; rw [if_neg (show ¬ (false = true) by decide)] at H
       have H' := Aside0.mk H
       clear H; have p399 : 0 ≤ (x6_1 : Int) := of_decide_eq_true z18_6; have q399 : x6_1 < (l0.length : Int) := of_decide_eq_true z18_6; obtain ⟨ad399, e399, hx399_0⟩ := Kd.at_string HR0.out x6_1 p399 q399
       cases e399; try replace hx399_0 := (HB.out.cell (World.block_lt_of_cell? w _ hx399_0)).trans hx399_0
       replace p399 := eq_true p399; replace q399 := eq_true q399; go_wp2_with (first | ((with_reducible refine gate_callee (f := 101) rfl ?_); refine goesL_ (some 19) rfl rfl Try.func101 (by kernel_rfl) rfl #[.string a1, .string (rdOf ByteArray.empty l0 x6_1)] rfl z18_3 ?_; (with_reducible refine (spec_FitsPattern.calls k1 a1 (rdOf ByteArray.empty l0 x6_1) false _ A7.out).mono ?_); rintro e w' ⟨rfl, ⟨nd, rfl⟩⟩; refine ⟨_, rfl, ?_⟩))
       go_roundg k1
       case measure => have := HK1.out; omega
       case rel => exact ⟨(x5_1), (wrap64 (x6_1 + 1)), z18_5, H', ⟨by have := HK1.out; omega⟩, ⟨by (with_reducible repeat (first | apply Kd.R_alloc | apply Kd.R_drewN | apply Kd.R_drew)); exact HO_5.out⟩, ⟨z18_0⟩⟩
     ·rw [if_neg c6] at H
      exact absurd H (by simp)
    ·rw [if_neg c5] at H
     have c5b0 : decide (x6_1 < (l0.length : Int)) = false := decide_eq_false c5; clear c5; obtain rfl := Option.some.inj H; go_wp2
     go_ret
     exact ⟨_, by first | rfl | (simp [errW_none, errW_some] <;> rfl) | (simp [*, errW_none, errW_some] <;> rfl), by (with_reducible repeat (first | apply Kd.R_alloc | apply Kd.R_drewN | apply Kd.R_drew)); exact HO_5.out, z18_0⟩

/-! ### spec_DomainsOf: function 31 -/
mutual
def spec_DomainsOf.l0 : Nat → ByteArray → List ByteArray → List (List ByteArray) → List (S65) → Int → Int → Int → ByteArray → Option ((List (List ByteArray)))
  | 0, _, _, _, _, _, _, _, _ => none
  | k + 1, x1, x2, x7, x8, x9, x406000, x406001, x406002 => if x9 < (x8.length : Int) then ((spec_IsFill.f k x406000 x406001 x406002 x1).bind fun t412 => (spec_DomainsOf.j1 k x1 x2 x7 x8 x9 t412 x406000 x406001 x406002)) else (spec_DomainsOf.j1 k x1 x2 x7 x8 x9 false x406000 x406001 x406002)
def spec_DomainsOf.j1 : Nat → ByteArray → List ByteArray → List (List ByteArray) → List (S65) → Int → Bool → Int → Int → ByteArray → Option ((List (List ByteArray)))
  | 0, _, _, _, _, _, _, _, _, _ => none
  | k + 1, x1, x2, x7, x8, x9, x21, x406000, x406001, x406002 => if x21 = true then ((spec_SlotPattern.f k x406000 x406001 x406002 x1 x9).bind fun t413 => ((spec_WordsFitting.f k x2 t413).bind fun t414 => (if x7.length < 5864062014805 then (spec_DomainsOf.l0 k x1 x2 (x7 ++ [t414]) x8 (wrap64 (x9 + 1)) x406000 x406001 x406002) else (none)))) else (some x7)
end
def spec_DomainsOf.f (k : Nat) (a0_0 : Int) (a0_1 : Int) (a0_2 : ByteArray) (a1 : ByteArray) (l2 : List ByteArray) : Option ((List (List ByteArray))) := (spec_SlotsOf.f k a0_0 a0_1 a0_2).bind fun t409 => (spec_DomainsOf.l0 k a1 l2 (([] : List (List ByteArray))) t409 0 a0_0 a0_1 a0_2)
theorem spec_DomainsOf.mono_l : ∀ k, (∀ y0 y1 y2 y3 y4 y5 y6 y7, LeO (spec_DomainsOf.l0 k y0 y1 y2 y3 y4 y5 y6 y7) (spec_DomainsOf.l0 (k + 1) y0 y1 y2 y3 y4 y5 y6 y7)) ∧ (∀ y0 y1 y2 y3 y4 y5 y6 y7 y8, LeO (spec_DomainsOf.j1 k y0 y1 y2 y3 y4 y5 y6 y7 y8) (spec_DomainsOf.j1 (k + 1) y0 y1 y2 y3 y4 y5 y6 y7 y8))
  | 0 => ⟨fun _ _ _ _ _ _ _ _ r h => by simp [spec_DomainsOf.l0] at h, fun _ _ _ _ _ _ _ _ _ r h => by simp [spec_DomainsOf.j1] at h⟩
  | k + 1 => by
   obtain ⟨ih0, ih1⟩ := spec_DomainsOf.mono_l k; refine ⟨?_, ?_⟩
   ·intro y0 y1 y2 y3 y4 y5 y6 y7
    unfold spec_DomainsOf.l0
    with_reducible repeat' first
    | exact ih0 _ _ _ _ _ _ _ _
    | exact ih1 _ _ _ _ _ _ _ _ _
    | exact spec_IsFill.mono _ _ _ _ _
    | exact spec_SlotPattern.mono _ _ _ _ _ _
    | exact spec_SlotsOf.mono _ _ _ _
    | exact spec_WordsFitting.mono _ _ _
    | exact LeO.refl _
    | exact LeO.none _
    | refine LeO.ite ?_ ?_
    | refine LeO.bind ?_ (fun _ => ?_)
   ·intro y0 y1 y2 y3 y4 y5 y6 y7 y8
    unfold spec_DomainsOf.j1
    with_reducible repeat' first
    | exact ih0 _ _ _ _ _ _ _ _
    | exact ih1 _ _ _ _ _ _ _ _ _
    | exact spec_IsFill.mono _ _ _ _ _
    | exact spec_SlotPattern.mono _ _ _ _ _ _
    | exact spec_SlotsOf.mono _ _ _ _
    | exact spec_WordsFitting.mono _ _ _
    | exact LeO.refl _
    | exact LeO.none _
    | refine LeO.ite ?_ ?_
    | refine LeO.bind ?_ (fun _ => ?_)
theorem spec_DomainsOf.mono : ∀ a0 a1 a2 a3 a4 k, LeO (spec_DomainsOf.f k a0 a1 a2 a3 a4) (spec_DomainsOf.f (k + 1) a0 a1 a2 a3 a4) := by
  intro a0 a1 a2 a3 a4 k
  obtain ⟨ih0, ih1⟩ := spec_DomainsOf.mono_l k; unfold spec_DomainsOf.f
  with_reducible repeat' first
  | exact ih0 _ _ _ _ _ _ _ _
  | exact ih1 _ _ _ _ _ _ _ _ _
  | exact spec_IsFill.mono _ _ _ _ _
  | exact spec_SlotPattern.mono _ _ _ _ _ _
  | exact spec_SlotsOf.mono _ _ _ _
  | exact spec_WordsFitting.mono _ _ _
  | exact LeO.refl _
  | exact LeO.none _
  | refine LeO.ite ?_ ?_
  | refine LeO.bind ?_ (fun _ => ?_)
set_option maxHeartbeats 8000000 in
set_option maxRecDepth 100000 in
theorem spec_DomainsOf.calls (k : Nat) (a0_0 : Int) (a0_1 : Int) (a0_2 : ByteArray) (a1 : ByteArray) (A2 : Option Addr) (c2 : Nat) (l2 : List ByteArray) (r : List (List ByteArray)) (w : World) (hr2 : Kd.C Kd.string w A2 l2.length l2) (hc2 : l2.length ≤ c2) (h : spec_DomainsOf.f k a0_0 a0_1 a0_2 a1 l2 = some r) :
   Calls Try.prog 31 #[.agg #[.int .i64 a0_0, .int .i64 a0_1, .string a0_2], .string a1, .slice A2 l2.length c2] w fun e w' => ∃ v0_ : Value, e = .returned (v0_) ∧ Kd.S (Kd.slice 9 Kd.string) 24 w' w.heap.size (fun _ => True) v0_ r ∧ Below w.heap.size w w' := by
  have hu28 := Try.underlying28; have HR2 := Aside0.mk hr2; have HC2 := Aside0.mk hc2; clear hr2 hc2; have HB := Aside0.mk (Below.refl w.heap.size w); have H : ((spec_SlotsOf.f k a0_0 a0_1 a0_2).bind fun t409 => (spec_DomainsOf.l0 k a1 l2 (([] : List (List ByteArray))) t409 0 a0_0 a0_1 a0_2)) = some r := h; clear h; obtain ⟨y406, hy406⟩ : ∃ y_ : List (List ByteArray), y_ = (([] : List (List ByteArray))) := ⟨_, rfl⟩; replace H : ((spec_SlotsOf.f k a0_0 a0_1 a0_2).bind fun t409 => (spec_DomainsOf.l0 k a1 l2 y406 t409 0 a0_0 a0_1 a0_2)) = some r := by first | (rw [hy406]; with_reducible exact H) | (have H2_ := (Option.bind_some _ _).symm.trans H; rw [hy406]; with_reducible exact H2_) | (have H2_ := (Option.bind_some _ _).symm.trans H; with_reducible exact H2_) | with_reducible exact H | (rw [hy406]; exact H) | exact H
  have Ny406 := Aside0.mk hy406; clear hy406; replace H := Option.bind_eq_some_iff.mp H; obtain ⟨t409, A40, H⟩ := H; try dsimp only at H
  have A4 := Aside0.mk A40; clear A40; have H' := Aside0.mk H
  clear H; go_enter Try.func31, Try.ntmps31
  go_wp2_with (first | ((with_reducible refine gate_dst (N := 3) rfl ?_); refine box_event ?hg (N := 3) ?hd (cs := #[.int .i64 a0_0, .int .i64 a0_1, .string a0_2]) (t := 28) ?hr ?_; (case hd => rfl); (case hg => rfl); (case hr => first | (go_simp; done) | (go_simp; rfl)); intro gb405 hg w5 hbox hb; have BK405 := Aside0.mk (hbox); have GW405 := Aside0.mk ((by rw [hg]; exact (below_size z18_0) : w.heap.size ≤ gb405)); have GE405 := Aside0.mk ((by rw [hg]; exact (below_size z18_0) : w.heap.size ≤ gb405)); replace HB := Aside0.mk (below_step z18_0 hb); clear hb hbox hg) | ((with_reducible refine gate_dst (N := 10) rfl ?_); refine Kd.S_lit (Kd.slice 9 Kd.string) _ 24 ?hg (N := 10) ?hd (xs := ([] : List (List ByteArray))) (inner := []) (ok := fun _ => True) (okp := fun _ => True) ?hr ?hp (fun _ hk => hk) trivial (Below.refl _ _) (Nat.le_refl _) (by simp) ?_; (case hd => rfl); (case hg => rfl); (case hr => first | (go_simp; done) | (go_simp; rfl)); (case hp => exact (Reps.none _ _)); intro v407 w6 ho7 hb hg_ hnew_; clear hg_ hnew_; (first | rw [← Ny406.out] at ho7 | (simp only [Int.reduceToNat] at ho7; rw [← Ny406.out] at ho7)); have HO408 := Aside0.mk (Kd.S_lower ho7 (below_size z18_1)); replace BK405 := Aside0.mk (blk_below (g := gb405) (o := .cells #[.int .i64 a0_0, .int .i64 a0_1, .string a0_2] 28 (0, 0)) (bd18_ BK405.out) hb); replace HB := Aside0.mk (below_step z18_1 hb); clear hb ho7; obtain ⟨hcz8_0, hcz8_1, hcz8_2, hfz8_0, hfz8_1, hfz8_2⟩ := bc3_18_ BK405.out) | ((with_reducible refine gate_callee (f := 45) rfl ?_); refine goesL_ (some 12) rfl rfl Try.func45 (by kernel_rfl) rfl #[.agg #[.int .i64 a0_0, .int .i64 a0_1, .string a0_2]] rfl z18_3 ?_; (with_reducible refine (spec_SlotsOf.calls k a0_0 a0_1 a0_2 t409 _ A4.out).mono ?_); rintro e w9 ⟨v410, rfl, ho0, hb⟩; refine ⟨_, rfl, ?_⟩; replace HO408 := Aside0.mk (Kd.S_below (by (with_reducible repeat (first | apply Kd.S_alloc | apply Kd.S_drewN | apply Kd.S_drew)); exact HO408.out) hb); have HO411 := Aside0.mk (Kd.R_lower ho0 (below_size z18_1)); replace BK405 := Aside0.mk (blk_below (g := gb405) (o := .cells #[.int .i64 a0_0, .int .i64 a0_1, .string a0_2] 28 (0, 0)) (bd18_ BK405.out) hb); replace HB := Aside0.mk (below_step z18_1 hb); (try clear hb); (try clear ho0)))
  go_loopg [7, 9] k (fun kq v7 v9 w' => ∃ (x7_1 : List (List ByteArray)) (x9_1 : Int), v9 = .int .i64 x9_1 ∧ Aside0 (spec_DomainsOf.l0 kq a1 l2 x7_1 t409 x9_1 a0_0 a0_1 a0_2 = some r) ∧ Aside0 (kq ≤ k) ∧ Aside0 (Kd.S (Kd.slice 9 Kd.string) 24 w' w.heap.size (fun _ => True) v7 x7_1) ∧ Aside0 (Kd.R k65 65 w' w.heap.size (fun _ => True) v410 t409) ∧ Aside0 (w'.heap[gb405]? = some (.cells #[.int .i64 a0_0, .int .i64 a0_1, .string a0_2] 28 (0, 0))) ∧ Aside0 (Below w.heap.size w w'))
  case atStart => exact ⟨(y406), (0), z18_5, H', ⟨Nat.le_refl _⟩, ⟨by (with_reducible repeat (first | apply Kd.S_alloc | apply Kd.S_drewN | apply Kd.S_drew)); exact HO408.out⟩, ⟨by (with_reducible repeat (first | apply Kd.R_alloc | apply Kd.R_drewN | apply Kd.R_drew)); exact HO411.out⟩, ⟨by (with_reducible repeat (first | refine blk_drewN ?_ _ | refine blk_drew ?_ | refine blk_alloc ?_ _)); exact BK405.out⟩, ⟨z18_1⟩⟩
  case round =>
   clear H'; try clear c2
   try clear p2
   try clear c3
   try clear c4
   try clear hcz8_0
   try clear hcz8_1
   try clear hcz8_2
   try clear hfz8_0
   try clear hfz8_1
   try clear hfz8_2
   obtain ⟨x7_1, x9_1, rfl, HA, HK1, HO_7, HO_8, BK405, HB⟩ := hrel
   cases gk with
   | zero => exact absurd HA.out (by simp [spec_DomainsOf.l0])
   | succ k1 =>
    have H := HA.out; clear HA; simp only [spec_DomainsOf.l0] at H; have HC10 := Aside0.mk H; clear H; go_upto_region 4 with (fail)
    go_cut [21] (fun v21 wc => ∃ (kq : Nat) (x21_9 : Bool), v21 = .bool x21_9 ∧ Aside0 (spec_DomainsOf.j1 kq a1 l2 x7_1 t409 x9_1 x21_9 a0_0 a0_1 a0_2 = some r) ∧ Aside0 (kq ≤ k1) ∧ Aside0 (Kd.S (Kd.slice 9 Kd.string) 24 wc w.heap.size (fun _ => True) u7 x7_1) ∧ Aside0 (Kd.R k65 65 wc w.heap.size (fun _ => True) v410 t409) ∧ Aside0 (wc.heap[gb405]? = some (.cells #[.int .i64 a0_0, .int .i64 a0_1, .string a0_2] 28 (0, 0))) ∧ Aside0 (Below w.heap.size w wc))
    case first =>
     have H := HC10.out; clear HC10; by_cases c11 : x9_1 < (t409.length : Int)
     ·rw [if_pos c11] at H
      have c11b0 : decide (x9_1 < (t409.length : Int)) = true := decide_eq_true c11; clear c11; (first | rw [c11b0] | (simp only [i64_w, i32_w]; rw [c11b0]) | skip)
      replace H := Option.bind_eq_some_iff.mp H; obtain ⟨t412, A120, H⟩ := H; try dsimp only at H
      have A12 := Aside0.mk A120; clear A120; have H' := Aside0.mk H
      clear H; obtain ⟨Ao13, co13, eo13⟩ := Kd.R_slice HO_8.out; subst eo13; obtain ⟨hcz14_0, hcz14_1, hcz14_2, hfz14_0, hfz14_1, hfz14_2⟩ := bc3_18_ BK405.out; go_wp2_with (first | (go_at_call 42; (with_reducible refine (spec_IsFill.calls k1 a0_0 a0_1 a0_2 a1 t412 _ A12.out).mono ?_); rintro e w15 ⟨rfl, hb⟩; replace HO_7 := Aside0.mk (Kd.S_below z18_4 hb); replace HO_8 := Aside0.mk (Kd.R_below (kd18_ HO_8.out) hb); replace BK405 := Aside0.mk (blk_below (g := gb405) (o := .cells #[.int .i64 a0_0, .int .i64 a0_1, .string a0_2] 28 (0, 0)) (bd18_ BK405.out) hb); replace HB := Aside0.mk (below_step z18_1 hb); (try clear hb)))
      go_meet
      case rel => exact ⟨_, (t412), z18_5, H', ⟨by have := HK1.out; first | omega | exact Nat.le_refl _⟩, ⟨z18_4⟩, ⟨by (with_reducible repeat (first | apply Kd.R_alloc | apply Kd.R_drewN | apply Kd.R_drew)); exact HO_8.out⟩, ⟨by (with_reducible repeat (first | refine blk_drewN ?_ _ | refine blk_drew ?_ | refine blk_alloc ?_ _)); exact BK405.out⟩, ⟨z18_1⟩⟩
     ·rw [if_neg c11] at H
      have c11b0 : decide (x9_1 < (t409.length : Int)) = false := decide_eq_false c11; clear c11; (first | rw [c11b0] | (simp only [i64_w, i32_w]; rw [c11b0]) | skip)
      have H' := Aside0.mk H
      clear H; obtain ⟨Ao16, co16, eo16⟩ := Kd.R_slice HO_8.out; subst eo16; go_wp2
      go_meet
      case rel => exact ⟨_, (false), z18_5, H', ⟨by have := HK1.out; first | omega | exact Nat.le_refl _⟩, ⟨z18_4⟩, ⟨by (with_reducible repeat (first | apply Kd.R_alloc | apply Kd.R_drewN | apply Kd.R_drew)); exact HO_8.out⟩, ⟨by (with_reducible repeat (first | refine blk_drewN ?_ _ | refine blk_drew ?_ | refine blk_alloc ?_ _)); exact BK405.out⟩, ⟨z18_1⟩⟩
    case rest =>
     clear HC10; try clear c1
     try clear c2
     try clear p2
     try clear c3
     try clear c4
     try clear c11
     try clear c11b0
     try clear hcz14_0
     try clear hcz14_1
     try clear hcz14_2
     try clear hcz8_0
     try clear hcz8_1
     try clear hcz8_2
     try clear hfz14_0
     try clear hfz14_1
     try clear hfz14_2
     try clear hfz8_0
     try clear hfz8_1
     try clear hfz8_2
     try clear p2
     obtain ⟨kq, x21_9, rfl, HA, HJ9, HO_7, HO_8, BK405, HB⟩ := hcut
     cases kq with
     | zero => exact absurd HA.out (by simp [spec_DomainsOf.j1])
     | succ kj9 =>
      have H := HA.out; clear HA; simp only [spec_DomainsOf.j1] at H; by_cases c17 : x21_9 = true
      ·subst c17; rw [if_pos rfl] at H
       replace H := Option.bind_eq_some_iff.mp H; obtain ⟨t413, A180, H⟩ := H; try dsimp only at H
       have A18 := Aside0.mk A180; clear A180; replace H := Option.bind_eq_some_iff.mp H; obtain ⟨t414, A190, H⟩ := H; try dsimp only at H
       have A19 := Aside0.mk A190; clear A190; by_cases c20 : x7_1.length < 5864062014805
       ·rw [if_pos c20] at H
        have LMc20 := Aside0.mk c20; clear c20; obtain ⟨y417, hy417⟩ : ∃ y_ : List (List ByteArray), y_ = (x7_1 ++ [t414]) := ⟨_, rfl⟩; replace H : (spec_DomainsOf.l0 kj9 a1 l2 y417 t409 (wrap64 (x9_1 + 1)) a0_0 a0_1 a0_2) = some r := by first | (rw [hy417]; with_reducible exact H) | (have H2_ := (Option.bind_some _ _).symm.trans H; rw [hy417]; with_reducible exact H2_) | (have H2_ := (Option.bind_some _ _).symm.trans H; with_reducible exact H2_) | with_reducible exact H | (rw [hy417]; exact H) | exact H
        have Ny417 := Aside0.mk hy417; clear hy417; have H' := Aside0.mk H
        clear H; obtain ⟨hcz21_0, hcz21_1, hcz21_2, hfz21_0, hfz21_1, hfz21_2⟩ := bc3_18_ BK405.out; go_wp2_with (first | ((with_reducible refine gate_callee (f := 66) rfl ?_); refine goesL_ (some 29) rfl rfl Try.func66 (by kernel_rfl) rfl #[.agg #[.int .i64 a0_0, .int .i64 a0_1, .string a0_2], .string a1, .int .i64 x9_1] rfl z18_3 ?_; (with_reducible refine (spec_SlotPattern.calls kj9 a0_0 a0_1 a0_2 a1 x9_1 t413 _ A18.out).mono ?_); rintro e w22 ⟨rfl, hb⟩; refine ⟨_, rfl, ?_⟩; replace HO_7 := Aside0.mk (Kd.S_below z18_4 hb); replace HO_8 := Aside0.mk (Kd.R_below (kd18_ HO_8.out) hb); replace BK405 := Aside0.mk (blk_below (g := gb405) (o := .cells #[.int .i64 a0_0, .int .i64 a0_1, .string a0_2] 28 (0, 0)) (bd18_ BK405.out) hb); replace HB := Aside0.mk (below_step z18_1 hb); (try clear hb)) | ((with_reducible refine gate_callee (f := 65) rfl ?_); refine goesL_ (some 30) rfl rfl Try.func65 (by kernel_rfl) rfl #[.slice A2 l2.length c2, .string t413] rfl z18_3 ?_; (with_reducible refine (spec_WordsFitting.calls kj9 _ _ l2 t413 t414 _ ?side1 ?side2 A19.out).mono ?_); (case side1 => repeat (first | exact (Kd.C_below HR2.out HB.out) | (with_reducible refine Kd.C_alloc ?_ _) | (with_reducible refine Kd.C_drewN ?_ _) | (with_reducible refine Kd.C_drew ?_))); (case side2 => exact HC2.out); rintro e w23 ⟨v415, rfl, ho0, hb⟩; refine ⟨_, rfl, ?_⟩; replace HO_7 := Aside0.mk (Kd.S_elder' z18_4 (Kd.R_base ho0) hb); replace HO_8 := Aside0.mk (Kd.R_below (kd18_ HO_8.out) hb); have HO416 := Aside0.mk (Kd.R_lower ho0 (below_size z18_1)); replace BK405 := Aside0.mk (blk_below (g := gb405) (o := .cells #[.int .i64 a0_0, .int .i64 a0_1, .string a0_2] 28 (0, 0)) (bd18_ BK405.out) hb); replace HB := Aside0.mk (below_step z18_1 hb); (try clear hb); (try clear ho0); obtain ⟨Ao25, co25, eo25⟩ := Kd.R_slice HO416.out; subst eo25) | ((with_reducible refine gate_builtin (b := .append) (xs := #[.tmp 24, .tmp 31]) rfl ?_); at_builtin; refine Kd.S_append (Kd.slice 9 Kd.string) (w0 := w) w.heap.size rfl (.tmp 24) (.tmp 31) 48 24 (.slice none 0 0) 24 rfl Try.underlying48 info24 rfl (by decide) (by omega) u7 x7_1 t414 [.slice Ao25 t414.length co25] (fun _ => True) (fun k_ => some k_ = (.slice Ao25 t414.length co25 : Value).ownBlock) rfl rfl ?aP (fun k_ hk_ => ((Kd.R_mono (ok' := fun k_ => ((fun _ => True)) k_ ∧ some k_ ≠ (u7 : Value).ownBlock) (Kd.R_apart' (HO416.out) (Kd.S_typed HO_7.out) (by decide)) (fun k_ hk => ⟨trivial, hk.2⟩))).1 k_ hk_.symm) ?aF ?aO ?aB ?aS ?aL ?_; (case aP => exact Kd.M_row (Kd.R_mono (Kd.R_tight rfl (Kd.R_mono (ok' := fun k_ => ((fun _ => True)) k_ ∧ some k_ ≠ (u7 : Value).ownBlock) (Kd.R_apart' (HO416.out) (Kd.S_typed HO_7.out) (by decide)) (fun k_ hk => ⟨trivial, hk.2⟩))) (fun _ h_ => h_))); (case aB => exact z18_1); (case aF => exact (fun _ _ => trivial)); (case aO => exact (by (with_reducible repeat (first | apply Kd.S_alloc | apply Kd.S_drewN | apply Kd.S_drew)); exact Kd.S_mono HO_7.out (fun k_ hk => ⟨trivial, fun e_ => hk.2 e_⟩))); (case aS => exact (below_size z18_1)); (case aL => have := LMc20.out; omega); intro v418 w24 ho hb hg hat; rw [← Ny417.out] at ho; have n0_ := Aside0.mk (Kd.R_over' (kd18_ HO_8.out) (Kd.S_typed z18_4) (by decide) hg); have n1_ := Aside0.mk (blk_grown (g := gb405) (o := .cells #[.int .i64 a0_0, .int .i64 a0_1, .string a0_2] 28 (0, 0)) (bd18_ BK405.out) hg (Kd.S_ne HO_7.out BK405.out (by decide))); have n2_ := Aside0.mk (hb); have n3_ := Aside0.mk (ho); clear HO_8; clear BK405; clear HB; clear HO_7; clear HO416; have HO_8 := n0_; have BK405 := n1_; have HB := n2_; have HO419 := n3_; clear n0_ n1_ n2_ n3_; clear ho hb hg hat))
        go_roundg kj9
        case measure => have := HK1.out; have := HJ9.out; omega
        case rel => exact ⟨(y417), (wrap64 (x9_1 + 1)), z18_5, H', ⟨by have := HK1.out; have := HJ9.out; omega⟩, ⟨by (with_reducible repeat (first | apply Kd.S_alloc | apply Kd.S_drewN | apply Kd.S_drew)); exact HO419.out⟩, ⟨by (with_reducible repeat (first | apply Kd.R_alloc | apply Kd.R_drewN | apply Kd.R_drew)); exact HO_8.out⟩, ⟨by (with_reducible repeat (first | refine blk_drewN ?_ _ | refine blk_drew ?_ | refine blk_alloc ?_ _)); exact BK405.out⟩, ⟨z18_1⟩⟩
       ·rw [if_neg c20] at H
        exact absurd H (by simp)
      ·replace c17 := Bool.eq_false_iff.mpr c17; subst c17; rw [if_neg (show ¬ (false = true) by decide)] at H
       obtain rfl := Option.some.inj H; go_wp2
       go_ret
       exact ⟨_, by first | rfl | (simp [errW_none, errW_some] <;> rfl) | (simp [*, errW_none, errW_some] <;> rfl), z18_4, z18_1⟩

/-! ### impl_copyDomains: function 67 -/
def impl_copyDomains.l0 : Nat → List (List ByteArray) → List (List ByteArray) → Int → Int → Option ((List (List ByteArray)))
  | 0, _, _, _, _ => none
  | k + 1, x3, x6, x7, x8 => if x8 < x7 then (if 0 ≤ x8 then (if x8 < (x6.length : Int) then ((slices_Clone_string_string.f (rd_L7 x6 x8)).bind fun t421 => (if x3.length < 5864062014805 then (impl_copyDomains.l0 k (x3 ++ [t421]) x6 x7 (wrap64 (x8 + 1))) else (none))) else (none)) else (none)) else (some x3)
def impl_copyDomains.f (k : Nat) (l0 : List (List ByteArray)) : Option ((List (List ByteArray))) := impl_copyDomains.l0 k ([] : List (List ByteArray)) l0 (l0.length : Int) 0
theorem impl_copyDomains.mono_l : ∀ k, (∀ y0 y1 y2 y3, LeO (impl_copyDomains.l0 k y0 y1 y2 y3) (impl_copyDomains.l0 (k + 1) y0 y1 y2 y3))
  | 0 => fun _ _ _ _ r h => by simp [impl_copyDomains.l0] at h
  | k + 1 => by
   have ih0 := impl_copyDomains.mono_l k
   ·intro y0 y1 y2 y3
    unfold impl_copyDomains.l0
    with_reducible repeat' first
    | exact ih0 _ _ _ _
    | exact LeO.refl _
    | exact LeO.none _
    | refine LeO.ite ?_ ?_
    | refine LeO.bind ?_ (fun _ => ?_)
theorem impl_copyDomains.mono : ∀ a0 k, LeO (impl_copyDomains.f k a0) (impl_copyDomains.f (k + 1) a0) := by
  intro a0 k
  have ih0 := impl_copyDomains.mono_l k; unfold impl_copyDomains.f
  with_reducible repeat' first
  | exact ih0 _ _ _ _
  | exact LeO.refl _
  | exact LeO.none _
  | refine LeO.ite ?_ ?_
  | refine LeO.bind ?_ (fun _ => ?_)
set_option maxHeartbeats 8000000 in
set_option maxRecDepth 100000 in
theorem impl_copyDomains.calls (k : Nat) (A0 : Option Addr) (c0 : Nat) (l0 : List (List ByteArray)) (r : List (List ByteArray)) (w : World) (hr0 : Kd.C (Kd.slice 9 Kd.string) w A0 l0.length l0) (hc0 : l0.length ≤ c0) (h : impl_copyDomains.f k l0 = some r) :
   Calls Try.prog 67 #[.slice A0 l0.length c0] w fun e w' => ∃ v0_ : Value, e = .returned (v0_) ∧ Kd.S (Kd.slice 9 Kd.string) 24 w' w.heap.size (fun _ => True) v0_ r ∧ Below w.heap.size w w' := by
  have HR0 := Aside0.mk hr0; have HC0 := Aside0.mk hc0; clear hr0 hc0; have HB := Aside0.mk (Below.refl w.heap.size w); have H : (impl_copyDomains.l0 k ([] : List (List ByteArray)) l0 (l0.length : Int) 0) = some r := h; clear h; have H' := Aside0.mk H
  clear H; go_enter Try.func67, Try.ntmps67
  go_wp2
  go_loopg [3, 8] k (fun kq v3 v8 w' => ∃ (x3_1 : List (List ByteArray)) (x8_1 : Int), v8 = .int .i64 x8_1 ∧ Aside0 (impl_copyDomains.l0 kq x3_1 l0 (l0.length : Int) x8_1 = some r) ∧ Aside0 (kq ≤ k) ∧ Aside0 (Kd.S (Kd.slice 9 Kd.string) 24 w' w.heap.size (fun _ => True) v3 x3_1) ∧ Aside0 (Below w.heap.size w w'))
  case atStart => exact ⟨(([] : List (List ByteArray))), (0), z18_5, H', ⟨Nat.le_refl _⟩, ⟨by first | exact Kd.S_nil _ _ _ _ _ | exact Kd.N_nil _ _ _ _ _ | exact Kd.V_nil _ _ _ _ _ | exact Kd.Q_nil _ _ _ _ _ | exact Kd.R_nil _ _ _ _ _⟩, ⟨z18_0⟩⟩
  case round =>
   clear H'; obtain ⟨x3_1, x8_1, rfl, HA, HK1, HO_3, HB⟩ := hrel
   cases gk with
   | zero => exact absurd HA.out (by simp [impl_copyDomains.l0])
   | succ k1 =>
    have H := HA.out; clear HA; simp only [impl_copyDomains.l0] at H; by_cases c2 : x8_1 < (l0.length : Int)
    ·rw [if_pos c2] at H
     have c2b0 : decide (x8_1 < (l0.length : Int)) = true := decide_eq_true c2; clear c2; by_cases c3 : 0 ≤ x8_1
     ·rw [if_pos c3] at H
      have c3b0 : decide (0 ≤ x8_1) = true := decide_eq_true c3; clear c3; by_cases c4 : x8_1 < (l0.length : Int)
      ·rw [if_pos c4] at H
       have c4b0 : decide (x8_1 < (l0.length : Int)) = true := decide_eq_true c4; clear c4; replace H := Option.bind_eq_some_iff.mp H; obtain ⟨t421, A50, H⟩ := H; try dsimp only at H
       have A5 := Aside0.mk A50; clear A50; by_cases c6 : x3_1.length < 5864062014805
       ·rw [if_pos c6] at H
        have LMc6 := Aside0.mk c6; clear c6; obtain ⟨y424, hy424⟩ : ∃ y_ : List (List ByteArray), y_ = (x3_1 ++ [t421]) := ⟨_, rfl⟩; replace H : (impl_copyDomains.l0 k1 y424 l0 (l0.length : Int) (wrap64 (x8_1 + 1))) = some r := by first | (rw [hy424]; with_reducible exact H) | (have H2_ := (Option.bind_some _ _).symm.trans H; rw [hy424]; with_reducible exact H2_) | (have H2_ := (Option.bind_some _ _).symm.trans H; with_reducible exact H2_) | with_reducible exact H | (rw [hy424]; exact H) | exact H
        have Ny424 := Aside0.mk hy424; clear hy424; have H' := Aside0.mk H
        clear H; have p420 : 0 ≤ (x8_1 : Int) := of_decide_eq_true z18_6; have q420 : x8_1 < (l0.length : Int) := of_decide_eq_true z18_6; obtain ⟨ad420, A420_0, c420_0, e420, hx420_0, hl420_0, hi420_0⟩ := at_L7 HR0.out x8_1 p420 q420
        cases e420; try replace hx420_0 := (HB.out.cell (World.block_lt_of_cell? w _ hx420_0)).trans hx420_0
        have HR420_0 := Aside0.mk hi420_0; have HC420_0 := Aside0.mk hl420_0; clear hi420_0 hl420_0; replace p420 := eq_true p420; replace q420 := eq_true q420; go_wp2_with (first | ((with_reducible refine gate_callee (f := 91) rfl ?_); refine goesL_ (some 14) rfl rfl Try.func91 (by kernel_rfl) rfl #[.slice A420_0 (rd_L7 l0 x8_1).length c420_0] rfl z18_3 ?_; (with_reducible refine (slices_Clone_string_string.calls _ _ (rd_L7 l0 x8_1) t421 _ ?side1 ?side2 A5.out).mono ?_); (case side1 => repeat (first | exact (Kd.C_below HR420_0.out HB.out) | (with_reducible refine Kd.C_alloc ?_ _) | (with_reducible refine Kd.C_drewN ?_ _) | (with_reducible refine Kd.C_drew ?_))); (case side2 => exact HC420_0.out); rintro e w7 ⟨v422, rfl, ho0, hb⟩; refine ⟨_, rfl, ?_⟩; replace HO_3 := Aside0.mk (Kd.S_elder' (by (with_reducible repeat (first | apply Kd.S_alloc | apply Kd.S_drewN | apply Kd.S_drew)); exact HO_3.out) (Kd.R_base ho0) hb); have HO423 := Aside0.mk (Kd.R_lower ho0 (below_size z18_0)); replace HB := Aside0.mk (below_step z18_0 hb); (try clear hb); (try clear ho0); obtain ⟨Ao9, co9, eo9⟩ := Kd.R_slice HO423.out; subst eo9) | ((with_reducible refine gate_builtin (b := .append) (xs := #[.tmp 12, .tmp 15]) rfl ?_); at_builtin; refine Kd.S_append (Kd.slice 9 Kd.string) (w0 := w) w.heap.size rfl (.tmp 12) (.tmp 15) 48 24 (.slice none 0 0) 24 rfl Try.underlying48 info24 rfl (by decide) (by omega) u3 x3_1 t421 [.slice Ao9 t421.length co9] (fun _ => True) (fun k_ => some k_ = (.slice Ao9 t421.length co9 : Value).ownBlock) rfl rfl ?aP (fun k_ hk_ => ((Kd.R_mono (ok' := fun k_ => ((fun _ => True)) k_ ∧ some k_ ≠ (u3 : Value).ownBlock) (Kd.R_apart' (HO423.out) (Kd.S_typed HO_3.out) (by decide)) (fun k_ hk => ⟨trivial, hk.2⟩))).1 k_ hk_.symm) ?aF ?aO ?aB ?aS ?aL ?_; (case aP => exact Kd.M_row (Kd.R_mono (Kd.R_tight rfl (Kd.R_mono (ok' := fun k_ => ((fun _ => True)) k_ ∧ some k_ ≠ (u3 : Value).ownBlock) (Kd.R_apart' (HO423.out) (Kd.S_typed HO_3.out) (by decide)) (fun k_ hk => ⟨trivial, hk.2⟩))) (fun _ h_ => h_))); (case aB => exact z18_0); (case aF => exact (fun _ _ => trivial)); (case aO => exact (by (with_reducible repeat (first | apply Kd.S_alloc | apply Kd.S_drewN | apply Kd.S_drew)); exact Kd.S_mono HO_3.out (fun k_ hk => ⟨trivial, fun e_ => hk.2 e_⟩))); (case aS => exact (below_size z18_0)); (case aL => have := LMc6.out; omega); intro v425 w8 ho hb hg hat; rw [← Ny424.out] at ho; have n0_ := Aside0.mk (hb); have n1_ := Aside0.mk (ho); clear HB; clear HO_3; clear HO423; have HB := n0_; have HO426 := n1_; clear n0_ n1_; clear ho hb hg hat))
        go_roundg k1
        case measure => have := HK1.out; omega
        case rel => exact ⟨(y424), (wrap64 (x8_1 + 1)), z18_5, H', ⟨by have := HK1.out; omega⟩, ⟨by (with_reducible repeat (first | apply Kd.S_alloc | apply Kd.S_drewN | apply Kd.S_drew)); exact HO426.out⟩, ⟨z18_0⟩⟩
       ·rw [if_neg c6] at H
        exact absurd H (by simp)
      ·rw [if_neg c4] at H
       exact absurd H (by simp)
     ·rw [if_neg c3] at H
      exact absurd H (by simp)
    ·rw [if_neg c2] at H
     have c2b0 : decide (x8_1 < (l0.length : Int)) = false := decide_eq_false c2; clear c2; obtain rfl := Option.some.inj H; go_wp2
     go_ret
     exact ⟨_, by first | rfl | (simp [errW_none, errW_some] <;> rfl) | (simp [*, errW_none, errW_some] <;> rfl), by (with_reducible repeat (first | apply Kd.S_alloc | apply Kd.S_drewN | apply Kd.S_drew)); exact HO_3.out, z18_0⟩

/-! ### slices_Index_int_int: function 102 -/
def slices_Index_int_int.l0 : Nat → List Int → Int → Int → Int → Option (Int)
  | 0, _, _, _, _ => none
  | k + 1, x0, x1, x7, x8 => if x8 < x7 then (if 0 ≤ x8 then (if x8 < (x0.length : Int) then (if x1 = (rd x0 x8) then (some x8) else (slices_Index_int_int.l0 k x0 x1 x7 (wrap64 (x8 + 1)))) else (none)) else (none)) else (some (-1))
def slices_Index_int_int.f (k : Nat) (l0 : List Int) (a1 : Int) : Option (Int) := slices_Index_int_int.l0 k l0 a1 (l0.length : Int) 0
theorem slices_Index_int_int.mono_l : ∀ k, (∀ y0 y1 y2 y3, LeO (slices_Index_int_int.l0 k y0 y1 y2 y3) (slices_Index_int_int.l0 (k + 1) y0 y1 y2 y3))
  | 0 => fun _ _ _ _ r h => by simp [slices_Index_int_int.l0] at h
  | k + 1 => by
   have ih0 := slices_Index_int_int.mono_l k
   ·intro y0 y1 y2 y3
    unfold slices_Index_int_int.l0
    with_reducible repeat' first
    | exact ih0 _ _ _ _
    | exact LeO.refl _
    | exact LeO.none _
    | refine LeO.ite ?_ ?_
    | refine LeO.bind ?_ (fun _ => ?_)
theorem slices_Index_int_int.mono : ∀ a0 a1 k, LeO (slices_Index_int_int.f k a0 a1) (slices_Index_int_int.f (k + 1) a0 a1) := by
  intro a0 a1 k
  have ih0 := slices_Index_int_int.mono_l k; unfold slices_Index_int_int.f
  with_reducible repeat' first
  | exact ih0 _ _ _ _
  | exact LeO.refl _
  | exact LeO.none _
  | refine LeO.ite ?_ ?_
  | refine LeO.bind ?_ (fun _ => ?_)
set_option maxHeartbeats 8000000 in
set_option maxRecDepth 100000 in
theorem slices_Index_int_int.calls (k : Nat) (A0 : Option Addr) (c0 : Nat) (l0 : List Int) (a1 : Int) (r : Int) (w : World) (hr0 : Kd.C (Kd.int .i64) w A0 l0.length l0) (hc0 : l0.length ≤ c0) (h : slices_Index_int_int.f k l0 a1 = some r) :
   Calls Try.prog 102 #[.slice A0 l0.length c0, .int .i64 a1] w fun e w' => e = .returned (.int .i64 r) ∧ Drawn0 w w' := by
  have HR0 := Aside0.mk hr0; have HC0 := Aside0.mk hc0; clear hr0 hc0; have H : (slices_Index_int_int.l0 k l0 a1 (l0.length : Int) 0) = some r := h; clear h; have H' := Aside0.mk H
  clear H; go_enter Try.func102, Try.ntmps102
  go_wp2
  go_loopg [8] k (fun kq v8 w' => ∃ (x8_1 : Int), v8 = .int .i64 x8_1 ∧ Aside0 (slices_Index_int_int.l0 kq l0 a1 (l0.length : Int) x8_1 = some r) ∧ Aside0 (kq ≤ k) ∧ Drawn0 w w')
  case atStart => exact ⟨(0), z18_5, H', ⟨Nat.le_refl _⟩, by repeat (first | exact Drawn0.refl _ | apply Drawn0.step)⟩
  case round =>
   clear H'; try clear c1
   try clear p2
   obtain ⟨x8_1, rfl, HA, HK1, ⟨m1, rfl⟩⟩ := hrel
   cases gk with
   | zero => exact absurd HA.out (by simp [slices_Index_int_int.l0])
   | succ k1 =>
    have H := HA.out; clear HA; simp only [slices_Index_int_int.l0] at H; by_cases c3 : x8_1 < (l0.length : Int)
    ·rw [if_pos c3] at H
     have c3b0 : decide (x8_1 < (l0.length : Int)) = true := decide_eq_true c3; clear c3; by_cases c4 : 0 ≤ x8_1
     ·rw [if_pos c4] at H
      have c4b0 : decide (0 ≤ x8_1) = true := decide_eq_true c4; clear c4; by_cases c5 : x8_1 < (l0.length : Int)
      ·rw [if_pos c5] at H
       have c5b0 : decide (x8_1 < (l0.length : Int)) = true := decide_eq_true c5; clear c5; by_cases c6 : a1 = (rd l0 x8_1)
       ·rw [if_pos c6] at H
        have c6b0 : (a1 == (rd l0 x8_1)) = true := beq_iff_eq.mpr c6; have c6b1 : (a1 != (rd l0 x8_1)) = false := bne_eq_false_iff_eq.mpr c6; clear c6; obtain rfl := Option.some.inj H; have p427 : 0 ≤ (x8_1 : Int) := of_decide_eq_true z18_6; have q427 : x8_1 < (l0.length : Int) := of_decide_eq_true z18_6; obtain ⟨ad427, e427, hx427_0⟩ := Kd.at_int HR0.out x8_1 p427 q427
        cases e427; replace p427 := eq_true p427; replace q427 := eq_true q427; go_wp2
        go_ret
        exact ⟨z18_5, by repeat (first | exact Drawn0.refl _ | apply Drawn0.step)⟩
       ·rw [if_neg c6] at H
        have c6b0 : (a1 == (rd l0 x8_1)) = false := beq_eq_false_iff_ne.mpr c6; have c6b1 : (a1 != (rd l0 x8_1)) = true := bne_iff_ne.mpr c6; have H' := Aside0.mk H
        clear H; have p427 : 0 ≤ (x8_1 : Int) := of_decide_eq_true z18_6; have q427 : x8_1 < (l0.length : Int) := of_decide_eq_true z18_6; obtain ⟨ad427, e427, hx427_0⟩ := Kd.at_int HR0.out x8_1 p427 q427
        cases e427; replace p427 := eq_true p427; replace q427 := eq_true q427; go_wp2
        go_roundg k1
        case measure => have := HK1.out; omega
        case rel => exact ⟨(wrap64 (x8_1 + 1)), z18_5, H', ⟨by have := HK1.out; omega⟩, by repeat (first | exact Drawn0.refl _ | apply Drawn0.step)⟩
      ·rw [if_neg c5] at H
       exact absurd H (by simp)
     ·rw [if_neg c4] at H
      exact absurd H (by simp)
    ·rw [if_neg c3] at H
     have c3b0 : decide (x8_1 < (l0.length : Int)) = false := decide_eq_false c3; clear c3; obtain rfl := Option.some.inj H; go_wp2
     go_ret
     exact ⟨z18_5, by repeat (first | exact Drawn0.refl _ | apply Drawn0.step)⟩

end Go.Proofs.Ytodcckiphdnjeaa.QFnFilled
