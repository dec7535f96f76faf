-- Written by a changed copy of the kit's printer (wip/mp.py of this repo), for this claim; Lean checks it.
import Derived.Test.YtodcckiphdnjeaaQFnPrunedx0
import Derived.Test.YtodcckiphdnjeaaQFnPrunedx4
import Derived.Test.YtodcckiphdnjeaaQFnPrunedx5
import Derived.Test.YtodcckiphdnjeaaQFnPrunedx6
namespace Go.Proofs.Ytodcckiphdnjeaa.QFnPruned
open Go.RowKit Go.Proofs.YtodcckiphdnjeaaW.PrintWords Go.Proofs.YtodcckiphdnjeaaW.PrintLast Go.Proofs.YtodcckiphdnjeaaW.PrintMore
attribute [local go_sem] max2_int min2_int max_two min_two max_three min_three max_four min_four   -- for this text's walks alone
set_option linter.unusedVariables false
set_option maxHeartbeats 8000000
set_option maxRecDepth 100000
set_option linter.unusedSimpArgs false

theorem z7_1 {p : Prop} (h : p := by repeat (first | (with_reducible first | exact HBW.out | apply below_alloc | apply pw_below_drewN | apply below_drew1) | exact HBW.out)) : p := h
/-! ### impl_Prune: function 32 (given) -/
def prTest (k : Nat) (X : List (S114)) (D : List (List ByteArray)) (i : Nat) (len : Int) (x : ByteArray) : Option Bool := (impl_IsWord.f k x).bind fun b => if b = true then (if (x.size : Int) = len then impl_supported.f X D (i : Int) x else some false) else some false
def prKeep (k : Nat) (X : List (S114)) (D : List (List ByteArray)) (i : Nat) (len : Int) : List ByteArray → Option (List ByteArray)
  | [] => some []
  | x :: l => (prTest k X D i len x).bind fun b => (prKeep k X D i len l).bind fun r => some (if b = true then x :: r else r)
theorem prKeep_nil (k : Nat) (X : List (S114)) (D : List (List ByteArray)) (i : Nat) (len : Int) : prKeep k X D i len [] = some [] := rfl
theorem prKeep_cons (k : Nat) (X : List (S114)) (D : List (List ByteArray)) (i : Nat) (len : Int) (x : ByteArray) (l : List ByteArray) : prKeep k X D i len (x :: l) = (prTest k X D i len x).bind fun b => (prKeep k X D i len l).bind fun r => some (if b = true then x :: r else r) := rfl
def prIn (k : Nat) (X : List (S114)) : List (S65) → Nat → List (List ByteArray) → Bool → Option (List (List ByteArray) × Bool)
  | [], _, D, b => some (D, b)
  | s :: l, i, D, b => if i < D.length ∧ (D.getD i []).length ≤ 1048576 then (prKeep k X D i s.f3 (D.getD i [])).bind fun q => if q.length < (D.getD i []).length then prIn k X l (i + 1) (D.set i q) true else prIn k X l (i + 1) D b else none
theorem prIn_nil (k : Nat) (X : List (S114)) (i : Nat) (D : List (List ByteArray)) (b : Bool) : prIn k X [] i D b = some (D, b) := rfl
theorem prIn_cons (k : Nat) (X : List (S114)) (s : S65) (l : List (S65)) (i : Nat) (D : List (List ByteArray)) (b : Bool) : prIn k X (s :: l) i D b = if i < D.length ∧ (D.getD i []).length ≤ 1048576 then (prKeep k X D i s.f3 (D.getD i [])).bind fun q => if q.length < (D.getD i []).length then prIn k X l (i + 1) (D.set i q) true else prIn k X l (i + 1) D b else none := rfl
def prOut (X : List (S114)) (sl : List (S65)) : Nat → List (List ByteArray) → Option (List (List ByteArray))
  | 0, _ => none
  | k + 1, D => (prIn k X sl 0 D false).bind fun t => if t.2 = true then prOut X sl k t.1 else some t.1
theorem prOut_succ (X : List (S114)) (sl : List (S65)) (k : Nat) (D : List (List ByteArray)) : prOut X sl (k + 1) D = (prIn k X sl 0 D false).bind fun t => if t.2 = true then prOut X sl k t.1 else some t.1 := rfl
def impl_Prune.f (k : Nat) (a0_0 a0_1 : Int) (a0_2 : ByteArray) (l1 : List (List ByteArray)) : Option (List (List ByteArray)) := (impl_copyDomains.f k l1).bind fun D => (impl_SlotsOf.f k a0_0 a0_1 a0_2).bind fun sl => if l1.length = sl.length then (impl_CrossingsOf.f k a0_0 a0_1 a0_2).bind fun X => prOut X sl k D else some D
/-- What the test of a word reads. -/
structure PrBox (X : List (S114)) (D : List (List ByteArray)) (i : Nat) (len : Int) (Sb Xb Ob Ib : Nat) (Ax : Option Addr) (cx : Nat) (Ad : Option Addr) (cd : Nat) (w : World) : Prop where
  hs : w.cell? ⟨Sb, 3, none⟩ = some (.int .i64 len)
  hx : w.cell? ⟨Xb, 0, none⟩ = some (.slice Ax X.length cx)
  hd : w.cell? ⟨Ob, 0, none⟩ = some (.slice Ad D.length cd)
  hi : w.cell? ⟨Ib, 0, none⟩ = some (.int .i64 (i : Int))
  cX : Kd.C k114 w Ax X.length X
  lX : X.length ≤ cx
  cD : Kd.C (Kd.slice 9 Kd.string) w Ad D.length D
  lD : D.length ≤ cd
theorem PrBox.below {X : List (S114)} {D : List (List ByteArray)} {i : Nat} {len : Int} {Sb Xb Ob Ib : Nat} {Ax : Option Addr} {cx : Nat} {Ad : Option Addr} {cd : Nat} {w w' : World} (h : PrBox X D i len Sb Xb Ob Ib Ax cx Ad cd w) (hb : Below w.heap.size w w') : PrBox X D i len Sb Xb Ob Ib Ax cx Ad cd w' :=
  ⟨pw_cell_below hb h.hs, pw_cell_below hb h.hx, pw_cell_below hb h.hd, pw_cell_below hb h.hi, Kd.C_below h.cX hb, h.lX, Kd.C_below h.cD hb, h.lD⟩
set_option maxHeartbeats 1600000 in
set_option maxRecDepth 100000 in
theorem pr_keep_calls (k : Nat) (X : List (S114)) (D : List (List ByteArray)) (i : Nat) (len : Int) (Sb Xb Ob Ib : Nat) (Ax : Option Addr) (cx : Nat) (Ad : Option Addr) (cd : Nat) (x : ByteArray) (b : Bool) (w : World) (hP : PrBox X D i len Sb Xb Ob Ib Ax cx Ad cd w) (h : prTest k X D i len x = some b) :
    Calls Try.prog 69 #[.string x, .pointer (some ⟨Sb, 0, none⟩), .pointer (some ⟨Xb, 0, none⟩), .pointer (some ⟨Ob, 0, none⟩), .pointer (some ⟨Ib, 0, none⟩)] w fun e w' => e = .returned (.bool b) ∧ Below w.heap.size w w' := by
  unfold prTest at h
  obtain ⟨b1, h1, h⟩ := Option.bind_eq_some_iff.mp h; have kw := fun W => impl_IsWord.calls k x b1 W h1
  obtain ⟨hs, hx, hd, hi, cX, lX, cD, lD⟩ := hP
  cases b1 with
  | false =>
    rw [if_neg (by simp)] at h
    injection h with h
    subst h; clear h1 cX cD hs hx hd hi; go_enter Try.func69, Try.ntmps69
    go_wp2_with fail
    go_at_call 70
    refine (kw _).mono ?_
    rintro e w' ⟨rfl, nd, rfl⟩
    go_wp2_with fail
    go_ret
    exact ⟨rfl, pw_below_drewN (Below.refl _ _) nd⟩
  | true =>
    rw [if_pos rfl] at h
    by_cases hz : (x.size : Int) = len
    · rw [if_pos hz] at h
      have ks := fun W hX hD => impl_supported.calls Ax cx X Ad cd D (i : Int) x b W hX lX hD lD h
      have zb : ((x.size : Int) == len) = true := beq_iff_eq.mpr hz; have CX := Aside0.mk cX; have CD := Aside0.mk cD; clear h1 cX cD hz h; go_enter Try.func69, Try.ntmps69
      go_wp2_with fail
      go_at_call 70
      refine (kw _).mono ?_
      rintro e w' ⟨rfl, nd, rfl⟩
      go_wp2_with fail
      go_at_call 71
      refine (ks _ (Kd.C_below CX.out (pw_below_drewN (Below.refl _ _) nd)) (Kd.C_below CD.out (pw_below_drewN (Below.refl _ _) nd))).mono ?_
      rintro e w2 ⟨rfl, hb⟩
      have HB := Aside0.mk (below_step (pw_below_drewN (Below.refl w.heap.size w) nd) hb); clear hb ks kw; go_wp2_with fail
      go_ret
      exact ⟨rfl, HB.out⟩
    · rw [if_neg hz] at h
      injection h with h
      subst h; have zb : ((x.size : Int) == len) = false := beq_eq_false_iff_ne.mpr hz; clear h1 cX cD hx hd hi hz; go_enter Try.func69, Try.ntmps69
      go_wp2_with fail
      go_at_call 70
      refine (kw _).mono ?_
      rintro e w' ⟨rfl, nd, rfl⟩
      go_wp2_with fail
      go_ret
      exact ⟨rfl, pw_below_drewN (Below.refl _ _) nd⟩
set_option maxHeartbeats 1600000 in
set_option maxRecDepth 100000 in
theorem pr_those_calls (k : Nat) (X : List (S114)) (D : List (List ByteArray)) (ix : Nat) (len : Int) (Sb Xb Ob Ib : Nat) (Ax : Option Addr) (cx : Nat) (Ad : Option Addr) (cd : Nat) (A0 : Option Addr) (c0 : Nat) (l0 : List ByteArray) (r : List ByteArray) (w : World) (hP : PrBox X D ix len Sb Xb Ob Ib Ax cx Ad cd w) (hr0 : Kd.C Kd.string w A0 l0.length l0) (hl : l0.length ≤ 1048576) (h : prKeep k X D ix len l0 = some r) :
    Calls Try.prog 57 #[.slice A0 l0.length c0, .func (.func 69) #[] #[.pointer (some ⟨Sb, 0, none⟩), .pointer (some ⟨Xb, 0, none⟩), .pointer (some ⟨Ob, 0, none⟩), .pointer (some ⟨Ib, 0, none⟩)]] w fun e w' => ∃ v0_ : Value, e = .returned (v0_) ∧ Kd.R Kd.string 9 w' w.heap.size (fun _ => True) v0_ r ∧ Below w.heap.size w w' := by
  have HR0 := Aside0.mk hr0; have HP := Aside0.mk hP; have HH := Aside0.mk h; clear hr0 hP h; have HB := Aside0.mk (Below.refl w.heap.size w); go_enter Try.func57, Try.ntmps57
  go_wp2
  go_loopg [5, 10] l0.length (fun kq v5 v10 w' => ∃ (i : Nat) (acc : List ByteArray), v10 = .int .i64 (i : Int) ∧ Aside0 (i ≤ l0.length) ∧ Aside0 (l0.length - i ≤ kq) ∧ Aside0 (acc.length ≤ i) ∧ Aside0 (∃ q, prKeep k X D ix len (l0.drop i) = some q ∧ acc ++ q = r) ∧ Aside0 (Kd.R Kd.string 9 w' w.heap.size (fun _ => True) v5 acc) ∧ Aside0 (Below w.heap.size w w'))
  case atStart => exact ⟨0, [], rfl, ⟨Nat.zero_le _⟩, ⟨by omega⟩, ⟨Nat.le_refl _⟩, ⟨r, HH.out, rfl⟩, ⟨Kd.R_nil _ _ _ _ _⟩, ⟨z_g4⟩⟩
  case round =>
    clear HB; obtain ⟨i, acc, rfl, hi, hk, hn, heq, HO, HB⟩ := hrel; by_cases hlt : i < l0.length
    · have cb0 : decide ((i : Int) < (l0.length : Int)) = true := by simp; exact hlt
      have hcr : rdOf ByteArray.empty l0 (i : Int) = l0[i] := by
        unfold rdOf
        simp [hlt]
      obtain ⟨ad, e1, hx⟩ := Kd.at_string HR0.out (i : Int) (by omega) (by omega)
      cases e1; replace hx := (HB.out.cell (World.block_lt_of_cell? w _ hx)).trans hx; rw [hcr] at hx
      simp only [Int.toNat_natCast] at hx; have p1 : (0 ≤ (i : Int)) = True := eq_true (by omega); have q1 : ((i : Int) < (l0.length : Int)) = True := eq_true (by omega); obtain ⟨q, heq', hq⟩ := heq.out; rw [List.drop_eq_getElem_cons hlt, prKeep_cons] at heq'
      obtain ⟨b, hb, heq'⟩ := Option.bind_eq_some_iff.mp heq'; obtain ⟨q', hq', heq'⟩ := Option.bind_eq_some_iff.mp heq'; injection heq' with heq'
      have kk := fun W (hW : Below w.heap.size w W) => pr_keep_calls k X D ix len Sb Xb Ob Ib Ax cx Ad cd l0[i] b W (HP.out.below hW) hb
      generalize l0[i] = x at hx kk hb heq'
      obtain ⟨Ao9, co9, eo9⟩ := Kd.R_slice HO.out; subst eo9; have LM := Aside0.mk (show acc.length ≤ 1048576 by have := hn.out; omega)
      cases b with
      | true =>
        rw [if_pos rfl] at heq'
        have HE := Aside0.mk (show ∃ q, prKeep k X D ix len (l0.drop (i + 1)) = some q ∧ (acc ++ [x]) ++ q = r from ⟨q', hq', by rw [← hq, ← heq']; simp⟩); clear heq' hq hq' hb hcr heq; go_wp2_with fail
        go_at_call 69
        refine (kk _ z_g4).mono ?_
        rintro e w2 ⟨rfl, hb2⟩
        have HO2 := Aside0.mk (Kd.R_below (kd_g8 HO.out) hb2); have HB2 := Aside0.mk (below_step z_g4 hb2); clear HO HB hb2; go_wp2_with ((with_reducible refine gate_builtin (b := .append) (xs := #[.tmp 17, .tmp 19]) rfl ?_); at_builtin; refine Kd.R_append Kd.string (w0 := w) w.heap.size rfl (.tmp 17) (.tmp 19) 24 9 (.string ⟨#[]⟩) 16 rfl Try.underlying24 info9 rfl (by decide) (by omega) (.slice Ao9 acc.length co9) acc x [.string x] (fun _ => True) (fun _ => False) rfl rfl ?aP (fun _ hk => hk.elim) ?aF ?aO ?aB ?aS ?aL ?_; (case aP => exact rfl); (case aB => exact (by repeat (first | (with_reducible first | exact HB2.out | apply below_alloc | apply pw_below_drewN | apply below_drew1) | exact HB2.out))); (case aF => exact (fun _ _ => trivial)); (case aO => exact (kd_g8 HO2.out)); (case aS => exact (below_size (by repeat (first | (with_reducible first | exact HB2.out | apply below_alloc | apply pw_below_drewN | apply below_drew1) | exact HB2.out)))); (case aL => have := LM.out; omega); intro v128 w10 ho hb hg hat; have HB := Aside0.mk (hb); have HO129 := Aside0.mk (ho); clear HB2; clear HO2; clear ho hb hg hat)
        go_roundg (l0.length - (i + 1))
        case measure => have := hk.out; omega
        case rel => exact ⟨i + 1, acc ++ [x], by simp, ⟨by omega⟩, ⟨Nat.le_refl _⟩, ⟨by have := hn.out; simp; omega⟩, HE, ⟨by (with_reducible repeat (first | apply Kd.R_alloc | apply Kd.R_drewN | apply Kd.R_drew)); exact HO129.out⟩, ⟨z_g4⟩⟩
      | false =>
        rw [if_neg (by simp)] at heq'
        have HE := Aside0.mk (show ∃ q, prKeep k X D ix len (l0.drop (i + 1)) = some q ∧ acc ++ q = r from ⟨q', hq', by rw [← hq, ← heq']⟩); clear heq' hq hq' hb hcr heq; go_wp2_with fail
        go_at_call 69
        refine (kk _ z_g4).mono ?_
        rintro e w2 ⟨rfl, hb2⟩
        have HO2 := Aside0.mk (Kd.R_below (kd_g8 HO.out) hb2); have HB2 := Aside0.mk (below_step z_g4 hb2); clear HO HB hb2; go_wp2_with fail
        go_roundg (l0.length - (i + 1))
        case measure => have := hk.out; omega
        case rel => exact ⟨i + 1, acc, by simp, ⟨by omega⟩, ⟨Nat.le_refl _⟩, ⟨by have := hn.out; omega⟩, HE, ⟨by (with_reducible repeat (first | apply Kd.R_alloc | apply Kd.R_drewN | apply Kd.R_drew)); exact HO2.out⟩, ⟨by repeat (first | (with_reducible first | exact HB2.out | apply below_alloc | apply pw_below_drewN | apply below_drew1) | exact HB2.out)⟩⟩
    · have cb0 : decide ((i : Int) < (l0.length : Int)) = false := by simp; omega
      obtain ⟨q, hq, HE⟩ := heq.out; rw [List.drop_eq_nil_of_le (by omega), prKeep_nil] at hq
      injection hq with hq
      subst hq; rw [List.append_nil] at HE
      subst HE; clear heq; go_wp2
      go_ret
      exact ⟨_, rfl, by (with_reducible repeat (first | apply Kd.R_alloc | apply Kd.R_drewN | apply Kd.R_drew)); exact HO.out, z_g4⟩
/-- What the loops keep: the two boxes, the rows. -/
structure PrW (w0 : World) (O Xb : Nat) (vD vX vS : Value) (D : List (List ByteArray)) (X : List (S114)) (sl : List (S65)) (w : World) : Prop where
  oc : w.cell? ⟨O, 0, none⟩ = some vD
  xc : w.cell? ⟨Xb, 0, none⟩ = some vX
  sd : Kd.S (Kd.slice 9 Kd.string) 24 w w0.heap.size (fun k_ => k_ ≠ O ∧ k_ ≠ Xb) vD D
  rx : Kd.R k114 114 w w0.heap.size (fun _ => True) vX X
  rs : Kd.R k65 65 w w0.heap.size (fun _ => True) vS sl
  hb : Below w0.heap.size w0 w
theorem PrW.below {w0 : World} {O Xb : Nat} {vD vX vS : Value} {D : List (List ByteArray)} {X : List (S114)} {sl : List (S65)} {w w' : World} (h : PrW w0 O Xb vD vX vS D X sl w) (hb : Below w.heap.size w w') : PrW w0 O Xb vD vX vS D X sl w' :=
  ⟨pw_cell_below hb h.oc, pw_cell_below hb h.xc, Kd.S_below h.sd hb, Kd.R_below h.rx hb, Kd.R_below h.rs hb, below_step h.hb hb⟩
theorem PrW.lt {w0 : World} {O Xb : Nat} {vD vX vS : Value} {D : List (List ByteArray)} {X : List (S114)} {sl : List (S65)} {w : World} (h : PrW w0 O Xb vD vX vS D X sl w) : O < w.heap.size ∧ Xb < w.heap.size := ⟨World.block_lt_of_cell? w _ h.oc, World.block_lt_of_cell? w _ h.xc⟩
/-- A kept row put into its place: it was made behind the world wa. -/
theorem PrW.put {w0 : World} {O Xb g co : Nat} {vX vS : Value} {D : List (List ByteArray)} {X : List (S114)} {sl : List (S65)} {wa w : World} {q : List ByteArray} {Aq : Option Addr} {cq : Nat} {i : Nat}
    (ha : PrW w0 O Xb (.slice (some ⟨g, 0, none⟩) D.length co) vX vS D X sl wa) (hb : Below wa.heap.size wa w) (hq : Kd.R Kd.string 9 w wa.heap.size (fun _ => True) (.slice Aq q.length cq) q) (hi : i < D.length) :
    PrW w0 O Xb (.slice (some ⟨g, 0, none⟩) (D.set i q).length co) vX vS (D.set i q) X sl (w.setCell ⟨g, i, none⟩ (.slice Aq q.length cq)) ∧ ∃ u, w.cell? ⟨g, i, none⟩ = some u ∧ w.frozen? ⟨g, i, none⟩ = false := by
  have h := ha.below hb; have hbase : ∀ k, (Value.slice Aq q.length cq).ownBlock = some k → wa.heap.size ≤ k := Kd.R_base hq; have hs : Kd.S (Kd.slice 9 Kd.string) 24 w w0.heap.size (fun k_ => (k_ ≠ O ∧ k_ ≠ Xb) ∧ ¬ (some k_ = (Value.slice Aq q.length cq).ownBlock)) (.slice (some ⟨g, 0, none⟩) D.length co) D := Kd.S_mono (Kd.S_elder' ha.sd hbase hb) (fun k_ hk => ⟨hk.1, fun e => hk.2 e⟩); have hga : g < wa.heap.size := Kd.S_lt ha.sd g (by simp [Value.ownBlock]); have hgb : w0.heap.size ≤ g := Kd.S_base ha.sd g (by simp [Value.ownBlock]); have hlt := ha.lt; obtain ⟨oki, ce, hcl, hM, hcc, hfr, hoki, hH⟩ := Kd.S_elem hs [] (i : Int) (by omega) (by omega); obtain ⟨ve, rfl, ge⟩ := hM; have hx := hcc 0 _ rfl; have hf := hfr 0; rw [show (Kd.slice 9 Kd.string).sz = 1 from rfl, Nat.mul_one, Nat.add_zero, Int.toNat_natCast] at hx hf
  have HP := Kd.S_seg hH (by omega) (by omega) (seg := [.slice Aq q.length cq]) (j := 0) (show 1 ≤ 1 from by decide) (x' := q) (Kd.M_row (Kd.R_mono (Kd.R_tight rfl (Kd.R_lower hq (show w0.heap.size ≤ wa.heap.size from ha.hb.size))) (fun _ h_ => Or.inr h_))) (fun _ hk => hk) (fun k_ hk_ => ⟨⟨by have := hbase k_ hk_.symm; omega, by have := hbase k_ hk_.symm; omega⟩, by have := hbase k_ hk_.symm; omega⟩); simp only [show (Kd.slice 9 Kd.string).sz = 1 from rfl, Nat.mul_one, Nat.add_zero, Int.toNat_natCast] at HP; obtain ⟨hS, hG⟩ := HP; have hG' : w.grownBy (w.setCell ⟨g, i, none⟩ (.slice Aq q.length cq)) (some g) := hG
  have hne : g ≠ O ∧ g ≠ Xb := (Kd.S_R ha.sd).1 g (by simp [Value.ownBlock]); refine ⟨⟨?_, ?_, ?_, ?_, ?_, ?_⟩, ve, hx, hf⟩
  · rw [List.length_set]
    exact cell_grown hG' h.oc (by intro e; injection e with e; exact hne.1 e.symm)
  · exact cell_grown hG' h.xc (by intro e; injection e with e; exact hne.2 e.symm)
  · rw [List.length_set]
    exact hS
  · exact Kd.R_over' (v := (.slice (some ⟨g, 0, none⟩) D.length co)) h.rx (Kd.S_typed h.sd) (by decide) hG'
  · exact Kd.R_over' (v := (.slice (some ⟨g, 0, none⟩) D.length co)) h.rs (Kd.S_typed h.sd) (by decide) hG'
  · exact below_set h.hb hgb
def prHead (X : List (S114)) (sl : List (S65)) (k : Nat) (b : Bool) (D r : List (List ByteArray)) : Prop := if b = true then prOut X sl k D = some r else D = r
theorem pr_box_cell {w w1 : World} {cs : Array Value} {t : TypeId} (hb : Below (w.alloc (.cells cs t)).heap.size (w.alloc (.cells cs t)) w1) (j : Nat) (v : Value) (h : cs[j]? = some v) : w1.cell? ⟨w.heap.size, j, none⟩ = some v := by
  have h1 : (⟨w.heap.size, j, none⟩ : Addr).block < (w.alloc (.cells cs t)).heap.size := by simp [World.alloc, -World.alloc_eq]
  rw [hb.cell h1]
  simp [World.cell?, World.alloc, -World.alloc_eq, h]
set_option maxHeartbeats 4000000 in
set_option maxRecDepth 100000 in
theorem impl_Prune.calls (k : Nat) (a0_0 a0_1 : Int) (a0_2 : ByteArray) (A1 : Option Addr) (c1 : Nat) (l1 : List (List ByteArray)) (r : List (List ByteArray)) (w : World) (hr1 : Kd.C (Kd.slice 9 Kd.string) w A1 l1.length l1) (hc1 : l1.length ≤ c1) (h : impl_Prune.f k a0_0 a0_1 a0_2 l1 = some r) :
    Calls Try.prog 32 #[.agg #[.int .i64 a0_0, .int .i64 a0_1, .string a0_2], .slice A1 l1.length c1] w fun e w' => ∃ v0_ : Value, e = .returned (v0_) ∧ Kd.S (Kd.slice 9 Kd.string) 24 w' w.heap.size (fun _ => True) v0_ r ∧ Below w.heap.size w w' := by
  unfold impl_Prune.f at h
  obtain ⟨D, hD, h⟩ := Option.bind_eq_some_iff.mp h; obtain ⟨sl, hsl, h⟩ := Option.bind_eq_some_iff.mp h; have kd := fun W hr => impl_copyDomains.calls k A1 c1 l1 D W hr hc1 hD
  have ks := fun W => impl_SlotsOf.calls k a0_0 a0_1 a0_2 sl W hsl
  have HR1 := Aside0.mk (Kd.C_below hr1 (below_alloc (Below.refl _ _) (.cells #[.int .i64 a0_0, .int .i64 a0_1, .string a0_2] 28))); clear hD hsl hr1 hc1; by_cases hne : l1.length = sl.length
  · rw [if_pos hne] at h
    obtain ⟨X, hX, h⟩ := Option.bind_eq_some_iff.mp h; have kx := fun W => impl_CrossingsOf.calls k a0_0 a0_1 a0_2 X W hX
    have zb : ((l1.length : Int) != (sl.length : Int)) = false := by simp [hne]
    have HH := Aside0.mk h; have NE := Aside0.mk hne; have ZB := Aside0.mk zb; clear hX h hne zb; have BX := Aside0.mk (fun W (hb : Below (w.alloc (.cells #[.int .i64 a0_0, .int .i64 a0_1, .string a0_2] 28)).heap.size (w.alloc (.cells #[.int .i64 a0_0, .int .i64 a0_1, .string a0_2] 28)) W) => (⟨pr_box_cell hb 0 _ rfl, pr_box_cell hb 1 _ rfl, pr_box_cell hb 2 _ rfl⟩ : W.cell? ⟨w.heap.size, 0, none⟩ = some (.int .i64 a0_0) ∧ W.cell? ⟨w.heap.size, 1, none⟩ = some (.int .i64 a0_1) ∧ W.cell? ⟨w.heap.size, 2, none⟩ = some (.string a0_2))); go_enter Try.func32, Try.ntmps32
    go_wp2_with fail
    go_at_call 67
    refine (kd _ HR1.out).mono ?_
    rintro e w1 ⟨v1, rfl, hs1, hb1⟩
    obtain ⟨Ad, cd, rfl⟩ := Kd.S_slice hs1; have HS1 := Aside0.mk hs1; have HB1 := Aside0.mk hb1; obtain ⟨x0, x1, x2⟩ := BX.out _ hb1; have hz1 : w.heap.size < w1.heap.size := World.block_lt_of_cell? _ _ x0; clear hs1 hb1 kd HR1; go_wp2_with fail
    go_at_call 26
    refine (ks _).mono ?_
    rintro e w2 ⟨v2, rfl, hr2, hb2⟩
    obtain ⟨As, cs, rfl⟩ := Kd.R_slice hr2; have ho2 := pr_box_cell hb2 0 _ rfl; have HB2a := Aside0.mk (below_step (below_alloc (Below.refl _ _) _) hb2); have HR2 := Aside0.mk hr2; have HO2 := Aside0.mk ho2; have HS2 := Aside0.mk (Kd.S_below (Kd.S_alloc (Kd.S_elderB HS1.out w1.heap.size (Nat.le_refl _)) (.cells #[.slice Ad D.length cd] 48)) hb2); have HB2 := Aside0.mk (below_step HB1.out HB2a.out); have HB1z := Aside0.mk (below_alloc HB1.out (.cells #[.slice Ad D.length cd] 48)); clear x0 x1 x2 ho2 hr2 hb2 HS1 HB1 ks; have zb := ZB.out; obtain ⟨x0, x1, x2⟩ := BX.out _ HB2.out; go_wp2_with fail
    go_at_call 68
    refine (kx _).mono ?_
    rintro e w3 ⟨v3, rfl, hr3, hb3⟩
    obtain ⟨Ax, cx, rfl⟩ := Kd.R_slice hr3; clear x0 x1 x2 zb; have ho3 := pw_cell_below hb3 HO2.out; have HS3 := Aside0.mk (Kd.S_below HS2.out hb3); have HR3 := Aside0.mk (Kd.R_below HR2.out hb3); have HX3 := Aside0.mk hr3; have HB3 := Aside0.mk (below_step HB2.out hb3); have HO3 := Aside0.mk ho3; clear hr3 hb3 ho3 HS2 HR2 HO2 HB2a kx; go_wp2_with fail
    have HP0 : PrW w w1.heap.size w3.heap.size (.slice Ad D.length cd) (.slice Ax X.length cx) (.slice As sl.length cs) D X sl (w3.alloc (.cells #[.slice Ax X.length cx] 85)) :=
      ⟨pw_cell_below (below_alloc (Below.refl _ _) _) HO3.out, pr_box_cell (Below.refl _ _) 0 _ rfl, Kd.S_mono (Kd.S_alloc (Kd.S_lower (Kd.S_elderB HS3.out w3.heap.size (Nat.le_refl _)) (by simp)) _) (fun k_ hk => ⟨hk.1.2, hk.2⟩),
        Kd.R_alloc (Kd.R_lower HX3.out (by have := (below_step (w := w) (below_alloc (Below.refl _ _) _) HB2.out).size; exact this)) _, Kd.R_alloc (Kd.R_lower HR3.out (by have := (below_step (w := w) (below_alloc (Below.refl _ _) _) HB1z.out).size; exact this)) _, below_alloc (below_step (w := w) (below_alloc (Below.refl _ _) _) HB3.out) _⟩
    have HP := Aside0.mk HP0; clear HP0 HS3 HR3 HX3 HB3 HO3 HB2 HB1z BX; generalize w1.heap.size = O at HP ⊢
    generalize w3.heap.size = Xb at HP ⊢
    generalize w3.alloc (.cells #[.slice Ax X.length cx] 85) = wx at HP ⊢
    go_loopg [8] k (fun kq v8 w' => ∃ (b : Bool) (D' : List (List ByteArray)), v8 = .bool b ∧ Aside0 (prHead X sl kq b D' r) ∧ Aside0 (kq ≤ k) ∧ Aside0 (D'.length = D.length) ∧ Aside0 (PrW w O Xb (.slice Ad D'.length cd) (.slice Ax X.length cx) (.slice As sl.length cs) D' X sl w'))
    case atStart => exact ⟨true, D, rfl, ⟨by unfold prHead; rw [if_pos rfl]; exact HH.out⟩, ⟨Nat.le_refl _⟩, ⟨rfl⟩, HP⟩
    case round =>
      clear HH HP; obtain ⟨b, D', rfl, HD, HK, HL, HP⟩ := hrel; obtain ⟨wo, rfl⟩ : ∃ wo : World, wo = wr := ⟨_, rfl⟩
      cases b with
      | false =>
        have hD := HD.out; unfold prHead at hD
        rw [if_neg (by simp)] at hD
        subst hD; clear HD; have o0 := HP.out.oc; go_wp2
        go_ret
        exact ⟨_, rfl, Kd.S_mono HP.out.sd (fun _ _ => trivial), HP.out.hb⟩
      | true =>
        have hD := HD.out; unfold prHead at hD
        rw [if_pos rfl] at hD
        clear HD
        cases gk with
        | zero => exact absurd hD (by simp [prOut])
        | succ k1 =>
          rw [prOut_succ] at hD
          obtain ⟨t, ht, hD⟩ := Option.bind_eq_some_iff.mp hD; have HT := Aside0.mk ht; have HD := Aside0.mk hD; clear ht hD; go_wp2
          go_loopg [8, 27] sl.length (fun kq v8 v27 w'' => ∃ (j : Nat) (b : Bool) (D'' : List (List ByteArray)), v8 = .bool b ∧ v27 = .int .i64 (j : Int) ∧ Aside0 (j ≤ sl.length) ∧ Aside0 (sl.length - j ≤ kq) ∧ Aside0 (prIn k1 X (sl.drop j) j D'' b = some t) ∧ Aside0 (D''.length = D.length) ∧ Aside0 (PrW w O Xb (.slice Ad D''.length cd) (.slice Ax X.length cx) (.slice As sl.length cs) D'' X sl w''))
          case atStart => exact ⟨0, false, D', rfl, rfl, ⟨Nat.zero_le _⟩, ⟨by omega⟩, ⟨by rw [List.drop_zero]; exact HT.out⟩, HL, HP⟩
          case round =>
            clear HT HP HL; obtain ⟨j, b, D2, rfl, rfl, hj, hk, heq, HL, HP⟩ := hrel; by_cases hlt : j < sl.length
            · have cb0 : decide ((j : Int) < (sl.length : Int)) = true := by simp; exact hlt
              have heq' := heq.out
              rw [List.drop_eq_getElem_cons hlt, prIn_cons] at heq'
              by_cases hg : j < D2.length ∧ (D2.getD j []).length ≤ 1048576
              · rw [if_pos hg] at heq'
                obtain ⟨hjD, hrow⟩ := hg; obtain ⟨q, hq, heq'⟩ := Option.bind_eq_some_iff.mp heq'; obtain ⟨ad, e1, hx0, hx1, hx2, hx3⟩ := at_T65 (Kd.R_reads' HP.out.rs).2.2 (j : Int) (by omega) (by omega)
                cases e1
                have hcr : rd_T65 sl (j : Int) = sl[j] := by
                  unfold rd_T65
                  simp [hlt]
                rw [hcr] at hx0 hx1 hx2 hx3
                simp only [Int.toNat_natCast] at hx0 hx1 hx2 hx3; generalize sl[j] = s at hx0 hx1 hx2 hx3 hq heq' hcr
                obtain ⟨g, co, eg, hg1, hg2, _⟩ := Kd.S_form HP.out.sd (by omega); injection eg with ea el ec
                subst ea ec; obtain ⟨c, hcl, ⟨v, rfl, hR⟩, hcc⟩ := Kd.S_get HP.out.sd [] (j : Int) (by omega) (by omega); have hxr := hcc 0 v rfl; rw [show (Kd.slice 9 Kd.string).sz = 1 from rfl, Int.toNat_natCast, Nat.mul_one, Nat.add_zero, add_plain] at hxr
                rw [Int.toNat_natCast] at hR
                generalize hrw : D2.getD j [] = row at hR hq heq' hrow
                obtain ⟨Ai, ci, ei⟩ := Kd.R_slice hR; subst ei; have HCr := Aside0.mk (Kd.R_reads' hR).2.2; have HJ := Aside0.mk hjD; have HRW := Aside0.mk hrw; have HQ := Aside0.mk hq; have HE := Aside0.mk heq'; have HLR := Aside0.mk hrow; have o0 := HP.out.oc; have zO := HP.out.lt.1; have zX := HP.out.lt.2; have p1 : (0 ≤ (j : Int)) = True := eq_true (by omega); have q1 : ((j : Int) < (sl.length : Int)) = True := eq_true (by omega); have q2 : ((j : Int) < (D2.length : Int)) = True := eq_true (by omega)
                have PB := Aside0.mk (show PrBox X D2 j s.f3 (wr.heap.size + 1) Xb O wr.heap.size Ax cx (some ⟨g, 0, none⟩) cd ((wr.alloc (.cells #[.int .i64 (j : Int)] 3)).alloc (.cells #[.int .i64 s.f0, .bool s.f1, .int .i64 s.f2, .int .i64 s.f3] 65)) from by
                  have hb : Below wr.heap.size wr ((wr.alloc (.cells #[.int .i64 (j : Int)] 3)).alloc (.cells #[.int .i64 s.f0, .bool s.f1, .int .i64 s.f2, .int .i64 s.f3] 65)) := below_alloc (below_alloc (Below.refl _ _) _) _; have hP := HP.out.below hb; have hz : (wr.alloc (.cells #[.int .i64 (j : Int)] 3)).heap.size = wr.heap.size + 1 := by simp [World.alloc, -World.alloc_eq]
                  refine ⟨?_, hP.xc, hP.oc, ?_, (Kd.R_reads' hP.rx).2.2, (Kd.R_reads' hP.rx).2.1, (Kd.S_reads' hP.sd).2.2, (Kd.S_reads' hP.sd).2.1⟩
                  · rw [← hz]
                    exact pr_box_cell (Below.refl _ _) 3 _ rfl
                  · exact pw_cell_below (below_alloc (Below.refl _ _) _) (pr_box_cell (Below.refl _ _) 0 _ rfl))
                clear hcr hcc hcl hR hq heq' heq hrow hrw hg1 el hjD; go_wp2_with fail
                go_at_call 57
                refine (pr_those_calls k1 X D2 j s.f3 (wr.heap.size + 1) Xb O wr.heap.size Ax cx (some ⟨g, 0, none⟩) cd Ai ci row q _ PB.out (Kd.C_below HCr.out (below_alloc (below_alloc (Below.refl _ _) _) _)) HLR.out HQ.out).mono ?_
                rintro e w4 ⟨vq, rfl, hRq, hb4⟩
                obtain ⟨Aq, cq, rfl⟩ := Kd.R_slice hRq; have HI4 := Aside0.mk (PB.out.below hb4).hi; have HPa := Aside0.mk (HP.out.below (below_alloc (below_alloc (Below.refl _ _) (.cells #[.int .i64 (j : Int)] 3)) (.cells #[.int .i64 s.f0, .bool s.f1, .int .i64 s.f2, .int .i64 s.f3] 65))); have HP4 := Aside0.mk (HPa.out.below hb4); obtain ⟨HP5, u5, hx5, hf5⟩ := HPa.out.put hb4 hRq HJ.out; obtain ⟨c, hcl, ⟨v, rfl, hR⟩, hcc⟩ := Kd.S_get HP4.out.sd [] (j : Int) (by omega) (by have := HJ.out; omega); have hxr := hcc 0 v rfl; rw [show (Kd.slice 9 Kd.string).sz = 1 from rfl, Int.toNat_natCast, Nat.mul_one, Nat.add_zero, add_plain] at hxr
                rw [Int.toNat_natCast, HRW.out] at hR
                obtain ⟨Ai2, ci2, ei⟩ := Kd.R_slice hR; subst ei; have HP5 := Aside0.mk HP5; obtain rfl := Option.some.inj (hx5.symm.trans hxr); clear hx5; have hm : sl.length ≤ 9223372036854775807 := (Kd.R_reads' HP4.out.rs).2.2.2.1; have i4 := HI4.out; have o4 := HP4.out.oc; have hE := HE.out; have hjl := HJ.out; clear hRq hb4 hcl hcc hR PB HP HI4 HPa o0 zO zX hx0 hx1 hx2 hx3 HE hg2; by_cases hlq : q.length < row.length
                · rw [if_pos hlq] at hE
                  have HE := Aside0.mk hE; have zb : decide (q.length < row.length) = true := decide_eq_true hlq; clear hE hlq; go_wp2
                  go_roundg (sl.length - (j + 1))
                  case measure => have := hk.out; omega
                  case rel => exact ⟨j + 1, true, D2.set j q, rfl, by simp, ⟨by omega⟩, ⟨Nat.le_refl _⟩, HE, ⟨by rw [List.length_set]; exact HL.out⟩, HP5⟩
                · rw [if_neg hlq] at hE
                  have HE := Aside0.mk hE; have zb : decide (q.length < row.length) = false := decide_eq_false hlq; clear hE hlq hf5 HP5; go_wp2
                  go_roundg (sl.length - (j + 1))
                  case measure => have := hk.out; omega
                  case rel => exact ⟨j + 1, b, D2, rfl, by simp, ⟨by omega⟩, ⟨Nat.le_refl _⟩, HE, HL, HP4⟩
              · rw [if_neg hg] at heq'
                cases heq'
            · have cb0 : decide ((j : Int) < (sl.length : Int)) = false := by simp; omega
              have heq' := heq.out
              rw [List.drop_eq_nil_of_le (by omega), prIn_nil] at heq'
              injection heq' with heq'
              subst heq'; clear heq; go_wp2
              go_roundg k1
              case measure => have := HK.out; omega
              case rel => exact ⟨b, D2, rfl, ⟨by unfold prHead; have := HD.out; cases b with | true => rw [if_pos rfl] at this ⊢; exact this | false => rw [if_neg (by simp)] at this ⊢; injection this⟩, ⟨by have := HK.out; omega⟩, HL, HP⟩
  · rw [if_neg hne] at h
    injection h with h
    subst h; have zb : ((l1.length : Int) != (sl.length : Int)) = true := bne_iff_ne.mpr (by omega); have ZB := Aside0.mk zb; clear hne zb; have BX := Aside0.mk (fun W (hb : Below (w.alloc (.cells #[.int .i64 a0_0, .int .i64 a0_1, .string a0_2] 28)).heap.size (w.alloc (.cells #[.int .i64 a0_0, .int .i64 a0_1, .string a0_2] 28)) W) => (⟨pr_box_cell hb 0 _ rfl, pr_box_cell hb 1 _ rfl, pr_box_cell hb 2 _ rfl⟩ : W.cell? ⟨w.heap.size, 0, none⟩ = some (.int .i64 a0_0) ∧ W.cell? ⟨w.heap.size, 1, none⟩ = some (.int .i64 a0_1) ∧ W.cell? ⟨w.heap.size, 2, none⟩ = some (.string a0_2))); go_enter Try.func32, Try.ntmps32
    go_wp2_with fail
    go_at_call 67
    refine (kd _ HR1.out).mono ?_
    rintro e w1 ⟨v1, rfl, hs1, hb1⟩
    obtain ⟨Ad, cd, rfl⟩ := Kd.S_slice hs1; have HS1 := Aside0.mk hs1; have HB1 := Aside0.mk hb1; obtain ⟨x0, x1, x2⟩ := BX.out _ hb1; have hz1 : w.heap.size < w1.heap.size := World.block_lt_of_cell? _ _ x0; clear hs1 hb1 kd HR1; go_wp2_with fail
    go_at_call 26
    refine (ks _).mono ?_
    rintro e w2 ⟨v2, rfl, hr2, hb2⟩
    obtain ⟨As, cs, rfl⟩ := Kd.R_slice hr2; have ho2 := pr_box_cell hb2 0 _ rfl; have HB2a := Aside0.mk (below_step (below_alloc (Below.refl _ _) _) hb2); have HR2 := Aside0.mk hr2; have HO2 := Aside0.mk ho2; have HS2 := Aside0.mk (Kd.S_below (Kd.S_alloc (Kd.S_elderB HS1.out w1.heap.size (Nat.le_refl _)) (.cells #[.slice Ad D.length cd] 48)) hb2); have HB2 := Aside0.mk (below_step HB1.out HB2a.out); have HB1z := Aside0.mk (below_alloc HB1.out (.cells #[.slice Ad D.length cd] 48)); clear x0 x1 x2 ho2 hr2 hb2 HS1 HB1 ks; have zb := ZB.out; have o0 := HO2.out; go_wp2
    go_ret
    exact ⟨_, rfl, Kd.S_lower (Kd.S_mono HS2.out (fun _ _ => trivial)) (by simp), below_step (w := w) (below_alloc (Below.refl _ _) _) HB2.out⟩


/-- A state of type 103 at block g of W; what its slices lead to came in by w0. -/
def IsS103 (w0 W : World) (g : Nat) (f0 : List Int) (f1 : Int) (f2 : Int) : Prop := ∃ A0 c0, W.heap[g]? = some (.cells #[.slice A0 f0.length c0, .int .i64 f1, .int .i64 f2] 103 (0, 0)) ∧ w0.heap.size ≤ g ∧ Kd.C (Kd.int .u8) w0 A0 f0.length f0
theorem IsS103.grown {w0 W : World} {g : Nat} {f0 : List Int} {f1 : Int} {f2 : Int} {W1 : World} {row : Option Nat} (h : IsS103 w0 W g f0 f1 f2) (hw : W.grownBy W1 row) (hne : some g ≠ row) : IsS103 w0 W1 g f0 f1 f2 := by
  obtain ⟨A0, c0, hb, hg, hr0⟩ := h; exact ⟨A0, c0, blk_grown hb hw hne, hg, hr0⟩
theorem IsS103.below {w0 W : World} {g : Nat} {f0 : List Int} {f1 : Int} {f2 : Int} {W1 : World} (h : IsS103 w0 W g f0 f1 f2) (hw : Below W.heap.size W W1) : IsS103 w0 W1 g f0 f1 f2 := h.grown (grown_of_below hw none) (by simp)
theorem IsS103.alloc {w0 W : World} {g : Nat} {f0 : List Int} {f1 : Int} {f2 : Int} (h : IsS103 w0 W g f0 f1 f2) (o : Obj) : IsS103 w0 (W.alloc o) g f0 f1 f2 := h.below (below_alloc (Below.refl _ _) o)
theorem IsS103.drewN {w0 W : World} {g : Nat} {f0 : List Int} {f1 : Int} {f2 : Int} (h : IsS103 w0 W g f0 f1 f2) (m : Nat) : IsS103 w0 (W.drewN m) g f0 f1 f2 := h
theorem IsS103.drew {w0 W : World} {g : Nat} {f0 : List Int} {f1 : Int} {f2 : Int} (h : IsS103 w0 W g f0 f1 f2) : IsS103 w0 W.drew g f0 f1 f2 := h
theorem IsS103.apart {w0 W : World} {g : Nat} {f0 : List Int} {f1 : Int} {f2 : Int} {α : Type} {d : Kd α} {e : Nat} {base : Nat} {ok : Nat → Prop} {v : Value} {xs : List α} (h : IsS103 w0 W g f0 f1 f2) (ho : d.R e W base ok v xs) (ht : ∀ q, q ∈ e :: d.E → q ≠ 103) : d.R e W base (fun k => ok k ∧ k ≠ g) v xs := by
  obtain ⟨A0, c0, hb, hg, hr0⟩ := h; exact Kd.R_types ho hb ht
theorem IsS103.own_ne {w0 W : World} {g : Nat} {f0 : List Int} {f1 : Int} {f2 : Int} {α : Type} {d : Kd α} {e : Nat} {base : Nat} {ok : Nat → Prop} {v : Value} {xs : List α} (h : IsS103 w0 W g f0 f1 f2) (ho : d.R e W base ok v xs) (ht : e ≠ 103) : some g ≠ v.ownBlock := by
  obtain ⟨A0, c0, hb, hg, hr0⟩ := h; exact Kd.R_ne ho hb ht
theorem IsS103.apartQ {w0 W : World} {g : Nat} {f0 : List Int} {f1 : Int} {f2 : Int} {α : Type} {d : Kd α} {e : Nat} {base : Nat} {ok : Nat → Prop} {v : Value} {xs : List α} (h : IsS103 w0 W g f0 f1 f2) (ho : d.Q e W base ok v xs) (ht : ∀ q, q ∈ e :: d.E → q ≠ 103) : d.Q e W base (fun k => ok k ∧ k ≠ g) v xs := by
  obtain ⟨A0, c0, hb, hg, hr0⟩ := h; exact Kd.Q_types ho hb ht
theorem IsS103.apartS {w0 W : World} {g : Nat} {f0 : List Int} {f1 : Int} {f2 : Int} {α : Type} {d : Kd α} {e : Nat} {base : Nat} {ok : Nat → Prop} {v : Value} {xs : List α} (h : IsS103 w0 W g f0 f1 f2) (ho : d.S e W base ok v xs) (ht : ∀ q, q ∈ e :: d.E → q ≠ 103) : d.S e W base (fun k => ok k ∧ k ≠ g) v xs := by
  obtain ⟨A0, c0, hb, hg, hr0⟩ := h; exact Kd.S_types ho hb ht
theorem IsS103.own_neS {w0 W : World} {g : Nat} {f0 : List Int} {f1 : Int} {f2 : Int} {α : Type} {d : Kd α} {e : Nat} {base : Nat} {ok : Nat → Prop} {v : Value} {xs : List α} (h : IsS103 w0 W g f0 f1 f2) (ho : d.S e W base ok v xs) (ht : e ≠ 103) : some g ≠ v.ownBlock := by
  obtain ⟨A0, c0, hb, hg, hr0⟩ := h; exact Kd.S_ne ho hb ht
theorem IsS103.lt {w0 W : World} {g : Nat} {f0 : List Int} {f1 : Int} {f2 : Int} (h : IsS103 w0 W g f0 f1 f2) : g < W.heap.size := by
  obtain ⟨A0, c0, hb, hg, hr0⟩ := h; exact blk_lt hb
theorem IsS103.ge {w0 W : World} {g : Nat} {f0 : List Int} {f1 : Int} {f2 : Int} (h : IsS103 w0 W g f0 f1 f2) : w0.heap.size ≤ g := by
  obtain ⟨A0, c0, hb, hg, hr0⟩ := h; exact hg
theorem IsS103.ne_blk {w0 W : World} {g : Nat} {f0 : List Int} {f1 : Int} {f2 : Int} {a : Nat} {cs : Array Value} {t : TypeId} {fr : Nat × Nat} (h : IsS103 w0 W g f0 f1 f2) (hb2 : W.heap[a]? = some (.cells cs t fr)) (ht : t ≠ 103) : g ≠ a := by
  obtain ⟨A0, c0, hb, hg, hr0⟩ := h; rintro rfl
  rw [hb] at hb2
  injection hb2 with hb2
  injection hb2 with _ ht2
  exact ht ht2.symm
theorem IsS103.far {w0 W : World} {g : Nat} {f0 : List Int} {f1 : Int} {f2 : Int} {p : Addr} (h : IsS103 w0 W g f0 f1 f2) (hne : g ≠ p.block) (u : Value) : IsS103 w0 (W.setCell p u) g f0 f1 f2 := by
  obtain ⟨A0, c0, hb, hg, hr0⟩ := h; exact ⟨A0, c0, blk_far hb hne u, hg, hr0⟩
theorem cellS103_0 {W : World} {g : Nat} {A0 : Option Addr} {c0 : Nat} {f0 : List Int} {f1 : Int} {f2 : Int} (h : W.heap[g]? = some (.cells #[.slice A0 f0.length c0, .int .i64 f1, .int .i64 f2] 103 (0, 0))) : W.cell? ⟨g, 0, none⟩ = some (.slice A0 f0.length c0) := (blk_cell h 0).trans rfl
theorem cellS103_1 {W : World} {g : Nat} {A0 : Option Addr} {c0 : Nat} {f0 : List Int} {f1 : Int} {f2 : Int} (h : W.heap[g]? = some (.cells #[.slice A0 f0.length c0, .int .i64 f1, .int .i64 f2] 103 (0, 0))) : W.cell? ⟨g, 1, none⟩ = some (.int .i64 f1) := (blk_cell h 1).trans rfl
theorem IsS103.set_1 {w0 W : World} {g : Nat} {f0 : List Int} {f1 : Int} {f2 : Int} (h : IsS103 w0 W g f0 f1 f2) (x : Int) : IsS103 w0 (W.setCell ⟨g, 1, none⟩ (.int .i64 x)) g f0 x f2 := by
  obtain ⟨A0, c0, hb, hg, hr0⟩ := h; exact ⟨A0, c0, by simpa using blk_set hb 1 (.int .i64 x), hg, hr0⟩
theorem cellS103_2 {W : World} {g : Nat} {A0 : Option Addr} {c0 : Nat} {f0 : List Int} {f1 : Int} {f2 : Int} (h : W.heap[g]? = some (.cells #[.slice A0 f0.length c0, .int .i64 f1, .int .i64 f2] 103 (0, 0))) : W.cell? ⟨g, 2, none⟩ = some (.int .i64 f2) := (blk_cell h 2).trans rfl
theorem IsS103.set_2 {w0 W : World} {g : Nat} {f0 : List Int} {f1 : Int} {f2 : Int} (h : IsS103 w0 W g f0 f1 f2) (x : Int) : IsS103 w0 (W.setCell ⟨g, 2, none⟩ (.int .i64 x)) g f0 f1 x := by
  obtain ⟨A0, c0, hb, hg, hr0⟩ := h; exact ⟨A0, c0, by simpa using blk_set hb 2 (.int .i64 x), hg, hr0⟩
/-! ### spec_l1New: function 54 -/
def spec_l1New.l0 : Nat → List Int → Int → Int → Option (List Int × Int × Int)
  | 0, _, _, _ => none
  | k + 1, x0, x3, x4 => if x4 < (x0.length : Int) then (if x4 < 4000 then (if 0 ≤ x4 then (spec_l1New.l0 k x0 (Go.bits .and .i64 (wrap64 ((wrap64 ((wrap64 (x3 * 137)) + (wrap64 (rd x0 x4)))) + 11)) 1073741823) (wrap64 (x4 + 1))) else (none)) else (some (x0, 0, x3))) else (some (x0, 0, x3))
def spec_l1New.f (k : Nat) (l0 : List Int) : Option (List Int × Int × Int) := spec_l1New.l0 k l0 (wrap64 (193017 + (l0.length : Int))) 0
theorem spec_l1New.calls (k : Nat) (A0 : Option Addr) (c0 : Nat) (l0 : List Int) (r1 : List Int) (r2 : Int) (r3 : Int) (w0 w : World) (hB : Below w0.heap.size w0 w) (hr0 : Kd.C (Kd.int .u8) w0 A0 l0.length l0) (hc0 : l0.length ≤ c0) (h : spec_l1New.f k l0 = some (r1, r2, r3)) :
   Calls Try.prog 54 #[.slice A0 l0.length c0] w fun e w' => ∃ g_ : Nat, e = .returned (.pointer (some ⟨g_, 0, none⟩)) ∧ IsS103 w0 w' g_ r1 r2 r3 ∧ Below w0.heap.size w0 w' ∧ Below w.heap.size w w' := by
  have hu103 := Try.underlying103; have HR0 := Aside0.mk hr0; have HC0 := Aside0.mk hc0; clear hr0 hc0; have HBW := Aside0.mk (Below.refl w.heap.size w); have HW0 := Aside0.mk hB.size; have HB := Aside0.mk hB; clear hB; have H : (spec_l1New.l0 k l0 (wrap64 (193017 + (l0.length : Int))) 0) = some (r1, r2, r3) := h; clear h; have H' := Aside0.mk H
  clear H; go_enter Try.func54, Try.ntmps54
  go_wp2
  go_loopg [3, 4] k (fun kq v3 v4 w' => ∃ (x3_1 : Int) (x4_1 : Int), v3 = .int .i64 x3_1 ∧ v4 = .int .i64 x4_1 ∧ Aside0 (spec_l1New.l0 kq l0 x3_1 x4_1 = some (r1, r2, r3)) ∧ Aside0 (kq ≤ k) ∧ Aside0 (Below w0.heap.size w0 w') ∧ Aside0 (Below w.heap.size w w'))
  case atStart => exact ⟨(wrap64 (193017 + (l0.length : Int))), (0), (by first | rfl | (simp; done) | (simp [*]; done)), (by first | rfl | (simp; done) | (simp [*]; done)), H', ⟨Nat.le_refl _⟩, ⟨z_g4⟩, ⟨z7_1⟩⟩
  case round =>
   clear H'; obtain ⟨x3_1, x4_1, rfl, rfl, HA, HK1, HB, HBW⟩ := hrel
   cases gk with
   | zero => exact absurd HA.out (by simp [spec_l1New.l0])
   | succ k1 =>
    have H := HA.out; clear HA; simp only [spec_l1New.l0] at H; by_cases c2 : x4_1 < (l0.length : Int)
    ·rw [if_pos c2] at H
     have c2b0 := decide_eq_true c2; clear c2; by_cases c3 : x4_1 < 4000
     ·rw [if_pos c3] at H
      have c3b0 := decide_eq_true c3; clear c3; by_cases c4 : 0 ≤ x4_1
      ·rw [if_pos c4] at H
       have c4b0 := decide_eq_true c4; clear c4; have H' := Aside0.mk H
       clear H; have p159 : 0 ≤ (x4_1 : Int) := of_decide_eq_true (by first | (with_reducible assumption) | assumption)
       have q159 : x4_1 < (l0.length : Int) := of_decide_eq_true (by first | (with_reducible assumption) | assumption)
       obtain ⟨ad159, e159, hx159_0⟩ := Kd.at_int HR0.out x4_1 p159 q159
       cases e159; replace hx159_0 := pw_cell_below HB.out hx159_0; replace p159 := eq_true p159; replace q159 := eq_true q159; go_wp2
       go_roundg k1
       case measure => have := HK1.out; omega
       case rel => exact ⟨(Go.bits .and .i64 (wrap64 ((wrap64 ((wrap64 (x3_1 * 137)) + (wrap64 (rd l0 x4_1)))) + 11)) 1073741823), (wrap64 (x4_1 + 1)), (by first | rfl | (simp; done) | (simp [*]; done)), (by first | rfl | (simp; done) | (simp [*]; done)), H', ⟨by have := HK1.out; omega⟩, ⟨z_g4⟩, ⟨z7_1⟩⟩
      ·rw [if_neg c4] at H
       exact absurd H (by simp)
     ·rw [if_neg c3] at H
      have c3b0 := decide_eq_false c3; clear c3; simp only [Option.some.injEq, Prod.mk.injEq] at H; obtain ⟨rfl, rfl, rfl⟩ := H; go_wp2_with (first | ((with_reducible refine gate_dst (N := 31) rfl ?_); refine box_event ?hg (N := 31) ?hd (cs := #[.slice A0 l0.length c0, .int .i64 0, .int .i64 x3_1]) (t := 103) ?hr ?_; (case hd => rfl); (case hg => rfl); (case hr => first | (go_simp; done) | (go_simp; rfl)); intro gb160 hg w5 hbox hb; replace HB := Aside0.mk (below_step z_g4 hb); have BK160 := Aside0.mk (hbox); have GW160 := Aside0.mk ((by rw [hg]; exact (below_size z7_1) : w.heap.size ≤ gb160)); have GE160 := Aside0.mk ((Nat.le_trans HW0.out (by rw [hg]; exact (below_size z7_1) : w.heap.size ≤ gb160) : w0.heap.size ≤ gb160)); replace HBW := Aside0.mk (below_step HBW.out hb); clear hb hbox hg))
      go_ret
      exact ⟨_, rfl, (show IsS103 w0 _ gb160 l0 0 x3_1 from ⟨_, _, by (with_reducible repeat (first | refine blk_drewN ?_ _ | refine blk_drew ?_ | refine blk_alloc ?_ _)); exact BK160.out, GE160.out, HR0.out⟩), by repeat (first | (with_reducible first | exact HB.out | apply below_alloc | apply pw_below_drewN | apply below_drew1 | refine below_set ?_ GE160.out) | exact HB.out), by repeat (first | (with_reducible first | exact HBW.out | apply below_alloc | apply pw_below_drewN | apply below_drew1 | refine below_set ?_ GW160.out) | exact HBW.out)⟩
    ·rw [if_neg c2] at H
     have c2b0 := decide_eq_false c2; clear c2; simp only [Option.some.injEq, Prod.mk.injEq] at H; obtain ⟨rfl, rfl, rfl⟩ := H; go_wp2_with (first | ((with_reducible refine gate_dst (N := 31) rfl ?_); refine box_event ?hg (N := 31) ?hd (cs := #[.slice A0 l0.length c0, .int .i64 0, .int .i64 x3_1]) (t := 103) ?hr ?_; (case hd => rfl); (case hg => rfl); (case hr => first | (go_simp; done) | (go_simp; rfl)); intro gb161 hg w6 hbox hb; replace HB := Aside0.mk (below_step z_g4 hb); have BK161 := Aside0.mk (hbox); have GW161 := Aside0.mk ((by rw [hg]; exact (below_size z7_1) : w.heap.size ≤ gb161)); have GE161 := Aside0.mk ((Nat.le_trans HW0.out (by rw [hg]; exact (below_size z7_1) : w.heap.size ≤ gb161) : w0.heap.size ≤ gb161)); replace HBW := Aside0.mk (below_step HBW.out hb); clear hb hbox hg))
     go_ret
     exact ⟨_, rfl, (show IsS103 w0 _ gb161 l0 0 x3_1 from ⟨_, _, by (with_reducible repeat (first | refine blk_drewN ?_ _ | refine blk_drew ?_ | refine blk_alloc ?_ _)); exact BK161.out, GE161.out, HR0.out⟩), by repeat (first | (with_reducible first | exact HB.out | apply below_alloc | apply pw_below_drewN | apply below_drew1 | refine below_set ?_ GE161.out) | exact HB.out), by repeat (first | (with_reducible first | exact HBW.out | apply below_alloc | apply pw_below_drewN | apply below_drew1 | refine below_set ?_ GW161.out) | exact HBW.out)⟩

/-! ### spec_l1In: function 44 -/
def spec_l1In.f (a0 : Int) (a1 : Int) (a2 : Int) : Option (Bool) := if a0 ≥ a1 then (some (decide (a0 ≤ a2))) else (some false)
theorem spec_l1In.calls (a0 : Int) (a1 : Int) (a2 : Int) (r : Bool) (w : World) (h : spec_l1In.f a0 a1 a2 = some r) :
   Calls Try.prog 44 #[.int .i64 a0, .int .i64 a1, .int .i64 a2] w fun e w' => e = .returned (.bool r) ∧ Drawn0 w w' := by
  have H : (if a0 ≥ a1 then (some (decide (a0 ≤ a2))) else (some false)) = some r := h; clear h; by_cases c4 : a0 ≥ a1
  ·rw [if_pos c4] at H
   have c4b0 := decide_eq_true c4; clear c4; obtain rfl := Option.some.inj H; go_enter Try.func44, Try.ntmps44
   go_wp2
   go_ret
   exact ⟨by first | rfl | (simp; done) | (simp [*]; done), by repeat (first | exact Drawn0.refl _ | apply Drawn0.step)⟩
  ·rw [if_neg c4] at H
   have c4b0 := decide_eq_false c4; clear c4; obtain rfl := Option.some.inj H; go_enter Try.func44, Try.ntmps44
   go_wp2
   go_ret
   exact ⟨by first | rfl | (simp; done) | (simp [*]; done), by repeat (first | exact Drawn0.refl _ | apply Drawn0.step)⟩

end Go.Proofs.Ytodcckiphdnjeaa.QFnPruned
