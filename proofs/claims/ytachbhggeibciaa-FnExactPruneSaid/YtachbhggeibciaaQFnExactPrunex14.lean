-- Written by a changed copy of the kit's printer (wip/mp.py of this repo), for this claim; Lean checks it.
import Derived.Test.YtachbhggeibciaaQFnExactPrunex0
import Derived.Test.YtachbhggeibciaaQFnExactPrunex11
import Derived.Test.YtachbhggeibciaaQFnExactPrunex12
import Derived.Test.YtachbhggeibciaaQFnExactPrunex13
namespace Go.Proofs.Ytachbhggeibciaa.QFnExactPrune
open Go.RowKit Go.Proofs.YtachbhggeibciaaW.PrintWords Go.Proofs.YtachbhggeibciaaW.PrintLast Go.Proofs.YtachbhggeibciaaW.PrintMore
attribute [local go_sem] max2_int min2_int max_two min_two max_three min_three max_four min_four   -- for this text's walks alone
set_option linter.unusedVariables false
set_option linter.unusedSimpArgs false

/-! ### impl_Prune: function 41 (given) -/
def prTest (k : Nat) (X : List (S102)) (D : List (List ByteArray)) (i : Nat) (len : Int) (x : ByteArray) : Option Bool := (impl_IsWord.f k x).bind fun b => if b = true then (if (x.size : Int) = len then impl_supported.f X D (i : Int) x else some false) else some false
theorem prTest_mono (X : List (S102)) (D : List (List ByteArray)) (i : Nat) (len : Int) (x : ByteArray) (k : Nat) : LeO (prTest k X D i len x) (prTest (k + 1) X D i len x) := by
  unfold prTest
  exact LeO.bind (impl_IsWord.mono _ _) (fun _ => LeO.refl _)
def prKeep (k : Nat) (X : List (S102)) (D : List (List ByteArray)) (i : Nat) (len : Int) : List ByteArray → Option (List ByteArray)
  | [] => some []
  | x :: l => (prTest k X D i len x).bind fun b => (prKeep k X D i len l).bind fun r => some (if b = true then x :: r else r)
theorem prKeep_nil (k : Nat) (X : List (S102)) (D : List (List ByteArray)) (i : Nat) (len : Int) : prKeep k X D i len [] = some [] := rfl
theorem prKeep_cons (k : Nat) (X : List (S102)) (D : List (List ByteArray)) (i : Nat) (len : Int) (x : ByteArray) (l : List ByteArray) : prKeep k X D i len (x :: l) = (prTest k X D i len x).bind fun b => (prKeep k X D i len l).bind fun r => some (if b = true then x :: r else r) := rfl
theorem prKeep_mono (X : List (S102)) (D : List (List ByteArray)) (i : Nat) (len : Int) (k : Nat) : ∀ l, LeO (prKeep k X D i len l) (prKeep (k + 1) X D i len l)
  | [] => LeO.refl _
  | x :: l => by
    rw [prKeep_cons, prKeep_cons]
    exact LeO.bind (prTest_mono _ _ _ _ _ _) (fun _ => LeO.bind (prKeep_mono X D i len k l) (fun _ => LeO.refl _))
def prIn (k : Nat) (X : List (S102)) : List (S68) → Nat → List (List ByteArray) → Bool → Option (List (List ByteArray) × Bool)
  | [], _, D, b => some (D, b)
  | s :: l, i, D, b => if i < D.length ∧ (D.getD i []).length ≤ 1048576 then (prKeep k X D i s.f3 (D.getD i [])).bind fun q => if q.length < (D.getD i []).length then prIn k X l (i + 1) (D.set i q) true else prIn k X l (i + 1) D b else none
theorem prIn_nil (k : Nat) (X : List (S102)) (i : Nat) (D : List (List ByteArray)) (b : Bool) : prIn k X [] i D b = some (D, b) := rfl
theorem prIn_cons (k : Nat) (X : List (S102)) (s : S68) (l : List (S68)) (i : Nat) (D : List (List ByteArray)) (b : Bool) : prIn k X (s :: l) i D b = if i < D.length ∧ (D.getD i []).length ≤ 1048576 then (prKeep k X D i s.f3 (D.getD i [])).bind fun q => if q.length < (D.getD i []).length then prIn k X l (i + 1) (D.set i q) true else prIn k X l (i + 1) D b else none := rfl
theorem prIn_mono (X : List (S102)) (k : Nat) : ∀ l i D b, LeO (prIn k X l i D b) (prIn (k + 1) X l i D b)
  | [], _, _, _ => LeO.refl _
  | s :: l, i, D, b => by
    rw [prIn_cons, prIn_cons]
    exact LeO.ite (LeO.bind (prKeep_mono _ _ _ _ _ _) (fun _ => LeO.ite (prIn_mono X k l _ _ _) (prIn_mono X k l _ _ _))) (LeO.none _)
def prOut (X : List (S102)) (sl : List (S68)) : Nat → List (List ByteArray) → Option (List (List ByteArray))
  | 0, _ => none
  | k + 1, D => (prIn k X sl 0 D false).bind fun t => if t.2 = true then prOut X sl k t.1 else some t.1
theorem prOut_succ (X : List (S102)) (sl : List (S68)) (k : Nat) (D : List (List ByteArray)) : prOut X sl (k + 1) D = (prIn k X sl 0 D false).bind fun t => if t.2 = true then prOut X sl k t.1 else some t.1 := rfl
theorem prOut_mono (X : List (S102)) (sl : List (S68)) : ∀ k D, LeO (prOut X sl k D) (prOut X sl (k + 1) D)
  | 0, _ => LeO.none _
  | k + 1, D => by
    rw [prOut_succ, prOut_succ]
    exact LeO.bind (prIn_mono X k _ _ _ _) (fun _ => LeO.ite (prOut_mono X sl k _) (LeO.refl _))
def impl_Prune.f (k : Nat) (a0_0 a0_1 : Int) (a0_2 : ByteArray) (l1 : List (List ByteArray)) : Option (List (List ByteArray)) := (impl_copyDomains.f k l1).bind fun D => (impl_SlotsOf.f k a0_0 a0_1 a0_2).bind fun sl => if l1.length = sl.length then (impl_CrossingsOf.f k a0_0 a0_1 a0_2).bind fun X => prOut X sl k D else some D
theorem impl_Prune.mono : ∀ a0 a1 a2 a3 k, LeO (impl_Prune.f k a0 a1 a2 a3) (impl_Prune.f (k + 1) a0 a1 a2 a3) := by
  intro a0 a1 a2 a3 k
  unfold impl_Prune.f
  exact LeO.bind (impl_copyDomains.mono _ _) (fun _ => LeO.bind (impl_SlotsOf.mono _ _ _ _) (fun _ => LeO.ite (LeO.bind (impl_CrossingsOf.mono _ _ _ _) (fun _ => prOut_mono _ _ _ _)) (LeO.refl _)))
/-- What the test of a word reads. -/
structure PrBox (X : List (S102)) (D : List (List ByteArray)) (i : Nat) (len : Int) (Sb Xb Ob Ib : Nat) (Ax : Option Addr) (cx : Nat) (Ad : Option Addr) (cd : Nat) (w : World) : Prop where
  hs : w.cell? ⟨Sb, 3, none⟩ = some (.int .i64 len)
  hx : w.cell? ⟨Xb, 0, none⟩ = some (.slice Ax X.length cx)
  hd : w.cell? ⟨Ob, 0, none⟩ = some (.slice Ad D.length cd)
  hi : w.cell? ⟨Ib, 0, none⟩ = some (.int .i64 (i : Int))
  cX : Kd.C k102 w Ax X.length X
  lX : X.length ≤ cx
  cD : Kd.C (Kd.slice 9 Kd.string) w Ad D.length D
  lD : D.length ≤ cd
theorem PrBox.below {X : List (S102)} {D : List (List ByteArray)} {i : Nat} {len : Int} {Sb Xb Ob Ib : Nat} {Ax : Option Addr} {cx : Nat} {Ad : Option Addr} {cd : Nat} {w w' : World} (h : PrBox X D i len Sb Xb Ob Ib Ax cx Ad cd w) (hb : Below w.heap.size w w') : PrBox X D i len Sb Xb Ob Ib Ax cx Ad cd w' :=
  ⟨pw_cell_below hb h.hs, pw_cell_below hb h.hx, pw_cell_below hb h.hd, pw_cell_below hb h.hi, Kd.C_below h.cX hb, h.lX, Kd.C_below h.cD hb, h.lD⟩
set_option maxHeartbeats 1600000 in
set_option maxRecDepth 100000 in
theorem pr_keep_calls (k : Nat) (X : List (S102)) (D : List (List ByteArray)) (i : Nat) (len : Int) (Sb Xb Ob Ib : Nat) (Ax : Option Addr) (cx : Nat) (Ad : Option Addr) (cd : Nat) (x : ByteArray) (b : Bool) (w : World) (hP : PrBox X D i len Sb Xb Ob Ib Ax cx Ad cd w) (h : prTest k X D i len x = some b) :
    Calls Try.prog 90 #[.string x, .pointer (some ⟨Sb, 0, none⟩), .pointer (some ⟨Xb, 0, none⟩), .pointer (some ⟨Ob, 0, none⟩), .pointer (some ⟨Ib, 0, none⟩)] w fun e w' => e = .returned (.bool b) ∧ Below w.heap.size w w' := by
  unfold prTest at h
  obtain ⟨b1, h1, h⟩ := Option.bind_eq_some_iff.mp h
  have kw := fun W => impl_IsWord.calls k x b1 W h1
  obtain ⟨hs, hx, hd, hi, cX, lX, cD, lD⟩ := hP
  cases b1 with
  | false =>
    rw [if_neg (by simp)] at h
    injection h with h
    subst h
    clear h1 cX cD hs hx hd hi
    go_enter Try.func90, Try.ntmps90
    go_wp2_with fail
    go_at_call 14
    refine (kw _).mono ?_
    rintro e w' ⟨rfl, nd, rfl⟩
    go_wp2_with fail
    go_ret
    exact ⟨rfl, pw_below_drewN (Below.refl _ _) nd⟩
  | true =>
    rw [if_pos rfl] at h
    by_cases hz : (x.size : Int) = len
    · rw [if_pos hz] at h
      have ks := fun W hX hD => impl_supported.calls Ax cx X Ad cd D (i : Int) x b W hX lX hD lD h
      have zb : ((x.size : Int) == len) = true := beq_iff_eq.mpr hz
      have CX := Aside0.mk cX
      have CD := Aside0.mk cD
      clear h1 cX cD hz h
      go_enter Try.func90, Try.ntmps90
      go_wp2_with fail
      go_at_call 14
      refine (kw _).mono ?_
      rintro e w' ⟨rfl, nd, rfl⟩
      go_wp2_with fail
      go_at_call 85
      refine (ks _ (Kd.C_below CX.out (pw_below_drewN (Below.refl _ _) nd)) (Kd.C_below CD.out (pw_below_drewN (Below.refl _ _) nd))).mono ?_
      rintro e w2 ⟨rfl, hb⟩
      have HB := Aside0.mk (below_step (pw_below_drewN (Below.refl w.heap.size w) nd) hb)
      clear hb ks kw
      go_wp2_with fail
      go_ret
      exact ⟨rfl, HB.out⟩
    · rw [if_neg hz] at h
      injection h with h
      subst h
      have zb : ((x.size : Int) == len) = false := beq_eq_false_iff_ne.mpr hz
      clear h1 cX cD hx hd hi hz
      go_enter Try.func90, Try.ntmps90
      go_wp2_with fail
      go_at_call 14
      refine (kw _).mono ?_
      rintro e w' ⟨rfl, nd, rfl⟩
      go_wp2_with fail
      go_ret
      exact ⟨rfl, pw_below_drewN (Below.refl _ _) nd⟩
set_option maxHeartbeats 1600000 in
set_option maxRecDepth 100000 in
theorem pr_those_calls (k : Nat) (X : List (S102)) (D : List (List ByteArray)) (ix : Nat) (len : Int) (Sb Xb Ob Ib : Nat) (Ax : Option Addr) (cx : Nat) (Ad : Option Addr) (cd : Nat) (A0 : Option Addr) (c0 : Nat) (l0 : List ByteArray) (r : List ByteArray) (w : World) (hP : PrBox X D ix len Sb Xb Ob Ib Ax cx Ad cd w) (hr0 : Kd.C Kd.string w A0 l0.length l0) (hl : l0.length ≤ 1048576) (h : prKeep k X D ix len l0 = some r) :
    Calls Try.prog 73 #[.slice A0 l0.length c0, .func (.func 90) #[] #[.pointer (some ⟨Sb, 0, none⟩), .pointer (some ⟨Xb, 0, none⟩), .pointer (some ⟨Ob, 0, none⟩), .pointer (some ⟨Ib, 0, none⟩)]] w fun e w' => ∃ v0_ : Value, e = .returned (v0_) ∧ Kd.R Kd.string 9 w' w.heap.size (fun _ => True) v0_ r ∧ Below w.heap.size w w' := by
  have HR0 := Aside0.mk hr0
  have HP := Aside0.mk hP
  have HH := Aside0.mk h
  clear hr0 hP h
  have HB := Aside0.mk (Below.refl w.heap.size w)
  go_enter Try.func73, Try.ntmps73
  go_wp2
  go_loopg [5, 10] l0.length (fun kq v5 v10 w' => ∃ (i : Nat) (acc : List ByteArray), v10 = .int .i64 (i : Int) ∧ Aside0 (i ≤ l0.length) ∧ Aside0 (l0.length - i ≤ kq) ∧ Aside0 (acc.length ≤ i) ∧ Aside0 (∃ q, prKeep k X D ix len (l0.drop i) = some q ∧ acc ++ q = r) ∧ Aside0 (Kd.R Kd.string 9 w' w.heap.size (fun _ => True) v5 acc) ∧ Aside0 (Below w.heap.size w w'))
  case atStart => exact ⟨0, [], rfl, ⟨Nat.zero_le _⟩, ⟨by omega⟩, ⟨Nat.le_refl _⟩, ⟨r, HH.out, rfl⟩, ⟨Kd.R_nil _ _ _ _ _⟩, ⟨by repeat (first | (with_reducible first | exact HB.out | apply below_alloc | apply pw_below_drewN | apply below_drew1) | exact HB.out)⟩⟩
  case round =>
    clear HB
    obtain ⟨i, acc, rfl, hi, hk, hn, heq, HO, HB⟩ := hrel
    by_cases hlt : i < l0.length
    · have cb0 : decide ((i : Int) < (l0.length : Int)) = true := by simp; exact hlt
      have hcr : rdOf ByteArray.empty l0 (i : Int) = l0[i] := by
        unfold rdOf
        simp [hlt]
      obtain ⟨ad, e1, hx⟩ := Kd.at_string HR0.out (i : Int) (by omega) (by omega)
      cases e1
      replace hx := (HB.out.cell (World.block_lt_of_cell? w _ hx)).trans hx
      rw [hcr] at hx
      simp only [Int.toNat_natCast] at hx
      have p1 : (0 ≤ (i : Int)) = True := eq_true (by omega)
      have q1 : ((i : Int) < (l0.length : Int)) = True := eq_true (by omega)
      obtain ⟨q, heq', hq⟩ := heq.out
      rw [List.drop_eq_getElem_cons hlt, prKeep_cons] at heq'
      obtain ⟨b, hb, heq'⟩ := Option.bind_eq_some_iff.mp heq'
      obtain ⟨q', hq', heq'⟩ := Option.bind_eq_some_iff.mp heq'
      injection heq' with heq'
      have kk := fun W (hW : Below w.heap.size w W) => pr_keep_calls k X D ix len Sb Xb Ob Ib Ax cx Ad cd l0[i] b W (HP.out.below hW) hb
      generalize l0[i] = x at hx kk hb heq'
      obtain ⟨Ao9, co9, eo9⟩ := Kd.R_slice HO.out
      subst eo9
      have LM := Aside0.mk (show acc.length ≤ 1048576 by have := hn.out; omega)
      cases b with
      | true =>
        rw [if_pos rfl] at heq'
        have HE := Aside0.mk (show ∃ q, prKeep k X D ix len (l0.drop (i + 1)) = some q ∧ (acc ++ [x]) ++ q = r from ⟨q', hq', by rw [← hq, ← heq']; simp⟩)
        clear heq' hq hq' hb hcr heq
        go_wp2_with fail
        go_at_call 90
        refine (kk _ (by repeat (first | (with_reducible first | exact HB.out | apply below_alloc | apply pw_below_drewN | apply below_drew1) | exact HB.out))).mono ?_
        rintro e w2 ⟨rfl, hb2⟩
        have HO2 := Aside0.mk (Kd.R_below (by (with_reducible repeat (first | apply Kd.R_alloc | apply Kd.R_drewN | apply Kd.R_drew)); exact HO.out) hb2)
        have HB2 := Aside0.mk (below_step (by repeat (first | (with_reducible first | exact HB.out | apply below_alloc | apply pw_below_drewN | apply below_drew1) | exact HB.out)) hb2)
        clear HO HB hb2
        go_wp2_with ((with_reducible refine gate_builtin (b := .append) (xs := #[.tmp 17, .tmp 19]) rfl ?_); at_builtin; refine Kd.R_append Kd.string (w0 := w) w.heap.size rfl (.tmp 17) (.tmp 19) 36 9 (.string ⟨#[]⟩) 16 rfl Try.underlying36 info9 rfl (by decide) (by omega) (.slice Ao9 acc.length co9) acc x [.string x] (fun _ => True) (fun _ => False) rfl rfl ?aP (fun _ hk => hk.elim) ?aF ?aO ?aB ?aS ?aL ?_; (case aP => exact rfl); (case aB => exact (by repeat (first | (with_reducible first | exact HB2.out | apply below_alloc | apply pw_below_drewN | apply below_drew1) | exact HB2.out))); (case aF => exact (fun _ _ => trivial)); (case aO => exact (by (with_reducible repeat (first | apply Kd.R_alloc | apply Kd.R_drewN | apply Kd.R_drew)); exact HO2.out)); (case aS => exact (below_size (by repeat (first | (with_reducible first | exact HB2.out | apply below_alloc | apply pw_below_drewN | apply below_drew1) | exact HB2.out)))); (case aL => have := LM.out; omega); intro v128 w10 ho hb hg hat; have HB := Aside0.mk (hb); have HO129 := Aside0.mk (ho); clear HB2; clear HO2; clear ho hb hg hat)
        go_roundg (l0.length - (i + 1))
        case measure => have := hk.out; omega
        case rel => exact ⟨i + 1, acc ++ [x], by simp, ⟨by omega⟩, ⟨Nat.le_refl _⟩, ⟨by have := hn.out; simp; omega⟩, HE, ⟨by (with_reducible repeat (first | apply Kd.R_alloc | apply Kd.R_drewN | apply Kd.R_drew)); exact HO129.out⟩, ⟨by repeat (first | (with_reducible first | exact HB.out | apply below_alloc | apply pw_below_drewN | apply below_drew1) | exact HB.out)⟩⟩
      | false =>
        rw [if_neg (by simp)] at heq'
        have HE := Aside0.mk (show ∃ q, prKeep k X D ix len (l0.drop (i + 1)) = some q ∧ acc ++ q = r from ⟨q', hq', by rw [← hq, ← heq']⟩)
        clear heq' hq hq' hb hcr heq
        go_wp2_with fail
        go_at_call 90
        refine (kk _ (by repeat (first | (with_reducible first | exact HB.out | apply below_alloc | apply pw_below_drewN | apply below_drew1) | exact HB.out))).mono ?_
        rintro e w2 ⟨rfl, hb2⟩
        have HO2 := Aside0.mk (Kd.R_below (by (with_reducible repeat (first | apply Kd.R_alloc | apply Kd.R_drewN | apply Kd.R_drew)); exact HO.out) hb2)
        have HB2 := Aside0.mk (below_step (by repeat (first | (with_reducible first | exact HB.out | apply below_alloc | apply pw_below_drewN | apply below_drew1) | exact HB.out)) hb2)
        clear HO HB hb2
        go_wp2_with fail
        go_roundg (l0.length - (i + 1))
        case measure => have := hk.out; omega
        case rel => exact ⟨i + 1, acc, by simp, ⟨by omega⟩, ⟨Nat.le_refl _⟩, ⟨by have := hn.out; omega⟩, HE, ⟨by (with_reducible repeat (first | apply Kd.R_alloc | apply Kd.R_drewN | apply Kd.R_drew)); exact HO2.out⟩, ⟨by repeat (first | (with_reducible first | exact HB2.out | apply below_alloc | apply pw_below_drewN | apply below_drew1) | exact HB2.out)⟩⟩
    · have cb0 : decide ((i : Int) < (l0.length : Int)) = false := by simp; omega
      obtain ⟨q, hq, HE⟩ := heq.out
      rw [List.drop_eq_nil_of_le (by omega), prKeep_nil] at hq
      injection hq with hq
      subst hq
      rw [List.append_nil] at HE
      subst HE
      clear heq
      go_wp2
      go_ret
      exact ⟨_, rfl, by (with_reducible repeat (first | apply Kd.R_alloc | apply Kd.R_drewN | apply Kd.R_drew)); exact HO.out, by repeat (first | (with_reducible first | exact HB.out | apply below_alloc | apply pw_below_drewN | apply below_drew1) | exact HB.out)⟩
/-- What the loops keep: the two boxes, the rows. -/
structure PrW (w0 : World) (O Xb : Nat) (vD vX vS : Value) (D : List (List ByteArray)) (X : List (S102)) (sl : List (S68)) (w : World) : Prop where
  oc : w.cell? ⟨O, 0, none⟩ = some vD
  xc : w.cell? ⟨Xb, 0, none⟩ = some vX
  sd : Kd.S (Kd.slice 9 Kd.string) 36 w w0.heap.size (fun k_ => k_ ≠ O ∧ k_ ≠ Xb) vD D
  rx : Kd.R k102 102 w w0.heap.size (fun _ => True) vX X
  rs : Kd.R k68 68 w w0.heap.size (fun _ => True) vS sl
  hb : Below w0.heap.size w0 w
theorem PrW.below {w0 : World} {O Xb : Nat} {vD vX vS : Value} {D : List (List ByteArray)} {X : List (S102)} {sl : List (S68)} {w w' : World} (h : PrW w0 O Xb vD vX vS D X sl w) (hb : Below w.heap.size w w') : PrW w0 O Xb vD vX vS D X sl w' :=
  ⟨pw_cell_below hb h.oc, pw_cell_below hb h.xc, Kd.S_below h.sd hb, Kd.R_below h.rx hb, Kd.R_below h.rs hb, below_step h.hb hb⟩
theorem PrW.lt {w0 : World} {O Xb : Nat} {vD vX vS : Value} {D : List (List ByteArray)} {X : List (S102)} {sl : List (S68)} {w : World} (h : PrW w0 O Xb vD vX vS D X sl w) : O < w.heap.size ∧ Xb < w.heap.size := ⟨World.block_lt_of_cell? w _ h.oc, World.block_lt_of_cell? w _ h.xc⟩
/-- A kept row put into its place: it was made behind the world wa. -/
theorem PrW.put {w0 : World} {O Xb g co : Nat} {vX vS : Value} {D : List (List ByteArray)} {X : List (S102)} {sl : List (S68)} {wa w : World} {q : List ByteArray} {Aq : Option Addr} {cq : Nat} {i : Nat}
    (ha : PrW w0 O Xb (.slice (some ⟨g, 0, none⟩) D.length co) vX vS D X sl wa) (hb : Below wa.heap.size wa w) (hq : Kd.R Kd.string 9 w wa.heap.size (fun _ => True) (.slice Aq q.length cq) q) (hi : i < D.length) :
    PrW w0 O Xb (.slice (some ⟨g, 0, none⟩) (D.set i q).length co) vX vS (D.set i q) X sl (w.setCell ⟨g, i, none⟩ (.slice Aq q.length cq)) ∧ ∃ u, w.cell? ⟨g, i, none⟩ = some u ∧ w.frozen? ⟨g, i, none⟩ = false := by
  have h := ha.below hb
  have hbase : ∀ k, (Value.slice Aq q.length cq).ownBlock = some k → wa.heap.size ≤ k := Kd.R_base hq
  have hs : Kd.S (Kd.slice 9 Kd.string) 36 w w0.heap.size (fun k_ => (k_ ≠ O ∧ k_ ≠ Xb) ∧ ¬ (some k_ = (Value.slice Aq q.length cq).ownBlock)) (.slice (some ⟨g, 0, none⟩) D.length co) D := Kd.S_mono (Kd.S_elder' ha.sd hbase hb) (fun k_ hk => ⟨hk.1, fun e => hk.2 e⟩)
  have hga : g < wa.heap.size := Kd.S_lt ha.sd g (by simp [Value.ownBlock])
  have hgb : w0.heap.size ≤ g := Kd.S_base ha.sd g (by simp [Value.ownBlock])
  have hlt := ha.lt
  obtain ⟨oki, ce, hcl, hM, hcc, hfr, hoki, hH⟩ := Kd.S_elem hs [] (i : Int) (by omega) (by omega)
  obtain ⟨ve, rfl, ge⟩ := hM
  have hx := hcc 0 _ rfl
  have hf := hfr 0
  rw [show (Kd.slice 9 Kd.string).sz = 1 from rfl, Nat.mul_one, Nat.add_zero, Int.toNat_natCast] at hx hf
  have HP := Kd.S_seg hH (by omega) (by omega) (seg := [.slice Aq q.length cq]) (j := 0) (show 1 ≤ 1 from by decide) (x' := q) (Kd.M_row (Kd.R_mono (Kd.R_tight rfl (Kd.R_lower hq (show w0.heap.size ≤ wa.heap.size from ha.hb.size))) (fun _ h_ => Or.inr h_))) (fun _ hk => hk) (fun k_ hk_ => ⟨⟨by have := hbase k_ hk_.symm; omega, by have := hbase k_ hk_.symm; omega⟩, by have := hbase k_ hk_.symm; omega⟩)
  simp only [show (Kd.slice 9 Kd.string).sz = 1 from rfl, Nat.mul_one, Nat.add_zero, Int.toNat_natCast] at HP
  obtain ⟨hS, hG⟩ := HP
  have hG' : w.grownBy (w.setCell ⟨g, i, none⟩ (.slice Aq q.length cq)) (some g) := hG
  have hne : g ≠ O ∧ g ≠ Xb := (Kd.S_R ha.sd).1 g (by simp [Value.ownBlock])
  refine ⟨⟨?_, ?_, ?_, ?_, ?_, ?_⟩, ve, hx, hf⟩
  · rw [List.length_set]
    exact cell_grown hG' h.oc (by intro e; injection e with e; exact hne.1 e.symm)
  · exact cell_grown hG' h.xc (by intro e; injection e with e; exact hne.2 e.symm)
  · rw [List.length_set]
    exact hS
  · exact Kd.R_over' (v := (.slice (some ⟨g, 0, none⟩) D.length co)) h.rx (Kd.S_typed h.sd) (by decide) hG'
  · exact Kd.R_over' (v := (.slice (some ⟨g, 0, none⟩) D.length co)) h.rs (Kd.S_typed h.sd) (by decide) hG'
  · exact below_set h.hb hgb
def prHead (X : List (S102)) (sl : List (S68)) (k : Nat) (b : Bool) (D r : List (List ByteArray)) : Prop := if b = true then prOut X sl k D = some r else D = r
theorem pr_box_cell {w w1 : World} {cs : Array Value} {t : TypeId} (hb : Below (w.alloc (.cells cs t)).heap.size (w.alloc (.cells cs t)) w1) (j : Nat) (v : Value) (h : cs[j]? = some v) : w1.cell? ⟨w.heap.size, j, none⟩ = some v := by
  have h1 : (⟨w.heap.size, j, none⟩ : Addr).block < (w.alloc (.cells cs t)).heap.size := by simp [World.alloc, -World.alloc_eq]
  rw [hb.cell h1]
  simp [World.cell?, World.alloc, -World.alloc_eq, h]
set_option maxHeartbeats 4000000 in
set_option maxRecDepth 100000 in
theorem impl_Prune.calls (k : Nat) (a0_0 a0_1 : Int) (a0_2 : ByteArray) (A1 : Option Addr) (c1 : Nat) (l1 : List (List ByteArray)) (r : List (List ByteArray)) (w : World) (hr1 : Kd.C (Kd.slice 9 Kd.string) w A1 l1.length l1) (hc1 : l1.length ≤ c1) (h : impl_Prune.f k a0_0 a0_1 a0_2 l1 = some r) :
    Calls Try.prog 41 #[.agg #[.int .i64 a0_0, .int .i64 a0_1, .string a0_2], .slice A1 l1.length c1] w fun e w' => ∃ v0_ : Value, e = .returned (v0_) ∧ Kd.S (Kd.slice 9 Kd.string) 36 w' w.heap.size (fun _ => True) v0_ r ∧ Below w.heap.size w w' := by
  unfold impl_Prune.f at h
  obtain ⟨D, hD, h⟩ := Option.bind_eq_some_iff.mp h
  obtain ⟨sl, hsl, h⟩ := Option.bind_eq_some_iff.mp h
  have kd := fun W hr => impl_copyDomains.calls k A1 c1 l1 D W hr hc1 hD
  have ks := fun W => impl_SlotsOf.calls k a0_0 a0_1 a0_2 sl W hsl
  have HR1 := Aside0.mk (Kd.C_below hr1 (below_alloc (Below.refl _ _) (.cells #[.int .i64 a0_0, .int .i64 a0_1, .string a0_2] 52)))
  clear hD hsl hr1 hc1
  by_cases hne : l1.length = sl.length
  · rw [if_pos hne] at h
    obtain ⟨X, hX, h⟩ := Option.bind_eq_some_iff.mp h
    have kx := fun W => impl_CrossingsOf.calls k a0_0 a0_1 a0_2 X W hX
    have zb : ((l1.length : Int) != (sl.length : Int)) = false := by simp [hne]
    have HH := Aside0.mk h
    have NE := Aside0.mk hne
    have ZB := Aside0.mk zb
    clear hX h hne zb
    have BX := Aside0.mk (fun W (hb : Below (w.alloc (.cells #[.int .i64 a0_0, .int .i64 a0_1, .string a0_2] 52)).heap.size (w.alloc (.cells #[.int .i64 a0_0, .int .i64 a0_1, .string a0_2] 52)) W) => (⟨pr_box_cell hb 0 _ rfl, pr_box_cell hb 1 _ rfl, pr_box_cell hb 2 _ rfl⟩ : W.cell? ⟨w.heap.size, 0, none⟩ = some (.int .i64 a0_0) ∧ W.cell? ⟨w.heap.size, 1, none⟩ = some (.int .i64 a0_1) ∧ W.cell? ⟨w.heap.size, 2, none⟩ = some (.string a0_2)))
    go_enter Try.func41, Try.ntmps41
    go_wp2_with fail
    go_at_call 89
    refine (kd _ HR1.out).mono ?_
    rintro e w1 ⟨v1, rfl, hs1, hb1⟩
    obtain ⟨Ad, cd, rfl⟩ := Kd.S_slice hs1
    have HS1 := Aside0.mk hs1
    have HB1 := Aside0.mk hb1
    obtain ⟨x0, x1, x2⟩ := BX.out _ hb1
    have hz1 : w.heap.size < w1.heap.size := World.block_lt_of_cell? _ _ x0
    clear hs1 hb1 kd HR1
    go_wp2_with fail
    go_at_call 52
    refine (ks _).mono ?_
    rintro e w2 ⟨v2, rfl, hr2, hb2⟩
    obtain ⟨As, cs, rfl⟩ := Kd.R_slice hr2
    have ho2 := pr_box_cell hb2 0 _ rfl
    have HB2a := Aside0.mk (below_step (below_alloc (Below.refl _ _) _) hb2)
    have HR2 := Aside0.mk hr2
    have HO2 := Aside0.mk ho2
    have HS2 := Aside0.mk (Kd.S_below (Kd.S_alloc (Kd.S_elderB HS1.out w1.heap.size (Nat.le_refl _)) (.cells #[.slice Ad D.length cd] 34)) hb2)
    have HB2 := Aside0.mk (below_step HB1.out HB2a.out)
    have HB1z := Aside0.mk (below_alloc HB1.out (.cells #[.slice Ad D.length cd] 34))
    clear x0 x1 x2 ho2 hr2 hb2 HS1 HB1 ks
    have zb := ZB.out
    obtain ⟨x0, x1, x2⟩ := BX.out _ HB2.out
    go_wp2_with fail
    go_at_call 86
    refine (kx _).mono ?_
    rintro e w3 ⟨v3, rfl, hr3, hb3⟩
    obtain ⟨Ax, cx, rfl⟩ := Kd.R_slice hr3
    clear x0 x1 x2 zb
    have ho3 := pw_cell_below hb3 HO2.out
    have HS3 := Aside0.mk (Kd.S_below HS2.out hb3)
    have HR3 := Aside0.mk (Kd.R_below HR2.out hb3)
    have HX3 := Aside0.mk hr3
    have HB3 := Aside0.mk (below_step HB2.out hb3)
    have HO3 := Aside0.mk ho3
    clear hr3 hb3 ho3 HS2 HR2 HO2 HB2a kx
    go_wp2_with fail
    have HP0 : PrW w w1.heap.size w3.heap.size (.slice Ad D.length cd) (.slice Ax X.length cx) (.slice As sl.length cs) D X sl (w3.alloc (.cells #[.slice Ax X.length cx] 92)) :=
      ⟨pw_cell_below (below_alloc (Below.refl _ _) _) HO3.out, pr_box_cell (Below.refl _ _) 0 _ rfl, Kd.S_mono (Kd.S_alloc (Kd.S_lower (Kd.S_elderB HS3.out w3.heap.size (Nat.le_refl _)) (by simp)) _) (fun k_ hk => ⟨hk.1.2, hk.2⟩),
        Kd.R_alloc (Kd.R_lower HX3.out (by have := (below_step (w := w) (below_alloc (Below.refl _ _) _) HB2.out).size; exact this)) _, Kd.R_alloc (Kd.R_lower HR3.out (by have := (below_step (w := w) (below_alloc (Below.refl _ _) _) HB1z.out).size; exact this)) _, below_alloc (below_step (w := w) (below_alloc (Below.refl _ _) _) HB3.out) _⟩
    have HP := Aside0.mk HP0
    clear HP0 HS3 HR3 HX3 HB3 HO3 HB2 HB1z BX
    generalize w1.heap.size = O at HP ⊢
    generalize w3.heap.size = Xb at HP ⊢
    generalize w3.alloc (.cells #[.slice Ax X.length cx] 92) = wx at HP ⊢
    go_loopg [8] k (fun kq v8 w' => ∃ (b : Bool) (D' : List (List ByteArray)), v8 = .bool b ∧ Aside0 (prHead X sl kq b D' r) ∧ Aside0 (kq ≤ k) ∧ Aside0 (D'.length = D.length) ∧ Aside0 (PrW w O Xb (.slice Ad D'.length cd) (.slice Ax X.length cx) (.slice As sl.length cs) D' X sl w'))
    case atStart => exact ⟨true, D, rfl, ⟨by unfold prHead; rw [if_pos rfl]; exact HH.out⟩, ⟨Nat.le_refl _⟩, ⟨rfl⟩, HP⟩
    case round =>
      clear HH HP
      obtain ⟨b, D', rfl, HD, HK, HL, HP⟩ := hrel
      obtain ⟨wo, rfl⟩ : ∃ wo : World, wo = wr := ⟨_, rfl⟩
      cases b with
      | false =>
        have hD := HD.out
        unfold prHead at hD
        rw [if_neg (by simp)] at hD
        subst hD
        clear HD
        have o0 := HP.out.oc
        go_wp2
        go_ret
        exact ⟨_, rfl, Kd.S_mono HP.out.sd (fun _ _ => trivial), HP.out.hb⟩
      | true =>
        have hD := HD.out
        unfold prHead at hD
        rw [if_pos rfl] at hD
        clear HD
        cases gk with
        | zero => exact absurd hD (by simp [prOut])
        | succ k1 =>
          rw [prOut_succ] at hD
          obtain ⟨t, ht, hD⟩ := Option.bind_eq_some_iff.mp hD
          have HT := Aside0.mk ht
          have HD := Aside0.mk hD
          clear ht hD
          go_wp2
          go_loopg [8, 27] sl.length (fun kq v8 v27 w'' => ∃ (j : Nat) (b : Bool) (D'' : List (List ByteArray)), v8 = .bool b ∧ v27 = .int .i64 (j : Int) ∧ Aside0 (j ≤ sl.length) ∧ Aside0 (sl.length - j ≤ kq) ∧ Aside0 (prIn k1 X (sl.drop j) j D'' b = some t) ∧ Aside0 (D''.length = D.length) ∧ Aside0 (PrW w O Xb (.slice Ad D''.length cd) (.slice Ax X.length cx) (.slice As sl.length cs) D'' X sl w''))
          case atStart => exact ⟨0, false, D', rfl, rfl, ⟨Nat.zero_le _⟩, ⟨by omega⟩, ⟨by rw [List.drop_zero]; exact HT.out⟩, HL, HP⟩
          case round =>
            clear HT HP HL
            obtain ⟨j, b, D2, rfl, rfl, hj, hk, heq, HL, HP⟩ := hrel
            by_cases hlt : j < sl.length
            · have cb0 : decide ((j : Int) < (sl.length : Int)) = true := by simp; exact hlt
              have heq' := heq.out
              rw [List.drop_eq_getElem_cons hlt, prIn_cons] at heq'
              by_cases hg : j < D2.length ∧ (D2.getD j []).length ≤ 1048576
              · rw [if_pos hg] at heq'
                obtain ⟨hjD, hrow⟩ := hg
                obtain ⟨q, hq, heq'⟩ := Option.bind_eq_some_iff.mp heq'
                obtain ⟨ad, e1, hx0, hx1, hx2, hx3⟩ := at_T68 (Kd.R_reads' HP.out.rs).2.2 (j : Int) (by omega) (by omega)
                cases e1
                have hcr : rd_T68 sl (j : Int) = sl[j] := by
                  unfold rd_T68
                  simp [hlt]
                rw [hcr] at hx0 hx1 hx2 hx3
                simp only [Int.toNat_natCast] at hx0 hx1 hx2 hx3
                generalize sl[j] = s at hx0 hx1 hx2 hx3 hq heq' hcr
                obtain ⟨g, co, eg, hg1, hg2, _⟩ := Kd.S_form HP.out.sd (by omega)
                injection eg with ea el ec
                subst ea ec
                obtain ⟨c, hcl, ⟨v, rfl, hR⟩, hcc⟩ := Kd.S_get HP.out.sd [] (j : Int) (by omega) (by omega)
                have hxr := hcc 0 v rfl
                rw [show (Kd.slice 9 Kd.string).sz = 1 from rfl, Int.toNat_natCast, Nat.mul_one, Nat.add_zero, add_plain] at hxr
                rw [Int.toNat_natCast] at hR
                generalize hrw : D2.getD j [] = row at hR hq heq' hrow
                obtain ⟨Ai, ci, ei⟩ := Kd.R_slice hR
                subst ei
                have HCr := Aside0.mk (Kd.R_reads' hR).2.2
                have HJ := Aside0.mk hjD
                have HRW := Aside0.mk hrw
                have HQ := Aside0.mk hq
                have HE := Aside0.mk heq'
                have HLR := Aside0.mk hrow
                have o0 := HP.out.oc
                have zO := HP.out.lt.1
                have zX := HP.out.lt.2
                have p1 : (0 ≤ (j : Int)) = True := eq_true (by omega)
                have q1 : ((j : Int) < (sl.length : Int)) = True := eq_true (by omega)
                have q2 : ((j : Int) < (D2.length : Int)) = True := eq_true (by omega)
                have PB := Aside0.mk (show PrBox X D2 j s.f3 (wr.heap.size + 1) Xb O wr.heap.size Ax cx (some ⟨g, 0, none⟩) cd ((wr.alloc (.cells #[.int .i64 (j : Int)] 3)).alloc (.cells #[.int .i64 s.f0, .bool s.f1, .int .i64 s.f2, .int .i64 s.f3] 68)) from by
                  have hb : Below wr.heap.size wr ((wr.alloc (.cells #[.int .i64 (j : Int)] 3)).alloc (.cells #[.int .i64 s.f0, .bool s.f1, .int .i64 s.f2, .int .i64 s.f3] 68)) := below_alloc (below_alloc (Below.refl _ _) _) _
                  have hP := HP.out.below hb
                  have hz : (wr.alloc (.cells #[.int .i64 (j : Int)] 3)).heap.size = wr.heap.size + 1 := by simp [World.alloc, -World.alloc_eq]
                  refine ⟨?_, hP.xc, hP.oc, ?_, (Kd.R_reads' hP.rx).2.2, (Kd.R_reads' hP.rx).2.1, (Kd.S_reads' hP.sd).2.2, (Kd.S_reads' hP.sd).2.1⟩
                  · rw [← hz]
                    exact pr_box_cell (Below.refl _ _) 3 _ rfl
                  · exact pw_cell_below (below_alloc (Below.refl _ _) _) (pr_box_cell (Below.refl _ _) 0 _ rfl))
                clear hcr hcc hcl hR hq heq' heq hrow hrw hg1 el hjD
                go_wp2_with fail
                go_at_call 73
                refine (pr_those_calls k1 X D2 j s.f3 (wr.heap.size + 1) Xb O wr.heap.size Ax cx (some ⟨g, 0, none⟩) cd Ai ci row q _ PB.out (Kd.C_below HCr.out (below_alloc (below_alloc (Below.refl _ _) _) _)) HLR.out HQ.out).mono ?_
                rintro e w4 ⟨vq, rfl, hRq, hb4⟩
                obtain ⟨Aq, cq, rfl⟩ := Kd.R_slice hRq
                have HI4 := Aside0.mk (PB.out.below hb4).hi
                have HPa := Aside0.mk (HP.out.below (below_alloc (below_alloc (Below.refl _ _) (.cells #[.int .i64 (j : Int)] 3)) (.cells #[.int .i64 s.f0, .bool s.f1, .int .i64 s.f2, .int .i64 s.f3] 68)))
                have HP4 := Aside0.mk (HPa.out.below hb4)
                obtain ⟨HP5, u5, hx5, hf5⟩ := HPa.out.put hb4 hRq HJ.out
                obtain ⟨c, hcl, ⟨v, rfl, hR⟩, hcc⟩ := Kd.S_get HP4.out.sd [] (j : Int) (by omega) (by have := HJ.out; omega)
                have hxr := hcc 0 v rfl
                rw [show (Kd.slice 9 Kd.string).sz = 1 from rfl, Int.toNat_natCast, Nat.mul_one, Nat.add_zero, add_plain] at hxr
                rw [Int.toNat_natCast, HRW.out] at hR
                obtain ⟨Ai2, ci2, ei⟩ := Kd.R_slice hR
                subst ei
                have HP5 := Aside0.mk HP5
                obtain rfl := Option.some.inj (hx5.symm.trans hxr)
                clear hx5
                have hm : sl.length ≤ 9223372036854775807 := (Kd.R_reads' HP4.out.rs).2.2.2.1
                have i4 := HI4.out
                have o4 := HP4.out.oc
                have hE := HE.out
                have hjl := HJ.out
                clear hRq hb4 hcl hcc hR PB HP HI4 HPa o0 zO zX hx0 hx1 hx2 hx3 HE hg2
                by_cases hlq : q.length < row.length
                · rw [if_pos hlq] at hE
                  have HE := Aside0.mk hE
                  have zb : decide (q.length < row.length) = true := decide_eq_true hlq
                  clear hE hlq
                  go_wp2
                  go_roundg (sl.length - (j + 1))
                  case measure => have := hk.out; omega
                  case rel => exact ⟨j + 1, true, D2.set j q, rfl, by simp, ⟨by omega⟩, ⟨Nat.le_refl _⟩, HE, ⟨by rw [List.length_set]; exact HL.out⟩, HP5⟩
                · rw [if_neg hlq] at hE
                  have HE := Aside0.mk hE
                  have zb : decide (q.length < row.length) = false := decide_eq_false hlq
                  clear hE hlq hf5 HP5
                  go_wp2
                  go_roundg (sl.length - (j + 1))
                  case measure => have := hk.out; omega
                  case rel => exact ⟨j + 1, b, D2, rfl, by simp, ⟨by omega⟩, ⟨Nat.le_refl _⟩, HE, HL, HP4⟩
              · rw [if_neg hg] at heq'
                cases heq'
            · have cb0 : decide ((j : Int) < (sl.length : Int)) = false := by simp; omega
              have heq' := heq.out
              rw [List.drop_eq_nil_of_le (by omega), prIn_nil] at heq'
              injection heq' with heq'
              subst heq'
              clear heq
              go_wp2
              go_roundg k1
              case measure => have := HK.out; omega
              case rel => exact ⟨b, D2, rfl, ⟨by unfold prHead; have := HD.out; cases b with | true => rw [if_pos rfl] at this ⊢; exact this | false => rw [if_neg (by simp)] at this ⊢; injection this⟩, ⟨by have := HK.out; omega⟩, HL, HP⟩
  · rw [if_neg hne] at h
    injection h with h
    subst h
    have zb : ((l1.length : Int) != (sl.length : Int)) = true := bne_iff_ne.mpr (by omega)
    have ZB := Aside0.mk zb
    clear hne zb
    have BX := Aside0.mk (fun W (hb : Below (w.alloc (.cells #[.int .i64 a0_0, .int .i64 a0_1, .string a0_2] 52)).heap.size (w.alloc (.cells #[.int .i64 a0_0, .int .i64 a0_1, .string a0_2] 52)) W) => (⟨pr_box_cell hb 0 _ rfl, pr_box_cell hb 1 _ rfl, pr_box_cell hb 2 _ rfl⟩ : W.cell? ⟨w.heap.size, 0, none⟩ = some (.int .i64 a0_0) ∧ W.cell? ⟨w.heap.size, 1, none⟩ = some (.int .i64 a0_1) ∧ W.cell? ⟨w.heap.size, 2, none⟩ = some (.string a0_2)))
    go_enter Try.func41, Try.ntmps41
    go_wp2_with fail
    go_at_call 89
    refine (kd _ HR1.out).mono ?_
    rintro e w1 ⟨v1, rfl, hs1, hb1⟩
    obtain ⟨Ad, cd, rfl⟩ := Kd.S_slice hs1
    have HS1 := Aside0.mk hs1
    have HB1 := Aside0.mk hb1
    obtain ⟨x0, x1, x2⟩ := BX.out _ hb1
    have hz1 : w.heap.size < w1.heap.size := World.block_lt_of_cell? _ _ x0
    clear hs1 hb1 kd HR1
    go_wp2_with fail
    go_at_call 52
    refine (ks _).mono ?_
    rintro e w2 ⟨v2, rfl, hr2, hb2⟩
    obtain ⟨As, cs, rfl⟩ := Kd.R_slice hr2
    have ho2 := pr_box_cell hb2 0 _ rfl
    have HB2a := Aside0.mk (below_step (below_alloc (Below.refl _ _) _) hb2)
    have HR2 := Aside0.mk hr2
    have HO2 := Aside0.mk ho2
    have HS2 := Aside0.mk (Kd.S_below (Kd.S_alloc (Kd.S_elderB HS1.out w1.heap.size (Nat.le_refl _)) (.cells #[.slice Ad D.length cd] 34)) hb2)
    have HB2 := Aside0.mk (below_step HB1.out HB2a.out)
    have HB1z := Aside0.mk (below_alloc HB1.out (.cells #[.slice Ad D.length cd] 34))
    clear x0 x1 x2 ho2 hr2 hb2 HS1 HB1 ks
    have zb := ZB.out
    have o0 := HO2.out
    go_wp2
    go_ret
    exact ⟨_, rfl, Kd.S_lower (Kd.S_mono HS2.out (fun _ _ => trivial)) (by simp), below_step (w := w) (below_alloc (Below.refl _ _) _) HB2.out⟩


/-! ### laws_markText: function 123 -/
def laws_markText.l0 : Nat → Int → ByteArray → Option (ByteArray)
  | 0, _, _ => none
  | k + 1, x0, x3 => if x0 > 0 then ((some (([(wrap64 (48 + (Int.tmod x0 10))) % 256] : List Int) : List Int)).bind fun y311 => (if (strOfNums y311).size + x3.size ≤ 9223372036854775807 then (laws_markText.l0 k (wrap64 (Int.tdiv x0 10)) ((strOfNums y311) ++ x3)) else (none))) else (if 1 + x3.size ≤ 9223372036854775807 then (some ((⟨#[109]⟩ : ByteArray) ++ x3)) else (none))
def laws_markText.f (k : Nat) (a0 : Int) : Option (ByteArray) := if a0 ≤ 0 then (some (⟨#[109, 48]⟩ : ByteArray)) else (laws_markText.l0 k a0 (⟨#[]⟩ : ByteArray))
theorem laws_markText.mono_l : ∀ k, (∀ y0 y1, LeO (laws_markText.l0 k y0 y1) (laws_markText.l0 (k + 1) y0 y1))
  | 0 => fun _ _ r h => by simp [laws_markText.l0] at h
  | k + 1 => by
   have ih0 := laws_markText.mono_l k
   ·intro y0 y1
    unfold laws_markText.l0
    repeat' first
    | (with_reducible exact ih0 _ _)
    | (with_reducible exact LeO.refl _)
    | (with_reducible exact LeO.none _)
    | (with_reducible refine LeO.ite ?_ ?_)
    | (with_reducible refine LeO.bind ?_ (fun _ => ?_))
    | exact ih0 _ _
    | exact LeO.none _
    | refine LeO.ite ?_ ?_
    | refine LeO.bind ?_ (fun _ => ?_)
theorem laws_markText.mono : ∀ a0 k, LeO (laws_markText.f k a0) (laws_markText.f (k + 1) a0) := by
  intro a0 k
  have ih0 := laws_markText.mono_l k
  unfold laws_markText.f
  repeat' first
    | (with_reducible exact ih0 _ _)
    | (with_reducible exact LeO.refl _)
    | (with_reducible exact LeO.none _)
    | (with_reducible refine LeO.ite ?_ ?_)
    | (with_reducible refine LeO.bind ?_ (fun _ => ?_))
    | exact ih0 _ _
    | exact LeO.none _
    | refine LeO.ite ?_ ?_
    | refine LeO.bind ?_ (fun _ => ?_)
set_option maxHeartbeats 8000000 in
set_option maxRecDepth 100000 in
theorem laws_markText.calls (k : Nat) (a0 : Int) (r : ByteArray) (w : World) (h : laws_markText.f k a0 = some r) :
   Calls Try.prog 123 #[.int .i64 a0] w fun e w' => e = .returned (.string r) ∧ Below w.heap.size w w' := by
  have HB := Aside0.mk (Below.refl w.heap.size w)
  have H : (if a0 ≤ 0 then (some (⟨#[109, 48]⟩ : ByteArray)) else (laws_markText.l0 k a0 (⟨#[]⟩ : ByteArray))) = some r := h
  clear h
  by_cases c2 : a0 ≤ 0
  ·rw [if_pos c2] at H
   have c2b0 : decide (a0 ≤ 0) = true := decide_eq_true c2
   clear c2
   obtain rfl := Option.some.inj H
   go_enter Try.func123, Try.ntmps123
   go_wp2
   go_ret
   exact ⟨by first | rfl | (simp [errW_none, errW_some] <;> rfl) | (simp [*, errW_none, errW_some] <;> rfl), by repeat (first | (with_reducible first | exact HB.out | apply below_alloc | apply pw_below_drewN | apply below_drew1) | exact HB.out)⟩
  ·rw [if_neg c2] at H
   have c2b0 : decide (a0 ≤ 0) = false := decide_eq_false c2
   clear c2
   have H' := Aside0.mk H
   clear H
   go_enter Try.func123, Try.ntmps123
   go_wp2
   go_loopg [0, 3] k (fun kq v0 v3 w' => ∃ (x0_1 : Int) (x3_1 : ByteArray), v0 = .int .i64 x0_1 ∧ v3 = .string x3_1 ∧ Aside0 (laws_markText.l0 kq x0_1 x3_1 = some r) ∧ Aside0 (kq ≤ k) ∧ Aside0 (Below w.heap.size w w'))
   case atStart => exact ⟨(a0), ((⟨#[]⟩ : ByteArray)), (by first | rfl | (simp; done) | (simp [*]; done)), (by first | rfl | (simp; done) | (simp [*]; done)), H', ⟨Nat.le_refl _⟩, ⟨by repeat (first | (with_reducible first | exact HB.out | apply below_alloc | apply pw_below_drewN | apply below_drew1) | exact HB.out)⟩⟩
   case round =>
    clear H'
    try clear c1
    try clear c2
    try clear c2b0
    try clear p2
    obtain ⟨x0_1, x3_1, rfl, rfl, HA, HK1, HB⟩ := hrel
    cases gk with
    | zero => exact absurd HA.out (by simp [laws_markText.l0])
    | succ k1 =>
     have H := HA.out
     clear HA
     simp only [laws_markText.l0] at H
     by_cases c3 : x0_1 > 0
     ·rw [if_pos c3] at H
      have c3b0 : decide (0 < x0_1) = true := decide_eq_true c3
      clear c3
      obtain ⟨y311, hy311⟩ : ∃ y_ : List Int, y_ = (([(wrap64 (48 + (Int.tmod x0_1 10))) % 256] : List Int)) := ⟨_, rfl⟩
      replace H : (if (strOfNums y311).size + x3_1.size ≤ 9223372036854775807 then (laws_markText.l0 k1 (wrap64 (Int.tdiv x0_1 10)) ((strOfNums y311) ++ x3_1)) else (none)) = some r := by first | (rw [hy311]; with_reducible exact H) | (have H2_ := (Option.bind_some _ _).symm.trans H; rw [hy311]; with_reducible exact H2_) | (have H2_ := (Option.bind_some _ _).symm.trans H; with_reducible exact H2_) | with_reducible exact H | (rw [hy311]; exact H) | exact H
      have Ny311 := Aside0.mk hy311
      clear hy311
      by_cases c4 : (strOfNums y311).size + x3_1.size ≤ 9223372036854775807
      ·rw [if_pos c4] at H
       have c4b0 := eq_true c4
       have c4b1 : decide ((strOfNums y311).size + x3_1.size ≤ 9223372036854775807) = true := decide_eq_true c4
       try have c4b2 : (9223372036854775807 < (strOfNums y311).size + x3_1.size) = False := eq_false (Nat.not_lt.2 c4)
       have H' := Aside0.mk H
       clear H
       go_wp2_with (first | ((with_reducible refine gate_dst (N := 12) rfl ?_); refine Kd.R_lit (Kd.int .u8) _ 5 ?hg (N := 12) ?hd (xs := ([(wrap64 (48 + (Int.tmod x0_1 10))) % 256] : List Int)) (inner := [.int .u8 ((wrap64 (48 + (Int.tmod x0_1 10))) % 256)]) (ok := fun _ => True) (okp := fun _ => True) ?hr ?hp (fun _ hk => hk) trivial (Below.refl _ _) (Nat.le_refl _) (by simp) ?_; (case hd => rfl); (case hg => rfl); (case hr => first | (go_simp; done) | (go_simp; rfl)); (case hp => exact (Reps.one (show Kd.M (Kd.int .u8) _ _ _ ((wrap64 (48 + (Int.tmod x0_1 10))) % 256) [.int .u8 ((wrap64 (48 + (Int.tmod x0_1 10))) % 256)] from rfl) (Reps.none _ _))); intro v312 w5 ho6 hb hg_ hnew_; clear hg_ hnew_; (first | rw [← Ny311.out] at ho6 | (simp only [Int.reduceToNat] at ho6; rw [← Ny311.out] at ho6)); have n0_ := Aside0.mk (Kd.R_lower ho6 (below_size (by repeat (first | (with_reducible first | exact HB.out | apply below_alloc | apply pw_below_drewN | apply below_drew1) | exact HB.out)))); have n1_ := Aside0.mk (below_step (by repeat (first | (with_reducible first | exact HB.out | apply below_alloc | apply pw_below_drewN | apply below_drew1) | exact HB.out)) hb); clear HB; have HO313 := n0_; have HB := n1_; clear n0_ n1_; clear hb ho6; have hcv7 := own_string (P := Try.prog) Try.underlying22 Try.underlying5 Try.underlying9 (Kd.own_of_R HO313.out)))
       go_roundg k1
       case measure => have := HK1.out; omega
       case rel => exact ⟨(wrap64 (Int.tdiv x0_1 10)), ((strOfNums y311) ++ x3_1), (by first | rfl | (simp; done) | (simp [*]; done)), (by first | rfl | (simp; done) | (simp [*]; done)), H', ⟨by have := HK1.out; omega⟩, ⟨by repeat (first | (with_reducible first | exact HB.out | apply below_alloc | apply pw_below_drewN | apply below_drew1) | exact HB.out)⟩⟩
      ·rw [if_neg c4] at H
       exact absurd H (by simp)
     ·rw [if_neg c3] at H
      have c3b0 : decide (0 < x0_1) = false := decide_eq_false c3
      clear c3
      by_cases c8 : 1 + x3_1.size ≤ 9223372036854775807
      ·rw [if_pos c8] at H
       have c8b0 := eq_true c8
       have c8b1 : decide (1 + x3_1.size ≤ 9223372036854775807) = true := decide_eq_true c8
       try have c8b2 : (9223372036854775807 < 1 + x3_1.size) = False := eq_false (Nat.not_lt.2 c8)
       obtain rfl := Option.some.inj H
       go_wp2
       go_ret
       exact ⟨by first | rfl | (simp [errW_none, errW_some] <;> rfl) | (simp [*, errW_none, errW_some] <;> rfl), by repeat (first | (with_reducible first | exact HB.out | apply below_alloc | apply pw_below_drewN | apply below_drew1) | exact HB.out)⟩
      ·rw [if_neg c8] at H
       exact absurd H (by simp)

/-! ### laws_markStringS: function 91 -/
def laws_markStringS.l0 : Nat → List ByteArray → Int → Int → Option (Int × List ByteArray)
  | 0, _, _, _ => none
  | k + 1, x0, x1, x5 => if x5 < (x0.length : Int) then ((laws_markText.f k x1).bind fun t314 => (if 0 ≤ x5 then (laws_markStringS.l0 k (x0.set (x5 : Int).toNat t314) (wrap64 (x1 + 1)) (wrap64 (x5 + 1))) else (none))) else (some (x1, x0))
def laws_markStringS.f (k : Nat) (l0 : List ByteArray) (a1 : Int) : Option (Int × List ByteArray) := laws_markStringS.l0 k l0 a1 0
theorem laws_markStringS.mono_l : ∀ k, (∀ y0 y1 y2, LeO (laws_markStringS.l0 k y0 y1 y2) (laws_markStringS.l0 (k + 1) y0 y1 y2))
  | 0 => fun _ _ _ r h => by simp [laws_markStringS.l0] at h
  | k + 1 => by
   have ih0 := laws_markStringS.mono_l k
   ·intro y0 y1 y2
    unfold laws_markStringS.l0
    repeat' first
    | (with_reducible exact ih0 _ _ _)
    | (with_reducible exact laws_markText.mono _ _)
    | (with_reducible exact LeO.refl _)
    | (with_reducible exact LeO.none _)
    | (with_reducible refine LeO.ite ?_ ?_)
    | (with_reducible refine LeO.bind ?_ (fun _ => ?_))
    | exact ih0 _ _ _
    | exact laws_markText.mono _ _
    | exact LeO.none _
    | refine LeO.ite ?_ ?_
    | refine LeO.bind ?_ (fun _ => ?_)
theorem laws_markStringS.mono : ∀ a0 a1 k, LeO (laws_markStringS.f k a0 a1) (laws_markStringS.f (k + 1) a0 a1) := by
  intro a0 a1 k
  have ih0 := laws_markStringS.mono_l k
  unfold laws_markStringS.f
  repeat' first
    | (with_reducible exact ih0 _ _ _)
    | (with_reducible exact laws_markText.mono _ _)
    | (with_reducible exact LeO.refl _)
    | (with_reducible exact LeO.none _)
    | (with_reducible refine LeO.ite ?_ ?_)
    | (with_reducible refine LeO.bind ?_ (fun _ => ?_))
    | exact ih0 _ _ _
    | exact laws_markText.mono _ _
    | exact LeO.none _
    | refine LeO.ite ?_ ?_
    | refine LeO.bind ?_ (fun _ => ?_)
set_option maxHeartbeats 8000000 in
set_option maxRecDepth 100000 in
theorem laws_markStringS.calls (k : Nat) (P0_ : Nat → Prop) (u9000_ : Value) (l0 : List ByteArray) (a1 : Int) (r1 : Int) (r2 : List ByteArray) (w0 w : World) (hB : Below w0.heap.size w0 w) (ho0 : Kd.R Kd.string 9 w w0.heap.size P0_ u9000_ l0) (h : laws_markStringS.f k l0 a1 = some (r1, r2)) :
   Calls Try.prog 91 #[u9000_, .int .i64 a1] w fun e w' => e = .returned (.int .i64 r1) ∧ Kd.R Kd.string 9 w' w0.heap.size (fun k_ => (P0_ k_ ∨ w.heap.size ≤ k_)) u9000_ r2 ∧ Below w0.heap.size w0 w' ∧ Kept w w' (fun k_ => P0_ k_) := by
  have HO0 := Aside0.mk (show Kd.R Kd.string 9 w w0.heap.size (fun k_ => (P0_ k_ ∨ w.heap.size ≤ k_)) u9000_ l0 from Kd.R_mono ho0 (fun k_ hk => (.inl hk)))
  have HK := Aside0.mk (Kept.refl w (fun k_ => P0_ k_))
  have HW0 := Aside0.mk hB.size
  have HB := Aside0.mk hB
  clear hB
  have H : (laws_markStringS.l0 k l0 a1 0) = some (r1, r2) := h
  clear h
  have H' := Aside0.mk H
  clear H
  go_enter Try.func91, Try.ntmps91
  go_wp2
  go_loopg [1, 5] k (fun kq v1 v5 w' => ∃ (x0_1 : List ByteArray) (x1_1 : Int) (x5_1 : Int), v1 = .int .i64 x1_1 ∧ v5 = .int .i64 x5_1 ∧ Aside0 (laws_markStringS.l0 kq x0_1 x1_1 x5_1 = some (r1, r2)) ∧ Aside0 (kq ≤ k) ∧ Aside0 (Kd.R Kd.string 9 w' w0.heap.size (fun k_ => (P0_ k_ ∨ w.heap.size ≤ k_)) u9000_ x0_1) ∧ Aside0 (Kept w w' (fun k_ => P0_ k_)) ∧ Aside0 (Below w0.heap.size w0 w'))
  case atStart => exact ⟨(l0), (a1), (0), (by first | rfl | (simp; done) | (simp [*]; done)), (by first | rfl | (simp; done) | (simp [*]; done)), H', ⟨Nat.le_refl _⟩, ⟨by (with_reducible repeat (first | apply Kd.R_alloc | apply Kd.R_drewN | apply Kd.R_drew)); exact HO0.out⟩, ⟨by repeat (first | (with_reducible first | exact HK.out | apply Kept.alloc | apply Kept.drewN | apply Kept.drew) | exact HK.out)⟩, ⟨by repeat (first | (with_reducible first | exact HB.out | apply below_alloc | apply pw_below_drewN | apply below_drew1) | exact HB.out)⟩⟩
  case round =>
   clear H'
   try clear p2
   obtain ⟨x0_1, x1_1, x5_1, rfl, rfl, HA, HK1, HO_0, HK, HB⟩ := hrel
   cases gk with
   | zero => exact absurd HA.out (by simp [laws_markStringS.l0])
   | succ k1 =>
    have H := HA.out
    clear HA
    simp only [laws_markStringS.l0] at H
    by_cases c3 : x5_1 < (x0_1.length : Int)
    ·rw [if_pos c3] at H
     have c3b0 : decide (x5_1 < (x0_1.length : Int)) = true := decide_eq_true c3
     clear c3
     replace H := Option.bind_eq_some_iff.mp H
     obtain ⟨t314, A40, H⟩ := H
     replace H : (if 0 ≤ x5_1 then (laws_markStringS.l0 k1 (x0_1.set (x5_1 : Int).toNat t314) (wrap64 (x1_1 + 1)) (wrap64 (x5_1 + 1))) else (none)) = some (r1, r2) := H
     have A4 := Aside0.mk A40
     clear A40
     by_cases c5 : 0 ≤ x5_1
     ·rw [if_pos c5] at H
      have c5b0 : decide (0 ≤ x5_1) = true := decide_eq_true c5
      clear c5
      obtain ⟨y315, hy315⟩ : ∃ y_ : List ByteArray, y_ = (x0_1.set (x5_1 : Int).toNat t314) := ⟨_, rfl⟩
      replace H : (laws_markStringS.l0 k1 y315 (wrap64 (x1_1 + 1)) (wrap64 (x5_1 + 1))) = some (r1, r2) := by first | (rw [hy315]; with_reducible exact H) | (have H2_ := (Option.bind_some _ _).symm.trans H; rw [hy315]; with_reducible exact H2_) | (have H2_ := (Option.bind_some _ _).symm.trans H; with_reducible exact H2_) | with_reducible exact H | (rw [hy315]; exact H) | exact H
      have Ny315 := Aside0.mk hy315
      clear hy315
      have H' := Aside0.mk H
      clear H
      obtain ⟨Ao7, co7, eo7⟩ := Kd.R_slice HO_0.out
      subst eo7
      go_wp2_with (first | ((with_reducible refine gate_callee (f := 123) rfl ?_); refine goesL_ (some 15) rfl rfl Try.func123 (by kernel_rfl) rfl #[.int .i64 x1_1] rfl (by (try simp only [List.map_toArray, List.map_cons, List.map_nil]); first | done | rfl | (simp only [List.length_drop, List.length_take]; rfl)) ?_; (with_reducible refine (laws_markText.calls k1 x1_1 t314 _ A4.out).mono ?_); rintro e w8 ⟨rfl, hb⟩; refine ⟨_, rfl, ?_⟩; have n0_ := Aside0.mk (Kd.R_below (by (with_reducible repeat (first | apply Kd.R_alloc | apply Kd.R_drewN | apply Kd.R_drew)); exact HO_0.out) hb); have n1_ := Aside0.mk (Kept.below (S := (fun k_ => P0_ k_)) (by repeat (first | (with_reducible first | exact HK.out | apply Kept.alloc | apply Kept.drewN | apply Kept.drew) | exact HK.out)) hb); have n2_ := Aside0.mk (below_step (by repeat (first | (with_reducible first | exact HB.out | apply below_alloc | apply pw_below_drewN | apply below_drew1) | exact HB.out)) hb); clear HO_0; clear HK; clear HB; have HO_0 := n0_; have HK := n1_; have HB := n2_; clear n0_ n1_ n2_; (try clear hb); (try clear hb2); (try clear hk); (try clear hi); have p6 : 0 ≤ (x5_1 : Int) := of_decide_eq_true (by first | (with_reducible assumption) | assumption); have q6 : (x5_1 : Int) < ((x0_1.length : Int) : Int) := of_decide_eq_true (by first | (with_reducible assumption) | assumption); obtain ⟨go6, co6, eo6, gb6, gl6, cl6, HG6⟩ := Kd.R_form HO_0.out (by omega); (first | cases eo6 | (injection eo6 with ea_ en_ ec_; (first | subst ea_ | (injection ea_ with ea_; subst ea_)); subst ec_; clear en_)); have GB6 := Aside0.mk gb6; have GG6 := Aside0.mk HG6; clear gb6 gl6 HG6; have HMgo6 := Aside0.mk (show (P0_ go6 ∨ w.heap.size ≤ go6) from (HO_0.out.1 _ rfl)); obtain ⟨hx6_0, hf6_0⟩ := Kd.R_celln (⟨#[]⟩ : ByteArray) HO_0.out (x5_1 : Int) p6 q6; replace p6 := eq_true p6; replace q6 := eq_true q6; obtain ⟨hy9_, hz9_⟩ := Kd.R_celln (⟨#[]⟩ : ByteArray) HO_0.out (x5_1 : Int) (of_decide_eq_true (by first | (with_reducible assumption) | assumption)) (of_decide_eq_true (by first | (with_reducible assumption) | assumption)); have HP9 := Kd.R_putg HO_0.out (x5_1 : Int) t314) | ((with_reducible refine gate_store (t := 9) (p := 16) rfl ?_); refine store_event (t := 9) (p := 16) (v := ?vo_w10) (w1 := (w8.setCell ⟨go6, (x5_1 : Int).toNat, none⟩ (.string t314))) ?hg ?ho ?hn ?hr ?_; (case ho => rfl); (case hg => rfl); (case hn => rfl); (case hr => first | (go_simp; done) | (go_simp; rfl)); intro w10 hw; have hg : w8.grownBy w10 (some go6) := (by rw [hw]; exact HP9.2); have hp_ : Kd.R Kd.string 9 w10 w0.heap.size (fun k_ => (P0_ k_ ∨ w.heap.size ≤ k_)) (.slice (some ⟨go6, 0, none⟩) x0_1.length co7) y315 := (by rw [hw, Ny315.out]; exact HP9.1); clear HP9; have n0_ := Aside0.mk (hp_); have n1_ := Aside0.mk ((by rw [hw]; exact below_set (HB.out) GB6.out : Below w0.heap.size w0 w10)); have n2_ := Aside0.mk (Kept.of_grown (S := (fun k_ => P0_ k_)) hg (by repeat (first | (with_reducible first | exact HK.out | apply Kept.alloc | apply Kept.drewN | apply Kept.drew) | exact HK.out)) (fun k_ e_ => (HO_0.out.1 k_ e_))); clear HO_0; clear HB; clear HK; have HO_0 := n0_; have HB := n1_; have HK := n2_; clear n0_ n1_ n2_; clear hg hw hp_))
      go_roundg k1
      case measure => have := HK1.out; omega
      case rel => exact ⟨(y315), (wrap64 (x1_1 + 1)), (wrap64 (x5_1 + 1)), (by first | rfl | (simp; done) | (simp [*]; done)), (by first | rfl | (simp; done) | (simp [*]; done)), H', ⟨by have := HK1.out; omega⟩, ⟨by (with_reducible repeat (first | apply Kd.R_alloc | apply Kd.R_drewN | apply Kd.R_drew)); exact HO_0.out⟩, ⟨by repeat (first | (with_reducible first | exact HK.out | apply Kept.alloc | apply Kept.drewN | apply Kept.drew) | exact HK.out)⟩, ⟨by repeat (first | (with_reducible first | exact HB.out | apply below_alloc | apply pw_below_drewN | apply below_drew1) | exact HB.out)⟩⟩
     ·rw [if_neg c5] at H
      exact absurd H (by simp)
    ·rw [if_neg c3] at H
     have c3b0 : decide (x5_1 < (x0_1.length : Int)) = false := decide_eq_false c3
     clear c3
     simp only [Option.some.injEq, Prod.mk.injEq] at H
     obtain ⟨rfl, rfl⟩ := H
     obtain ⟨Ao11, co11, eo11⟩ := Kd.R_slice HO_0.out
     subst eo11
     go_wp2
     go_ret
     exact ⟨by first | rfl | (simp [errW_none, errW_some] <;> rfl) | (simp [*, errW_none, errW_some] <;> rfl), by (with_reducible repeat (first | apply Kd.R_alloc | apply Kd.R_drewN | apply Kd.R_drew)); exact HO_0.out, by repeat (first | (with_reducible first | exact HB.out | apply below_alloc | apply pw_below_drewN | apply below_drew1) | exact HB.out), by repeat (first | (with_reducible first | exact HK.out | apply Kept.alloc | apply Kept.drewN | apply Kept.drew) | exact HK.out)⟩

/-! ### laws_markStringSS: function 42 (given) -/
def laws_markStringSS.l0 : Nat → List (List ByteArray) → Int → Nat → Option (Int × List (List ByteArray))
  | 0, _, _, _ => none
  | k + 1, x, n, i => if i < x.length then (laws_markStringS.f k (x.getD i []) n).bind fun t => laws_markStringSS.l0 k (x.set i t.2) t.1 (i + 1) else some (n, x)
def laws_markStringSS.f (k : Nat) (l0 : List (List ByteArray)) (a1 : Int) : Option (Int × List (List ByteArray)) := if l0.length ≤ 1048576 then laws_markStringSS.l0 k l0 a1 0 else none
theorem laws_markStringSS.mono_l : ∀ k, (∀ y0 y1 y2, LeO (laws_markStringSS.l0 k y0 y1 y2) (laws_markStringSS.l0 (k + 1) y0 y1 y2))
  | 0 => fun _ _ _ r h => by simp [laws_markStringSS.l0] at h
  | k + 1 => fun y0 y1 y2 => by
    have ih := laws_markStringSS.mono_l k
    unfold laws_markStringSS.l0
    exact LeO.ite (LeO.bind (laws_markStringS.mono _ _ _) (fun _ => ih _ _ _)) (LeO.refl _)
theorem laws_markStringSS.mono : ∀ a0 a1 k, LeO (laws_markStringSS.f k a0 a1) (laws_markStringSS.f (k + 1) a0 a1) := by
  intro a0 a1 k
  unfold laws_markStringSS.f
  exact LeO.ite (laws_markStringSS.mono_l k _ _ _) (LeO.none _)
set_option maxHeartbeats 1600000 in
set_option maxRecDepth 100000 in
theorem laws_markStringSS.calls (k : Nat) (P0_ : Nat → Prop) (u : Value) (l0 : List (List ByteArray)) (a1 : Int) (r1 : Int) (r2 : List (List ByteArray)) (w0 w : World) (hB : Below w0.heap.size w0 w) (ho0 : Kd.S (Kd.slice 9 Kd.string) 36 w w0.heap.size P0_ u l0) (h : laws_markStringSS.f k l0 a1 = some (r1, r2)) :
    Calls Try.prog 42 #[u, .int .i64 a1] w fun e w' => e = .returned (.int .i64 r1) ∧ Kd.S (Kd.slice 9 Kd.string) 36 w' w0.heap.size P0_ u r2 ∧ Below w0.heap.size w0 w' ∧ Kept w w' P0_ := by
  unfold laws_markStringSS.f at h
  by_cases hl : l0.length ≤ 1048576
  · rw [if_pos hl] at h
    have HO := Aside0.mk ho0
    have HB := Aside0.mk hB
    have HK := Aside0.mk (Kept.refl w P0_)
    have H0 := Aside0.mk h
    have HL := Aside0.mk hl
    clear ho0 hB h hl
    go_enter Try.func42, Try.ntmps42
    go_wp2
    go_loopg [1, 5] k (fun kq v1 v5 w' => ∃ (x : List (List ByteArray)) (n : Int) (i : Nat), v1 = .int .i64 n ∧ v5 = .int .i64 (i : Int) ∧ Aside0 (laws_markStringSS.l0 kq x n i = some (r1, r2)) ∧ Aside0 (kq ≤ k) ∧ Aside0 (x.length ≤ 1048576) ∧ Aside0 (Kd.S (Kd.slice 9 Kd.string) 36 w' w0.heap.size P0_ u x) ∧ Aside0 (Kept w w' P0_) ∧ Aside0 (Below w0.heap.size w0 w'))
    case atStart => exact ⟨l0, a1, 0, rfl, rfl, H0, ⟨Nat.le_refl _⟩, HL, HO, HK, HB⟩
    case round =>
      clear HO HB HK H0 HL
      obtain ⟨x, n, i, rfl, rfl, HA, HQ, HL, HO, HK, HB⟩ := hrel
      obtain ⟨Ao, co, eo⟩ := Kd.S_slice HO.out
      subst eo
      cases gk with
      | zero => exact absurd HA.out (by simp [laws_markStringSS.l0])
      | succ k1 =>
        have H := HA.out
        clear HA
        unfold laws_markStringSS.l0 at H
        by_cases hlt : i < x.length
        · rw [if_pos hlt] at H
          obtain ⟨t, ht, H⟩ := Option.bind_eq_some_iff.mp H
          obtain ⟨g, cap, eg, hg1, hg2, hty⟩ := Kd.S_form HO.out (by omega)
          injection eg with ea _ ec
          subst ea ec
          have hlen := HL.out
          obtain ⟨oki, c, hcl, ⟨v, rfl, hR⟩, hcc, hoki, hH⟩ := Kd.S_lend HO.out [] (i : Int) (by omega) (by omega)
          have hx := hcc 0 v rfl
          rw [show (Kd.slice 9 Kd.string).sz = 1 from rfl, Int.toNat_natCast, Nat.mul_one, Nat.add_zero] at hx
          rw [Int.toNat_natCast] at hR
          obtain ⟨Ai, ci, ei⟩ := Kd.R_slice hR
          subst ei
          have HX := Aside0.mk hH
          have HR := Aside0.mk hR
          have HT := Aside0.mk ht
          have HN := Aside0.mk H
          have cb0 : decide ((i : Int) < (x.length : Int)) = true := by simp; exact hlt
          have p1 : (0 ≤ (i : Int)) = True := eq_true (by omega)
          have q1 : ((i : Int) < (x.length : Int)) = True := eq_true (by omega)
          have kc := fun W (hb : Below w0.heap.size w0 W) (hr : Kd.R Kd.string 9 W w0.heap.size (fun k_ => some k_ = (Value.slice Ai (x.getD i []).length ci).ownBlock) (.slice Ai (x.getD i []).length ci) (x.getD i [])) => laws_markStringS.calls k1 _ _ _ n t.1 t.2 w0 W hb hr HT.out
          clear hH hR ht H hcc hcl hty
          generalize (x.getD i []).length = m at hx kc HR HX
          go_wp2_with (go_at_call 91; refine (kc _ ?hbB ?hrR).mono ?_; (case hbB => exact (by repeat (first | (with_reducible first | exact HB.out | apply below_alloc | apply pw_below_drewN | apply below_drew1) | exact HB.out))); (case hrR => exact Kd.R_tight rfl (by (with_reducible repeat (first | apply Kd.R_alloc | apply Kd.R_drewN | apply Kd.R_drew)); exact HR.out)); rintro e w2 ⟨rfl, hR2, hB2, hK2⟩)
          have HRok := HR.out.1
          have hS := Kd.H_back (x' := t.2) (okp := fun k_ => some k_ = (Value.slice Ai m ci).ownBlock) (Kd.H_step (w1 := w2) (by (with_reducible repeat (first | apply Kd.H_alloc | apply Kd.H_drewN | apply Kd.H_drew)); exact HX.out) (fun k_ _ hno hlt_ => hK2.2 k_ hlt_ (fun he => hno (HRok k_ he.symm)))) (show (Kd.slice 9 Kd.string).M w2 w0.heap.size (fun k_ => some k_ = (Value.slice Ai m ci).ownBlock) t.2 [.slice Ai m ci] from ⟨_, rfl, Kd.R_tight rfl hR2⟩) (fun k_ hk_ => HRok k_ hk_.symm)
          rw [Int.toNat_natCast] at hS
          have hKK : Kept w w2 P0_ := Kept.then_ (by repeat (first | (with_reducible first | exact HK.out | apply Kept.alloc | apply Kept.drewN | apply Kept.drew) | exact HK.out)) hK2 (fun k_ hk_ => .inl (hoki k_ (HRok k_ hk_.symm)).1)
          go_roundg k1
          case measure => have := HQ.out; omega
          case rel => exact ⟨x.set i t.2, t.1, i + 1, rfl, by simp, HN, ⟨by have := HQ.out; omega⟩, ⟨by have := HL.out; simpa using this⟩, ⟨hS⟩, ⟨hKK⟩, ⟨hB2⟩⟩
        · rw [if_neg hlt] at H
          simp only [Option.some.injEq, Prod.mk.injEq] at H
          obtain ⟨rfl, rfl⟩ := H
          have cb0 : decide ((i : Int) < (x.length : Int)) = false := by simp; omega
          go_wp2
          go_ret
          exact ⟨rfl, HO.out, HB.out, HK.out⟩
  · rw [if_neg hl] at h
    cases h


end Go.Proofs.Ytachbhggeibciaa.QFnExactPrune
