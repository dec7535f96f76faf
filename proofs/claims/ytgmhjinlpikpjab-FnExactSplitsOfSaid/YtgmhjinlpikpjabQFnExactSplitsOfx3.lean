-- Written by a changed copy of the kit's printer (wip/mp.py of this repo), for this claim; Lean checks it.
import Derived.Test.YtgmhjinlpikpjabQFnExactSplitsOfx0
import Derived.Test.YtgmhjinlpikpjabQFnExactSplitsOfx1
import Derived.Test.YtgmhjinlpikpjabQFnExactSplitsOfx2
namespace Go.Proofs.Ytgmhjinlpikpjab.QFnExactSplitsOf
open Go.RowKit Go.Proofs.YtgmhjinlpikpjabW.PrintWords Go.Proofs.YtgmhjinlpikpjabW.PrintLast Go.Proofs.YtgmhjinlpikpjabW.PrintMore
attribute [local go_sem] max2_int min2_int max_two min_two max_three min_three max_four min_four   -- for this text's walks alone
set_option linter.unusedVariables false
set_option linter.unusedSimpArgs false

/-! ### laws_markStringSS: function 27 (given) -/
def laws_markStringSS.l0 : Nat → List (List ByteArray) → Int → Nat → Option (Int × List (List ByteArray))
  | 0, _, _, _ => none
  | k + 1, x, n, i => if i < x.length then (laws_markStringS.f k (x.getD i []) n).bind fun t => laws_markStringSS.l0 k (x.set i t.2) t.1 (i + 1) else some (n, x)
def laws_markStringSS.f (k : Nat) (l0 : List (List ByteArray)) (a1 : Int) : Option (Int × List (List ByteArray)) := if l0.length ≤ 1048576 then laws_markStringSS.l0 k l0 a1 0 else none
theorem laws_markStringSS.mono_l : ∀ k, (∀ y0 y1 y2, LeO (laws_markStringSS.l0 k y0 y1 y2) (laws_markStringSS.l0 (k + 1) y0 y1 y2))
  | 0 => fun _ _ _ r h => by simp [laws_markStringSS.l0] at h
  | k + 1 => fun y0 y1 y2 => by
    have ih := laws_markStringSS.mono_l k
    unfold laws_markStringSS.l0
    exact LeO.ite (LeO.bind (laws_markStringS.mono _ _ _) (fun _ => ih _ _ _)) (LeO.refl _)
theorem laws_markStringSS.mono : ∀ a0 a1 k, LeO (laws_markStringSS.f k a0 a1) (laws_markStringSS.f (k + 1) a0 a1) := by
  intro a0 a1 k
  unfold laws_markStringSS.f
  exact LeO.ite (laws_markStringSS.mono_l k _ _ _) (LeO.none _)
set_option maxHeartbeats 1600000 in
set_option maxRecDepth 100000 in
theorem laws_markStringSS.calls (k : Nat) (P0_ : Nat → Prop) (u : Value) (l0 : List (List ByteArray)) (a1 : Int) (r1 : Int) (r2 : List (List ByteArray)) (w0 w : World) (hB : Below w0.heap.size w0 w) (ho0 : Kd.S (Kd.slice 9 Kd.string) 23 w w0.heap.size P0_ u l0) (h : laws_markStringSS.f k l0 a1 = some (r1, r2)) :
    Calls Try.prog 27 #[u, .int .i64 a1] w fun e w' => e = .returned (.int .i64 r1) ∧ Kd.S (Kd.slice 9 Kd.string) 23 w' w0.heap.size P0_ u r2 ∧ Below w0.heap.size w0 w' ∧ Kept w w' P0_ := by
  unfold laws_markStringSS.f at h
  by_cases hl : l0.length ≤ 1048576
  · rw [if_pos hl] at h
    have HO := Aside0.mk ho0
    have HB := Aside0.mk hB
    have HK := Aside0.mk (Kept.refl w P0_)
    have H0 := Aside0.mk h
    have HL := Aside0.mk hl
    clear ho0 hB h hl
    go_enter Try.func27, Try.ntmps27
    go_wp2
    go_loopg [1, 5] k (fun kq v1 v5 w' => ∃ (x : List (List ByteArray)) (n : Int) (i : Nat), v1 = .int .i64 n ∧ v5 = .int .i64 (i : Int) ∧ Aside0 (laws_markStringSS.l0 kq x n i = some (r1, r2)) ∧ Aside0 (kq ≤ k) ∧ Aside0 (x.length ≤ 1048576) ∧ Aside0 (Kd.S (Kd.slice 9 Kd.string) 23 w' w0.heap.size P0_ u x) ∧ Aside0 (Kept w w' P0_) ∧ Aside0 (Below w0.heap.size w0 w'))
    case atStart => exact ⟨l0, a1, 0, rfl, rfl, H0, ⟨Nat.le_refl _⟩, HL, HO, HK, HB⟩
    case round =>
      clear HO HB HK H0 HL
      obtain ⟨x, n, i, rfl, rfl, HA, HQ, HL, HO, HK, HB⟩ := hrel
      obtain ⟨Ao, co, eo⟩ := Kd.S_slice HO.out
      subst eo
      cases gk with
      | zero => exact absurd HA.out (by simp [laws_markStringSS.l0])
      | succ k1 =>
        have H := HA.out
        clear HA
        unfold laws_markStringSS.l0 at H
        by_cases hlt : i < x.length
        · rw [if_pos hlt] at H
          obtain ⟨t, ht, H⟩ := Option.bind_eq_some_iff.mp H
          obtain ⟨g, cap, eg, hg1, hg2, hty⟩ := Kd.S_form HO.out (by omega)
          injection eg with ea _ ec
          subst ea ec
          have hlen := HL.out
          obtain ⟨oki, c, hcl, ⟨v, rfl, hR⟩, hcc, hoki, hH⟩ := Kd.S_lend HO.out [] (i : Int) (by omega) (by omega)
          have hx := hcc 0 v rfl
          rw [show (Kd.slice 9 Kd.string).sz = 1 from rfl, Int.toNat_natCast, Nat.mul_one, Nat.add_zero] at hx
          rw [Int.toNat_natCast] at hR
          obtain ⟨Ai, ci, ei⟩ := Kd.R_slice hR
          subst ei
          have HX := Aside0.mk hH
          have HR := Aside0.mk hR
          have HT := Aside0.mk ht
          have HN := Aside0.mk H
          have cb0 : decide ((i : Int) < (x.length : Int)) = true := by simp; exact hlt
          have p1 : (0 ≤ (i : Int)) = True := eq_true (by omega)
          have q1 : ((i : Int) < (x.length : Int)) = True := eq_true (by omega)
          have kc := fun W (hb : Below w0.heap.size w0 W) (hr : Kd.R Kd.string 9 W w0.heap.size (fun k_ => some k_ = (Value.slice Ai (x.getD i []).length ci).ownBlock) (.slice Ai (x.getD i []).length ci) (x.getD i [])) => laws_markStringS.calls k1 _ _ _ n t.1 t.2 w0 W hb hr HT.out
          clear hH hR ht H hcc hcl hty
          generalize (x.getD i []).length = m at hx kc HR HX
          go_wp2_with (go_at_call 18; refine (kc _ ?hbB ?hrR).mono ?_; (case hbB => exact (by repeat (first | (with_reducible first | exact HB.out | apply below_alloc | apply pw_below_drewN | apply below_drew1) | exact HB.out))); (case hrR => exact Kd.R_tight rfl (by (with_reducible repeat (first | apply Kd.R_alloc | apply Kd.R_drewN | apply Kd.R_drew)); exact HR.out)); rintro e w2 ⟨rfl, hR2, hB2, hK2⟩)
          have HRok := HR.out.1
          have hS := Kd.H_back (x' := t.2) (okp := fun k_ => some k_ = (Value.slice Ai m ci).ownBlock) (Kd.H_step (w1 := w2) (by (with_reducible repeat (first | apply Kd.H_alloc | apply Kd.H_drewN | apply Kd.H_drew)); exact HX.out) (fun k_ _ hno hlt_ => hK2.2 k_ hlt_ (fun he => hno (HRok k_ he.symm)))) (show (Kd.slice 9 Kd.string).M w2 w0.heap.size (fun k_ => some k_ = (Value.slice Ai m ci).ownBlock) t.2 [.slice Ai m ci] from ⟨_, rfl, Kd.R_tight rfl hR2⟩) (fun k_ hk_ => HRok k_ hk_.symm)
          rw [Int.toNat_natCast] at hS
          have hKK : Kept w w2 P0_ := Kept.then_ (by repeat (first | (with_reducible first | exact HK.out | apply Kept.alloc | apply Kept.drewN | apply Kept.drew) | exact HK.out)) hK2 (fun k_ hk_ => .inl (hoki k_ (HRok k_ hk_.symm)).1)
          go_roundg k1
          case measure => have := HQ.out; omega
          case rel => exact ⟨x.set i t.2, t.1, i + 1, rfl, by simp, HN, ⟨by have := HQ.out; omega⟩, ⟨by have := HL.out; simpa using this⟩, ⟨hS⟩, ⟨hKK⟩, ⟨hB2⟩⟩
        · rw [if_neg hlt] at H
          simp only [Option.some.injEq, Prod.mk.injEq] at H
          obtain ⟨rfl, rfl⟩ := H
          have cb0 : decide ((i : Int) < (x.length : Int)) = false := by simp; omega
          go_wp2
          go_ret
          exact ⟨rfl, HO.out, HB.out, HK.out⟩
  · rw [if_neg hl] at h
    cases h


/-! ### laws_heldStringS: function 19 -/
def laws_heldStringS.l0 : Nat → List ByteArray → Int → Int → Option (Int)
  | 0, _, _, _ => none
  | k + 1, x0, x1, x5 => if x5 < (x0.length : Int) then (if 0 ≤ x5 then ((laws_markText.f k x1).bind fun t132 => (if (rdOf ByteArray.empty x0 x5).toList = t132.toList then (laws_heldStringS.l0 k x0 (wrap64 (x1 + 1)) (wrap64 (x5 + 1))) else (some (-1)))) else (none)) else (some x1)
def laws_heldStringS.f (k : Nat) (l0 : List ByteArray) (a1 : Int) : Option (Int) := laws_heldStringS.l0 k l0 a1 0
theorem laws_heldStringS.mono_l : ∀ k, (∀ y0 y1 y2, LeO (laws_heldStringS.l0 k y0 y1 y2) (laws_heldStringS.l0 (k + 1) y0 y1 y2))
  | 0 => fun _ _ _ r h => by simp [laws_heldStringS.l0] at h
  | k + 1 => by
   have ih0 := laws_heldStringS.mono_l k
   ·intro y0 y1 y2
    unfold laws_heldStringS.l0
    repeat' first
    | (with_reducible exact ih0 _ _ _)
    | (with_reducible exact laws_markText.mono _ _)
    | (with_reducible exact LeO.refl _)
    | (with_reducible exact LeO.none _)
    | (with_reducible refine LeO.ite ?_ ?_)
    | (with_reducible refine LeO.bind ?_ (fun _ => ?_))
    | exact ih0 _ _ _
    | exact laws_markText.mono _ _
    | exact LeO.none _
    | refine LeO.ite ?_ ?_
    | refine LeO.bind ?_ (fun _ => ?_)
theorem laws_heldStringS.mono : ∀ a0 a1 k, LeO (laws_heldStringS.f k a0 a1) (laws_heldStringS.f (k + 1) a0 a1) := by
  intro a0 a1 k
  have ih0 := laws_heldStringS.mono_l k
  unfold laws_heldStringS.f
  repeat' first
    | (with_reducible exact ih0 _ _ _)
    | (with_reducible exact laws_markText.mono _ _)
    | (with_reducible exact LeO.refl _)
    | (with_reducible exact LeO.none _)
    | (with_reducible refine LeO.ite ?_ ?_)
    | (with_reducible refine LeO.bind ?_ (fun _ => ?_))
    | exact ih0 _ _ _
    | exact laws_markText.mono _ _
    | exact LeO.none _
    | refine LeO.ite ?_ ?_
    | refine LeO.bind ?_ (fun _ => ?_)
set_option maxHeartbeats 8000000 in
set_option maxRecDepth 100000 in
theorem laws_heldStringS.calls (k : Nat) (A0 : Option Addr) (c0 : Nat) (l0 : List ByteArray) (a1 : Int) (r : Int) (w : World) (hr0 : Kd.C Kd.string w A0 l0.length l0) (hc0 : l0.length ≤ c0) (h : laws_heldStringS.f k l0 a1 = some r) :
   Calls Try.prog 19 #[.slice A0 l0.length c0, .int .i64 a1] w fun e w' => e = .returned (.int .i64 r) ∧ Below w.heap.size w w' := by
  have HR0 := Aside0.mk hr0
  have HC0 := Aside0.mk hc0
  clear hr0 hc0
  have HB := Aside0.mk (Below.refl w.heap.size w)
  have H : (laws_heldStringS.l0 k l0 a1 0) = some r := h
  clear h
  have H' := Aside0.mk H
  clear H
  go_enter Try.func19, Try.ntmps19
  go_wp2
  go_loopg [1, 5] k (fun kq v1 v5 w' => ∃ (x1_1 : Int) (x5_1 : Int), v1 = .int .i64 x1_1 ∧ v5 = .int .i64 x5_1 ∧ Aside0 (laws_heldStringS.l0 kq l0 x1_1 x5_1 = some r) ∧ Aside0 (kq ≤ k) ∧ Aside0 (Below w.heap.size w w'))
  case atStart => exact ⟨(a1), (0), (by first | rfl | (simp; done) | (simp [*]; done)), (by first | rfl | (simp; done) | (simp [*]; done)), H', ⟨Nat.le_refl _⟩, ⟨by repeat (first | (with_reducible first | exact HB.out | apply below_alloc | apply pw_below_drewN | apply below_drew1) | exact HB.out)⟩⟩
  case round =>
   clear H'
   try clear c1
   try clear p2
   obtain ⟨x1_1, x5_1, rfl, rfl, HA, HK1, HB⟩ := hrel
   cases gk with
   | zero => exact absurd HA.out (by simp [laws_heldStringS.l0])
   | succ k1 =>
    have H := HA.out
    clear HA
    simp only [laws_heldStringS.l0] at H
    by_cases c3 : x5_1 < (l0.length : Int)
    ·rw [if_pos c3] at H
     have c3b0 : decide (x5_1 < (l0.length : Int)) = true := decide_eq_true c3
     clear c3
     by_cases c4 : 0 ≤ x5_1
     ·rw [if_pos c4] at H
      have c4b0 : decide (0 ≤ x5_1) = true := decide_eq_true c4
      clear c4
      replace H := Option.bind_eq_some_iff.mp H
      obtain ⟨t132, A50, H⟩ := H
      replace H : (if (rdOf ByteArray.empty l0 x5_1).toList = t132.toList then (laws_heldStringS.l0 k1 l0 (wrap64 (x1_1 + 1)) (wrap64 (x5_1 + 1))) else (some (-1))) = some r := H
      have A5 := Aside0.mk A50
      clear A50
      by_cases c6 : (rdOf ByteArray.empty l0 x5_1).toList = t132.toList
      ·rw [if_pos c6] at H
       have c6b0 : ((rdOf ByteArray.empty l0 x5_1).toList == t132.toList) = true := beq_iff_eq.mpr c6
       have c6b1 : ((rdOf ByteArray.empty l0 x5_1).toList != t132.toList) = false := bne_eq_false_iff_eq.mpr c6
       clear c6
       have H' := Aside0.mk H
       clear H
       try go_wp2
       have n0_ := Aside0.mk (below_drew1 HB.out)
       clear HB
       have HB := n0_
       clear n0_
       have p131 : 0 ≤ (x5_1 : Int) := of_decide_eq_true (by first | (with_reducible assumption) | assumption)
       have q131 : x5_1 < (l0.length : Int) := of_decide_eq_true (by first | (with_reducible assumption) | assumption)
       obtain ⟨ad131, e131, hx131_0⟩ := Kd.at_string HR0.out x5_1 p131 q131
       have hw131_0 := hx131_0
       cases e131
       try replace hx131_0 := (HB.out.cell (World.block_lt_of_cell? w _ hx131_0)).trans hx131_0
       replace p131 := eq_true p131
       replace q131 := eq_true q131
       refine start_ (n := 7) (S := fun w' => w'.cell? (ad131.add (x5_1).toNat) = some (.string (rdOf ByteArray.empty l0 x5_1))) (ds := []) #[false, false, false, false, false, false, false] (by kernel_rfl) rfl rfl (((HB.out.cell (World.block_lt_of_cell? w _ hw131_0)).trans hw131_0)) (fun hHeld => ?_)
       generalize wr.drew = w7 at HB hx131_0 hHeld ⊢
       refine pure_ (i := 0) (N := some 12) (v := ?_) (a' := ?_) #[true, false, false, false, false, false, false] rfl rfl (by kernel_rfl) (fun _ _ _ h => h) (Or.inl ⟨by rfl, ?_⟩) ?_ ?_
       rotate_left
       ·intro w'
        go_simp
        with_reducible rfl
       rotate_left
       ·simp only [Act.put, List.setIfInBounds_toArray, List.set_cons_zero, List.set_cons_succ, i64_w, i32_w]
        rfl
       refine pure_ (i := 1) (N := some 13) (v := ?_) (a' := ?_) #[true, true, false, false, false, false, false] rfl rfl (by kernel_rfl) (fun _ _ _ h => h) (Or.inl ⟨by rfl, ?_⟩) ?_ ?_
       rotate_left
       ·intro w'
        go_simp
        with_reducible rfl
       rotate_left
       ·simp only [Act.put, List.setIfInBounds_toArray, List.set_cons_zero, List.set_cons_succ, i64_w, i32_w]
        rfl
       refine pure_ (i := 2) (N := some 14) (v := ?_) (a' := ?_) #[true, true, true, false, false, false, false] rfl rfl (by kernel_rfl) (fun _ _ _ h => h) (Or.inl ⟨by rfl, ?_⟩) ?_ ?_
       rotate_left
       ·intro w'
        go_simp
        with_reducible rfl
       rotate_left
       ·simp only [Act.put, List.setIfInBounds_toArray, List.set_cons_zero, List.set_cons_succ, i64_w, i32_w]
        rfl
       refine pure_ (i := 4) (N := some 16) (v := ?_) (a' := ?_) #[true, true, true, false, true, false, false] rfl rfl (by kernel_rfl) (fun _ _ _ h => h) (Or.inl ⟨by rfl, ?_⟩) ?_ ?_
       rotate_left
       ·intro w'
        go_simp
        with_reducible rfl
       rotate_left
       ·simp only [Act.put, List.setIfInBounds_toArray, List.set_cons_zero, List.set_cons_succ, i64_w, i32_w]
        rfl
       refine take_ (i := 3) (N := some 15) (v := ?_) (a' := ?_) #[true, true, true, true, true, false, false] rfl rfl (by kernel_rfl) (fun _ _ _ h => h) (Or.inl ⟨by rfl, ?_⟩) hHeld ?_ ?_
       rotate_left
       ·intro w' s0
        go_simp
        with_reducible rfl
       rotate_left
       ·simp only [Act.put, List.setIfInBounds_toArray, List.set_cons_zero, List.set_cons_succ, i64_w, i32_w]
        rfl
       refine one_ (i := 5) (N := some 17) #[true, true, true, true, true, true, false] rfl rfl (by kernel_rfl) (by decide) (fun K hK => ?_)
       refine goes_ Try.func42 (by kernel_rfl) rfl #[.int .i64 x1_1] (by rfl) rfl rfl (by (try simp only [List.map_toArray, List.map_cons, List.map_nil]); first | done | rfl | (simp only [List.length_drop, List.length_take]; rfl)) ?_
       with_reducible refine (laws_markText.calls k1 x1_1 t132 _ A5.out).mono ?_
       rintro e w8 ⟨rfl, hb⟩
       refine ⟨_, rfl, ?_⟩
       have n0_ := Aside0.mk (below_step (by repeat (first | (with_reducible first | exact HB.out | apply below_alloc | apply pw_below_drewN | apply below_drew1) | exact HB.out)) hb)
       clear HB
       have HB := n0_
       clear n0_
       (try clear hb)
       (try clear hb2)
       (try clear hk)
       (try clear hi)
       refine hK.out _ _ (((HB.out.cell (World.block_lt_of_cell? w _ hw131_0)).trans hw131_0)) (fun hHeld => ?_)
       clear hK K
       refine norm_ (a' := ?_) ?_ ?_
       rotate_left
       ·show Act.put _ (some 17) _ = _
        simp only [Act.put, List.setIfInBounds_toArray, List.set_cons_zero, List.set_cons_succ, i64_w, i32_w]
        rfl
       refine pure_ (i := 6) (N := some 18) (v := ?_) (a' := ?_) #[true, true, true, true, true, true, true] rfl rfl (by kernel_rfl) (fun _ _ _ h => h) (Or.inl ⟨by rfl, ?_⟩) ?_ ?_
       rotate_left
       ·intro w'
        go_simp
        with_reducible rfl
       rotate_left
       ·simp only [Act.put, List.setIfInBounds_toArray, List.set_cons_zero, List.set_cons_succ, i64_w, i32_w]
        rfl
       refine done_ (by kernel_rfl) ?_
       try go_wp2
       go_roundg k1
       case measure => have := HK1.out; omega
       case rel => exact ⟨(wrap64 (x1_1 + 1)), (wrap64 (x5_1 + 1)), (by first | rfl | (simp; done) | (simp [*]; done)), (by first | rfl | (simp; done) | (simp [*]; done)), H', ⟨by have := HK1.out; omega⟩, ⟨by repeat (first | (with_reducible first | exact HB.out | apply below_alloc | apply pw_below_drewN | apply below_drew1) | exact HB.out)⟩⟩
      ·rw [if_neg c6] at H
       have c6b0 : ((rdOf ByteArray.empty l0 x5_1).toList == t132.toList) = false := beq_eq_false_iff_ne.mpr c6
       have c6b1 : ((rdOf ByteArray.empty l0 x5_1).toList != t132.toList) = true := bne_iff_ne.mpr c6
       obtain rfl := Option.some.inj H
       try go_wp2
       have n0_ := Aside0.mk (below_drew1 HB.out)
       clear HB
       have HB := n0_
       clear n0_
       have p131 : 0 ≤ (x5_1 : Int) := of_decide_eq_true (by first | (with_reducible assumption) | assumption)
       have q131 : x5_1 < (l0.length : Int) := of_decide_eq_true (by first | (with_reducible assumption) | assumption)
       obtain ⟨ad131, e131, hx131_0⟩ := Kd.at_string HR0.out x5_1 p131 q131
       have hw131_0 := hx131_0
       cases e131
       try replace hx131_0 := (HB.out.cell (World.block_lt_of_cell? w _ hx131_0)).trans hx131_0
       replace p131 := eq_true p131
       replace q131 := eq_true q131
       refine start_ (n := 7) (S := fun w' => w'.cell? (ad131.add (x5_1).toNat) = some (.string (rdOf ByteArray.empty l0 x5_1))) (ds := []) #[false, false, false, false, false, false, false] (by kernel_rfl) rfl rfl (((HB.out.cell (World.block_lt_of_cell? w _ hw131_0)).trans hw131_0)) (fun hHeld => ?_)
       generalize wr.drew = w9 at HB hx131_0 hHeld ⊢
       refine pure_ (i := 0) (N := some 12) (v := ?_) (a' := ?_) #[true, false, false, false, false, false, false] rfl rfl (by kernel_rfl) (fun _ _ _ h => h) (Or.inl ⟨by rfl, ?_⟩) ?_ ?_
       rotate_left
       ·intro w'
        go_simp
        with_reducible rfl
       rotate_left
       ·simp only [Act.put, List.setIfInBounds_toArray, List.set_cons_zero, List.set_cons_succ, i64_w, i32_w]
        rfl
       refine pure_ (i := 1) (N := some 13) (v := ?_) (a' := ?_) #[true, true, false, false, false, false, false] rfl rfl (by kernel_rfl) (fun _ _ _ h => h) (Or.inl ⟨by rfl, ?_⟩) ?_ ?_
       rotate_left
       ·intro w'
        go_simp
        with_reducible rfl
       rotate_left
       ·simp only [Act.put, List.setIfInBounds_toArray, List.set_cons_zero, List.set_cons_succ, i64_w, i32_w]
        rfl
       refine pure_ (i := 2) (N := some 14) (v := ?_) (a' := ?_) #[true, true, true, false, false, false, false] rfl rfl (by kernel_rfl) (fun _ _ _ h => h) (Or.inl ⟨by rfl, ?_⟩) ?_ ?_
       rotate_left
       ·intro w'
        go_simp
        with_reducible rfl
       rotate_left
       ·simp only [Act.put, List.setIfInBounds_toArray, List.set_cons_zero, List.set_cons_succ, i64_w, i32_w]
        rfl
       refine pure_ (i := 4) (N := some 16) (v := ?_) (a' := ?_) #[true, true, true, false, true, false, false] rfl rfl (by kernel_rfl) (fun _ _ _ h => h) (Or.inl ⟨by rfl, ?_⟩) ?_ ?_
       rotate_left
       ·intro w'
        go_simp
        with_reducible rfl
       rotate_left
       ·simp only [Act.put, List.setIfInBounds_toArray, List.set_cons_zero, List.set_cons_succ, i64_w, i32_w]
        rfl
       refine take_ (i := 3) (N := some 15) (v := ?_) (a' := ?_) #[true, true, true, true, true, false, false] rfl rfl (by kernel_rfl) (fun _ _ _ h => h) (Or.inl ⟨by rfl, ?_⟩) hHeld ?_ ?_
       rotate_left
       ·intro w' s0
        go_simp
        with_reducible rfl
       rotate_left
       ·simp only [Act.put, List.setIfInBounds_toArray, List.set_cons_zero, List.set_cons_succ, i64_w, i32_w]
        rfl
       refine one_ (i := 5) (N := some 17) #[true, true, true, true, true, true, false] rfl rfl (by kernel_rfl) (by decide) (fun K hK => ?_)
       refine goes_ Try.func42 (by kernel_rfl) rfl #[.int .i64 x1_1] (by rfl) rfl rfl (by (try simp only [List.map_toArray, List.map_cons, List.map_nil]); first | done | rfl | (simp only [List.length_drop, List.length_take]; rfl)) ?_
       with_reducible refine (laws_markText.calls k1 x1_1 t132 _ A5.out).mono ?_
       rintro e w10 ⟨rfl, hb⟩
       refine ⟨_, rfl, ?_⟩
       have n0_ := Aside0.mk (below_step (by repeat (first | (with_reducible first | exact HB.out | apply below_alloc | apply pw_below_drewN | apply below_drew1) | exact HB.out)) hb)
       clear HB
       have HB := n0_
       clear n0_
       (try clear hb)
       (try clear hb2)
       (try clear hk)
       (try clear hi)
       refine hK.out _ _ (((HB.out.cell (World.block_lt_of_cell? w _ hw131_0)).trans hw131_0)) (fun hHeld => ?_)
       clear hK K
       refine norm_ (a' := ?_) ?_ ?_
       rotate_left
       ·show Act.put _ (some 17) _ = _
        simp only [Act.put, List.setIfInBounds_toArray, List.set_cons_zero, List.set_cons_succ, i64_w, i32_w]
        rfl
       refine pure_ (i := 6) (N := some 18) (v := ?_) (a' := ?_) #[true, true, true, true, true, true, true] rfl rfl (by kernel_rfl) (fun _ _ _ h => h) (Or.inl ⟨by rfl, ?_⟩) ?_ ?_
       rotate_left
       ·intro w'
        go_simp
        with_reducible rfl
       rotate_left
       ·simp only [Act.put, List.setIfInBounds_toArray, List.set_cons_zero, List.set_cons_succ, i64_w, i32_w]
        rfl
       refine done_ (by kernel_rfl) ?_
       try go_wp2
       go_ret
       exact ⟨by first | rfl | (simp [errW_none, errW_some] <;> rfl) | (simp [*, errW_none, errW_some] <;> rfl), by repeat (first | (with_reducible first | exact HB.out | apply below_alloc | apply pw_below_drewN | apply below_drew1) | exact HB.out)⟩
     ·rw [if_neg c4] at H
      exact absurd H (by simp)
    ·rw [if_neg c3] at H
     have c3b0 : decide (x5_1 < (l0.length : Int)) = false := decide_eq_false c3
     clear c3
     obtain rfl := Option.some.inj H
     go_wp2
     go_ret
     exact ⟨by first | rfl | (simp [errW_none, errW_some] <;> rfl) | (simp [*, errW_none, errW_some] <;> rfl), by repeat (first | (with_reducible first | exact HB.out | apply below_alloc | apply pw_below_drewN | apply below_drew1) | exact HB.out)⟩

/-! ### laws_heldStringSS: function 28 -/
def laws_heldStringSS.l0 : Nat → List (List ByteArray) → Int → Int → Option (Int)
  | 0, _, _, _ => none
  | k + 1, x0, x1, x5 => if x5 < (x0.length : Int) then (if 0 ≤ x5 then ((laws_heldStringS.f k (rd_L1 x0 x5) x1).bind fun t134 => (if t134 < 0 then (some (-1)) else (laws_heldStringSS.l0 k x0 t134 (wrap64 (x5 + 1))))) else (none)) else (some x1)
def laws_heldStringSS.f (k : Nat) (l0 : List (List ByteArray)) (a1 : Int) : Option (Int) := laws_heldStringSS.l0 k l0 a1 0
theorem laws_heldStringSS.mono_l : ∀ k, (∀ y0 y1 y2, LeO (laws_heldStringSS.l0 k y0 y1 y2) (laws_heldStringSS.l0 (k + 1) y0 y1 y2))
  | 0 => fun _ _ _ r h => by simp [laws_heldStringSS.l0] at h
  | k + 1 => by
   have ih0 := laws_heldStringSS.mono_l k
   ·intro y0 y1 y2
    unfold laws_heldStringSS.l0
    repeat' first
    | (with_reducible exact ih0 _ _ _)
    | (with_reducible exact laws_heldStringS.mono _ _ _)
    | (with_reducible exact LeO.refl _)
    | (with_reducible exact LeO.none _)
    | (with_reducible refine LeO.ite ?_ ?_)
    | (with_reducible refine LeO.bind ?_ (fun _ => ?_))
    | exact ih0 _ _ _
    | exact laws_heldStringS.mono _ _ _
    | exact LeO.none _
    | refine LeO.ite ?_ ?_
    | refine LeO.bind ?_ (fun _ => ?_)
theorem laws_heldStringSS.mono : ∀ a0 a1 k, LeO (laws_heldStringSS.f k a0 a1) (laws_heldStringSS.f (k + 1) a0 a1) := by
  intro a0 a1 k
  have ih0 := laws_heldStringSS.mono_l k
  unfold laws_heldStringSS.f
  repeat' first
    | (with_reducible exact ih0 _ _ _)
    | (with_reducible exact laws_heldStringS.mono _ _ _)
    | (with_reducible exact LeO.refl _)
    | (with_reducible exact LeO.none _)
    | (with_reducible refine LeO.ite ?_ ?_)
    | (with_reducible refine LeO.bind ?_ (fun _ => ?_))
    | exact ih0 _ _ _
    | exact laws_heldStringS.mono _ _ _
    | exact LeO.none _
    | refine LeO.ite ?_ ?_
    | refine LeO.bind ?_ (fun _ => ?_)
set_option maxHeartbeats 8000000 in
set_option maxRecDepth 100000 in
theorem laws_heldStringSS.calls (k : Nat) (A0 : Option Addr) (c0 : Nat) (l0 : List (List ByteArray)) (a1 : Int) (r : Int) (w : World) (hr0 : Kd.C (Kd.slice 9 Kd.string) w A0 l0.length l0) (hc0 : l0.length ≤ c0) (h : laws_heldStringSS.f k l0 a1 = some r) :
   Calls Try.prog 28 #[.slice A0 l0.length c0, .int .i64 a1] w fun e w' => e = .returned (.int .i64 r) ∧ Below w.heap.size w w' := by
  have HR0 := Aside0.mk hr0
  have HC0 := Aside0.mk hc0
  clear hr0 hc0
  have HB := Aside0.mk (Below.refl w.heap.size w)
  have H : (laws_heldStringSS.l0 k l0 a1 0) = some r := h
  clear h
  have H' := Aside0.mk H
  clear H
  go_enter Try.func28, Try.ntmps28
  go_wp2
  go_loopg [1, 5] k (fun kq v1 v5 w' => ∃ (x1_1 : Int) (x5_1 : Int), v1 = .int .i64 x1_1 ∧ v5 = .int .i64 x5_1 ∧ Aside0 (laws_heldStringSS.l0 kq l0 x1_1 x5_1 = some r) ∧ Aside0 (kq ≤ k) ∧ Aside0 (Below w.heap.size w w'))
  case atStart => exact ⟨(a1), (0), (by first | rfl | (simp; done) | (simp [*]; done)), (by first | rfl | (simp; done) | (simp [*]; done)), H', ⟨Nat.le_refl _⟩, ⟨by repeat (first | (with_reducible first | exact HB.out | apply below_alloc | apply pw_below_drewN | apply below_drew1) | exact HB.out)⟩⟩
  case round =>
   clear H'
   try clear c2
   try clear p2
   obtain ⟨x1_1, x5_1, rfl, rfl, HA, HK1, HB⟩ := hrel
   cases gk with
   | zero => exact absurd HA.out (by simp [laws_heldStringSS.l0])
   | succ k1 =>
    have H := HA.out
    clear HA
    simp only [laws_heldStringSS.l0] at H
    by_cases c3 : x5_1 < (l0.length : Int)
    ·rw [if_pos c3] at H
     have c3b0 : decide (x5_1 < (l0.length : Int)) = true := decide_eq_true c3
     clear c3
     by_cases c4 : 0 ≤ x5_1
     ·rw [if_pos c4] at H
      have c4b0 : decide (0 ≤ x5_1) = true := decide_eq_true c4
      clear c4
      replace H := Option.bind_eq_some_iff.mp H
      obtain ⟨t134, A50, H⟩ := H
      replace H : (if t134 < 0 then (some (-1)) else (laws_heldStringSS.l0 k1 l0 t134 (wrap64 (x5_1 + 1)))) = some r := H
      have A5 := Aside0.mk A50
      clear A50
      by_cases c6 : t134 < 0
      ·rw [if_pos c6] at H
       have c6b0 : decide (t134 < 0) = true := decide_eq_true c6
       clear c6
       obtain rfl := Option.some.inj H
       have p133 : 0 ≤ (x5_1 : Int) := of_decide_eq_true (by first | (with_reducible assumption) | assumption)
       have q133 : x5_1 < (l0.length : Int) := of_decide_eq_true (by first | (with_reducible assumption) | assumption)
       obtain ⟨ad133, A133_0, c133_0, e133, hx133_0, hl133_0, hi133_0⟩ := at_L1 HR0.out x5_1 p133 q133
       cases e133
       try replace hx133_0 := (HB.out.cell (World.block_lt_of_cell? w _ hx133_0)).trans hx133_0
       have HR133_0 := Aside0.mk hi133_0
       have HC133_0 := Aside0.mk hl133_0
       clear hi133_0 hl133_0
       replace p133 := eq_true p133
       replace q133 := eq_true q133
       go_wp2_with (first | ((with_reducible refine gate_callee (f := 19) rfl ?_); refine goesL_ (some 17) rfl rfl Try.func19 (by kernel_rfl) rfl #[.slice A133_0 (rd_L1 l0 x5_1).length c133_0, .int .i64 x1_1] rfl (by (try simp only [List.map_toArray, List.map_cons, List.map_nil]); first | done | rfl | (simp only [List.length_drop, List.length_take]; rfl)) ?_; (with_reducible refine (laws_heldStringS.calls k1 _ _ (rd_L1 l0 x5_1) x1_1 t134 _ ?side1 ?side2 A5.out).mono ?_); (case side1 => repeat (first | exact (Kd.C_below HR133_0.out HB.out) | (with_reducible refine Kd.C_alloc ?_ _) | (with_reducible refine Kd.C_drewN ?_ _) | (with_reducible refine Kd.C_drew ?_))); (case side2 => exact HC133_0.out); rintro e w7 ⟨rfl, hb⟩; refine ⟨_, rfl, ?_⟩; have n0_ := Aside0.mk (below_step (by repeat (first | (with_reducible first | exact HB.out | apply below_alloc | apply pw_below_drewN | apply below_drew1) | exact HB.out)) hb); clear HB; have HB := n0_; clear n0_; (try clear hb); (try clear hb2); (try clear hk); (try clear hi)))
       go_ret
       exact ⟨by first | rfl | (simp [errW_none, errW_some] <;> rfl) | (simp [*, errW_none, errW_some] <;> rfl), by repeat (first | (with_reducible first | exact HB.out | apply below_alloc | apply pw_below_drewN | apply below_drew1) | exact HB.out)⟩
      ·rw [if_neg c6] at H
       have c6b0 : decide (t134 < 0) = false := decide_eq_false c6
       clear c6
       have H' := Aside0.mk H
       clear H
       have p133 : 0 ≤ (x5_1 : Int) := of_decide_eq_true (by first | (with_reducible assumption) | assumption)
       have q133 : x5_1 < (l0.length : Int) := of_decide_eq_true (by first | (with_reducible assumption) | assumption)
       obtain ⟨ad133, A133_0, c133_0, e133, hx133_0, hl133_0, hi133_0⟩ := at_L1 HR0.out x5_1 p133 q133
       cases e133
       try replace hx133_0 := (HB.out.cell (World.block_lt_of_cell? w _ hx133_0)).trans hx133_0
       have HR133_0 := Aside0.mk hi133_0
       have HC133_0 := Aside0.mk hl133_0
       clear hi133_0 hl133_0
       replace p133 := eq_true p133
       replace q133 := eq_true q133
       go_wp2_with (first | ((with_reducible refine gate_callee (f := 19) rfl ?_); refine goesL_ (some 17) rfl rfl Try.func19 (by kernel_rfl) rfl #[.slice A133_0 (rd_L1 l0 x5_1).length c133_0, .int .i64 x1_1] rfl (by (try simp only [List.map_toArray, List.map_cons, List.map_nil]); first | done | rfl | (simp only [List.length_drop, List.length_take]; rfl)) ?_; (with_reducible refine (laws_heldStringS.calls k1 _ _ (rd_L1 l0 x5_1) x1_1 t134 _ ?side1 ?side2 A5.out).mono ?_); (case side1 => repeat (first | exact (Kd.C_below HR133_0.out HB.out) | (with_reducible refine Kd.C_alloc ?_ _) | (with_reducible refine Kd.C_drewN ?_ _) | (with_reducible refine Kd.C_drew ?_))); (case side2 => exact HC133_0.out); rintro e w8 ⟨rfl, hb⟩; refine ⟨_, rfl, ?_⟩; have n0_ := Aside0.mk (below_step (by repeat (first | (with_reducible first | exact HB.out | apply below_alloc | apply pw_below_drewN | apply below_drew1) | exact HB.out)) hb); clear HB; have HB := n0_; clear n0_; (try clear hb); (try clear hb2); (try clear hk); (try clear hi)))
       go_roundg k1
       case measure => have := HK1.out; omega
       case rel => exact ⟨(t134), (wrap64 (x5_1 + 1)), (by first | rfl | (simp; done) | (simp [*]; done)), (by first | rfl | (simp; done) | (simp [*]; done)), H', ⟨by have := HK1.out; omega⟩, ⟨by repeat (first | (with_reducible first | exact HB.out | apply below_alloc | apply pw_below_drewN | apply below_drew1) | exact HB.out)⟩⟩
     ·rw [if_neg c4] at H
      exact absurd H (by simp)
    ·rw [if_neg c3] at H
     have c3b0 : decide (x5_1 < (l0.length : Int)) = false := decide_eq_false c3
     clear c3
     obtain rfl := Option.some.inj H
     go_wp2
     go_ret
     exact ⟨by first | rfl | (simp [errW_none, errW_some] <;> rfl) | (simp [*, errW_none, errW_some] <;> rfl), by repeat (first | (with_reducible first | exact HB.out | apply below_alloc | apply pw_below_drewN | apply below_drew1) | exact HB.out)⟩

/-! ### laws_FnExactSplitsOf: function 5 (given) -/
def laws_FnExactSplitsOf.f (k : Nat) (a0 : ByteArray) : Option Bool := if (a0.size : Int) > 1048576 then some true else (spec_SplitsOf.f k a0).bind fun t => (impl_SplitsOf.f k a0).bind fun u => (laws_eqStringSS.f k u t).bind fun b => (laws_markStringSS.f k u 1).bind fun m => (laws_heldStringSS.f k m.2 1).bind fun q => if b = true ∧ 0 ≤ q ∧ q = m.1 then some true else none
set_option maxHeartbeats 1600000 in
set_option maxRecDepth 100000 in
theorem laws_FnExactSplitsOf.calls (k : Nat) (a0 : ByteArray) (r : Bool) (w : World) (h : laws_FnExactSplitsOf.f k a0 = some r) :
    Calls Try.prog 5 #[.string a0] w fun e w' => e = .returned (.bool r) ∧ Below w.heap.size w w' := by
  unfold laws_FnExactSplitsOf.f at h
  by_cases hb : (a0.size : Int) > 1048576
  · rw [if_pos hb] at h
    injection h with h
    subst h
    have cb0 : decide ((1048576 : Int) < (a0.size : Int)) = true := decide_eq_true hb
    go_enter Try.func5, Try.ntmps5
    go_wp2
    go_ret
    exact ⟨rfl, Below.refl _ _⟩
  · rw [if_neg hb] at h
    obtain ⟨t, ht, h⟩ := Option.bind_eq_some_iff.mp h
    obtain ⟨u, hu, h⟩ := Option.bind_eq_some_iff.mp h
    obtain ⟨b, he, h⟩ := Option.bind_eq_some_iff.mp h
    obtain ⟨m, hm, h⟩ := Option.bind_eq_some_iff.mp h
    obtain ⟨q, hq, h⟩ := Option.bind_eq_some_iff.mp h
    obtain ⟨m1, m2⟩ := m
    by_cases hc : b = true ∧ 0 ≤ q ∧ q = m1
    · rw [if_pos hc] at h
      injection h with h
      subst h
      obtain ⟨rfl, hq0, rfl⟩ := hc
      have cb0 : decide ((1048576 : Int) < (a0.size : Int)) = false := decide_eq_false hb
      have cb1 : decide (q < 0) = false := by simp; omega
      have cb2 : (!decide (q = q)) = false := by simp
      have cb3 : (q != q) = false := by simp
      have ks := fun W => spec_SplitsOf.calls k a0 t W ht
      have ki := fun W => impl_SplitsOf.calls k a0 u W hu
      have km := fun (P0_ : Nat → Prop) v w0 W hB ho => laws_markStringSS.calls k P0_ v u 1 q m2 w0 W hB ho hm
      have kh := fun A c W hr hc => laws_heldStringSS.calls k A c m2 1 q W hr hc hq
      have ke := fun A0 c0 A1 c1 W h0 h1 h2 h3 => laws_eqStringSS.calls k A0 c0 u A1 c1 t true W h0 h1 h2 h3 he
      clear ht hu hm hq he hb
      go_enter Try.func5, Try.ntmps5
      go_wp2_with fail
      go_at_call 24
      refine (ks _).mono ?_
      rintro e w1 ⟨v0, rfl, hs0, hb1⟩
      obtain ⟨A0, c0, rfl⟩ := Kd.S_slice hs0
      have HB1 := Aside0.mk hb1
      have HC0 := Aside0.mk (Kd.S_reads' hs0).2
      clear hb1 hs0 ks
      go_wp2_with fail
      go_at_call 25
      refine (ki _).mono ?_
      rintro e w2 ⟨v1, rfl, hs1, hb2⟩
      obtain ⟨A1, c1, rfl⟩ := Kd.S_slice hs1
      have HB2 := Aside0.mk hb2
      have HS1 := Aside0.mk hs1
      clear hb2 hs1
      go_wp2_with fail
      go_at_call 26
      refine (ke _ _ _ _ _ (Kd.S_reads' HS1.out).2.2 (Kd.S_reads' HS1.out).2.1 (Kd.C_below HC0.out.2 HB2.out) HC0.out.1).mono ?_
      rintro e w' ⟨rfl, nd1, rfl⟩
      go_wp2_with fail
      go_at_call 27
      refine (km (fun _ => True) _ w1 _ (pw_below_drewN HB2.out _) (Kd.S_drewN HS1.out _)).mono ?_
      rintro e w4 ⟨rfl, hs4, hb4, _⟩
      obtain ⟨A4, c4, e4⟩ := Kd.S_slice hs4
      injection e4 with e5 hlen e6
      rw [← hlen] at kh
      have HS4 := Aside0.mk hs4
      have HB4 := Aside0.mk hb4
      have HL := Aside0.mk hlen
      clear hs4 hb4 km hlen e5 e6 HS1 HB2
      go_wp2_with fail
      go_at_call 28
      refine (kh _ _ _ (by have := (Kd.S_reads' HS4.out).2.2; rwa [← HL.out] at this) (by have := (Kd.S_reads' HS4.out).2.1; exact this)).mono ?_
      rintro e w5 ⟨rfl, hb5⟩
      have HB5 := Aside0.mk (below_step HB4.out hb5)
      have HS5 := Aside0.mk (Kd.S_below HS4.out hb5)
      clear hb5 HS4 HB4
      go_wp2_with fail
      go_at_call 25
      refine (ki _).mono ?_
      rintro e w6 ⟨v2, rfl, hs6, hb6⟩
      obtain ⟨A6, c6, rfl⟩ := Kd.S_slice hs6
      have HB6 := Aside0.mk (below_step HB5.out hb6)
      have HS6 := Aside0.mk hs6
      have HS7 := Aside0.mk (Kd.S_below HS5.out hb6)
      clear hb6 hs6 ki HB5 HS5
      go_wp2_with fail
      go_at_call 26
      refine (ke _ _ _ _ _ (Kd.S_reads' HS6.out).2.2 (Kd.S_reads' HS6.out).2.1 (Kd.C_below HC0.out.2 HB6.out) HC0.out.1).mono ?_
      rintro e w' ⟨rfl, nd2, rfl⟩
      go_wp2_with fail
      go_at_call 28
      refine (kh _ _ _ (by have := (Kd.S_reads' (Kd.S_drewN HS7.out nd2)).2.2; rwa [← HL.out] at this) (by have := (Kd.S_reads' HS7.out).2.1; exact this)).mono ?_
      rintro e w8 ⟨rfl, hb8⟩
      have HB8 := Aside0.mk (below_step HB1.out (below_step (pw_below_drewN HB6.out nd2) hb8))
      clear hb8
      go_wp2_with fail
      go_ret
      exact ⟨rfl, HB8.out⟩
    · rw [if_neg (by simpa using hc)] at h
      cases h


end Go.Proofs.Ytgmhjinlpikpjab.QFnExactSplitsOf
