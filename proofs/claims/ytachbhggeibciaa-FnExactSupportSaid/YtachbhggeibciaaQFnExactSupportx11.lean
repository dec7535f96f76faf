-- Written by a changed copy of the kit's printer (wip/mp.py of this repo), for this claim; Lean checks it.
import Derived.Test.YtachbhggeibciaaQFnExactSupportx0
import Derived.Test.YtachbhggeibciaaQFnExactSupportx10
namespace Go.Proofs.Ytachbhggeibciaa.QFnExactSupport
open Go.RowKit Go.Proofs.YtachbhggeibciaaW.PrintWords Go.Proofs.YtachbhggeibciaaW.PrintLast Go.Proofs.YtachbhggeibciaaW.PrintMore
attribute [local go_sem] max2_int min2_int max_two min_two max_three min_three max_four min_four   -- for this text's walks alone
set_option linter.unusedVariables false
set_option linter.unusedSimpArgs false

/-! ### impl_supported: function 85 (given) -/
/-- Has a word of a domain this letter at this place? -/
def supAt (place own : Int) (word x : ByteArray) : Bool := decide (place < (x.size : Int)) && (bt x place == bt word own)
def supLet (D : List (List ByteArray)) (other own place : Int) (word : ByteArray) : Option Bool := if ((0 ≤ other ∧ other < (D.length : Int)) ∧ (0 ≤ own ∧ own < (word.size : Int))) ∧ ((0 ≤ place ∧ place ≤ 1000000) ∧ (D.getD other.toNat []).length ≤ 1048576) then some ((D.getD other.toNat []).any (supAt place own word)) else none
def supGo (D : List (List ByteArray)) (slot : Int) (word : ByteArray) : List (S102) → Option Bool
  | [] => some true
  | x :: l => if slot = x.f0 then (supLet D x.f1 x.f2 x.f3 word).bind fun b => if b = true then supGo D slot word l else some false else if slot = x.f1 then (supLet D x.f0 x.f3 x.f2 word).bind fun b => if b = true then supGo D slot word l else some false else supGo D slot word l
theorem sup_at_row {w : World} {A : Option Addr} {n : Nat} {xs : List (List ByteArray)} (h : Kd.C (Kd.slice 9 Kd.string) w A n xs) (i : Int) (h0 : 0 ≤ i) (h1 : i < n) : ∃ ad A0 c0, A = some ad ∧ w.cell? (ad.add i.toNat) = some (.slice A0 (xs.getD i.toNat []).length c0) ∧ (xs.getD i.toNat []).length ≤ c0 ∧ Kd.string.C w A0 (xs.getD i.toNat []).length (xs.getD i.toNat []) := by
  obtain ⟨ad, c, hA, hl, ⟨A0, c0, rfl, hl0, hC⟩, hcc⟩ := Kd.C_get h [] i h0 h1
  refine ⟨ad, A0, c0, hA, ?_, hl0, hC⟩
  have := hcc 0 _ rfl
  rw [show (Kd.slice 9 Kd.string).sz = 1 from rfl, Nat.mul_one, Nat.add_zero] at this
  exact this
/-- The first that p takes. -/
def firstAt (p : ByteArray → Bool) : List ByteArray → Nat → Int
  | [], _ => -1
  | x :: l, i => if p x = true then (i : Int) else firstAt p l (i + 1)
theorem firstAt_nil (p : ByteArray → Bool) (i : Nat) : firstAt p [] i = -1 := rfl
theorem firstAt_pos {p : ByteArray → Bool} {x : ByteArray} (l : List ByteArray) (i : Nat) (h : p x = true) : firstAt p (x :: l) i = i := if_pos h
theorem firstAt_neg {p : ByteArray → Bool} {x : ByteArray} (l : List ByteArray) (i : Nat) (h : ¬ p x = true) : firstAt p (x :: l) i = firstAt p l (i + 1) := if_neg h
theorem firstAt_any (p : ByteArray → Bool) : ∀ (l : List ByteArray) (i : Nat), decide (0 ≤ firstAt p l i) = l.any p
  | [], _ => rfl
  | x :: l, i => by
    rw [List.any_cons]
    by_cases h : p x = true
    · rw [firstAt_pos l i h, h]
      simp
    · rw [firstAt_neg l i h, firstAt_any p l (i + 1)]
      simp [h]
theorem sup_keep_calls (x word : ByteArray) (p o P V O : Nat) (w : World) (hp : w.cell? ⟨P, 0, none⟩ = some (.int .i64 (p : Int))) (hv : w.cell? ⟨V, 0, none⟩ = some (.string word)) (ho : w.cell? ⟨O, 0, none⟩ = some (.int .i64 (o : Int))) (hl : o < word.size) :
    Calls Try.prog 120 #[.string x, .pointer (some ⟨P, 0, none⟩), .pointer (some ⟨V, 0, none⟩), .pointer (some ⟨O, 0, none⟩)] w fun e w' => e = .returned (.bool (supAt p o word x)) ∧ Drawn0 w w' := by
  by_cases h : (p : Int) < (x.size : Int)
  · have hd : decide ((p : Int) < (x.size : Int)) = true := decide_eq_true h
    have hx8 := bt_at x (p : Int)
    simp only [Int.toNat_natCast] at hx8
    replace hx8 := hx8 (by omega)
    have hy8 := bt_at word (o : Int)
    simp only [Int.toNat_natCast] at hy8
    replace hy8 := hy8 hl
    have p1 : (0 ≤ (p : Int)) = True := eq_true (by omega)
    have q1 : ((p : Int) < (x.size : Int)) = True := eq_true h
    have p2 : (0 ≤ (o : Int)) = True := eq_true (by omega)
    have q2 : ((o : Int) < (word.size : Int)) = True := eq_true (by omega)
    have hE : supAt p o word x = (bt x p == bt word o) := by unfold supAt; rw [hd, Bool.true_and]
    rw [hE, ← hx8, ← hy8]
    have hd2 : decide (p < x.size) = true := decide_eq_true (by omega)
    clear hE hx8 hy8
    go_enter Try.func120, Try.ntmps120
    go_wp2
    go_quiet (fail)
    go_wp2
    go_ret
    exact ⟨rfl, by repeat (first | exact Drawn0.refl _ | apply Drawn0.step)⟩
  · have hd : decide ((p : Int) < (x.size : Int)) = false := decide_eq_false h
    have hE : supAt p o word x = false := by unfold supAt; rw [hd, Bool.false_and]
    rw [hE]
    have hd2 : decide (p < x.size) = false := decide_eq_false (by omega)
    clear hE h
    go_enter Try.func120, Try.ntmps120
    go_wp2
    go_quiet (fail)
    go_wp2
    go_ret
    exact ⟨rfl, by repeat (first | exact Drawn0.refl _ | apply Drawn0.step)⟩
theorem sup_idx_calls (word : ByteArray) (p o P V O : Nat) (A0 : Option Addr) (c0 : Nat) (l0 : List ByteArray) (w : World) (hp : w.cell? ⟨P, 0, none⟩ = some (.int .i64 (p : Int))) (hv : w.cell? ⟨V, 0, none⟩ = some (.string word)) (ho : w.cell? ⟨O, 0, none⟩ = some (.int .i64 (o : Int))) (hol : o < word.size) (hr0 : Kd.C Kd.string w A0 l0.length l0) (hl : l0.length ≤ 1048576) :
    Calls Try.prog 139 #[.slice A0 l0.length c0, .func (.func 120) #[] #[.pointer (some ⟨P, 0, none⟩), .pointer (some ⟨V, 0, none⟩), .pointer (some ⟨O, 0, none⟩)]] w fun e w' => e = .returned (.int .i64 (firstAt (supAt p o word) l0 0)) ∧ Drawn0 w w' := by
  have HR0 := Aside0.mk hr0
  have KK := Aside0.mk (fun (x : ByteArray) (W : World) (hW : Drawn0 w W) => sup_keep_calls x word p o P V O W (by obtain ⟨n, rfl⟩ := hW; exact hp) (by obtain ⟨n, rfl⟩ := hW; exact hv) (by obtain ⟨n, rfl⟩ := hW; exact ho) hol)
  clear hr0 hp hv ho
  go_enter Try.func139, Try.ntmps139
  go_wp2
  go_loopg [8] l0.length (fun kq v8 w' => ∃ (i : Nat), v8 = .int .i64 (i : Int) ∧ Aside0 (i ≤ l0.length) ∧ Aside0 (l0.length - i ≤ kq) ∧ Aside0 (firstAt (supAt p o word) (l0.drop i) i = firstAt (supAt p o word) l0 0) ∧ Drawn0 w w')
  case atStart => exact ⟨0, rfl, ⟨Nat.zero_le _⟩, ⟨by omega⟩, ⟨rfl⟩, Drawn0.refl _⟩
  case round =>
    obtain ⟨i, rfl, hi, hk, heq, ⟨m1, rfl⟩⟩ := hrel
    by_cases hlt : i < l0.length
    · have cb0 : decide ((i : Int) < (l0.length : Int)) = true := by simp; exact hlt
      have hcr : rdOf ByteArray.empty l0 (i : Int) = l0[i] := by
        unfold rdOf
        simp [hlt]
      obtain ⟨ad, e1, hx⟩ := Kd.at_string HR0.out (i : Int) (by omega) (by omega)
      cases e1
      rw [hcr] at hx
      simp only [Int.toNat_natCast] at hx
      have p1 : (0 ≤ (i : Int)) = True := eq_true (by omega)
      have q1 : ((i : Int) < (l0.length : Int)) = True := eq_true (by omega)
      have heq' := heq.out
      rw [List.drop_eq_getElem_cons hlt] at heq'
      generalize l0[i] = x at hx heq' hcr
      by_cases hz : supAt p o word x = true
      · rw [firstAt_pos _ _ hz] at heq'
        have kk := fun W hW => KK.out x W hW
        rw [hz] at kk
        have HE := Aside0.mk heq'
        clear heq heq' hcr hz
        go_wp2_with fail
        go_at_call 120
        refine (kk _ (by repeat (first | exact Drawn0.refl _ | apply Drawn0.step))).mono ?_
        rintro e w' ⟨rfl, ⟨nd, rfl⟩⟩
        clear kk
        go_wp2
        go_ret
        exact ⟨by rw [← HE.out] <;> rfl, by repeat (first | exact Drawn0.refl _ | apply Drawn0.step)⟩
      · rw [firstAt_neg _ _ hz] at heq'
        rw [Bool.not_eq_true] at hz
        have kk := fun W hW => KK.out x W hW
        rw [hz] at kk
        have HE := Aside0.mk heq'
        clear heq heq' hcr hz
        go_wp2_with fail
        go_at_call 120
        refine (kk _ (by repeat (first | exact Drawn0.refl _ | apply Drawn0.step))).mono ?_
        rintro e w' ⟨rfl, ⟨nd, rfl⟩⟩
        clear kk
        go_wp2
        go_roundg (l0.length - (i + 1))
        case measure => have := hk.out; omega
        case rel => exact ⟨i + 1, by simp, ⟨by omega⟩, ⟨Nat.le_refl _⟩, HE, by repeat (first | exact Drawn0.refl _ | apply Drawn0.step)⟩
    · have cb0 : decide ((i : Int) < (l0.length : Int)) = false := by simp; omega
      have heq' := heq.out
      rw [List.drop_eq_nil_of_le (by omega), firstAt_nil] at heq'
      clear KK
      go_wp2
      go_ret
      exact ⟨by rw [← heq'] <;> rfl, by repeat (first | exact Drawn0.refl _ | apply Drawn0.step)⟩
theorem sup_has_calls (word : ByteArray) (p o P V O : Nat) (A0 : Option Addr) (c0 : Nat) (l0 : List ByteArray) (w : World) (hp : w.cell? ⟨P, 0, none⟩ = some (.int .i64 (p : Int))) (hv : w.cell? ⟨V, 0, none⟩ = some (.string word)) (ho : w.cell? ⟨O, 0, none⟩ = some (.int .i64 (o : Int))) (hol : o < word.size) (hr0 : Kd.C Kd.string w A0 l0.length l0) (hl : l0.length ≤ 1048576) :
    Calls Try.prog 119 #[.slice A0 l0.length c0, .func (.func 120) #[] #[.pointer (some ⟨P, 0, none⟩), .pointer (some ⟨V, 0, none⟩), .pointer (some ⟨O, 0, none⟩)]] w fun e w' => e = .returned (.bool (l0.any (supAt p o word))) ∧ Drawn0 w w' := by
  have kd := sup_idx_calls word p o P V O A0 c0 l0 w hp hv ho hol hr0 hl
  clear hr0 hp hv ho
  rw [← firstAt_any _ l0 0]
  generalize firstAt (supAt p o word) l0 0 = q at kd ⊢
  go_enter Try.func119, Try.ntmps119
  go_wp2_with fail
  go_at_call 139
  refine kd.mono ?_
  rintro e w' ⟨rfl, ⟨nd, rfl⟩⟩
  go_wp2
  go_ret
  exact ⟨rfl, nd, rfl⟩
def impl_supported.f (l0 : List (S102)) (l1 : List (List ByteArray)) (a2 : Int) (a3 : ByteArray) : Option Bool := if l0.length ≤ 1000000 then supGo l1 a2 a3 l0 else none
theorem supGo_cons (D : List (List ByteArray)) (slot : Int) (word : ByteArray) (x : S102) (l : List (S102)) : supGo D slot word (x :: l) = if slot = x.f0 then (supLet D x.f1 x.f2 x.f3 word).bind fun b => if b = true then supGo D slot word l else some false else if slot = x.f1 then (supLet D x.f0 x.f3 x.f2 word).bind fun b => if b = true then supGo D slot word l else some false else supGo D slot word l := rfl
theorem sup_box_cell {w w1 : World} {cs : Array Value} {t : TypeId} (hb : Below (w.alloc (.cells cs t)).heap.size (w.alloc (.cells cs t)) w1) (j : Nat) (v : Value) (h : cs[j]? = some v) : w1.cell? ⟨w.heap.size, j, none⟩ = some v := by
  have h1 : (⟨w.heap.size, j, none⟩ : Addr).block < (w.alloc (.cells cs t)).heap.size := by simp [World.alloc, -World.alloc_eq]
  rw [hb.cell h1]
  simp [World.cell?, World.alloc, -World.alloc_eq, h]
/-- A crossing in its box, and the two places beside it. -/
structure SupW (x : S102) (g O P : Nat) (a b : Int) (wr w1 : World) : Prop where
  c0 : w1.cell? ⟨g, 0, none⟩ = some (.int .i64 x.f0)
  c1 : w1.cell? ⟨g, 1, none⟩ = some (.int .i64 x.f1)
  c2 : w1.cell? ⟨g, 2, none⟩ = some (.int .i64 x.f2)
  c3 : w1.cell? ⟨g, 3, none⟩ = some (.int .i64 x.f3)
  o : w1.cell? ⟨O, 0, none⟩ = some (.int .i64 a)
  p : w1.cell? ⟨P, 0, none⟩ = some (.int .i64 b)
  fo : w1.frozen? ⟨O, 0, none⟩ = false
  fp : w1.frozen? ⟨P, 0, none⟩ = false
  ne : O ≠ P
  go : g ≠ O
  gp : g ≠ P
  lo : wr.heap.size ≤ O
  lp : wr.heap.size ≤ P
  hb : Below wr.heap.size wr w1
theorem sup_size (w : World) (o : Obj) : (w.alloc o).heap.size = w.heap.size + 1 := by simp [World.alloc, -World.alloc_eq]
theorem sup_blkA (w : World) (a b c : Array Value) (t t1 t2 : TypeId) : (((w.alloc (.cells a t)).alloc (.cells b t1)).alloc (.cells c t2)).drew.heap[w.heap.size]? = some (.cells a t (0, 0)) := blk_drew (blk_alloc (blk_alloc (blk_new w _) _) _)
theorem sup_blkB (w : World) (a b c : Array Value) (t t1 t2 : TypeId) : (((w.alloc (.cells a t)).alloc (.cells b t1)).alloc (.cells c t2)).drew.heap[w.heap.size + 1]? = some (.cells b t1 (0, 0)) := by
  have h := blk_drew (blk_alloc (blk_new (w.alloc (.cells a t)) (.cells b t1)) (.cells c t2))
  rw [sup_size] at h
  exact h
theorem sup_blkC (w : World) (a b c : Array Value) (t t1 t2 : TypeId) : (((w.alloc (.cells a t)).alloc (.cells b t1)).alloc (.cells c t2)).drew.heap[w.heap.size + 1 + 1]? = some (.cells c t2 (0, 0)) := by
  have h := blk_drew (blk_new ((w.alloc (.cells a t)).alloc (.cells b t1)) (.cells c t2))
  rw [sup_size, sup_size] at h
  exact h
theorem sup_w1 (x : S102) (w : World) : SupW x w.heap.size (w.heap.size + 1) (w.heap.size + 1 + 1) x.f2 x.f3 w (((w.alloc (.cells #[.int .i64 x.f0, .int .i64 x.f1, .int .i64 x.f2, .int .i64 x.f3, .int .i64 x.f4] 102)).alloc (.cells #[.int .i64 x.f2] 3)).alloc (.cells #[.int .i64 x.f3] 3)).drew :=
  ⟨blk_cell (sup_blkA w _ _ _ _ _ _) 0, blk_cell (sup_blkA w _ _ _ _ _ _) 1, blk_cell (sup_blkA w _ _ _ _ _ _) 2, blk_cell (sup_blkA w _ _ _ _ _ _) 3, blk_cell (sup_blkB w _ _ _ _ _ _) 0, blk_cell (sup_blkC w _ _ _ _ _ _) 0, blk_frozen (sup_blkB w _ _ _ _ _ _) 0, blk_frozen (sup_blkC w _ _ _ _ _ _) 0, by omega, by omega, by omega, by omega, by omega, below_drew (below_alloc (below_alloc (below_alloc (Below.refl _ _) _) _) _)⟩
theorem sup_w2 (x : S102) (w : World) : SupW x w.heap.size (w.heap.size + 1 + 1) (w.heap.size + 1) x.f2 x.f3 w (((w.alloc (.cells #[.int .i64 x.f0, .int .i64 x.f1, .int .i64 x.f2, .int .i64 x.f3, .int .i64 x.f4] 102)).alloc (.cells #[.int .i64 x.f3] 3)).alloc (.cells #[.int .i64 x.f2] 3)).drew :=
  ⟨blk_cell (sup_blkA w _ _ _ _ _ _) 0, blk_cell (sup_blkA w _ _ _ _ _ _) 1, blk_cell (sup_blkA w _ _ _ _ _ _) 2, blk_cell (sup_blkA w _ _ _ _ _ _) 3, blk_cell (sup_blkC w _ _ _ _ _ _) 0, blk_cell (sup_blkB w _ _ _ _ _ _) 0, blk_frozen (sup_blkC w _ _ _ _ _ _) 0, blk_frozen (sup_blkB w _ _ _ _ _ _) 0, by omega, by omega, by omega, by omega, by omega, below_drew (below_alloc (below_alloc (below_alloc (Below.refl _ _) _) _) _)⟩
theorem SupW.swap {x : S102} {g O P : Nat} {a b : Int} {wr wc : World} (h : SupW x g O P a b wr wc) (c d : Int) : SupW x g O P c d wr ((wc.setCell ⟨O, 0, none⟩ (.int .i64 c)).setCell ⟨P, 0, none⟩ (.int .i64 d)).drew := by
  have n1 : ∀ i, (⟨O, 0, none⟩ : Addr) ≠ ⟨g, i, none⟩ := fun i e => by simp only [Addr.mk.injEq] at e; exact h.go e.1.symm
  have n2 : ∀ i, (⟨P, 0, none⟩ : Addr) ≠ ⟨g, i, none⟩ := fun i e => by simp only [Addr.mk.injEq] at e; exact h.gp e.1.symm
  have n3 : (⟨P, 0, none⟩ : Addr) ≠ ⟨O, 0, none⟩ := fun e => by simp only [Addr.mk.injEq] at e; exact h.ne e.1.symm
  have n4 : (⟨O, 0, none⟩ : Addr) ≠ ⟨P, 0, none⟩ := fun e => n3 e.symm
  have k : ∀ i v, wc.cell? ⟨g, i, none⟩ = some v → ((wc.setCell ⟨O, 0, none⟩ (.int .i64 c)).setCell ⟨P, 0, none⟩ (.int .i64 d)).drew.cell? ⟨g, i, none⟩ = some v := fun i v e => by
    show ((wc.setCell ⟨O, 0, none⟩ (.int .i64 c)).setCell ⟨P, 0, none⟩ (.int .i64 d)).cell? ⟨g, i, none⟩ = some v
    rw [World.cell?_setCell_other _ _ _ _ (n2 i), World.cell?_setCell_other _ _ _ _ (n1 i)]
    exact e
  refine ⟨k 0 _ h.c0, k 1 _ h.c1, k 2 _ h.c2, k 3 _ h.c3, ?_, ?_, ?_, ?_, h.ne, h.go, h.gp, h.lo, h.lp, below_drew ((h.hb.setCell h.lo _).setCell h.lp _)⟩
  · show ((wc.setCell ⟨O, 0, none⟩ (.int .i64 c)).setCell ⟨P, 0, none⟩ (.int .i64 d)).cell? ⟨O, 0, none⟩ = _
    rw [World.cell?_setCell_other _ _ _ _ n3]
    exact World.cell?_setCell_same _ _ _ h.o
  · show ((wc.setCell ⟨O, 0, none⟩ (.int .i64 c)).setCell ⟨P, 0, none⟩ (.int .i64 d)).cell? ⟨P, 0, none⟩ = _
    exact World.cell?_setCell_same _ _ _ (by rw [World.cell?_setCell_other _ _ _ _ n4]; exact h.p)
  · show ((wc.setCell ⟨O, 0, none⟩ (.int .i64 c)).setCell ⟨P, 0, none⟩ (.int .i64 d)).frozen? ⟨O, 0, none⟩ = false
    rw [World.frozen?_setCell, World.frozen?_setCell]
    exact h.fo
  · show ((wc.setCell ⟨O, 0, none⟩ (.int .i64 c)).setCell ⟨P, 0, none⟩ (.int .i64 d)).frozen? ⟨P, 0, none⟩ = false
    rw [World.frozen?_setCell, World.frozen?_setCell]
    exact h.fp
set_option maxHeartbeats 4000000 in
set_option maxRecDepth 100000 in
theorem impl_supported.calls (A0 : Option Addr) (c0 : Nat) (l0 : List (S102)) (A1 : Option Addr) (c1 : Nat) (l1 : List (List ByteArray)) (a2 : Int) (a3 : ByteArray) (r : Bool) (w : World) (hr0 : Kd.C k102 w A0 l0.length l0) (hc0 : l0.length ≤ c0) (hr1 : Kd.C (Kd.slice 9 Kd.string) w A1 l1.length l1) (hc1 : l1.length ≤ c1) (h : impl_supported.f l0 l1 a2 a3 = some r) :
    Calls Try.prog 85 #[.slice A0 l0.length c0, .slice A1 l1.length c1, .int .i64 a2, .string a3] w fun e w' => e = .returned (.bool r) ∧ Below w.heap.size w w' := by
  unfold impl_supported.f at h
  by_cases hl : l0.length ≤ 1000000
  · rw [if_pos hl] at h
    have HR0 := Aside0.mk (Kd.C_below hr0 (below_alloc (Below.refl _ _) (.cells #[.string a3] 9)))
    have HR1 := Aside0.mk (Kd.C_below hr1 (below_alloc (Below.refl _ _) (.cells #[.string a3] 9)))
    have HH := Aside0.mk h
    clear hr0 hr1 h hc0 hc1
    go_enter Try.func85, Try.ntmps85
    go_wp2
    go_loopg [16] l0.length (fun kq v16 w' => ∃ (i : Nat), v16 = .int .i64 (i : Int) ∧ Aside0 (i ≤ l0.length) ∧ Aside0 (l0.length - i ≤ kq) ∧ Aside0 (supGo l1 a2 a3 (l0.drop i) = some r) ∧ Aside0 (Below (w.alloc (.cells #[.string a3] 9)).heap.size (w.alloc (.cells #[.string a3] 9)) w'))
    case atStart => exact ⟨0, rfl, ⟨Nat.zero_le _⟩, ⟨by omega⟩, HH, ⟨Below.refl _ _⟩⟩
    case round =>
      clear HH
      obtain ⟨i, rfl, hi, hk, heq, HB⟩ := hrel
      by_cases hlt : i < l0.length
      · have cb0 : decide ((i : Int) < (l0.length : Int)) = true := by simp; exact hlt
        obtain ⟨ad, e1, hx0, hx1, hx2, hx3, hx4⟩ := at_T102 HR0.out (i : Int) (by omega) (by omega)
        cases e1
        have hcr : rd_T102 l0 (i : Int) = l0[i] := by
          unfold rd_T102
          simp [hlt]
        rw [hcr] at hx0 hx1 hx2 hx3 hx4
        simp only [Int.toNat_natCast] at hx0 hx1 hx2 hx3 hx4
        replace hx0 := (HB.out.cell (World.block_lt_of_cell? _ _ hx0)).trans hx0
        replace hx1 := (HB.out.cell (World.block_lt_of_cell? _ _ hx1)).trans hx1
        replace hx2 := (HB.out.cell (World.block_lt_of_cell? _ _ hx2)).trans hx2
        replace hx3 := (HB.out.cell (World.block_lt_of_cell? _ _ hx3)).trans hx3
        replace hx4 := (HB.out.cell (World.block_lt_of_cell? _ _ hx4)).trans hx4
        have p1 : (0 ≤ (i : Int)) = True := eq_true (by omega)
        have q1 : ((i : Int) < (l0.length : Int)) = True := eq_true (by omega)
        have heq' := heq.out
        rw [List.drop_eq_getElem_cons hlt, supGo_cons] at heq'
        generalize l0[i] = x at hx0 hx1 hx2 hx3 hx4 heq'
        clear hcr heq
        by_cases hA : a2 = x.f0
        · rw [if_pos hA] at heq'
          obtain ⟨b, hb, heq'⟩ := Option.bind_eq_some_iff.mp heq'
          unfold supLet at hb
          by_cases hg : ((0 ≤ x.f1 ∧ x.f1 < (l1.length : Int)) ∧ (0 ≤ x.f2 ∧ x.f2 < (a3.size : Int))) ∧ ((0 ≤ x.f3 ∧ x.f3 ≤ 1000000) ∧ (l1.getD (x.f1).toNat []).length ≤ 1048576)
          · rw [if_pos hg] at hb
            injection hb with hb
            obtain ⟨⟨⟨o0, o1⟩, ⟨w0, w1⟩⟩, ⟨⟨q0, _⟩, hlen⟩⟩ := hg
            obtain ⟨on, hon⟩ := Int.eq_ofNat_of_zero_le w0
            obtain ⟨pn, hpn⟩ := Int.eq_ofNat_of_zero_le q0
            obtain ⟨ad1, A1', c1', e1, hxD, hle1, hC1⟩ := sup_at_row HR1.out x.f1 o0 o1
            generalize l1.getD (x.f1).toNat [] = row at hxD hle1 hC1 hb hlen
            cases e1
            have HXD := Aside0.mk ((HB.out.cell (World.block_lt_of_cell? _ _ hxD)).trans hxD)
            have HC1 := Aside0.mk (Kd.C_below hC1 HB.out)
            have HV := Aside0.mk (sup_box_cell HB.out 0 _ rfl)
            have HO := Aside0.mk (show on < a3.size by omega)
            have HL := Aside0.mk hlen
            have HON := Aside0.mk hon
            have HPN := Aside0.mk hpn
            have HBV := Aside0.mk hb
            have HE := Aside0.mk heq'
            have P1 := Aside0.mk (eq_true o0)
            have Q1 := Aside0.mk (eq_true o1)
            have ZA := Aside0.mk (show (a2 == x.f0) = true from beq_iff_eq.mpr hA)
            clear heq' hA hb hlen hon hpn hxD hC1 o0 o1 w0 w1 q0 hle1
            go_wp2
            clear hx0 hx1 hx2 hx3 hx4 p1 q1
            go_cut [11, 12, 13] (fun v11 v12 v13 w1 => ∃ O P : Nat, v11 = .int .i64 x.f1 ∧ v12 = .pointer (some ⟨O, 0, none⟩) ∧ v13 = .pointer (some ⟨P, 0, none⟩) ∧ Aside0 (SupW x wr.heap.size O P x.f2 x.f3 wr w1))
            case first =>
              go_region
              · go_wp2_with fail
                go_meet
                case rel => exact ⟨_, _, rfl, rfl, rfl, ⟨sup_w1 x wr⟩⟩
              · go_wp2_with fail
                go_meet
                case rel => exact ⟨_, _, rfl, rfl, rfl, ⟨sup_w2 x wr⟩⟩
            case rest =>
              obtain ⟨O, P, rfl, rfl, rfl, HS⟩ := hcut
              have y0 := HS.out.c0
              have zA := ZA.out
              have hxD := pw_cell_below HS.out.hb HXD.out
              have hV := pw_cell_below HS.out.hb HV.out
              have hcO := HS.out.o
              have hcP := HS.out.p
              rw [HON.out] at hcO
              rw [HPN.out] at hcP
              have kk := Aside0.mk (sup_has_calls a3 pn on P w.heap.size O A1' c1' row wc hcP hV hcO HO.out (Kd.C_below HC1.out HS.out.hb) HL.out)
              have p1 := P1.out
              have q1 := Q1.out
              clear hV hcO hcP
              go_wp2_with fail
              go_at_call 119
              refine kk.out.mono ?_
              rintro e w3 ⟨rfl, nd, rfl⟩
              have hE := HE.out
              have hBV := HBV.out
              rw [HON.out, HPN.out] at hBV
              rw [hBV]
              clear hBV
              cases b with
              | true =>
                rw [if_pos rfl] at hE
                have HE2 := Aside0.mk hE
                clear hE kk
                go_wp2
                go_roundg (l0.length - (i + 1))
                case measure => have := hk.out; omega
                case rel => exact ⟨i + 1, by simp, ⟨by omega⟩, ⟨Nat.le_refl _⟩, HE2, ⟨pw_below_drewN (below_step HB.out HS.out.hb) _⟩⟩
              | false =>
                rw [if_neg (by simp)] at hE
                injection hE with hE
                subst hE
                clear kk
                go_wp2
                go_ret
                exact ⟨rfl, pw_below_drewN (below_step (w := w) (below_alloc (Below.refl _ _) _) (below_step HB.out HS.out.hb)) _⟩
          · rw [if_neg hg] at hb
            cases hb
        · rw [if_neg hA] at heq'
          by_cases hB : a2 = x.f1
          · rw [if_pos hB] at heq'
            obtain ⟨b, hb, heq'⟩ := Option.bind_eq_some_iff.mp heq'
            unfold supLet at hb
            by_cases hg : ((0 ≤ x.f0 ∧ x.f0 < (l1.length : Int)) ∧ (0 ≤ x.f3 ∧ x.f3 < (a3.size : Int))) ∧ ((0 ≤ x.f2 ∧ x.f2 ≤ 1000000) ∧ (l1.getD (x.f0).toNat []).length ≤ 1048576)
            · rw [if_pos hg] at hb
              injection hb with hb
              obtain ⟨⟨⟨o0, o1⟩, ⟨w0, w1⟩⟩, ⟨⟨q0, _⟩, hlen⟩⟩ := hg
              obtain ⟨on, hon⟩ := Int.eq_ofNat_of_zero_le w0
              obtain ⟨pn, hpn⟩ := Int.eq_ofNat_of_zero_le q0
              obtain ⟨ad1, A1', c1', e1, hxD, hle1, hC1⟩ := sup_at_row HR1.out x.f0 o0 o1
              generalize l1.getD (x.f0).toNat [] = row at hxD hle1 hC1 hb hlen
              cases e1
              have HXD := Aside0.mk ((HB.out.cell (World.block_lt_of_cell? _ _ hxD)).trans hxD)
              have HC1 := Aside0.mk (Kd.C_below hC1 HB.out)
              have HV := Aside0.mk (sup_box_cell HB.out 0 _ rfl)
              have HO := Aside0.mk (show on < a3.size by omega)
              have HL := Aside0.mk hlen
              have HON := Aside0.mk hon
              have HPN := Aside0.mk hpn
              have HBV := Aside0.mk hb
              have HE := Aside0.mk heq'
              have P1 := Aside0.mk (eq_true o0)
              have Q1 := Aside0.mk (eq_true o1)
              have ZA := Aside0.mk (show (a2 == x.f0) = false from beq_eq_false_iff_ne.mpr hA)
              have ZB := Aside0.mk (show (a2 == x.f1) = true from beq_iff_eq.mpr hB)
              clear heq' hA hB hb hlen hon hpn hxD hC1 o0 o1 w0 w1 q0 hle1
              go_wp2
              clear hx0 hx1 hx2 hx3 hx4 p1 q1
              go_cut [11, 12, 13] (fun v11 v12 v13 w1 => ∃ O P : Nat, v11 = .int .i64 x.f1 ∧ v12 = .pointer (some ⟨O, 0, none⟩) ∧ v13 = .pointer (some ⟨P, 0, none⟩) ∧ Aside0 (SupW x wr.heap.size O P x.f2 x.f3 wr w1))
              case first =>
                go_region
                · go_wp2_with fail
                  go_meet
                  case rel => exact ⟨_, _, rfl, rfl, rfl, ⟨sup_w1 x wr⟩⟩
                · go_wp2_with fail
                  go_meet
                  case rel => exact ⟨_, _, rfl, rfl, rfl, ⟨sup_w2 x wr⟩⟩
              case rest =>
                obtain ⟨O, P, rfl, rfl, rfl, HS⟩ := hcut
                have y0 := HS.out.c0
                have y1 := HS.out.c1
                have y2 := HS.out.c2
                have y3 := HS.out.c3
                have ho := HS.out.o
                have hp := HS.out.p
                have ho2 : (wc.setCell ⟨P, 0, none⟩ (.int .i64 x.f2)).cell? ⟨O, 0, none⟩ = some (.int .i64 x.f2) := by rw [World.cell?_setCell_other _ _ _ _ (by intro h; simp only [Addr.mk.injEq] at h; exact HS.out.ne h.1.symm)]; exact HS.out.o
                have hp2 : (wc.setCell ⟨O, 0, none⟩ (.int .i64 x.f3)).cell? ⟨P, 0, none⟩ = some (.int .i64 x.f3) := by rw [World.cell?_setCell_other _ _ _ _ (by intro h; simp only [Addr.mk.injEq] at h; exact HS.out.ne h.1)]; exact HS.out.p
                have fo := HS.out.fo
                have fp := HS.out.fp
                have zA := ZA.out
                have zB := ZB.out
                go_wp2
                clear zA zB
                go_region
                clear y0 y1 y2 y3 ho hp ho2 hp2 fo fp
                have HT := Aside0.mk (HS.out.swap x.f3 x.f2)
                clear HS
                generalize ((wc.setCell ⟨O, 0, none⟩ (.int .i64 x.f3)).setCell ⟨P, 0, none⟩ (.int .i64 x.f2)).drew = wd at HT ⊢
                have hxD := pw_cell_below HT.out.hb HXD.out
                have hV := pw_cell_below HT.out.hb HV.out
                have hcO := HT.out.o
                have hcP := HT.out.p
                rw [HON.out] at hcO
                rw [HPN.out] at hcP
                have kk := Aside0.mk (sup_has_calls a3 pn on P w.heap.size O A1' c1' row wd hcP hV hcO HO.out (Kd.C_below HC1.out HT.out.hb) HL.out)
                have p1 := P1.out
                have q1 := Q1.out
                clear hV hcO hcP
                go_wp2_with fail
                go_at_call 119
                refine kk.out.mono ?_
                rintro e w3 ⟨rfl, nd, rfl⟩
                have hE := HE.out
                have hBV := HBV.out
                rw [HON.out, HPN.out] at hBV
                rw [hBV]
                clear hBV
                cases b with
                | true =>
                  rw [if_pos rfl] at hE
                  have HE2 := Aside0.mk hE
                  clear hE kk
                  go_wp2
                  go_roundg (l0.length - (i + 1))
                  case measure => have := hk.out; omega
                  case rel => exact ⟨i + 1, by simp, ⟨by omega⟩, ⟨Nat.le_refl _⟩, HE2, ⟨pw_below_drewN (below_step HB.out HT.out.hb) _⟩⟩
                | false =>
                  rw [if_neg (by simp)] at hE
                  injection hE with hE
                  subst hE
                  clear kk
                  go_wp2
                  go_ret
                  exact ⟨rfl, pw_below_drewN (below_step (w := w) (below_alloc (Below.refl _ _) _) (below_step HB.out HT.out.hb)) _⟩
            · rw [if_neg hg] at hb
              cases hb
          · rw [if_neg hB] at heq'
            have HE := Aside0.mk heq'
            have zA : (a2 == x.f0) = false := beq_eq_false_iff_ne.mpr hA
            have zB : (a2 == x.f1) = false := beq_eq_false_iff_ne.mpr hB
            have ZA := Aside0.mk zA
            have ZB := Aside0.mk zB
            clear heq' hA hB zA zB
            go_wp2
            clear hx0 hx1 hx2 hx3 hx4 p1 q1
            go_cut [11, 12, 13] (fun v11 v12 v13 w1 => ∃ O P : Nat, v11 = .int .i64 x.f1 ∧ v12 = .pointer (some ⟨O, 0, none⟩) ∧ v13 = .pointer (some ⟨P, 0, none⟩) ∧ Aside0 (SupW x wr.heap.size O P x.f2 x.f3 wr w1))
            case first =>
              go_region
              · go_wp2_with fail
                go_meet
                case rel => exact ⟨_, _, rfl, rfl, rfl, ⟨sup_w1 x wr⟩⟩
              · go_wp2_with fail
                go_meet
                case rel => exact ⟨_, _, rfl, rfl, rfl, ⟨sup_w2 x wr⟩⟩
            case rest =>
              obtain ⟨O, P, rfl, rfl, rfl, HS⟩ := hcut
              have y0 := HS.out.c0
              have y1 := HS.out.c1
              have zA := ZA.out
              have zB := ZB.out
              go_wp2
              go_roundg (l0.length - (i + 1))
              case measure => have := hk.out; omega
              case rel => exact ⟨i + 1, by simp, ⟨by omega⟩, ⟨Nat.le_refl _⟩, HE, ⟨below_step HB.out (by have := HS.out.hb; exact this)⟩⟩
      · have cb0 : decide ((i : Int) < (l0.length : Int)) = false := by simp; omega
        have heq' := heq.out
        rw [List.drop_eq_nil_of_le (by omega)] at heq'
        have HE := Aside0.mk (Option.some.inj heq')
        clear heq heq'
        go_wp2
        go_ret
        exact ⟨by rw [← HE.out] <;> rfl, below_step (w := w) (below_alloc (Below.refl _ _) _) HB.out⟩
  · rw [if_neg hl] at h
    cases h


/-! ### impl_cells: function 129 -/
mutual
def impl_cells.j0 : Nat → Int → Int → Bool → Int → Int → Option (List Int)
  | 0, _, _, _, _, _ => none
  | k + 1, x5, x248000, x248001, x248002, x248003 => impl_cells.l0 k x5 ([] : List Int) x248003 0 x248000 x248001 x248002 x248003
def impl_cells.l0 : Nat → Int → List Int → Int → Int → Int → Bool → Int → Int → Option (List Int)
  | 0, _, _, _, _, _, _, _, _ => none
  | k + 1, x5, x6, x13, x14, x248000, x248001, x248002, x248003 => if x14 < x13 then (if x6.length < 17592186044416 then (impl_cells.l0 k x5 (x6 ++ [wrap64 (x248002 + (wrap64 (x14 * x5)))]) x13 (wrap64 (x14 + 1)) x248000 x248001 x248002 x248003) else (none)) else (some x6)
end
def impl_cells.f (k : Nat) (a0_0 : Int) (a0_1 : Int) (a0_2 : ByteArray) (a1_0 : Int) (a1_1 : Bool) (a1_2 : Int) (a1_3 : Int) : Option (List Int) := if a1_1 = true then (impl_cells.j0 k a0_1 a1_0 a1_1 a1_2 a1_3) else (impl_cells.j0 k 1 a1_0 a1_1 a1_2 a1_3)
theorem impl_cells.mono_l : ∀ k, (∀ y0 y1 y2 y3 y4, LeO (impl_cells.j0 k y0 y1 y2 y3 y4) (impl_cells.j0 (k + 1) y0 y1 y2 y3 y4)) ∧ (∀ y0 y1 y2 y3 y4 y5 y6 y7, LeO (impl_cells.l0 k y0 y1 y2 y3 y4 y5 y6 y7) (impl_cells.l0 (k + 1) y0 y1 y2 y3 y4 y5 y6 y7))
  | 0 => ⟨fun _ _ _ _ _ r h => by simp [impl_cells.j0] at h, fun _ _ _ _ _ _ _ _ r h => by simp [impl_cells.l0] at h⟩
  | k + 1 => by
   obtain ⟨ih0, ih1⟩ := impl_cells.mono_l k
   refine ⟨?_, ?_⟩
   ·intro y0 y1 y2 y3 y4
    unfold impl_cells.j0
    repeat' first
    | (with_reducible exact ih0 _ _ _ _ _)
    | (with_reducible exact ih1 _ _ _ _ _ _ _ _)
    | (with_reducible exact LeO.refl _)
    | (with_reducible exact LeO.none _)
    | (with_reducible refine LeO.ite ?_ ?_)
    | (with_reducible refine LeO.bind ?_ (fun _ => ?_))
    | exact ih0 _ _ _ _ _
    | exact ih1 _ _ _ _ _ _ _ _
    | exact LeO.none _
    | refine LeO.ite ?_ ?_
    | refine LeO.bind ?_ (fun _ => ?_)
   ·intro y0 y1 y2 y3 y4 y5 y6 y7
    unfold impl_cells.l0
    repeat' first
    | (with_reducible exact ih0 _ _ _ _ _)
    | (with_reducible exact ih1 _ _ _ _ _ _ _ _)
    | (with_reducible exact LeO.refl _)
    | (with_reducible exact LeO.none _)
    | (with_reducible refine LeO.ite ?_ ?_)
    | (with_reducible refine LeO.bind ?_ (fun _ => ?_))
    | exact ih0 _ _ _ _ _
    | exact ih1 _ _ _ _ _ _ _ _
    | exact LeO.none _
    | refine LeO.ite ?_ ?_
    | refine LeO.bind ?_ (fun _ => ?_)
theorem impl_cells.mono : ∀ a0 a1 a2 a3 a4 a5 a6 k, LeO (impl_cells.f k a0 a1 a2 a3 a4 a5 a6) (impl_cells.f (k + 1) a0 a1 a2 a3 a4 a5 a6) := by
  intro a0 a1 a2 a3 a4 a5 a6 k
  obtain ⟨ih0, ih1⟩ := impl_cells.mono_l k
  unfold impl_cells.f
  repeat' first
    | (with_reducible exact ih0 _ _ _ _ _)
    | (with_reducible exact ih1 _ _ _ _ _ _ _ _)
    | (with_reducible exact LeO.refl _)
    | (with_reducible exact LeO.none _)
    | (with_reducible refine LeO.ite ?_ ?_)
    | (with_reducible refine LeO.bind ?_ (fun _ => ?_))
    | exact ih0 _ _ _ _ _
    | exact ih1 _ _ _ _ _ _ _ _
    | exact LeO.none _
    | refine LeO.ite ?_ ?_
    | refine LeO.bind ?_ (fun _ => ?_)
set_option maxHeartbeats 8000000 in
set_option maxRecDepth 100000 in
theorem impl_cells.calls (k : Nat) (a0_0 : Int) (a0_1 : Int) (a0_2 : ByteArray) (a1_0 : Int) (a1_1 : Bool) (a1_2 : Int) (a1_3 : Int) (r : List Int) (w : World) (h : impl_cells.f k a0_0 a0_1 a0_2 a1_0 a1_1 a1_2 a1_3 = some r) :
   Calls Try.prog 129 #[.agg #[.int .i64 a0_0, .int .i64 a0_1, .string a0_2], .agg #[.int .i64 a1_0, .bool a1_1, .int .i64 a1_2, .int .i64 a1_3]] w fun e w' => ∃ v0_ : Value, e = .returned (v0_) ∧ Kd.R (Kd.int .i64) 3 w' w.heap.size (fun _ => True) v0_ r ∧ Below w.heap.size w w' := by
  have hu52 := Try.underlying52
  have hu68 := Try.underlying68
  have HB := Aside0.mk (Below.refl w.heap.size w)
  have H : (if a1_1 = true then (impl_cells.j0 k a0_1 a1_0 a1_1 a1_2 a1_3) else (impl_cells.j0 k 1 a1_0 a1_1 a1_2 a1_3)) = some r := h
  clear h
  have HC3 := Aside0.mk H
  clear H
  go_enter Try.func129, Try.ntmps129
  go_upto_if 9 with (first | ((with_reducible refine gate_dst (N := 2) rfl ?_); refine box_event ?hg (N := 2) ?hd (cs := #[.int .i64 a0_0, .int .i64 a0_1, .string a0_2]) (t := 52) ?hr ?_; (case hd => rfl); (case hg => rfl); (case hr => first | (go_simp; done) | (go_simp; rfl)); intro gb246 hg w4 hbox hb; have n0_ := Aside0.mk (below_step (by repeat (first | (with_reducible first | exact HB.out | apply below_alloc | apply pw_below_drewN | apply below_drew1) | exact HB.out)) hb); have n1_ := Aside0.mk (hbox); have n2_ := Aside0.mk ((by rw [hg]; exact (below_size (by repeat (first | (with_reducible first | exact HB.out | apply below_alloc | apply pw_below_drewN | apply below_drew1) | exact HB.out))) : w.heap.size ≤ gb246)); have n3_ := Aside0.mk ((by rw [hg]; exact (below_size (by repeat (first | (with_reducible first | exact HB.out | apply below_alloc | apply pw_below_drewN | apply below_drew1) | exact HB.out))) : w.heap.size ≤ gb246)); clear HB; have HB := n0_; have BK246 := n1_; have GW246 := n2_; have GE246 := n3_; clear n0_ n1_ n2_ n3_; clear hb hbox hg) | ((with_reducible refine gate_dst (N := 3) rfl ?_); refine box_event ?hg (N := 3) ?hd (cs := #[.int .i64 a1_0, .bool a1_1, .int .i64 a1_2, .int .i64 a1_3]) (t := 68) ?hr ?_; (case hd => rfl); (case hg => rfl); (case hr => first | (go_simp; done) | (go_simp; rfl)); intro gb247 hg w5 hbox hb; have n0_ := Aside0.mk (blk_below (g := gb246) (o := .cells #[.int .i64 a0_0, .int .i64 a0_1, .string a0_2] 52 (0, 0)) (by (with_reducible repeat (first | refine blk_drewN ?_ _ | refine blk_drew ?_ | refine blk_alloc ?_ _)); exact BK246.out) hb); have n1_ := Aside0.mk (below_step (by repeat (first | (with_reducible first | exact HB.out | apply below_alloc | apply pw_below_drewN | apply below_drew1 | refine below_set ?_ GE246.out) | exact HB.out)) hb); have n2_ := Aside0.mk (hbox); have n3_ := Aside0.mk ((by rw [hg]; exact (below_size (by repeat (first | (with_reducible first | exact HB.out | apply below_alloc | apply pw_below_drewN | apply below_drew1 | refine below_set ?_ GE246.out) | exact HB.out))) : w.heap.size ≤ gb247)); have n4_ := Aside0.mk ((by rw [hg]; exact (below_size (by repeat (first | (with_reducible first | exact HB.out | apply below_alloc | apply pw_below_drewN | apply below_drew1 | refine below_set ?_ GE246.out) | exact HB.out))) : w.heap.size ≤ gb247)); have n5_ := Aside0.mk ((by rw [hg]; exact Nat.ne_of_lt (blk_lt (g := gb246) (o := .cells #[.int .i64 a0_0, .int .i64 a0_1, .string a0_2] 52 (0, 0)) (by (with_reducible repeat (first | refine blk_drewN ?_ _ | refine blk_drew ?_ | refine blk_alloc ?_ _)); exact BK246.out)) : gb246 ≠ gb247)); have n6_ := Aside0.mk ((by rw [hg]; exact Nat.ne_of_gt (blk_lt (g := gb246) (o := .cells #[.int .i64 a0_0, .int .i64 a0_1, .string a0_2] 52 (0, 0)) (by (with_reducible repeat (first | refine blk_drewN ?_ _ | refine blk_drew ?_ | refine blk_alloc ?_ _)); exact BK246.out)) : gb247 ≠ gb246)); clear BK246; clear HB; have BK246 := n0_; have HB := n1_; have BK247 := n2_; have GW247 := n3_; have GE247 := n4_; have NB246_247 := n5_; have NB247_246 := n6_; clear n0_ n1_ n2_ n3_ n4_ n5_ n6_; clear hb hbox hg; have hnb6 := NB247_246.out; have hnc6 := NB246_247.out; have hcz7_0 : w5.cell? ⟨gb247, 0, none⟩ = some (.int .i64 a1_0) := (blk_cell BK247.out 0).trans rfl; have hcz7_1 : w5.cell? ⟨gb247, 1, none⟩ = some (.bool a1_1) := (blk_cell BK247.out 1).trans rfl; have hcz7_2 : w5.cell? ⟨gb247, 2, none⟩ = some (.int .i64 a1_2) := (blk_cell BK247.out 2).trans rfl; have hcz7_3 : w5.cell? ⟨gb247, 3, none⟩ = some (.int .i64 a1_3) := (blk_cell BK247.out 3).trans rfl; have hfz7_0 := blk_frozen BK247.out 0; have hfz7_1 := blk_frozen BK247.out 1; have hfz7_2 := blk_frozen BK247.out 2; have hfz7_3 := blk_frozen BK247.out 3))
  (try simp only [Act.put, List.setIfInBounds_toArray, List.set_cons_zero, List.set_cons_succ])
  go_cut [5] (fun v5 wc => ∃ (kq : Nat) (x5_2 : Int), v5 = .int .i64 x5_2 ∧ Aside0 (impl_cells.j0 kq x5_2 a1_0 a1_1 a1_2 a1_3 = some r) ∧ Aside0 (kq ≤ k) ∧ Aside0 (wc.heap[gb246]? = some (.cells #[.int .i64 a0_0, .int .i64 a0_1, .string a0_2] 52 (0, 0))) ∧ Aside0 (wc.heap[gb247]? = some (.cells #[.int .i64 a1_0, .bool a1_1, .int .i64 a1_2, .int .i64 a1_3] 68 (0, 0))) ∧ Aside0 (Below w.heap.size w wc))
  case first =>
   have H := HC3.out
   clear HC3
   by_cases c8 : a1_1 = true
   ·subst c8
    have H1 : (impl_cells.j0 k a0_1 a1_0 true a1_2 a1_3) = some r := by rw [if_pos rfl] at H; exact H
    clear H
    have H := H1
    clear H1
    have H' := Aside0.mk H
    clear H
    have hnb9 := NB246_247.out
    have hnc9 := NB247_246.out
    have hcz10_0 : w5.cell? ⟨gb246, 0, none⟩ = some (.int .i64 a0_0) := (blk_cell BK246.out 0).trans rfl
    have hcz10_1 : w5.cell? ⟨gb246, 1, none⟩ = some (.int .i64 a0_1) := (blk_cell BK246.out 1).trans rfl
    have hcz10_2 : w5.cell? ⟨gb246, 2, none⟩ = some (.string a0_2) := (blk_cell BK246.out 2).trans rfl
    have hfz10_0 := blk_frozen BK246.out 0
    have hfz10_1 := blk_frozen BK246.out 1
    have hfz10_2 := blk_frozen BK246.out 2
    go_wp2
    go_meet
    case rel => exact ⟨_, (a0_1), (by first | rfl | (simp; done) | (simp [*]; done)), H', ⟨by first | omega | exact Nat.le_refl _⟩, ⟨by (with_reducible repeat (first | refine blk_drewN ?_ _ | refine blk_drew ?_ | refine blk_alloc ?_ _)); exact BK246.out⟩, ⟨by (with_reducible repeat (first | refine blk_drewN ?_ _ | refine blk_drew ?_ | refine blk_alloc ?_ _)); exact BK247.out⟩, ⟨by repeat (first | (with_reducible first | exact HB.out | apply below_alloc | apply pw_below_drewN | apply below_drew1 | refine below_set ?_ GE246.out | refine below_set ?_ GE247.out) | exact HB.out)⟩⟩
   ·replace c8 := Bool.eq_false_iff.mpr c8
    subst c8
    have H1 : (impl_cells.j0 k 1 a1_0 false a1_2 a1_3) = some r := by rw [if_neg (show ¬ (false = true) by decide)] at H; exact H
    clear H
    have H := H1
    clear H1
    have H' := Aside0.mk H
    clear H
    go_wp2
    go_meet
    case rel => exact ⟨_, (1), (by first | rfl | (simp; done) | (simp [*]; done)), H', ⟨by first | omega | exact Nat.le_refl _⟩, ⟨by (with_reducible repeat (first | refine blk_drewN ?_ _ | refine blk_drew ?_ | refine blk_alloc ?_ _)); exact BK246.out⟩, ⟨by (with_reducible repeat (first | refine blk_drewN ?_ _ | refine blk_drew ?_ | refine blk_alloc ?_ _)); exact BK247.out⟩, ⟨by repeat (first | (with_reducible first | exact HB.out | apply below_alloc | apply pw_below_drewN | apply below_drew1 | refine below_set ?_ GE246.out | refine below_set ?_ GE247.out) | exact HB.out)⟩⟩
  case rest =>
   clear HC3
   try clear c1
   try clear p2
   try clear c6
   try clear c8
   try clear c9
   try clear hcz10_0
   try clear hcz10_1
   try clear hcz10_2
   try clear hcz7_0
   try clear hcz7_1
   try clear hcz7_2
   try clear hcz7_3
   try clear hfz10_0
   try clear hfz10_1
   try clear hfz10_2
   try clear hfz7_0
   try clear hfz7_1
   try clear hfz7_2
   try clear hfz7_3
   obtain ⟨kq, x5_2, rfl, HA, HJ2, BK246, BK247, HB⟩ := hcut
   cases kq with
   | zero => exact absurd HA.out (by simp [impl_cells.j0])
   | succ kj2 =>
    have H := HA.out
    clear HA
    simp only [impl_cells.j0] at H
    have H' := Aside0.mk H
    clear H
    have hnb11 := NB247_246.out
    have hnc11 := NB246_247.out
    have hcz12_0 : wc.cell? ⟨gb247, 0, none⟩ = some (.int .i64 a1_0) := (blk_cell BK247.out 0).trans rfl
    have hcz12_1 : wc.cell? ⟨gb247, 1, none⟩ = some (.bool a1_1) := (blk_cell BK247.out 1).trans rfl
    have hcz12_2 : wc.cell? ⟨gb247, 2, none⟩ = some (.int .i64 a1_2) := (blk_cell BK247.out 2).trans rfl
    have hcz12_3 : wc.cell? ⟨gb247, 3, none⟩ = some (.int .i64 a1_3) := (blk_cell BK247.out 3).trans rfl
    have hfz12_0 := blk_frozen BK247.out 0
    have hfz12_1 := blk_frozen BK247.out 1
    have hfz12_2 := blk_frozen BK247.out 2
    have hfz12_3 := blk_frozen BK247.out 3
    go_wp2
    go_loopg [6, 14] kj2 (fun kq v6 v14 w' => ∃ (x6_2 : List Int) (x14_2 : Int), v14 = .int .i64 x14_2 ∧ Aside0 (impl_cells.l0 kq x5_2 x6_2 a1_3 x14_2 a1_0 a1_1 a1_2 a1_3 = some r) ∧ Aside0 (kq ≤ kj2) ∧ Aside0 (Kd.R (Kd.int .i64) 3 w' w.heap.size (fun _ => True) v6 x6_2) ∧ Aside0 (w'.heap[gb246]? = some (.cells #[.int .i64 a0_0, .int .i64 a0_1, .string a0_2] 52 (0, 0))) ∧ Aside0 (w'.heap[gb247]? = some (.cells #[.int .i64 a1_0, .bool a1_1, .int .i64 a1_2, .int .i64 a1_3] 68 (0, 0))) ∧ Aside0 (Below w.heap.size w w'))
    case atStart => exact ⟨(([] : List Int)), (0), (by first | rfl | (simp; done) | (simp [*]; done)), H', ⟨Nat.le_refl _⟩, ⟨by first | exact Kd.R_nil _ _ _ _ _ | exact Kd.N_nil _ _ _ _ _ | exact Kd.V_nil _ _ _ _ _ | exact Kd.Q_nil _ _ _ _ _ | exact Kd.S_nil _ _ _ _ _⟩, ⟨by (with_reducible repeat (first | refine blk_drewN ?_ _ | refine blk_drew ?_ | refine blk_alloc ?_ _)); exact BK246.out⟩, ⟨by (with_reducible repeat (first | refine blk_drewN ?_ _ | refine blk_drew ?_ | refine blk_alloc ?_ _)); exact BK247.out⟩, ⟨by repeat (first | (with_reducible first | exact HB.out | apply below_alloc | apply pw_below_drewN | apply below_drew1 | refine below_set ?_ GE246.out | refine below_set ?_ GE247.out) | exact HB.out)⟩⟩
    case round =>
     clear H'
     try clear c1
     try clear p2
     try clear c6
     try clear c8
     try clear c9
     try clear c11
     try clear c12
     try clear hcz10_0
     try clear hcz10_1
     try clear hcz10_2
     try clear hcz12_0
     try clear hcz12_1
     try clear hcz12_2
     try clear hcz12_3
     try clear hcz7_0
     try clear hcz7_1
     try clear hcz7_2
     try clear hcz7_3
     try clear hfz10_0
     try clear hfz10_1
     try clear hfz10_2
     try clear hfz12_0
     try clear hfz12_1
     try clear hfz12_2
     try clear hfz12_3
     try clear hfz7_0
     try clear hfz7_1
     try clear hfz7_2
     try clear hfz7_3
     try clear p2
     obtain ⟨x6_2, x14_2, rfl, HA, HK2, HO_6, BK246, BK247, HB⟩ := hrel
     cases gk with
     | zero => exact absurd HA.out (by simp [impl_cells.l0])
     | succ k2 =>
      have H := HA.out
      clear HA
      simp only [impl_cells.l0] at H
      by_cases c13 : x14_2 < a1_3
      ·rw [if_pos c13] at H
       have c13b0 : decide (x14_2 < a1_3) = true := decide_eq_true c13
       clear c13
       by_cases c14 : x6_2.length < 17592186044416
       ·rw [if_pos c14] at H
        have LMc14 := Aside0.mk c14
        clear c14
        obtain ⟨y248, hy248⟩ : ∃ y_ : List Int, y_ = (x6_2 ++ [wrap64 (a1_2 + (wrap64 (x14_2 * x5_2)))]) := ⟨_, rfl⟩
        replace H : (impl_cells.l0 k2 x5_2 y248 a1_3 (wrap64 (x14_2 + 1)) a1_0 a1_1 a1_2 a1_3) = some r := by first | (rw [hy248]; with_reducible exact H) | (have H2_ := (Option.bind_some _ _).symm.trans H; rw [hy248]; with_reducible exact H2_) | (have H2_ := (Option.bind_some _ _).symm.trans H; with_reducible exact H2_) | with_reducible exact H | (rw [hy248]; exact H) | exact H
        have Ny248 := Aside0.mk hy248
        clear hy248
        have H' := Aside0.mk H
        clear H
        have hnb15 := NB247_246.out
        have hnc15 := NB246_247.out
        have hcz16_0 : wr.cell? ⟨gb247, 0, none⟩ = some (.int .i64 a1_0) := (blk_cell BK247.out 0).trans rfl
        have hcz16_1 : wr.cell? ⟨gb247, 1, none⟩ = some (.bool a1_1) := (blk_cell BK247.out 1).trans rfl
        have hcz16_2 : wr.cell? ⟨gb247, 2, none⟩ = some (.int .i64 a1_2) := (blk_cell BK247.out 2).trans rfl
        have hcz16_3 : wr.cell? ⟨gb247, 3, none⟩ = some (.int .i64 a1_3) := (blk_cell BK247.out 3).trans rfl
        have hfz16_0 := blk_frozen BK247.out 0
        have hfz16_1 := blk_frozen BK247.out 1
        have hfz16_2 := blk_frozen BK247.out 2
        have hfz16_3 := blk_frozen BK247.out 3
        go_wp2_with (first | ((with_reducible refine gate_builtin (b := .append) (xs := #[.tmp 17, .tmp 24]) rfl ?_); at_builtin; refine Kd.R_append (Kd.int .i64) (w0 := w) w.heap.size rfl (.tmp 17) (.tmp 24) 70 3 (.int .i64 0) 8 rfl Try.underlying70 info3 rfl (by decide) (by omega) u6 x6_2 (wrap64 (a1_2 + (wrap64 (x14_2 * x5_2)))) [.int .i64 (wrap64 (a1_2 + (wrap64 (x14_2 * x5_2))))] (fun _ => True) (fun _ => False) rfl rfl ?aP (fun _ hk => hk.elim) ?aF ?aO ?aB ?aS ?aL ?_; (case aP => exact rfl); (case aB => exact (by repeat (first | (with_reducible first | exact HB.out | apply below_alloc | apply pw_below_drewN | apply below_drew1 | refine below_set ?_ GE246.out | refine below_set ?_ GE247.out) | exact HB.out))); (case aF => exact (fun _ _ => trivial)); (case aO => exact (by (with_reducible repeat (first | apply Kd.R_alloc | apply Kd.R_drewN | apply Kd.R_drew)); exact HO_6.out)); (case aS => exact (below_size (by repeat (first | (with_reducible first | exact HB.out | apply below_alloc | apply pw_below_drewN | apply below_drew1 | refine below_set ?_ GE246.out | refine below_set ?_ GE247.out) | exact HB.out)))); (case aL => have := LMc14.out; omega); intro v249 w17 ho hb hg hat; rw [← Ny248.out] at ho; have n0_ := Aside0.mk (blk_grown (g := gb246) (o := .cells #[.int .i64 a0_0, .int .i64 a0_1, .string a0_2] 52 (0, 0)) (by (with_reducible repeat (first | refine blk_drewN ?_ _ | refine blk_drew ?_ | refine blk_alloc ?_ _)); exact BK246.out) hg (Kd.R_ne HO_6.out BK246.out (by decide))); have n1_ := Aside0.mk (blk_grown (g := gb247) (o := .cells #[.int .i64 a1_0, .bool a1_1, .int .i64 a1_2, .int .i64 a1_3] 68 (0, 0)) (by (with_reducible repeat (first | refine blk_drewN ?_ _ | refine blk_drew ?_ | refine blk_alloc ?_ _)); exact BK247.out) hg (Kd.R_ne HO_6.out BK247.out (by decide))); have n2_ := Aside0.mk (hb); have n3_ := Aside0.mk (ho); clear BK246; clear BK247; clear HB; clear HO_6; have BK246 := n0_; have BK247 := n1_; have HB := n2_; have HO250 := n3_; clear n0_ n1_ n2_ n3_; clear ho hb hg hat))
        go_roundg k2
        case measure => have := HJ2.out; have := HK2.out; omega
        case rel => exact ⟨(y248), (wrap64 (x14_2 + 1)), (by first | rfl | (simp; done) | (simp [*]; done)), H', ⟨by have := HJ2.out; have := HK2.out; omega⟩, ⟨by (with_reducible repeat (first | apply Kd.R_alloc | apply Kd.R_drewN | apply Kd.R_drew)); exact HO250.out⟩, ⟨by (with_reducible repeat (first | refine blk_drewN ?_ _ | refine blk_drew ?_ | refine blk_alloc ?_ _)); exact BK246.out⟩, ⟨by (with_reducible repeat (first | refine blk_drewN ?_ _ | refine blk_drew ?_ | refine blk_alloc ?_ _)); exact BK247.out⟩, ⟨by repeat (first | (with_reducible first | exact HB.out | apply below_alloc | apply pw_below_drewN | apply below_drew1 | refine below_set ?_ GE246.out | refine below_set ?_ GE247.out) | exact HB.out)⟩⟩
       ·rw [if_neg c14] at H
        exact absurd H (by simp)
      ·rw [if_neg c13] at H
       have c13b0 : decide (x14_2 < a1_3) = false := decide_eq_false c13
       clear c13
       obtain rfl := Option.some.inj H
       go_wp2
       go_ret
       exact ⟨_, by first | rfl | (simp [errW_none, errW_some] <;> rfl) | (simp [*, errW_none, errW_some] <;> rfl), by (with_reducible repeat (first | apply Kd.R_alloc | apply Kd.R_drewN | apply Kd.R_drew)); exact HO_6.out, by repeat (first | (with_reducible first | exact HB.out | apply below_alloc | apply pw_below_drewN | apply below_drew1 | refine below_set ?_ GE246.out | refine below_set ?_ GE247.out) | exact HB.out)⟩

/-! ### impl_layout: function 102 -/
def impl_layout.l0 : Nat → List (List Int) → List (S68) → Int → Int → Int → Int → ByteArray → Option ((List (List Int)))
  | 0, _, _, _, _, _, _, _ => none
  | k + 1, x3, x7, x8, x9, x252000, x252001, x252002 => if x9 < x8 then (if 0 ≤ x9 then (if x9 < (x7.length : Int) then ((impl_cells.f k x252000 x252001 x252002 ((rd_T68 x7 x9).f0) ((rd_T68 x7 x9).f1) ((rd_T68 x7 x9).f2) ((rd_T68 x7 x9).f3)).bind fun t257 => (if x3.length < 5864062014805 then (impl_layout.l0 k (x3 ++ [t257]) x7 x8 (wrap64 (x9 + 1)) x252000 x252001 x252002) else (none))) else (none)) else (none)) else (some x3)
def impl_layout.f (k : Nat) (a0_0 : Int) (a0_1 : Int) (a0_2 : ByteArray) : Option ((List (List Int))) := (impl_SlotsOf.f k a0_0 a0_1 a0_2).bind fun t252 => (impl_layout.l0 k ([] : List (List Int)) t252 (t252.length : Int) 0 a0_0 a0_1 a0_2)
theorem impl_layout.mono_l : ∀ k, (∀ y0 y1 y2 y3 y4 y5 y6, LeO (impl_layout.l0 k y0 y1 y2 y3 y4 y5 y6) (impl_layout.l0 (k + 1) y0 y1 y2 y3 y4 y5 y6))
  | 0 => fun _ _ _ _ _ _ _ r h => by simp [impl_layout.l0] at h
  | k + 1 => by
   have ih0 := impl_layout.mono_l k
   ·intro y0 y1 y2 y3 y4 y5 y6
    unfold impl_layout.l0
    repeat' first
    | (with_reducible exact ih0 _ _ _ _ _ _ _)
    | (with_reducible exact impl_SlotsOf.mono _ _ _ _)
    | (with_reducible exact impl_cells.mono _ _ _ _ _ _ _ _)
    | (with_reducible exact LeO.refl _)
    | (with_reducible exact LeO.none _)
    | (with_reducible refine LeO.ite ?_ ?_)
    | (with_reducible refine LeO.bind ?_ (fun _ => ?_))
    | exact ih0 _ _ _ _ _ _ _
    | exact impl_SlotsOf.mono _ _ _ _
    | exact impl_cells.mono _ _ _ _ _ _ _ _
    | exact LeO.none _
    | refine LeO.ite ?_ ?_
    | refine LeO.bind ?_ (fun _ => ?_)
theorem impl_layout.mono : ∀ a0 a1 a2 k, LeO (impl_layout.f k a0 a1 a2) (impl_layout.f (k + 1) a0 a1 a2) := by
  intro a0 a1 a2 k
  have ih0 := impl_layout.mono_l k
  unfold impl_layout.f
  repeat' first
    | (with_reducible exact ih0 _ _ _ _ _ _ _)
    | (with_reducible exact impl_SlotsOf.mono _ _ _ _)
    | (with_reducible exact impl_cells.mono _ _ _ _ _ _ _ _)
    | (with_reducible exact LeO.refl _)
    | (with_reducible exact LeO.none _)
    | (with_reducible refine LeO.ite ?_ ?_)
    | (with_reducible refine LeO.bind ?_ (fun _ => ?_))
    | exact ih0 _ _ _ _ _ _ _
    | exact impl_SlotsOf.mono _ _ _ _
    | exact impl_cells.mono _ _ _ _ _ _ _ _
    | exact LeO.none _
    | refine LeO.ite ?_ ?_
    | refine LeO.bind ?_ (fun _ => ?_)
set_option maxHeartbeats 8000000 in
set_option maxRecDepth 100000 in
theorem impl_layout.calls (k : Nat) (a0_0 : Int) (a0_1 : Int) (a0_2 : ByteArray) (r : List (List Int)) (w : World) (h : impl_layout.f k a0_0 a0_1 a0_2 = some r) :
   Calls Try.prog 102 #[.agg #[.int .i64 a0_0, .int .i64 a0_1, .string a0_2]] w fun e w' => ∃ v0_ : Value, e = .returned (v0_) ∧ Kd.S (Kd.slice 3 (Kd.int .i64)) 70 w' w.heap.size (fun _ => True) v0_ r ∧ Below w.heap.size w w' := by
  have hu52 := Try.underlying52
  have hu68 := Try.underlying68
  have HB := Aside0.mk (Below.refl w.heap.size w)
  have H : ((impl_SlotsOf.f k a0_0 a0_1 a0_2).bind fun t252 => (impl_layout.l0 k ([] : List (List Int)) t252 (t252.length : Int) 0 a0_0 a0_1 a0_2)) = some r := h
  clear h
  replace H := Option.bind_eq_some_iff.mp H
  obtain ⟨t252, A20, H⟩ := H
  replace H : (impl_layout.l0 k ([] : List (List Int)) t252 (t252.length : Int) 0 a0_0 a0_1 a0_2) = some r := H
  have A2 := Aside0.mk A20
  clear A20
  have H' := Aside0.mk H
  clear H
  go_enter Try.func102, Try.ntmps102
  go_wp2_with (first | ((with_reducible refine gate_dst (N := 1) rfl ?_); refine box_event ?hg (N := 1) ?hd (cs := #[.int .i64 a0_0, .int .i64 a0_1, .string a0_2]) (t := 52) ?hr ?_; (case hd => rfl); (case hg => rfl); (case hr => first | (go_simp; done) | (go_simp; rfl)); intro gb251 hg w3 hbox hb; have n0_ := Aside0.mk (below_step (by repeat (first | (with_reducible first | exact HB.out | apply below_alloc | apply pw_below_drewN | apply below_drew1) | exact HB.out)) hb); have n1_ := Aside0.mk (hbox); have n2_ := Aside0.mk ((by rw [hg]; exact (below_size (by repeat (first | (with_reducible first | exact HB.out | apply below_alloc | apply pw_below_drewN | apply below_drew1) | exact HB.out))) : w.heap.size ≤ gb251)); have n3_ := Aside0.mk ((by rw [hg]; exact (below_size (by repeat (first | (with_reducible first | exact HB.out | apply below_alloc | apply pw_below_drewN | apply below_drew1) | exact HB.out))) : w.heap.size ≤ gb251)); clear HB; have HB := n0_; have BK251 := n1_; have GW251 := n2_; have GE251 := n3_; clear n0_ n1_ n2_ n3_; clear hb hbox hg; have hcz4_0 : w3.cell? ⟨gb251, 0, none⟩ = some (.int .i64 a0_0) := (blk_cell BK251.out 0).trans rfl; have hcz4_1 : w3.cell? ⟨gb251, 1, none⟩ = some (.int .i64 a0_1) := (blk_cell BK251.out 1).trans rfl; have hcz4_2 : w3.cell? ⟨gb251, 2, none⟩ = some (.string a0_2) := (blk_cell BK251.out 2).trans rfl; have hfz4_0 := blk_frozen BK251.out 0; have hfz4_1 := blk_frozen BK251.out 1; have hfz4_2 := blk_frozen BK251.out 2) | ((with_reducible refine gate_callee (f := 52) rfl ?_); refine goesL_ (some 7) rfl rfl Try.func52 (by kernel_rfl) rfl #[.agg #[.int .i64 a0_0, .int .i64 a0_1, .string a0_2]] rfl (by (try simp only [List.map_toArray, List.map_cons, List.map_nil]); first | done | rfl | (simp only [List.length_drop, List.length_take]; rfl)) ?_; (with_reducible refine (impl_SlotsOf.calls k a0_0 a0_1 a0_2 t252 _ A2.out).mono ?_); rintro e w5 ⟨v253, rfl, ho0, hb⟩; refine ⟨_, rfl, ?_⟩; have n0_ := Aside0.mk (Kd.R_lower ho0 (below_size (by repeat (first | (with_reducible first | exact HB.out | apply below_alloc | apply pw_below_drewN | apply below_drew1 | refine below_set ?_ GE251.out) | exact HB.out)))); have n1_ := Aside0.mk (blk_below (g := gb251) (o := .cells #[.int .i64 a0_0, .int .i64 a0_1, .string a0_2] 52 (0, 0)) (by (with_reducible repeat (first | refine blk_drewN ?_ _ | refine blk_drew ?_ | refine blk_alloc ?_ _)); exact BK251.out) hb); have n2_ := Aside0.mk (below_step (by repeat (first | (with_reducible first | exact HB.out | apply below_alloc | apply pw_below_drewN | apply below_drew1 | refine below_set ?_ GE251.out) | exact HB.out)) hb); clear BK251; clear HB; have HO254 := n0_; have BK251 := n1_; have HB := n2_; clear n0_ n1_ n2_; (try clear hb); (try clear hb2); (try clear hk); (try clear hi); (try clear ho0); obtain ⟨Ao6, co6, eo6⟩ := Kd.R_slice HO254.out; subst eo6))
  go_loopg [3, 9] k (fun kq v3 v9 w' => ∃ (x3_1 : List (List Int)) (x9_1 : Int), v9 = .int .i64 x9_1 ∧ Aside0 (impl_layout.l0 kq x3_1 t252 (t252.length : Int) x9_1 a0_0 a0_1 a0_2 = some r) ∧ Aside0 (kq ≤ k) ∧ Aside0 (Kd.S (Kd.slice 3 (Kd.int .i64)) 70 w' w.heap.size (fun _ => True) v3 x3_1) ∧ Aside0 (Kd.R k68 68 w' w.heap.size (fun _ => True) (.slice Ao6 t252.length co6) t252) ∧ Aside0 (w'.heap[gb251]? = some (.cells #[.int .i64 a0_0, .int .i64 a0_1, .string a0_2] 52 (0, 0))) ∧ Aside0 (Below w.heap.size w w'))
  case atStart => exact ⟨(([] : List (List Int))), (0), (by first | rfl | (simp; done) | (simp [*]; done)), H', ⟨Nat.le_refl _⟩, ⟨by first | exact Kd.S_nil _ _ _ _ _ | exact Kd.N_nil _ _ _ _ _ | exact Kd.V_nil _ _ _ _ _ | exact Kd.Q_nil _ _ _ _ _ | exact Kd.R_nil _ _ _ _ _⟩, ⟨by (with_reducible repeat (first | apply Kd.R_alloc | apply Kd.R_drewN | apply Kd.R_drew)); exact HO254.out⟩, ⟨by (with_reducible repeat (first | refine blk_drewN ?_ _ | refine blk_drew ?_ | refine blk_alloc ?_ _)); exact BK251.out⟩, ⟨by repeat (first | (with_reducible first | exact HB.out | apply below_alloc | apply pw_below_drewN | apply below_drew1 | refine below_set ?_ GE251.out) | exact HB.out)⟩⟩
  case round =>
   clear H'
   try clear c1
   try clear p2
   try clear c5
   try clear hcz4_0
   try clear hcz4_1
   try clear hcz4_2
   try clear hfz4_0
   try clear hfz4_1
   try clear hfz4_2
   obtain ⟨x3_1, x9_1, rfl, HA, HK1, HO_3, HO_7, BK251, HB⟩ := hrel
   cases gk with
   | zero => exact absurd HA.out (by simp [impl_layout.l0])
   | succ k1 =>
    have H := HA.out
    clear HA
    simp only [impl_layout.l0] at H
    by_cases c7 : x9_1 < (t252.length : Int)
    ·rw [if_pos c7] at H
     have c7b0 : decide (x9_1 < (t252.length : Int)) = true := decide_eq_true c7
     clear c7
     by_cases c8 : 0 ≤ x9_1
     ·rw [if_pos c8] at H
      have c8b0 : decide (0 ≤ x9_1) = true := decide_eq_true c8
      clear c8
      by_cases c9 : x9_1 < (t252.length : Int)
      ·rw [if_pos c9] at H
       have c9b0 : decide (x9_1 < (t252.length : Int)) = true := decide_eq_true c9
       clear c9
       replace H := Option.bind_eq_some_iff.mp H
       obtain ⟨t257, A100, H⟩ := H
       replace H : (if x3_1.length < 5864062014805 then (impl_layout.l0 k1 (x3_1 ++ [t257]) t252 (t252.length : Int) (wrap64 (x9_1 + 1)) a0_0 a0_1 a0_2) else (none)) = some r := H
       have A10 := Aside0.mk A100
       clear A100
       by_cases c11 : x3_1.length < 5864062014805
       ·rw [if_pos c11] at H
        have LMc11 := Aside0.mk c11
        clear c11
        obtain ⟨y260, hy260⟩ : ∃ y_ : List (List Int), y_ = (x3_1 ++ [t257]) := ⟨_, rfl⟩
        replace H : (impl_layout.l0 k1 y260 t252 (t252.length : Int) (wrap64 (x9_1 + 1)) a0_0 a0_1 a0_2) = some r := by first | (rw [hy260]; with_reducible exact H) | (have H2_ := (Option.bind_some _ _).symm.trans H; rw [hy260]; with_reducible exact H2_) | (have H2_ := (Option.bind_some _ _).symm.trans H; with_reducible exact H2_) | with_reducible exact H | (rw [hy260]; exact H) | exact H
        have Ny260 := Aside0.mk hy260
        clear hy260
        have H' := Aside0.mk H
        clear H
        have p255 : 0 ≤ (x9_1 : Int) := of_decide_eq_true (by first | (with_reducible assumption) | assumption)
        have q255 : x9_1 < (t252.length : Int) := of_decide_eq_true (by first | (with_reducible assumption) | assumption)
        obtain ⟨ad255, e255, hx255_0, hx255_1, hx255_2, hx255_3⟩ := at_T68 (Kd.R_reads' HO_7.out).2.2 x9_1 p255 q255
        cases e255
        replace p255 := eq_true p255
        replace q255 := eq_true q255
        go_wp2_with (first | ((with_reducible refine gate_dst (N := 5) rfl ?_); refine box_event ?hg (N := 5) ?hd (cs := #[.int .i64 0, .bool false, .int .i64 0, .int .i64 0]) (t := 68) ?hr ?_; (case hd => rfl); (case hg => rfl); (case hr => first | (go_simp; done) | (go_simp; rfl)); intro gb256 hg w12 hbox hb; have n0_ := Aside0.mk (Kd.S_below (by (with_reducible repeat (first | apply Kd.S_alloc | apply Kd.S_drewN | apply Kd.S_drew)); exact HO_3.out) hb); have n1_ := Aside0.mk (Kd.R_below (Kd.R_elderB (by (with_reducible repeat (first | apply Kd.R_alloc | apply Kd.R_drewN | apply Kd.R_drew)); exact HO_7.out) gb256 (Nat.le_of_eq hg.symm)) hb); have n2_ := Aside0.mk (blk_below (g := gb251) (o := .cells #[.int .i64 a0_0, .int .i64 a0_1, .string a0_2] 52 (0, 0)) (by (with_reducible repeat (first | refine blk_drewN ?_ _ | refine blk_drew ?_ | refine blk_alloc ?_ _)); exact BK251.out) hb); have n3_ := Aside0.mk (below_step (by repeat (first | (with_reducible first | exact HB.out | apply below_alloc | apply pw_below_drewN | apply below_drew1 | refine below_set ?_ GE251.out) | exact HB.out)) hb); have n4_ := Aside0.mk (hbox); have n5_ := Aside0.mk ((by rw [hg]; exact (below_size (by repeat (first | (with_reducible first | exact HB.out | apply below_alloc | apply pw_below_drewN | apply below_drew1 | refine below_set ?_ GE251.out) | exact HB.out))) : w.heap.size ≤ gb256)); have n6_ := Aside0.mk ((by rw [hg]; exact (below_size (by repeat (first | (with_reducible first | exact HB.out | apply below_alloc | apply pw_below_drewN | apply below_drew1 | refine below_set ?_ GE251.out) | exact HB.out))) : w.heap.size ≤ gb256)); have n7_ := Aside0.mk ((by rw [hg]; exact Nat.ne_of_lt (blk_lt (g := gb251) (o := .cells #[.int .i64 a0_0, .int .i64 a0_1, .string a0_2] 52 (0, 0)) (by (with_reducible repeat (first | refine blk_drewN ?_ _ | refine blk_drew ?_ | refine blk_alloc ?_ _)); exact BK251.out)) : gb251 ≠ gb256)); have n8_ := Aside0.mk ((by rw [hg]; exact Nat.ne_of_gt (blk_lt (g := gb251) (o := .cells #[.int .i64 a0_0, .int .i64 a0_1, .string a0_2] 52 (0, 0)) (by (with_reducible repeat (first | refine blk_drewN ?_ _ | refine blk_drew ?_ | refine blk_alloc ?_ _)); exact BK251.out)) : gb256 ≠ gb251)); clear HO_3; clear HO_7; clear BK251; clear HB; have HO_3 := n0_; have HO_7 := n1_; have BK251 := n2_; have HB := n3_; have BK256 := n4_; have GW256 := n5_; have GE256 := n6_; have NB251_256 := n7_; have NB256_251 := n8_; clear n0_ n1_ n2_ n3_ n4_ n5_ n6_ n7_ n8_; clear hb hbox hg; have hnb13 := NB256_251.out; have hnc13 := NB251_256.out; have hcz14_0 : w12.cell? ⟨gb256, 0, none⟩ = some (.int .i64 0) := (blk_cell BK256.out 0).trans rfl; have hcz14_1 : w12.cell? ⟨gb256, 1, none⟩ = some (.bool false) := (blk_cell BK256.out 1).trans rfl; have hcz14_2 : w12.cell? ⟨gb256, 2, none⟩ = some (.int .i64 0) := (blk_cell BK256.out 2).trans rfl; have hcz14_3 : w12.cell? ⟨gb256, 3, none⟩ = some (.int .i64 0) := (blk_cell BK256.out 3).trans rfl; have hfz14_0 := blk_frozen BK256.out 0; have hfz14_1 := blk_frozen BK256.out 1; have hfz14_2 := blk_frozen BK256.out 2; have hfz14_3 := blk_frozen BK256.out 3; have hcz15_0 : w12.cell? ⟨gb251, 0, none⟩ = some (.int .i64 a0_0) := (blk_cell BK251.out 0).trans rfl; have hcz15_1 : w12.cell? ⟨gb251, 1, none⟩ = some (.int .i64 a0_1) := (blk_cell BK251.out 1).trans rfl; have hcz15_2 : w12.cell? ⟨gb251, 2, none⟩ = some (.string a0_2) := (blk_cell BK251.out 2).trans rfl; have hfz15_0 := blk_frozen BK251.out 0; have hfz15_1 := blk_frozen BK251.out 1; have hfz15_2 := blk_frozen BK251.out 2) | ((with_reducible refine gate_callee (f := 129) rfl ?_); refine goesL_ (some 16) rfl rfl Try.func129 (by kernel_rfl) rfl #[.agg #[.int .i64 a0_0, .int .i64 a0_1, .string a0_2], .agg #[.int .i64 ((rd_T68 t252 x9_1).f0), .bool ((rd_T68 t252 x9_1).f1), .int .i64 ((rd_T68 t252 x9_1).f2), .int .i64 ((rd_T68 t252 x9_1).f3)]] rfl (by (try simp only [List.map_toArray, List.map_cons, List.map_nil]); first | done | rfl | (simp only [List.length_drop, List.length_take]; rfl)) ?_; (with_reducible refine (impl_cells.calls k1 a0_0 a0_1 a0_2 ((rd_T68 t252 x9_1).f0) ((rd_T68 t252 x9_1).f1) ((rd_T68 t252 x9_1).f2) ((rd_T68 t252 x9_1).f3) t257 _ A10.out).mono ?_); rintro e w16 ⟨v258, rfl, ho0, hb⟩; refine ⟨_, rfl, ?_⟩; have n0_ := Aside0.mk (Kd.S_elder' (by (with_reducible repeat (first | apply Kd.S_alloc | apply Kd.S_drewN | apply Kd.S_drew)); exact (Kd.S_mono (Kd.S_far (p := ⟨gb256, 3, none⟩) (Kd.S_far (p := ⟨gb256, 2, none⟩) (Kd.S_far (p := ⟨gb256, 1, none⟩) (Kd.S_far (p := ⟨gb256, 0, none⟩) (Kd.S_types HO_3.out BK256.out (by decide)) (fun _ hk => hk.2) (.int .i64 ((rd_T68 t252 x9_1).f0))) (fun _ hk => hk.2) (.bool ((rd_T68 t252 x9_1).f1))) (fun _ hk => hk.2) (.int .i64 ((rd_T68 t252 x9_1).f2))) (fun _ hk => hk.2) (.int .i64 ((rd_T68 t252 x9_1).f3))) (fun _ h_ => h_.1))) (Kd.R_base ho0) hb); have n1_ := Aside0.mk (Kd.R_below (by (with_reducible repeat (first | apply Kd.R_alloc | apply Kd.R_drewN | apply Kd.R_drew)); exact (Kd.R_mono (Kd.R_far (p := ⟨gb256, 3, none⟩) (Kd.R_far (p := ⟨gb256, 2, none⟩) (Kd.R_far (p := ⟨gb256, 1, none⟩) (Kd.R_far (p := ⟨gb256, 0, none⟩) (Kd.R_mono HO_7.out (fun k_ hk => (⟨hk, hk.2⟩ : _ ∧ k_ ≠ gb256))) (fun _ hk => hk.2) (.int .i64 ((rd_T68 t252 x9_1).f0))) (fun _ hk => hk.2) (.bool ((rd_T68 t252 x9_1).f1))) (fun _ hk => hk.2) (.int .i64 ((rd_T68 t252 x9_1).f2))) (fun _ hk => hk.2) (.int .i64 ((rd_T68 t252 x9_1).f3))) (fun _ h_ => h_.1))) hb); have n2_ := Aside0.mk (Kd.R_lower ho0 (below_size (by repeat (first | (with_reducible first | exact HB.out | apply below_alloc | apply pw_below_drewN | apply below_drew1 | refine below_set ?_ GE251.out | refine below_set ?_ GE256.out) | exact HB.out)))); have n3_ := Aside0.mk (blk_below (g := gb251) (o := .cells #[.int .i64 a0_0, .int .i64 a0_1, .string a0_2] 52 (0, 0)) (by (with_reducible repeat (first | refine blk_drewN ?_ _ | refine blk_drew ?_ | refine blk_alloc ?_ _)); refine blk_far ?_ NB251_256.out _; (with_reducible repeat (first | refine blk_drewN ?_ _ | refine blk_drew ?_ | refine blk_alloc ?_ _)); refine blk_far ?_ NB251_256.out _; (with_reducible repeat (first | refine blk_drewN ?_ _ | refine blk_drew ?_ | refine blk_alloc ?_ _)); refine blk_far ?_ NB251_256.out _; (with_reducible repeat (first | refine blk_drewN ?_ _ | refine blk_drew ?_ | refine blk_alloc ?_ _)); refine blk_far ?_ NB251_256.out _; (with_reducible repeat (first | refine blk_drewN ?_ _ | refine blk_drew ?_ | refine blk_alloc ?_ _)); exact BK251.out) hb); have n4_ := Aside0.mk (blk_below (g := gb256) (o := .cells #[.int .i64 ((rd_T68 t252 x9_1).f0), .bool ((rd_T68 t252 x9_1).f1), .int .i64 ((rd_T68 t252 x9_1).f2), .int .i64 ((rd_T68 t252 x9_1).f3)] 68 (0, 0)) (by (with_reducible repeat (first | refine blk_drewN ?_ _ | refine blk_drew ?_ | refine blk_alloc ?_ _)); refine blk_put (cs := #[.int .i64 ((rd_T68 t252 x9_1).f0), .bool ((rd_T68 t252 x9_1).f1), .int .i64 ((rd_T68 t252 x9_1).f2), .int .i64 0]) ?_ 3 _ rfl; (with_reducible repeat (first | refine blk_drewN ?_ _ | refine blk_drew ?_ | refine blk_alloc ?_ _)); refine blk_put (cs := #[.int .i64 ((rd_T68 t252 x9_1).f0), .bool ((rd_T68 t252 x9_1).f1), .int .i64 0, .int .i64 0]) ?_ 2 _ rfl; (with_reducible repeat (first | refine blk_drewN ?_ _ | refine blk_drew ?_ | refine blk_alloc ?_ _)); refine blk_put (cs := #[.int .i64 ((rd_T68 t252 x9_1).f0), .bool false, .int .i64 0, .int .i64 0]) ?_ 1 _ rfl; (with_reducible repeat (first | refine blk_drewN ?_ _ | refine blk_drew ?_ | refine blk_alloc ?_ _)); refine blk_put (cs := #[.int .i64 0, .bool false, .int .i64 0, .int .i64 0]) ?_ 0 _ rfl; (with_reducible repeat (first | refine blk_drewN ?_ _ | refine blk_drew ?_ | refine blk_alloc ?_ _)); exact BK256.out) hb); have n5_ := Aside0.mk (below_step (by repeat (first | (with_reducible first | exact HB.out | apply below_alloc | apply pw_below_drewN | apply below_drew1 | refine below_set ?_ GE251.out | refine below_set ?_ GE256.out) | exact HB.out)) hb); clear HO_3; clear HO_7; clear BK251; clear BK256; clear HB; have HO_3 := n0_; have HO_7 := n1_; have HO259 := n2_; have BK251 := n3_; have BK256 := n4_; have HB := n5_; clear n0_ n1_ n2_ n3_ n4_ n5_; (try clear hb); (try clear hb2); (try clear hk); (try clear hi); (try clear ho0); obtain ⟨Ao18, co18, eo18⟩ := Kd.R_slice HO259.out; subst eo18) | ((with_reducible refine gate_builtin (b := .append) (xs := #[.tmp 13, .tmp 17]) rfl ?_); at_builtin; refine Kd.S_append (Kd.slice 3 (Kd.int .i64)) (w0 := w) w.heap.size rfl (.tmp 13) (.tmp 17) 98 70 (.slice none 0 0) 24 rfl Try.underlying98 info70 rfl (by decide) (by omega) u3 x3_1 t257 [.slice Ao18 t257.length co18] (fun _ => True) (fun k_ => some k_ = (.slice Ao18 t257.length co18 : Value).ownBlock) rfl rfl ?aP (fun k_ hk_ => ((Kd.R_mono (ok' := fun k_ => ((fun _ => True)) k_ ∧ some k_ ≠ (u3 : Value).ownBlock) (Kd.R_apart' (HO259.out) (Kd.S_typed HO_3.out) (by decide)) (fun k_ hk => ⟨trivial, hk.2⟩))).1 k_ hk_.symm) ?aF ?aO ?aB ?aS ?aL ?_; (case aP => exact Kd.M_row (Kd.R_mono (Kd.R_tight rfl (Kd.R_mono (ok' := fun k_ => ((fun _ => True)) k_ ∧ some k_ ≠ (u3 : Value).ownBlock) (Kd.R_apart' (HO259.out) (Kd.S_typed HO_3.out) (by decide)) (fun k_ hk => ⟨trivial, hk.2⟩))) (fun _ h_ => h_))); (case aB => exact (by repeat (first | (with_reducible first | exact HB.out | apply below_alloc | apply pw_below_drewN | apply below_drew1 | refine below_set ?_ GE251.out | refine below_set ?_ GE256.out) | exact HB.out))); (case aF => exact (fun _ _ => trivial)); (case aO => exact (by (with_reducible repeat (first | apply Kd.S_alloc | apply Kd.S_drewN | apply Kd.S_drew)); exact Kd.S_mono HO_3.out (fun k_ hk => ⟨trivial, fun e_ => hk.2 e_⟩))); (case aS => exact (below_size (by repeat (first | (with_reducible first | exact HB.out | apply below_alloc | apply pw_below_drewN | apply below_drew1 | refine below_set ?_ GE251.out | refine below_set ?_ GE256.out) | exact HB.out)))); (case aL => have := LMc11.out; omega); intro v261 w17 ho hb hg hat; rw [← Ny260.out] at ho; have n0_ := Aside0.mk (Kd.R_over' (by (with_reducible repeat (first | apply Kd.R_alloc | apply Kd.R_drewN | apply Kd.R_drew)); exact HO_7.out) (Kd.S_typed (by (with_reducible repeat (first | apply Kd.S_alloc | apply Kd.S_drewN | apply Kd.S_drew)); exact HO_3.out)) (by decide) hg); have n1_ := Aside0.mk (blk_grown (g := gb251) (o := .cells #[.int .i64 a0_0, .int .i64 a0_1, .string a0_2] 52 (0, 0)) (by (with_reducible repeat (first | refine blk_drewN ?_ _ | refine blk_drew ?_ | refine blk_alloc ?_ _)); exact BK251.out) hg (Kd.S_ne HO_3.out BK251.out (by decide))); have n2_ := Aside0.mk (blk_grown (g := gb256) (o := .cells #[.int .i64 ((rd_T68 t252 x9_1).f0), .bool ((rd_T68 t252 x9_1).f1), .int .i64 ((rd_T68 t252 x9_1).f2), .int .i64 ((rd_T68 t252 x9_1).f3)] 68 (0, 0)) (by (with_reducible repeat (first | refine blk_drewN ?_ _ | refine blk_drew ?_ | refine blk_alloc ?_ _)); exact BK256.out) hg (Kd.S_ne HO_3.out BK256.out (by decide))); have n3_ := Aside0.mk (hb); have n4_ := Aside0.mk (ho); clear HO_7; clear BK251; clear BK256; clear HB; clear HO_3; clear HO259; have HO_7 := n0_; have BK251 := n1_; have BK256 := n2_; have HB := n3_; have HO262 := n4_; clear n0_ n1_ n2_ n3_ n4_; clear ho hb hg hat))
        go_roundg k1
        case measure => have := HK1.out; omega
        case rel => exact ⟨(y260), (wrap64 (x9_1 + 1)), (by first | rfl | (simp; done) | (simp [*]; done)), H', ⟨by have := HK1.out; omega⟩, ⟨by (with_reducible repeat (first | apply Kd.S_alloc | apply Kd.S_drewN | apply Kd.S_drew)); exact HO262.out⟩, ⟨by (with_reducible repeat (first | apply Kd.R_alloc | apply Kd.R_drewN | apply Kd.R_drew)); exact Kd.R_mono HO_7.out (fun _ hk => trivial)⟩, ⟨by (with_reducible repeat (first | refine blk_drewN ?_ _ | refine blk_drew ?_ | refine blk_alloc ?_ _)); exact BK251.out⟩, ⟨by repeat (first | (with_reducible first | exact HB.out | apply below_alloc | apply pw_below_drewN | apply below_drew1 | refine below_set ?_ GE251.out | refine below_set ?_ GE256.out) | exact HB.out)⟩⟩
       ·rw [if_neg c11] at H
        exact absurd H (by simp)
      ·rw [if_neg c9] at H
       exact absurd H (by simp)
     ·rw [if_neg c8] at H
      exact absurd H (by simp)
    ·rw [if_neg c7] at H
     have c7b0 : decide (x9_1 < (t252.length : Int)) = false := decide_eq_false c7
     clear c7
     obtain rfl := Option.some.inj H
     go_wp2
     go_ret
     exact ⟨_, by first | rfl | (simp [errW_none, errW_some] <;> rfl) | (simp [*, errW_none, errW_some] <;> rfl), by (with_reducible repeat (first | apply Kd.S_alloc | apply Kd.S_drewN | apply Kd.S_drew)); exact HO_3.out, by repeat (first | (with_reducible first | exact HB.out | apply below_alloc | apply pw_below_drewN | apply below_drew1 | refine below_set ?_ GE251.out) | exact HB.out)⟩

end Go.Proofs.Ytachbhggeibciaa.QFnExactSupport
