-- Written by a changed copy of the kit's printer (wip/mp.py of this repo), for this claim; Lean checks it.
import Derived.Test.YtodcckiphdnjeaaQFnPrunedx0
import Derived.Test.YtodcckiphdnjeaaQFnPrunedx2
import Derived.Test.YtodcckiphdnjeaaQFnPrunedx5
namespace Go.Proofs.Ytodcckiphdnjeaa.QFnPruned
open Go.RowKit Go.Proofs.YtodcckiphdnjeaaW.PrintWords Go.Proofs.YtodcckiphdnjeaaW.PrintLast Go.Proofs.YtodcckiphdnjeaaW.PrintMore
attribute [local go_sem] max2_int min2_int max_two min_two max_three min_three max_four min_four   -- for this text's walks alone
set_option linter.unusedVariables false
set_option linter.unusedSimpArgs false

/-! ### impl_IsWord: function 70 -/
def impl_IsWord.l0 : Nat → ByteArray → Int → Int → Option (Bool)
  | 0, _, _, _ => none
  | k + 1, x0, x9, x10 => if x10 < x9 then (if 0 ≤ x10 then (if x10 < (x0.size : Int) then ((impl_isLetter.f (bt x0 x10)).bind fun t158 => (if t158 = true then (impl_IsWord.l0 k x0 x9 (wrap64 (x10 + 1))) else (some false))) else (none)) else (none)) else (some true)
def impl_IsWord.f (k : Nat) (a0 : ByteArray) : Option (Bool) := (impl_InRange.f (a0.size : Int) 1 8).bind fun t157 => (if t157 = true then (impl_IsWord.l0 k a0 (a0.size : Int) 0) else (some false))
set_option maxHeartbeats 8000000 in
set_option maxRecDepth 100000 in
theorem impl_IsWord.calls (k : Nat) (a0 : ByteArray) (r : Bool) (w : World) (h : impl_IsWord.f k a0 = some r) :
   Calls Try.prog 70 #[.string a0] w fun e w' => e = .returned (.bool r) ∧ Drawn0 w w' := by
  have H : ((impl_InRange.f (a0.size : Int) 1 8).bind fun t157 => (if t157 = true then (impl_IsWord.l0 k a0 (a0.size : Int) 0) else (some false))) = some r := h; clear h; replace H := Option.bind_eq_some_iff.mp H; obtain ⟨t157, A20, H⟩ := H; try dsimp only at H
  have A2 := Aside0.mk A20; clear A20; by_cases c3 : t157 = true
  ·subst c3; rw [if_pos rfl] at H
   have H' := Aside0.mk H
   clear H; go_enter Try.func70, Try.ntmps70
   go_wp2_with (first | ((with_reducible refine gate_callee (f := 49) rfl ?_); refine goesL_ (some 6) rfl rfl Try.func49 (by kernel_rfl) rfl #[.int .i64 (a0.size : Int), .int .i64 1, .int .i64 8] rfl (by (try simp only [List.map_toArray, List.map_cons, List.map_nil]); first | done | rfl | (simp only [List.length_drop, List.length_take]; rfl)) ?_; (with_reducible refine (impl_InRange.calls (a0.size : Int) 1 8 true _ A2.out).mono ?_); rintro e w' ⟨rfl, ⟨nd, rfl⟩⟩; refine ⟨_, rfl, ?_⟩))
   go_loopg [10] k (fun kq v10 w' => ∃ (x10_1 : Int), v10 = .int .i64 x10_1 ∧ Aside0 (impl_IsWord.l0 kq a0 (a0.size : Int) x10_1 = some r) ∧ Aside0 (kq ≤ k) ∧ Drawn0 w w')
   case atStart => exact ⟨(0), (by first | rfl | (simp; done) | (simp [*]; done)), H', ⟨Nat.le_refl _⟩, z_g3⟩
   case round =>
    clear H'; try clear p2
    try clear c3
    obtain ⟨x10_1, rfl, HA, HK1, ⟨m1, rfl⟩⟩ := hrel
    cases gk with
    | zero => exact absurd HA.out (by simp [impl_IsWord.l0])
    | succ k1 =>
     have H := HA.out; clear HA; simp only [impl_IsWord.l0] at H; by_cases c4 : x10_1 < (a0.size : Int)
     ·rw [if_pos c4] at H
      have c4b0 := decide_eq_true c4; clear c4; by_cases c5 : 0 ≤ x10_1
      ·rw [if_pos c5] at H
       have c5b0 := decide_eq_true c5; clear c5; by_cases c6 : x10_1 < (a0.size : Int)
       ·rw [if_pos c6] at H
        have c6b0 := decide_eq_true c6; clear c6; replace H := Option.bind_eq_some_iff.mp H; obtain ⟨t158, A80, H⟩ := H; try dsimp only at H
        have A8 := Aside0.mk A80; clear A80; by_cases c9 : t158 = true
        ·subst c9; rw [if_pos rfl] at H
         have H' := Aside0.mk H
         clear H; have p7 : 0 ≤ (x10_1 : Int) := of_decide_eq_true (by first | (with_reducible assumption) | assumption)
         have q7 : x10_1 < (a0.size : Int) := of_decide_eq_true (by first | (with_reducible assumption) | assumption)
         have hx7 := bt_at a0 x10_1; replace p7 := eq_true p7; replace q7 := eq_true q7; go_wp2_with (first | ((with_reducible refine gate_callee (f := 77) rfl ?_); refine goesL_ (some 16) rfl rfl Try.func77 (by kernel_rfl) rfl #[.int .u8 (bt a0 x10_1)] rfl (by (try simp only [List.map_toArray, List.map_cons, List.map_nil]); first | done | rfl | (simp only [List.length_drop, List.length_take]; rfl)) ?_; (with_reducible refine (impl_isLetter.calls (bt a0 x10_1) true _ A8.out).mono ?_); rintro e w' ⟨rfl, ⟨nd, rfl⟩⟩; refine ⟨_, rfl, ?_⟩))
         go_roundg k1
         case measure => have := HK1.out; omega
         case rel => exact ⟨(wrap64 (x10_1 + 1)), (by first | rfl | (simp; done) | (simp [*]; done)), H', ⟨by have := HK1.out; omega⟩, z_g3⟩
        ·replace c9 := Bool.eq_false_iff.mpr c9; subst c9; rw [if_neg (show ¬ (false = true) by decide)] at H
         obtain rfl := Option.some.inj H; have p7 : 0 ≤ (x10_1 : Int) := of_decide_eq_true (by first | (with_reducible assumption) | assumption)
         have q7 : x10_1 < (a0.size : Int) := of_decide_eq_true (by first | (with_reducible assumption) | assumption)
         have hx7 := bt_at a0 x10_1; replace p7 := eq_true p7; replace q7 := eq_true q7; go_wp2_with (first | ((with_reducible refine gate_callee (f := 77) rfl ?_); refine goesL_ (some 16) rfl rfl Try.func77 (by kernel_rfl) rfl #[.int .u8 (bt a0 x10_1)] rfl (by (try simp only [List.map_toArray, List.map_cons, List.map_nil]); first | done | rfl | (simp only [List.length_drop, List.length_take]; rfl)) ?_; (with_reducible refine (impl_isLetter.calls (bt a0 x10_1) false _ A8.out).mono ?_); rintro e w' ⟨rfl, ⟨nd, rfl⟩⟩; refine ⟨_, rfl, ?_⟩))
         go_ret
         exact ⟨by first | rfl | (simp; done) | (simp [*]; done), z_g3⟩
       ·rw [if_neg c6] at H
        exact absurd H (by simp)
      ·rw [if_neg c5] at H
       exact absurd H (by simp)
     ·rw [if_neg c4] at H
      have c4b0 := decide_eq_false c4; clear c4; obtain rfl := Option.some.inj H; go_wp2
      go_ret
      exact ⟨by first | rfl | (simp; done) | (simp [*]; done), z_g3⟩
  ·replace c3 := Bool.eq_false_iff.mpr c3; subst c3; rw [if_neg (show ¬ (false = true) by decide)] at H
   obtain rfl := Option.some.inj H; go_enter Try.func70, Try.ntmps70
   go_wp2_with (first | ((with_reducible refine gate_callee (f := 49) rfl ?_); refine goesL_ (some 6) rfl rfl Try.func49 (by kernel_rfl) rfl #[.int .i64 (a0.size : Int), .int .i64 1, .int .i64 8] rfl (by (try simp only [List.map_toArray, List.map_cons, List.map_nil]); first | done | rfl | (simp only [List.length_drop, List.length_take]; rfl)) ?_; (with_reducible refine (impl_InRange.calls (a0.size : Int) 1 8 false _ A2.out).mono ?_); rintro e w' ⟨rfl, ⟨nd, rfl⟩⟩; refine ⟨_, rfl, ?_⟩))
   go_ret
   exact ⟨by first | rfl | (simp; done) | (simp [*]; done), z_g3⟩

-- NOT PRINTED: function 120 (slices_IndexFunc_string_string_120)

-- NOT PRINTED: function 103 (slices_ContainsFunc_string_string_103)

-- NOT PRINTED: function 104 (impl_supported_1)

/-! ### impl_supported: function 71 (given) -/
/-- Has a word of a domain this letter at this place? -/
def supAt (place own : Int) (word x : ByteArray) : Bool := decide (place < (x.size : Int)) && (bt x place == bt word own)
def supLet (D : List (List ByteArray)) (other own place : Int) (word : ByteArray) : Option Bool := if ((0 ≤ other ∧ other < (D.length : Int)) ∧ (0 ≤ own ∧ own < (word.size : Int))) ∧ ((0 ≤ place ∧ place ≤ 1000000) ∧ (D.getD other.toNat []).length ≤ 1048576) then some ((D.getD other.toNat []).any (supAt place own word)) else none
def supGo (D : List (List ByteArray)) (slot : Int) (word : ByteArray) : List (S114) → Option Bool
  | [] => some true
  | x :: l => if slot = x.f0 then (supLet D x.f1 x.f2 x.f3 word).bind fun b => if b = true then supGo D slot word l else some false else if slot = x.f1 then (supLet D x.f0 x.f3 x.f2 word).bind fun b => if b = true then supGo D slot word l else some false else supGo D slot word l
theorem sup_at_row {w : World} {A : Option Addr} {n : Nat} {xs : List (List ByteArray)} (h : Kd.C (Kd.slice 9 Kd.string) w A n xs) (i : Int) (h0 : 0 ≤ i) (h1 : i < n) : ∃ ad A0 c0, A = some ad ∧ w.cell? (ad.add i.toNat) = some (.slice A0 (xs.getD i.toNat []).length c0) ∧ (xs.getD i.toNat []).length ≤ c0 ∧ Kd.string.C w A0 (xs.getD i.toNat []).length (xs.getD i.toNat []) := by
  obtain ⟨ad, c, hA, hl, ⟨A0, c0, rfl, hl0, hC⟩, hcc⟩ := Kd.C_get h [] i h0 h1; refine ⟨ad, A0, c0, hA, ?_, hl0, hC⟩
  have := hcc 0 _ rfl
  rw [show (Kd.slice 9 Kd.string).sz = 1 from rfl, Nat.mul_one, Nat.add_zero] at this
  exact this
/-- The first that p takes. -/
def firstAt (p : ByteArray → Bool) : List ByteArray → Nat → Int
  | [], _ => -1
  | x :: l, i => if p x = true then (i : Int) else firstAt p l (i + 1)
theorem firstAt_nil (p : ByteArray → Bool) (i : Nat) : firstAt p [] i = -1 := rfl
theorem firstAt_pos {p : ByteArray → Bool} {x : ByteArray} (l : List ByteArray) (i : Nat) (h : p x = true) : firstAt p (x :: l) i = i := if_pos h
theorem firstAt_neg {p : ByteArray → Bool} {x : ByteArray} (l : List ByteArray) (i : Nat) (h : ¬ p x = true) : firstAt p (x :: l) i = firstAt p l (i + 1) := if_neg h
theorem firstAt_any (p : ByteArray → Bool) : ∀ (l : List ByteArray) (i : Nat), decide (0 ≤ firstAt p l i) = l.any p
  | [], _ => rfl
  | x :: l, i => by
    rw [List.any_cons]
    by_cases h : p x = true
    · rw [firstAt_pos l i h, h]
      simp
    · rw [firstAt_neg l i h, firstAt_any p l (i + 1)]
      simp [h]
theorem sup_keep_calls (x word : ByteArray) (p o P V O : Nat) (w : World) (hp : w.cell? ⟨P, 0, none⟩ = some (.int .i64 (p : Int))) (hv : w.cell? ⟨V, 0, none⟩ = some (.string word)) (ho : w.cell? ⟨O, 0, none⟩ = some (.int .i64 (o : Int))) (hl : o < word.size) :
    Calls Try.prog 104 #[.string x, .pointer (some ⟨P, 0, none⟩), .pointer (some ⟨V, 0, none⟩), .pointer (some ⟨O, 0, none⟩)] w fun e w' => e = .returned (.bool (supAt p o word x)) ∧ Drawn0 w w' := by
  by_cases h : (p : Int) < (x.size : Int)
  · have hd : decide ((p : Int) < (x.size : Int)) = true := decide_eq_true h
    have hx8 := bt_at x (p : Int); simp only [Int.toNat_natCast] at hx8; replace hx8 := hx8 (by omega); have hy8 := bt_at word (o : Int); simp only [Int.toNat_natCast] at hy8; replace hy8 := hy8 hl; have p1 : (0 ≤ (p : Int)) = True := eq_true (by omega); have q1 : ((p : Int) < (x.size : Int)) = True := eq_true h; have p2 : (0 ≤ (o : Int)) = True := eq_true (by omega); have q2 : ((o : Int) < (word.size : Int)) = True := eq_true (by omega); have hE : supAt p o word x = (bt x p == bt word o) := by unfold supAt; rw [hd, Bool.true_and]
    rw [hE, ← hx8, ← hy8]
    have hd2 : decide (p < x.size) = true := decide_eq_true (by omega); clear hE hx8 hy8; go_enter Try.func104, Try.ntmps104
    go_wp2
    go_quiet (fail)
    go_wp2
    go_ret
    exact ⟨rfl, z_g3⟩
  · have hd : decide ((p : Int) < (x.size : Int)) = false := decide_eq_false h
    have hE : supAt p o word x = false := by unfold supAt; rw [hd, Bool.false_and]
    rw [hE]
    have hd2 : decide (p < x.size) = false := decide_eq_false (by omega); clear hE h; go_enter Try.func104, Try.ntmps104
    go_wp2
    go_quiet (fail)
    go_wp2
    go_ret
    exact ⟨rfl, z_g3⟩
theorem sup_idx_calls (word : ByteArray) (p o P V O : Nat) (A0 : Option Addr) (c0 : Nat) (l0 : List ByteArray) (w : World) (hp : w.cell? ⟨P, 0, none⟩ = some (.int .i64 (p : Int))) (hv : w.cell? ⟨V, 0, none⟩ = some (.string word)) (ho : w.cell? ⟨O, 0, none⟩ = some (.int .i64 (o : Int))) (hol : o < word.size) (hr0 : Kd.C Kd.string w A0 l0.length l0) (hl : l0.length ≤ 1048576) :
    Calls Try.prog 120 #[.slice A0 l0.length c0, .func (.func 104) #[] #[.pointer (some ⟨P, 0, none⟩), .pointer (some ⟨V, 0, none⟩), .pointer (some ⟨O, 0, none⟩)]] w fun e w' => e = .returned (.int .i64 (firstAt (supAt p o word) l0 0)) ∧ Drawn0 w w' := by
  have HR0 := Aside0.mk hr0; have KK := Aside0.mk (fun (x : ByteArray) (W : World) (hW : Drawn0 w W) => sup_keep_calls x word p o P V O W (by obtain ⟨n, rfl⟩ := hW; exact hp) (by obtain ⟨n, rfl⟩ := hW; exact hv) (by obtain ⟨n, rfl⟩ := hW; exact ho) hol); clear hr0 hp hv ho; go_enter Try.func120, Try.ntmps120
  go_wp2
  go_loopg [8] l0.length (fun kq v8 w' => ∃ (i : Nat), v8 = .int .i64 (i : Int) ∧ Aside0 (i ≤ l0.length) ∧ Aside0 (l0.length - i ≤ kq) ∧ Aside0 (firstAt (supAt p o word) (l0.drop i) i = firstAt (supAt p o word) l0 0) ∧ Drawn0 w w')
  case atStart => exact ⟨0, rfl, ⟨Nat.zero_le _⟩, ⟨by omega⟩, ⟨rfl⟩, Drawn0.refl _⟩
  case round =>
    obtain ⟨i, rfl, hi, hk, heq, ⟨m1, rfl⟩⟩ := hrel; by_cases hlt : i < l0.length
    · have cb0 : decide ((i : Int) < (l0.length : Int)) = true := by simp; exact hlt
      have hcr : rdOf ByteArray.empty l0 (i : Int) = l0[i] := by
        unfold rdOf
        simp [hlt]
      obtain ⟨ad, e1, hx⟩ := Kd.at_string HR0.out (i : Int) (by omega) (by omega)
      cases e1; rw [hcr] at hx
      simp only [Int.toNat_natCast] at hx; have p1 : (0 ≤ (i : Int)) = True := eq_true (by omega); have q1 : ((i : Int) < (l0.length : Int)) = True := eq_true (by omega); have heq' := heq.out
      rw [List.drop_eq_getElem_cons hlt] at heq'
      generalize l0[i] = x at hx heq' hcr
      by_cases hz : supAt p o word x = true
      · rw [firstAt_pos _ _ hz] at heq'
        have kk := fun W hW => KK.out x W hW
        rw [hz] at kk
        have HE := Aside0.mk heq'; clear heq heq' hcr hz; go_wp2_with fail
        go_at_call 104
        refine (kk _ z_g3).mono ?_
        rintro e w' ⟨rfl, ⟨nd, rfl⟩⟩
        clear kk; go_wp2
        go_ret
        exact ⟨by rw [← HE.out] <;> rfl, z_g3⟩
      · rw [firstAt_neg _ _ hz] at heq'
        rw [Bool.not_eq_true] at hz
        have kk := fun W hW => KK.out x W hW
        rw [hz] at kk
        have HE := Aside0.mk heq'; clear heq heq' hcr hz; go_wp2_with fail
        go_at_call 104
        refine (kk _ z_g3).mono ?_
        rintro e w' ⟨rfl, ⟨nd, rfl⟩⟩
        clear kk; go_wp2
        go_roundg (l0.length - (i + 1))
        case measure => have := hk.out; omega
        case rel => exact ⟨i + 1, by simp, ⟨by omega⟩, ⟨Nat.le_refl _⟩, HE, z_g3⟩
    · have cb0 : decide ((i : Int) < (l0.length : Int)) = false := by simp; omega
      have heq' := heq.out
      rw [List.drop_eq_nil_of_le (by omega), firstAt_nil] at heq'
      clear KK; go_wp2
      go_ret
      exact ⟨by rw [← heq'] <;> rfl, z_g3⟩
theorem sup_has_calls (word : ByteArray) (p o P V O : Nat) (A0 : Option Addr) (c0 : Nat) (l0 : List ByteArray) (w : World) (hp : w.cell? ⟨P, 0, none⟩ = some (.int .i64 (p : Int))) (hv : w.cell? ⟨V, 0, none⟩ = some (.string word)) (ho : w.cell? ⟨O, 0, none⟩ = some (.int .i64 (o : Int))) (hol : o < word.size) (hr0 : Kd.C Kd.string w A0 l0.length l0) (hl : l0.length ≤ 1048576) :
    Calls Try.prog 103 #[.slice A0 l0.length c0, .func (.func 104) #[] #[.pointer (some ⟨P, 0, none⟩), .pointer (some ⟨V, 0, none⟩), .pointer (some ⟨O, 0, none⟩)]] w fun e w' => e = .returned (.bool (l0.any (supAt p o word))) ∧ Drawn0 w w' := by
  have kd := sup_idx_calls word p o P V O A0 c0 l0 w hp hv ho hol hr0 hl; clear hr0 hp hv ho; rw [← firstAt_any _ l0 0]
  generalize firstAt (supAt p o word) l0 0 = q at kd ⊢
  go_enter Try.func103, Try.ntmps103
  go_wp2_with fail
  go_at_call 120
  refine kd.mono ?_
  rintro e w' ⟨rfl, ⟨nd, rfl⟩⟩
  go_wp2
  go_ret
  exact ⟨rfl, nd, rfl⟩
def impl_supported.f (l0 : List (S114)) (l1 : List (List ByteArray)) (a2 : Int) (a3 : ByteArray) : Option Bool := if l0.length ≤ 1000000 then supGo l1 a2 a3 l0 else none
theorem supGo_cons (D : List (List ByteArray)) (slot : Int) (word : ByteArray) (x : S114) (l : List (S114)) : supGo D slot word (x :: l) = if slot = x.f0 then (supLet D x.f1 x.f2 x.f3 word).bind fun b => if b = true then supGo D slot word l else some false else if slot = x.f1 then (supLet D x.f0 x.f3 x.f2 word).bind fun b => if b = true then supGo D slot word l else some false else supGo D slot word l := rfl
theorem sup_box_cell {w w1 : World} {cs : Array Value} {t : TypeId} (hb : Below (w.alloc (.cells cs t)).heap.size (w.alloc (.cells cs t)) w1) (j : Nat) (v : Value) (h : cs[j]? = some v) : w1.cell? ⟨w.heap.size, j, none⟩ = some v := by
  have h1 : (⟨w.heap.size, j, none⟩ : Addr).block < (w.alloc (.cells cs t)).heap.size := by simp [World.alloc, -World.alloc_eq]
  rw [hb.cell h1]
  simp [World.cell?, World.alloc, -World.alloc_eq, h]
/-- A crossing in its box, and the two places beside it. -/
structure SupW (x : S114) (g O P : Nat) (a b : Int) (wr w1 : World) : Prop where
  c0 : w1.cell? ⟨g, 0, none⟩ = some (.int .i64 x.f0)
  c1 : w1.cell? ⟨g, 1, none⟩ = some (.int .i64 x.f1)
  c2 : w1.cell? ⟨g, 2, none⟩ = some (.int .i64 x.f2)
  c3 : w1.cell? ⟨g, 3, none⟩ = some (.int .i64 x.f3)
  o : w1.cell? ⟨O, 0, none⟩ = some (.int .i64 a)
  p : w1.cell? ⟨P, 0, none⟩ = some (.int .i64 b)
  fo : w1.frozen? ⟨O, 0, none⟩ = false
  fp : w1.frozen? ⟨P, 0, none⟩ = false
  ne : O ≠ P
  go : g ≠ O
  gp : g ≠ P
  lo : wr.heap.size ≤ O
  lp : wr.heap.size ≤ P
  hb : Below wr.heap.size wr w1
theorem sup_size (w : World) (o : Obj) : (w.alloc o).heap.size = w.heap.size + 1 := by simp [World.alloc, -World.alloc_eq]
theorem sup_blkA (w : World) (a b c : Array Value) (t t1 t2 : TypeId) : (((w.alloc (.cells a t)).alloc (.cells b t1)).alloc (.cells c t2)).drew.heap[w.heap.size]? = some (.cells a t (0, 0)) := blk_drew (blk_alloc (blk_alloc (blk_new w _) _) _)
theorem sup_blkB (w : World) (a b c : Array Value) (t t1 t2 : TypeId) : (((w.alloc (.cells a t)).alloc (.cells b t1)).alloc (.cells c t2)).drew.heap[w.heap.size + 1]? = some (.cells b t1 (0, 0)) := by
  have h := blk_drew (blk_alloc (blk_new (w.alloc (.cells a t)) (.cells b t1)) (.cells c t2)); rw [sup_size] at h
  exact h
theorem sup_blkC (w : World) (a b c : Array Value) (t t1 t2 : TypeId) : (((w.alloc (.cells a t)).alloc (.cells b t1)).alloc (.cells c t2)).drew.heap[w.heap.size + 1 + 1]? = some (.cells c t2 (0, 0)) := by
  have h := blk_drew (blk_new ((w.alloc (.cells a t)).alloc (.cells b t1)) (.cells c t2)); rw [sup_size, sup_size] at h
  exact h
theorem sup_w1 (x : S114) (w : World) : SupW x w.heap.size (w.heap.size + 1) (w.heap.size + 1 + 1) x.f2 x.f3 w (((w.alloc (.cells #[.int .i64 x.f0, .int .i64 x.f1, .int .i64 x.f2, .int .i64 x.f3, .int .i64 x.f4] 114)).alloc (.cells #[.int .i64 x.f2] 3)).alloc (.cells #[.int .i64 x.f3] 3)).drew :=
  ⟨blk_cell (sup_blkA w _ _ _ _ _ _) 0, blk_cell (sup_blkA w _ _ _ _ _ _) 1, blk_cell (sup_blkA w _ _ _ _ _ _) 2, blk_cell (sup_blkA w _ _ _ _ _ _) 3, blk_cell (sup_blkB w _ _ _ _ _ _) 0, blk_cell (sup_blkC w _ _ _ _ _ _) 0, blk_frozen (sup_blkB w _ _ _ _ _ _) 0, blk_frozen (sup_blkC w _ _ _ _ _ _) 0, by omega, by omega, by omega, by omega, by omega, below_drew (below_alloc (below_alloc (below_alloc (Below.refl _ _) _) _) _)⟩
theorem sup_w2 (x : S114) (w : World) : SupW x w.heap.size (w.heap.size + 1 + 1) (w.heap.size + 1) x.f2 x.f3 w (((w.alloc (.cells #[.int .i64 x.f0, .int .i64 x.f1, .int .i64 x.f2, .int .i64 x.f3, .int .i64 x.f4] 114)).alloc (.cells #[.int .i64 x.f3] 3)).alloc (.cells #[.int .i64 x.f2] 3)).drew :=
  ⟨blk_cell (sup_blkA w _ _ _ _ _ _) 0, blk_cell (sup_blkA w _ _ _ _ _ _) 1, blk_cell (sup_blkA w _ _ _ _ _ _) 2, blk_cell (sup_blkA w _ _ _ _ _ _) 3, blk_cell (sup_blkC w _ _ _ _ _ _) 0, blk_cell (sup_blkB w _ _ _ _ _ _) 0, blk_frozen (sup_blkC w _ _ _ _ _ _) 0, blk_frozen (sup_blkB w _ _ _ _ _ _) 0, by omega, by omega, by omega, by omega, by omega, below_drew (below_alloc (below_alloc (below_alloc (Below.refl _ _) _) _) _)⟩
theorem SupW.swap {x : S114} {g O P : Nat} {a b : Int} {wr wc : World} (h : SupW x g O P a b wr wc) (c d : Int) : SupW x g O P c d wr ((wc.setCell ⟨O, 0, none⟩ (.int .i64 c)).setCell ⟨P, 0, none⟩ (.int .i64 d)).drew := by
  have n1 : ∀ i, (⟨O, 0, none⟩ : Addr) ≠ ⟨g, i, none⟩ := fun i e => by simp only [Addr.mk.injEq] at e; exact h.go e.1.symm
  have n2 : ∀ i, (⟨P, 0, none⟩ : Addr) ≠ ⟨g, i, none⟩ := fun i e => by simp only [Addr.mk.injEq] at e; exact h.gp e.1.symm
  have n3 : (⟨P, 0, none⟩ : Addr) ≠ ⟨O, 0, none⟩ := fun e => by simp only [Addr.mk.injEq] at e; exact h.ne e.1.symm
  have n4 : (⟨O, 0, none⟩ : Addr) ≠ ⟨P, 0, none⟩ := fun e => n3 e.symm
  have k : ∀ i v, wc.cell? ⟨g, i, none⟩ = some v → ((wc.setCell ⟨O, 0, none⟩ (.int .i64 c)).setCell ⟨P, 0, none⟩ (.int .i64 d)).drew.cell? ⟨g, i, none⟩ = some v := fun i v e => by
    show ((wc.setCell ⟨O, 0, none⟩ (.int .i64 c)).setCell ⟨P, 0, none⟩ (.int .i64 d)).cell? ⟨g, i, none⟩ = some v
    rw [World.cell?_setCell_other _ _ _ _ (n2 i), World.cell?_setCell_other _ _ _ _ (n1 i)]
    exact e
  refine ⟨k 0 _ h.c0, k 1 _ h.c1, k 2 _ h.c2, k 3 _ h.c3, ?_, ?_, ?_, ?_, h.ne, h.go, h.gp, h.lo, h.lp, below_drew ((h.hb.setCell h.lo _).setCell h.lp _)⟩
  · show ((wc.setCell ⟨O, 0, none⟩ (.int .i64 c)).setCell ⟨P, 0, none⟩ (.int .i64 d)).cell? ⟨O, 0, none⟩ = _
    rw [World.cell?_setCell_other _ _ _ _ n3]
    exact World.cell?_setCell_same _ _ _ h.o
  · show ((wc.setCell ⟨O, 0, none⟩ (.int .i64 c)).setCell ⟨P, 0, none⟩ (.int .i64 d)).cell? ⟨P, 0, none⟩ = _
    exact World.cell?_setCell_same _ _ _ (by rw [World.cell?_setCell_other _ _ _ _ n4]; exact h.p)
  · show ((wc.setCell ⟨O, 0, none⟩ (.int .i64 c)).setCell ⟨P, 0, none⟩ (.int .i64 d)).frozen? ⟨O, 0, none⟩ = false
    rw [World.frozen?_setCell, World.frozen?_setCell]
    exact h.fo
  · show ((wc.setCell ⟨O, 0, none⟩ (.int .i64 c)).setCell ⟨P, 0, none⟩ (.int .i64 d)).frozen? ⟨P, 0, none⟩ = false
    rw [World.frozen?_setCell, World.frozen?_setCell]
    exact h.fp
set_option maxHeartbeats 4000000 in
set_option maxRecDepth 100000 in
theorem impl_supported.calls (A0 : Option Addr) (c0 : Nat) (l0 : List (S114)) (A1 : Option Addr) (c1 : Nat) (l1 : List (List ByteArray)) (a2 : Int) (a3 : ByteArray) (r : Bool) (w : World) (hr0 : Kd.C k114 w A0 l0.length l0) (hc0 : l0.length ≤ c0) (hr1 : Kd.C (Kd.slice 9 Kd.string) w A1 l1.length l1) (hc1 : l1.length ≤ c1) (h : impl_supported.f l0 l1 a2 a3 = some r) :
    Calls Try.prog 71 #[.slice A0 l0.length c0, .slice A1 l1.length c1, .int .i64 a2, .string a3] w fun e w' => e = .returned (.bool r) ∧ Below w.heap.size w w' := by
  unfold impl_supported.f at h
  by_cases hl : l0.length ≤ 1000000
  · rw [if_pos hl] at h
    have HR0 := Aside0.mk (Kd.C_below hr0 (below_alloc (Below.refl _ _) (.cells #[.string a3] 9))); have HR1 := Aside0.mk (Kd.C_below hr1 (below_alloc (Below.refl _ _) (.cells #[.string a3] 9))); have HH := Aside0.mk h; clear hr0 hr1 h hc0 hc1; go_enter Try.func71, Try.ntmps71
    go_wp2
    go_loopg [16] l0.length (fun kq v16 w' => ∃ (i : Nat), v16 = .int .i64 (i : Int) ∧ Aside0 (i ≤ l0.length) ∧ Aside0 (l0.length - i ≤ kq) ∧ Aside0 (supGo l1 a2 a3 (l0.drop i) = some r) ∧ Aside0 (Below (w.alloc (.cells #[.string a3] 9)).heap.size (w.alloc (.cells #[.string a3] 9)) w'))
    case atStart => exact ⟨0, rfl, ⟨Nat.zero_le _⟩, ⟨by omega⟩, HH, ⟨Below.refl _ _⟩⟩
    case round =>
      clear HH; obtain ⟨i, rfl, hi, hk, heq, HB⟩ := hrel; by_cases hlt : i < l0.length
      · have cb0 : decide ((i : Int) < (l0.length : Int)) = true := by simp; exact hlt
        obtain ⟨ad, e1, hx0, hx1, hx2, hx3, hx4⟩ := at_T114 HR0.out (i : Int) (by omega) (by omega)
        cases e1
        have hcr : rd_T114 l0 (i : Int) = l0[i] := by
          unfold rd_T114
          simp [hlt]
        rw [hcr] at hx0 hx1 hx2 hx3 hx4
        simp only [Int.toNat_natCast] at hx0 hx1 hx2 hx3 hx4; replace hx0 := (HB.out.cell (World.block_lt_of_cell? _ _ hx0)).trans hx0; replace hx1 := (HB.out.cell (World.block_lt_of_cell? _ _ hx1)).trans hx1; replace hx2 := (HB.out.cell (World.block_lt_of_cell? _ _ hx2)).trans hx2; replace hx3 := (HB.out.cell (World.block_lt_of_cell? _ _ hx3)).trans hx3; replace hx4 := (HB.out.cell (World.block_lt_of_cell? _ _ hx4)).trans hx4; have p1 : (0 ≤ (i : Int)) = True := eq_true (by omega); have q1 : ((i : Int) < (l0.length : Int)) = True := eq_true (by omega); have heq' := heq.out
        rw [List.drop_eq_getElem_cons hlt, supGo_cons] at heq'
        generalize l0[i] = x at hx0 hx1 hx2 hx3 hx4 heq'
        clear hcr heq; by_cases hA : a2 = x.f0
        · rw [if_pos hA] at heq'
          obtain ⟨b, hb, heq'⟩ := Option.bind_eq_some_iff.mp heq'; unfold supLet at hb
          by_cases hg : ((0 ≤ x.f1 ∧ x.f1 < (l1.length : Int)) ∧ (0 ≤ x.f2 ∧ x.f2 < (a3.size : Int))) ∧ ((0 ≤ x.f3 ∧ x.f3 ≤ 1000000) ∧ (l1.getD (x.f1).toNat []).length ≤ 1048576)
          · rw [if_pos hg] at hb
            injection hb with hb
            obtain ⟨⟨⟨o0, o1⟩, ⟨w0, w1⟩⟩, ⟨⟨q0, _⟩, hlen⟩⟩ := hg; obtain ⟨on, hon⟩ := Int.eq_ofNat_of_zero_le w0; obtain ⟨pn, hpn⟩ := Int.eq_ofNat_of_zero_le q0; obtain ⟨ad1, A1', c1', e1, hxD, hle1, hC1⟩ := sup_at_row HR1.out x.f1 o0 o1; generalize l1.getD (x.f1).toNat [] = row at hxD hle1 hC1 hb hlen
            cases e1; have HXD := Aside0.mk ((HB.out.cell (World.block_lt_of_cell? _ _ hxD)).trans hxD); have HC1 := Aside0.mk (Kd.C_below hC1 HB.out); have HV := Aside0.mk (sup_box_cell HB.out 0 _ rfl); have HO := Aside0.mk (show on < a3.size by omega); have HL := Aside0.mk hlen; have HON := Aside0.mk hon; have HPN := Aside0.mk hpn; have HBV := Aside0.mk hb; have HE := Aside0.mk heq'; have P1 := Aside0.mk (eq_true o0); have Q1 := Aside0.mk (eq_true o1); have ZA := Aside0.mk (show (a2 == x.f0) = true from beq_iff_eq.mpr hA); clear heq' hA hb hlen hon hpn hxD hC1 o0 o1 w0 w1 q0 hle1; go_wp2
            clear hx0 hx1 hx2 hx3 hx4 p1 q1; go_cut [11, 12, 13] (fun v11 v12 v13 w1 => ∃ O P : Nat, v11 = .int .i64 x.f1 ∧ v12 = .pointer (some ⟨O, 0, none⟩) ∧ v13 = .pointer (some ⟨P, 0, none⟩) ∧ Aside0 (SupW x wr.heap.size O P x.f2 x.f3 wr w1))
            case first =>
              go_region
              · go_wp2_with fail
                go_meet
                case rel => exact ⟨_, _, rfl, rfl, rfl, ⟨sup_w1 x wr⟩⟩
              · go_wp2_with fail
                go_meet
                case rel => exact ⟨_, _, rfl, rfl, rfl, ⟨sup_w2 x wr⟩⟩
            case rest =>
              obtain ⟨O, P, rfl, rfl, rfl, HS⟩ := hcut; have y0 := HS.out.c0; have zA := ZA.out; have hxD := pw_cell_below HS.out.hb HXD.out; have hV := pw_cell_below HS.out.hb HV.out; have hcO := HS.out.o; have hcP := HS.out.p; rw [HON.out] at hcO
              rw [HPN.out] at hcP
              have kk := Aside0.mk (sup_has_calls a3 pn on P w.heap.size O A1' c1' row wc hcP hV hcO HO.out (Kd.C_below HC1.out HS.out.hb) HL.out); have p1 := P1.out; have q1 := Q1.out; clear hV hcO hcP; go_wp2_with fail
              go_at_call 103
              refine kk.out.mono ?_
              rintro e w3 ⟨rfl, nd, rfl⟩
              have hE := HE.out; have hBV := HBV.out; rw [HON.out, HPN.out] at hBV
              rw [hBV]
              clear hBV
              cases b with
              | true =>
                rw [if_pos rfl] at hE
                have HE2 := Aside0.mk hE; clear hE kk; go_wp2
                go_roundg (l0.length - (i + 1))
                case measure => have := hk.out; omega
                case rel => exact ⟨i + 1, by simp, ⟨by omega⟩, ⟨Nat.le_refl _⟩, HE2, ⟨pw_below_drewN (below_step HB.out HS.out.hb) _⟩⟩
              | false =>
                rw [if_neg (by simp)] at hE
                injection hE with hE
                subst hE; clear kk; go_wp2
                go_ret
                exact ⟨rfl, pw_below_drewN (below_step (w := w) (below_alloc (Below.refl _ _) _) (below_step HB.out HS.out.hb)) _⟩
          · rw [if_neg hg] at hb
            cases hb
        · rw [if_neg hA] at heq'
          by_cases hB : a2 = x.f1
          · rw [if_pos hB] at heq'
            obtain ⟨b, hb, heq'⟩ := Option.bind_eq_some_iff.mp heq'; unfold supLet at hb
            by_cases hg : ((0 ≤ x.f0 ∧ x.f0 < (l1.length : Int)) ∧ (0 ≤ x.f3 ∧ x.f3 < (a3.size : Int))) ∧ ((0 ≤ x.f2 ∧ x.f2 ≤ 1000000) ∧ (l1.getD (x.f0).toNat []).length ≤ 1048576)
            · rw [if_pos hg] at hb
              injection hb with hb
              obtain ⟨⟨⟨o0, o1⟩, ⟨w0, w1⟩⟩, ⟨⟨q0, _⟩, hlen⟩⟩ := hg; obtain ⟨on, hon⟩ := Int.eq_ofNat_of_zero_le w0; obtain ⟨pn, hpn⟩ := Int.eq_ofNat_of_zero_le q0; obtain ⟨ad1, A1', c1', e1, hxD, hle1, hC1⟩ := sup_at_row HR1.out x.f0 o0 o1; generalize l1.getD (x.f0).toNat [] = row at hxD hle1 hC1 hb hlen
              cases e1; have HXD := Aside0.mk ((HB.out.cell (World.block_lt_of_cell? _ _ hxD)).trans hxD); have HC1 := Aside0.mk (Kd.C_below hC1 HB.out); have HV := Aside0.mk (sup_box_cell HB.out 0 _ rfl); have HO := Aside0.mk (show on < a3.size by omega); have HL := Aside0.mk hlen; have HON := Aside0.mk hon; have HPN := Aside0.mk hpn; have HBV := Aside0.mk hb; have HE := Aside0.mk heq'; have P1 := Aside0.mk (eq_true o0); have Q1 := Aside0.mk (eq_true o1); have ZA := Aside0.mk (show (a2 == x.f0) = false from beq_eq_false_iff_ne.mpr hA); have ZB := Aside0.mk (show (a2 == x.f1) = true from beq_iff_eq.mpr hB); clear heq' hA hB hb hlen hon hpn hxD hC1 o0 o1 w0 w1 q0 hle1; go_wp2
              clear hx0 hx1 hx2 hx3 hx4 p1 q1; go_cut [11, 12, 13] (fun v11 v12 v13 w1 => ∃ O P : Nat, v11 = .int .i64 x.f1 ∧ v12 = .pointer (some ⟨O, 0, none⟩) ∧ v13 = .pointer (some ⟨P, 0, none⟩) ∧ Aside0 (SupW x wr.heap.size O P x.f2 x.f3 wr w1))
              case first =>
                go_region
                · go_wp2_with fail
                  go_meet
                  case rel => exact ⟨_, _, rfl, rfl, rfl, ⟨sup_w1 x wr⟩⟩
                · go_wp2_with fail
                  go_meet
                  case rel => exact ⟨_, _, rfl, rfl, rfl, ⟨sup_w2 x wr⟩⟩
              case rest =>
                obtain ⟨O, P, rfl, rfl, rfl, HS⟩ := hcut; have y0 := HS.out.c0; have y1 := HS.out.c1; have y2 := HS.out.c2; have y3 := HS.out.c3; have ho := HS.out.o; have hp := HS.out.p; have ho2 : (wc.setCell ⟨P, 0, none⟩ (.int .i64 x.f2)).cell? ⟨O, 0, none⟩ = some (.int .i64 x.f2) := by rw [World.cell?_setCell_other _ _ _ _ (by intro h; simp only [Addr.mk.injEq] at h; exact HS.out.ne h.1.symm)]; exact HS.out.o
                have hp2 : (wc.setCell ⟨O, 0, none⟩ (.int .i64 x.f3)).cell? ⟨P, 0, none⟩ = some (.int .i64 x.f3) := by rw [World.cell?_setCell_other _ _ _ _ (by intro h; simp only [Addr.mk.injEq] at h; exact HS.out.ne h.1)]; exact HS.out.p
                have fo := HS.out.fo; have fp := HS.out.fp; have zA := ZA.out; have zB := ZB.out; go_wp2
                clear zA zB; go_region
                clear y0 y1 y2 y3 ho hp ho2 hp2 fo fp; have HT := Aside0.mk (HS.out.swap x.f3 x.f2); clear HS; generalize ((wc.setCell ⟨O, 0, none⟩ (.int .i64 x.f3)).setCell ⟨P, 0, none⟩ (.int .i64 x.f2)).drew = wd at HT ⊢
                have hxD := pw_cell_below HT.out.hb HXD.out; have hV := pw_cell_below HT.out.hb HV.out; have hcO := HT.out.o; have hcP := HT.out.p; rw [HON.out] at hcO
                rw [HPN.out] at hcP
                have kk := Aside0.mk (sup_has_calls a3 pn on P w.heap.size O A1' c1' row wd hcP hV hcO HO.out (Kd.C_below HC1.out HT.out.hb) HL.out); have p1 := P1.out; have q1 := Q1.out; clear hV hcO hcP; go_wp2_with fail
                go_at_call 103
                refine kk.out.mono ?_
                rintro e w3 ⟨rfl, nd, rfl⟩
                have hE := HE.out; have hBV := HBV.out; rw [HON.out, HPN.out] at hBV
                rw [hBV]
                clear hBV
                cases b with
                | true =>
                  rw [if_pos rfl] at hE
                  have HE2 := Aside0.mk hE; clear hE kk; go_wp2
                  go_roundg (l0.length - (i + 1))
                  case measure => have := hk.out; omega
                  case rel => exact ⟨i + 1, by simp, ⟨by omega⟩, ⟨Nat.le_refl _⟩, HE2, ⟨pw_below_drewN (below_step HB.out HT.out.hb) _⟩⟩
                | false =>
                  rw [if_neg (by simp)] at hE
                  injection hE with hE
                  subst hE; clear kk; go_wp2
                  go_ret
                  exact ⟨rfl, pw_below_drewN (below_step (w := w) (below_alloc (Below.refl _ _) _) (below_step HB.out HT.out.hb)) _⟩
            · rw [if_neg hg] at hb
              cases hb
          · rw [if_neg hB] at heq'
            have HE := Aside0.mk heq'; have zA : (a2 == x.f0) = false := beq_eq_false_iff_ne.mpr hA; have zB : (a2 == x.f1) = false := beq_eq_false_iff_ne.mpr hB; have ZA := Aside0.mk zA; have ZB := Aside0.mk zB; clear heq' hA hB zA zB; go_wp2
            clear hx0 hx1 hx2 hx3 hx4 p1 q1; go_cut [11, 12, 13] (fun v11 v12 v13 w1 => ∃ O P : Nat, v11 = .int .i64 x.f1 ∧ v12 = .pointer (some ⟨O, 0, none⟩) ∧ v13 = .pointer (some ⟨P, 0, none⟩) ∧ Aside0 (SupW x wr.heap.size O P x.f2 x.f3 wr w1))
            case first =>
              go_region
              · go_wp2_with fail
                go_meet
                case rel => exact ⟨_, _, rfl, rfl, rfl, ⟨sup_w1 x wr⟩⟩
              · go_wp2_with fail
                go_meet
                case rel => exact ⟨_, _, rfl, rfl, rfl, ⟨sup_w2 x wr⟩⟩
            case rest =>
              obtain ⟨O, P, rfl, rfl, rfl, HS⟩ := hcut; have y0 := HS.out.c0; have y1 := HS.out.c1; have zA := ZA.out; have zB := ZB.out; go_wp2
              go_roundg (l0.length - (i + 1))
              case measure => have := hk.out; omega
              case rel => exact ⟨i + 1, by simp, ⟨by omega⟩, ⟨Nat.le_refl _⟩, HE, ⟨below_step HB.out (by have := HS.out.hb; exact this)⟩⟩
      · have cb0 : decide ((i : Int) < (l0.length : Int)) = false := by simp; omega
        have heq' := heq.out
        rw [List.drop_eq_nil_of_le (by omega)] at heq'
        have HE := Aside0.mk (Option.some.inj heq'); clear heq heq'; go_wp2
        go_ret
        exact ⟨by rw [← HE.out] <;> rfl, below_step (w := w) (below_alloc (Below.refl _ _) _) HB.out⟩
  · rw [if_neg hl] at h
    cases h


-- NOT PRINTED: function 69 (impl_Prune_1)

end Go.Proofs.Ytodcckiphdnjeaa.QFnPruned
