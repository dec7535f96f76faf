/-
  The law FnGrids over numbers and lists: for every code, the drawn grids are read back from their texts, two half turns lead back, and a white cell's mirror is white.
  Conditions: none.
-/
import Derived.Test.YtodcckiphdnjeacDoorQFnGridsx
namespace Go.Proofs.YtodcckiphdnjeacDoor.Pure
open Go.RowKit Go.Proofs.YtodcckiphdnjeacDoor.QFnGrids Go.Proofs.YtodcckiphdnjeacDoorW.PrintWords Go.Proofs.YtodcckiphdnjeacDoorW.PrintLast Go.Proofs.YtodcckiphdnjeacDoorW.PrintMore
set_option linter.unusedVariables false
set_option linter.unusedSimpArgs false

/-! ### base -/
theorem wrap64_id {n : Int} (h : -9223372036854775808 ≤ n) (h' : n ≤ 9223372036854775807) : wrap64 n = n := by
  unfold wrap64
  omega
section
variable {α β : Type}
theorem ev_succ {g : Nat → Option α} {r : α} (h : Ev (fun k => g (k + 1)) r) : Ev g r := Ev.step (fun _ => rfl) h
theorem ev_pos {c : Prop} [Decidable c] {g f : Nat → Option α} {r : α} (h : c) (k : Ev g r) : Ev (fun n => if c then g n else f n) r := by
  simpa only [if_pos h] using k
theorem ev_neg {c : Prop} [Decidable c] {g f : Nat → Option α} {r : α} (h : ¬ c) (k : Ev f r) : Ev (fun n => if c then g n else f n) r := by
  simpa only [if_neg h] using k
theorem ev_now {a r : α} (h : a = r) : Ev (fun _ => some a) r := h ▸ Ev.now a
theorem ev_let {o : Option β} {a : β} {f : Nat → β → Option α} {r : α} (h : o = some a) (k : Ev (fun n => f n a) r) : Ev (fun n => o.bind (f n)) r := by
  subst h
  exact k
theorem ev_bind {g : Nat → Option β} {f : Nat → β → Option α} {a : β} {r : α} (h : Ev g a) (k : Ev (fun n => f n a) r) : Ev (fun n => (g n).bind (f n)) r := Ev.bind h k
theorem ev_eq {g : Nat → Option α} {a r : α} (h : Ev g a) (e : a = r) : Ev g r := e ▸ h
end
/-- From the end of a loop back to a round: P holds from n on, and a round below n may use the next. -/
theorem down {P : Nat → Prop} (n : Nat) (hend : ∀ i, n ≤ i → P i) (hstep : ∀ i, i < n → P (i + 1) → P i) : ∀ i, P i := by
  intro i
  rcases Nat.lt_or_ge i n with h | h
  · obtain ⟨d, hd⟩ : ∃ d, n = i + d := ⟨n - i, by omega⟩
    induction d generalizing i with
    | zero => omega
    | succ d ih =>
      refine hstep i h ?_
      rcases Nat.lt_or_ge (i + 1) n with h1 | h1
      · exact ih (i + 1) h1 (by omega)
      · exact hend _ h1
  · exact hend i h
theorem range_cons {i n : Nat} (h : i < n) : List.range' i (n - i) = i :: List.range' (i + 1) (n - (i + 1)) := by
  obtain ⟨d, hd⟩ : ∃ d, n - i = d + 1 := ⟨n - i - 1, by omega⟩
  rw [hd, List.range'_succ, show n - (i + 1) = d by omega]
theorem range_nil {i n : Nat} (h : n ≤ i) : List.range' i (n - i) = [] := by
  rw [show n - i = 0 by omega]
  rfl
theorem succ_cast (i : Nat) : ((i : Int) + 1) = ((i + 1 : Nat) : Int) := by omega

/-! ### lists -/
theorem rdOf_get {α : Type} {d : α} {l : List α} {i : Nat} (h : i < l.length) : rdOf d l (i : Int) = l[i] := by
  unfold rdOf
  simp [h]
theorem rd_get {l : List Int} {i : Nat} (h : i < l.length) : rd l (i : Int) = l[i] := by
  unfold rd
  simp [h]
theorem toList_eq (s : ByteArray) : s.toList = s.data.toList := Go.ByteArray.toList_eq s
instance lawfulBA : LawfulBEq ByteArray where
  eq_of_beq {a b} h := ByteArray.ext (eq_of_beq (α := Array UInt8) h)
  rfl {a} := by
    show (a.data == a.data) = true
    simp
theorem toList_inj {a b : ByteArray} : a.toList = b.toList ↔ a = b := by
  constructor
  · intro h
    rw [toList_eq, toList_eq] at h
    cases a
    cases b
    simp only [ByteArray.mk.injEq]
    exact Array.toList_inj.1 h
  · intro h
    rw [h]
theorem set_known {α : Type} {l x : List α} {i : Nat} {a : α} (hi : i < l.length) (hx : x.length = l.length) (ha : a = l[i]) (h : ∀ j, j < i → x[j]? = l[j]?) : ∀ j, j < i + 1 → (x.set i a)[j]? = l[j]? := by
  intro j hj
  by_cases e : j = i
  · subst e
    rw [List.getElem?_set_self (by omega), ha, List.getElem?_eq_getElem hi]
  · rw [List.getElem?_set_ne (Ne.symm e)]
    exact h j (by omega)
theorem all_known {α : Type} {l x : List α} (hx : x.length = l.length) (h : ∀ j, j < l.length → x[j]? = l[j]?) : x = l := by
  apply List.ext_getElem?
  intro j
  by_cases hj : j < l.length
  · exact h j hj
  · rw [List.getElem?_eq_none (by omega), List.getElem?_eq_none (by omega)]

/-! ### word -/
/-- A byte is a small letter. -/
def isL (c : Int) : Bool := decide (97 ≤ c ∧ c ≤ 122)
/-- A word: one to eight small letters. -/
def wordM (s : ByteArray) : Bool := decide (1 ≤ s.size ∧ s.size ≤ 8) && (List.range' 0 (s.size - 0)).all fun j => isL (bt s j)
theorem spec_l1In_eq (a b c : Int) : spec_l1In.f a b c = some (decide (b ≤ a ∧ a ≤ c)) := by
  unfold spec_l1In.f
  by_cases h : b ≤ a
  · rw [if_pos h]; simp [h]
  · rw [if_neg h]; simp [h]
theorem impl_InRange_eq (a b c : Int) : impl_InRange.f a b c = some (decide (b ≤ a ∧ a ≤ c)) := by
  unfold impl_InRange.f
  by_cases h : b ≤ a
  · rw [if_pos h]; simp [h]
  · rw [if_neg h]; simp [h]
theorem wordM_size {s : ByteArray} (h : wordM s = true) : 1 ≤ s.size ∧ s.size ≤ 8 := by
  simp only [wordM, Bool.and_eq_true, decide_eq_true_eq] at h
  exact h.1

/-! ### strs -/
def total (l : List ByteArray) : Nat := (l.map ByteArray.size).sum
theorem mem_total {l : List ByteArray} {x : ByteArray} (h : x ∈ l) : x.size ≤ total l := by
  induction l with
  | nil => cases h
  | cons a r ih =>
    have e : total (a :: r) = a.size + total r := rfl
    rcases List.mem_cons.1 h with rfl | h
    · omega
    · have := ih h
      omega
theorem total_drop {l : List ByteArray} {i : Nat} (h : i < l.length) : total (l.drop i) = l[i].size + total (l.drop (i + 1)) := by
  rw [List.drop_eq_getElem_cons h]
  rfl

/-! ### draw -/
/-! What is drawn of a code: bounds alone. -/
theorem and255 (y : Int) : 0 ≤ Go.bits .and .i64 y 255 ∧ Go.bits .and .i64 y 255 ≤ 255 := by
  have h := @Nat.and_le_right (BitVec.ofInt 64 y).toNat (BitVec.ofInt 64 255).toNat
  have e : (BitVec.ofInt 64 255).toNat = 255 := by decide
  have hb : Go.bits .and .i64 y 255 = IntKind.i64.wrap (((BitVec.ofInt 64 y).toNat &&& (BitVec.ofInt 64 255).toNat : Nat) : Int) := by
    show IntKind.i64.wrap (((BitVec.ofInt 64 y) &&& (BitVec.ofInt 64 255)).toNat : Int) = _
    rw [BitVec.toNat_and]
  rw [hb]
  rw [e] at h ⊢
  generalize (BitVec.ofInt 64 y).toNat &&& 255 = n at h ⊢
  simp [IntKind.wrap, IntKind.bits, IntKind.signed]
  omega
theorem spec_l1Byte_some (l : List Int) (i h : Int) (h0 : 0 ≤ i ∧ i ≤ l.length) (hl : l.length ≤ 1048576) : ∃ x i' h' : Int, spec_l1Byte.f l i h = some (x, i', h') ∧ (0 ≤ x ∧ x ≤ 255) ∧ (0 ≤ i' ∧ i' ≤ l.length) := by
  unfold spec_l1Byte.f
  by_cases hi : i < (l.length : Int)
  · rw [if_pos hi, if_pos h0.1]
    exact ⟨_, _, _, rfl, and255 _, by rw [wrap64_id (by omega) (by omega)]; omega⟩
  · rw [if_neg hi]
    exact ⟨_, _, _, rfl, and255 _, h0⟩
theorem spec_l1Below_some (l : List Int) (i h n : Int) (h0 : 0 ≤ i ∧ i ≤ l.length) (hl : l.length ≤ 1048576) (hn : n ≤ 16777216) : ∃ x i' h' : Int, spec_l1Below.f l i h n = some (x, i', h') ∧ (0 ≤ x ∧ (0 < n → x < n) ∧ (n ≤ 0 → x = 0)) ∧ (0 ≤ i' ∧ i' ≤ l.length) := by
  unfold spec_l1Below.f
  by_cases h1 : n ≤ 0
  · rw [if_pos h1]
    exact ⟨_, _, _, rfl, ⟨by omega, fun h => by omega, fun _ => rfl⟩, h0⟩
  · rw [if_neg h1]
    obtain ⟨x, i1, g1, e1, hx, hi1⟩ := spec_l1Byte_some l i h h0 hl
    by_cases h2 : n ≤ 256
    · rw [if_pos h2, e1, Option.bind_some, if_neg (by omega)]
      refine ⟨_, _, _, rfl, ⟨Int.tmod_nonneg _ hx.1, fun h => Int.tmod_lt_of_pos _ h, fun h => by omega⟩, hi1⟩
    · obtain ⟨y, i2, g2, e2, hy, hi2⟩ := spec_l1Byte_some l i1 g1 hi1 hl
      obtain ⟨z, i3, g3, e3, hz, hi3⟩ := spec_l1Byte_some l i2 g2 hi2 hl
      rw [if_neg h2, e1, Option.bind_some]
      show ∃ x i' h' : Int, ((spec_l1Byte.f l i1 g1).bind _) = _ ∧ _
      rw [e2, Option.bind_some]
      show ∃ x i' h' : Int, ((spec_l1Byte.f l i2 g2).bind _) = _ ∧ _
      rw [e3, Option.bind_some, if_neg (by omega)]
      have ew : wrap64 (wrap64 (wrap64 (x * 65536) + wrap64 (y * 256)) + z) = x * 65536 + y * 256 + z := by
        rw [wrap64_id (n := x * 65536) (by omega) (by omega), wrap64_id (n := y * 256) (by omega) (by omega), wrap64_id (n := x * 65536 + y * 256) (by omega) (by omega), wrap64_id (by omega) (by omega)]
      refine ⟨_, _, _, rfl, ?_, hi3⟩
      show 0 ≤ (wrap64 (wrap64 (wrap64 (x * 65536) + wrap64 (y * 256)) + z)).tmod n ∧ _
      rw [ew]
      exact ⟨Int.tmod_nonneg _ (by omega), fun h => Int.tmod_lt_of_pos _ h, fun h => by omega⟩
theorem spec_l1Str_some (l : List Int) (i h : Int) (L : List ByteArray) (h0 : 0 ≤ i ∧ i ≤ l.length) (hl : l.length ≤ 1048576) (hL : 0 < L.length) (hL2 : L.length ≤ 1000) : ∃ (s : ByteArray) (i' h' : Int), spec_l1Str.f l i h L = some (s, i', h') ∧ s ∈ L ∧ (0 ≤ i' ∧ i' ≤ l.length) := by
  unfold spec_l1Str.f
  obtain ⟨x, i1, g1, e1, hx, hi1⟩ := spec_l1Below_some l i h (L.length : Int) h0 hl (by omega)
  obtain ⟨j, rfl⟩ := Int.eq_ofNat_of_zero_le hx.1
  have hj : j < L.length := by have := hx.2.1 (by omega); omega
  rw [e1, Option.bind_some, if_pos hx.1, if_pos (by show (j : Int) < _; omega)]
  refine ⟨_, _, _, rfl, ?_, hi1⟩
  show rdOf ByteArray.empty L (j : Int) ∈ L
  rw [rdOf_get hj]
  exact List.getElem_mem hj
theorem spec_l1New_ev (l : List Int) (hl : l.length ≤ 1048576) : ∃ h : Int, Ev (fun k => spec_l1New.f k l) (l, 0, h) := by
  have main : ∀ (d i : Nat) (x : Int), i + d = l.length → ∃ h : Int, Ev (fun k => spec_l1New.l0 k l x i) (l, 0, h) := by
    intro d
    induction d with
    | zero =>
      intro i x hi
      refine ⟨x, ev_succ ?_⟩
      simp only [spec_l1New.l0]
      exact ev_neg (by omega) (ev_now rfl)
    | succ d ih =>
      intro i x hi
      by_cases h4 : (i : Int) < 4000
      · obtain ⟨h, hh⟩ := ih (i + 1) (Go.bits .and .i64 (wrap64 ((wrap64 ((wrap64 (x * 137)) + (wrap64 (rd l i)))) + 11)) 1073741823) (by omega)
        refine ⟨h, ev_succ ?_⟩
        simp only [spec_l1New.l0]
        rw [wrap64_id (n := (i : Int) + 1) (by omega) (by omega), succ_cast]
        exact ev_pos (by omega) (ev_pos h4 (ev_pos (by omega) hh))
      · refine ⟨x, ev_succ ?_⟩
        simp only [spec_l1New.l0]
        exact ev_pos (by omega) (ev_neg h4 (ev_now rfl))
  unfold spec_l1New.f
  exact main l.length 0 _ (by omega)
theorem laws_big_eq (l : List Int) : laws_big.f l = some (decide ((l.length : Int) > 1048576)) := rfl

/-! ### grid -/
/-- A cell's sign. -/
def isC (c : Int) : Bool := decide (c = 35) || decide (c = 46)
/-- A grid: 2 to 6 rows and columns, its cells black or white. -/
def gridM (r c : Int) (s : ByteArray) : Bool := decide (2 ≤ r ∧ r ≤ 6) && decide (2 ≤ c ∧ c ≤ 6) && decide ((s.size : Int) = r * c) && (List.range' 0 (s.size - 0)).all fun j => isC (bt s j)
theorem gridM_nat {r c : Int} {s : ByteArray} (h : gridM r c s = true) : ∃ R C : Nat, r = R ∧ c = C ∧ 2 ≤ R ∧ R ≤ 6 ∧ 2 ≤ C ∧ C ≤ 6 ∧ s.size = R * C := by
  simp only [gridM, Bool.and_eq_true, decide_eq_true_eq] at h
  obtain ⟨⟨⟨hr, hc⟩, hs⟩, _⟩ := h
  obtain ⟨R, rfl⟩ := Int.eq_ofNat_of_zero_le (show 0 ≤ r by omega)
  obtain ⟨C, rfl⟩ := Int.eq_ofNat_of_zero_le (show 0 ≤ c by omega)
  exact ⟨R, C, rfl, rfl, by omega, by omega, by omega, by omega, by exact_mod_cast hs⟩
theorem bounds36 {R C : Nat} (hR : R ≤ 6) (hC : C ≤ 6) : R * C ≤ 36 := Nat.mul_le_mul hR hC
theorem spec_IsGrid_l0_ev (r c : Int) (s : ByteArray) (hs : s.size ≤ 140737488351232) : ∀ i : Nat, i ≤ s.size → Ev (fun k => spec_IsGrid.l0 k i r c s) ((List.range' i (s.size - i)).all fun j => isC (bt s j)) := by
  refine down s.size ?_ ?_
  · intro i h hi
    apply ev_succ
    simp only [spec_IsGrid.l0]
    refine ev_neg (by omega) (ev_now ?_)
    rw [range_nil h]; rfl
  · intro i h ih hi
    apply ev_succ
    simp only [spec_IsGrid.l0]
    rw [range_cons h, List.all_cons, wrap64_id (by omega) (by omega), succ_cast]
    refine ev_pos (by omega) (ev_pos (by omega) ?_)
    by_cases h1 : bt s i = 35
    · exact ev_pos h1 (ev_eq (ih (by omega)) (by simp [isC, h1]))
    · refine ev_neg h1 ?_
      by_cases h2 : bt s i = 46
      · exact ev_pos h2 (ev_eq (ih (by omega)) (by simp [isC, h2]))
      · exact ev_neg h2 (ev_now (by simp [isC, h1, h2]))
theorem impl_IsGrid_l0_ev (r c : Int) (s : ByteArray) (hs : s.size ≤ 140737488351232) : ∀ i : Nat, i ≤ s.size → Ev (fun k => impl_IsGrid.l0 k s.size i r c s) ((List.range' i (s.size - i)).all fun j => isC (bt s j)) := by
  refine down s.size ?_ ?_
  · intro i h hi
    apply ev_succ
    simp only [impl_IsGrid.l0]
    refine ev_neg (by omega) (ev_now ?_)
    rw [range_nil h]; rfl
  · intro i h ih hi
    apply ev_succ
    simp only [impl_IsGrid.l0]
    rw [range_cons h, List.all_cons, wrap64_id (by omega) (by omega), succ_cast]
    refine ev_pos (by omega) (ev_pos (by omega) (ev_pos (by omega) ?_))
    by_cases h1 : bt s i = 35
    · exact ev_pos h1 (ev_eq (ih (by omega)) (by simp [isC, h1]))
    · refine ev_neg h1 ?_
      by_cases h2 : bt s i = 46
      · exact ev_pos h2 (ev_eq (ih (by omega)) (by simp [isC, h2]))
      · exact ev_neg h2 (ev_now (by simp [isC, h1, h2]))
theorem wrap_mul {r c : Int} (hr : 2 ≤ r ∧ r ≤ 6) (hc : 2 ≤ c ∧ c ≤ 6) : wrap64 (r * c) = r * c := by
  have h1 : 0 ≤ r * c := Int.mul_nonneg (by omega) (by omega)
  have h2 : r * c ≤ 6 * 6 := Int.mul_le_mul hr.2 hc.2 (by omega) (by omega)
  exact wrap64_id (by omega) (by omega)
theorem spec_IsGrid_ev (r c : Int) (s : ByteArray) (hs : s.size ≤ 140737488351232) : Ev (fun k => spec_IsGrid.f k r c s) (gridM r c s) := by
  unfold spec_IsGrid.f
  refine ev_let (spec_l1In_eq _ _ _) ?_
  by_cases hr : 2 ≤ r ∧ r ≤ 6
  · refine ev_pos (by simpa using hr) (ev_let (spec_l1In_eq _ _ _) ?_)
    by_cases hc : 2 ≤ c ∧ c ≤ 6
    · refine ev_pos (by simpa using hc) ?_
      rw [wrap_mul hr hc]
      apply ev_succ
      simp only [spec_IsGrid.j0]
      by_cases hn : (s.size : Int) = r * c
      · refine ev_neg (by simp [hn]) (ev_eq (spec_IsGrid_l0_ev r c s hs 0 (by omega)) ?_)
        simp [gridM, hr, hc, hn]
      · exact ev_pos (by simp [hn]) (ev_now (by simp [gridM, hn]))
    · refine ev_neg (by simpa using hc) (ev_succ ?_)
      simp only [spec_IsGrid.j0]
      exact ev_pos (by simp) (ev_now (by simp [gridM, hc]))
  · refine ev_neg (by simpa using hr) (ev_succ ?_)
    simp only [spec_IsGrid.j0]
    exact ev_pos (by simp) (ev_now (by simp [gridM, hr]))
theorem impl_IsGrid_ev (r c : Int) (s : ByteArray) (hs : s.size ≤ 140737488351232) : Ev (fun k => impl_IsGrid.f k r c s) (gridM r c s) := by
  unfold impl_IsGrid.f
  refine ev_let (impl_InRange_eq _ _ _) ?_
  by_cases hr : 2 ≤ r ∧ r ≤ 6
  · refine ev_pos (by simpa using hr) (ev_let (impl_InRange_eq _ _ _) ?_)
    by_cases hc : 2 ≤ c ∧ c ≤ 6
    · refine ev_pos (by simpa using hc) ?_
      rw [wrap_mul hr hc]
      apply ev_succ
      simp only [impl_IsGrid.j0]
      by_cases hn : (s.size : Int) = r * c
      · refine ev_neg (by simp [hn]) (ev_eq (impl_IsGrid_l0_ev r c s hs 0 (by omega)) ?_)
        simp [gridM, hr, hc, hn]
      · exact ev_pos (by simp [hn]) (ev_now (by simp [gridM, hn]))
    · refine ev_neg (by simpa using hc) (ev_succ ?_)
      simp only [impl_IsGrid.j0]
      exact ev_pos (by simp) (ev_now (by simp [gridM, hc]))
  · refine ev_neg (by simpa using hr) (ev_succ ?_)
    simp only [impl_IsGrid.j0]
    exact ev_pos (by simp) (ev_now (by simp [gridM, hr]))

/-! ### gridtext -/
def rowM (s : ByteArray) (C i : Nat) : ByteArray := s.extract (i * C) ((i + 1) * C)
/-- The text of a grid's first rows. -/
def txtM (s : ByteArray) (C : Nat) : Nat → List UInt8
  | 0 => []
  | i + 1 => txtM s C i ++ (if 0 < i then [47] else []) ++ (rowM s C i).data.toList
def rowsM (s : ByteArray) (C n : Nat) : List ByteArray := (List.range n).map (rowM s C)
theorem rowsM_succ (s : ByteArray) (C n : Nat) : rowsM s C (n + 1) = rowsM s C n ++ [rowM s C n] := by
  unfold rowsM
  rw [List.range_succ, List.map_append]
  rfl
theorem rowsM_length (s : ByteArray) (C n : Nat) : (rowsM s C n).length = n := by simp [rowsM]
theorem join_snoc (sep x : List UInt8) (l : List (List UInt8)) : Lib.join (l ++ [x]) sep = Lib.join l sep ++ (if 0 < l.length then sep else []) ++ x := by
  match l with
  | [] => simp [Lib.join_one, Lib.join_nil]
  | y :: r =>
    rw [List.cons_append, Lib.join_cons, Lib.join_cons]
    simp [Lib.joinTail]
theorem join_rows (s : ByteArray) (C : Nat) : ∀ n : Nat, Lib.join ((rowsM s C n).map (·.data.toList)) [47] = txtM s C n
  | 0 => rfl
  | n + 1 => by
    rw [rowsM_succ, List.map_append, List.map_cons, List.map_nil, join_snoc, join_rows s C n, List.length_map, rowsM_length]
    rfl
theorem row_size (s : ByteArray) (C i : Nat) : (rowM s C i).size ≤ s.size := by
  unfold rowM
  rw [ByteArray.size_extract]
  omega
theorem txtM_length (s : ByteArray) (C : Nat) (h : s.size ≤ 36) : ∀ n : Nat, (txtM s C n).length ≤ n * 37
  | 0 => by simp [txtM]
  | n + 1 => by
    have h1 := txtM_length s C h n
    have h2 := row_size s C n
    have h3 : (rowM s C n).data.toList.length = (rowM s C n).size := by simp
    have h4 : (if 0 < n then [(47 : UInt8)] else []).length ≤ 1 := by split <;> simp
    unfold txtM
    rw [List.length_append, List.length_append]
    omega
def textM (r c : Int) (s : ByteArray) : ByteArray := if gridM r c s = true then ⟨(txtM s c.toNat r.toNat).toArray⟩ else ⟨#[]⟩
theorem gridM_dims {r c : Int} {s : ByteArray} (h : gridM r c s = true) : ∃ R C : Nat, r = R ∧ c = C ∧ 2 ≤ R ∧ R ≤ 6 ∧ 2 ≤ C ∧ C ≤ 6 ∧ s.size = R * C ∧ R * C ≤ 36 := by
  unfold gridM at h
  simp only [Bool.and_eq_true, decide_eq_true_eq] at h
  obtain ⟨⟨⟨hr, hc⟩, hs⟩, _⟩ := h
  obtain ⟨R, rfl⟩ := Int.eq_ofNat_of_zero_le (show 0 ≤ r by omega)
  obtain ⟨C, rfl⟩ := Int.eq_ofNat_of_zero_le (show 0 ≤ c by omega)
  refine ⟨R, C, rfl, rfl, by omega, by omega, by omega, by omega, ?_, ?_⟩
  · have : ((R * C : Nat) : Int) = (R : Int) * (C : Int) := by simp
    omega
  · have : R * C ≤ 6 * 6 := Nat.mul_le_mul (by omega) (by omega)
    omega
theorem impl_rowsOf_l0_ev (s : ByteArray) (R C : Nat) (hs : s.size = R * C) (h36 : s.size ≤ 36) (hR : R ≤ 6) (hC : 2 ≤ C) (hC6 : C ≤ 6) : ∀ i : Nat, i ≤ R → Ev (fun k => impl_rowsOf.l0 k s C (rowsM s C i) ((i * C : Nat) : Int)) (⟨(txtM s C R).toArray⟩ : ByteArray) := by
  refine down R ?_ ?_
  · intro i h hi
    have e : i = R := by omega
    subst e
    have hl := txtM_length s C h36 i
    apply ev_succ
    simp only [impl_rowsOf.l0]
    refine ev_neg (by omega) ?_
    unfold strings_Join.f
    have hj := join_rows s C i
    have e47 : (⟨#[47]⟩ : ByteArray).data.toList = [47] := rfl
    rw [e47, hj, if_pos ⟨by rw [rowsM_length]; omega, by omega⟩]
    exact ev_now rfl
  · intro i h ih hi
    have hm : (i + 1) * C ≤ R * C := Nat.mul_le_mul_right _ h
    have hm2 : (i + 1) * C = i * C + C := Nat.succ_mul i C
    apply ev_succ
    simp only [impl_rowsOf.l0]
    rw [wrap64_id (n := ((i * C : Nat) : Int) + (C : Int)) (by omega) (by omega), show ((i * C : Nat) : Int) + (C : Int) = (((i + 1) * C : Nat) : Int) by omega, Int.toNat_natCast, Int.toNat_natCast]
    refine ev_pos (by omega) (ev_pos (by omega) (ev_pos (by omega) (ev_pos (by omega) (ev_pos (by rw [rowsM_length]; omega) ?_))))
    have := ih (by omega)
    rw [rowsM_succ] at this
    exact this
theorem impl_GridText_ev (r c : Int) (s : ByteArray) (hs : s.size ≤ 1048576) : Ev (fun k => impl_GridText.f k r c s) (textM r c s) := by
  unfold impl_GridText.f textM
  refine ev_bind (impl_IsGrid_ev r c s (by omega)) ?_
  by_cases hg : gridM r c s = true
  · obtain ⟨R, C, rfl, rfl, h1, h2, h3, h4, h5, h6⟩ := gridM_dims hg
    refine ev_pos hg ?_
    rw [if_pos hg]
    unfold impl_rowsOf.f
    have := impl_rowsOf_l0_ev s R C h5 (by omega) h2 h3 h4 0 (by omega)
    simp only [Nat.zero_mul] at this
    exact ev_bind this (ev_now rfl)
  · refine ev_neg hg (ev_now ?_)
    rw [if_neg hg]
theorem txt_next (s : ByteArray) (C i : Nat) (h : 0 < i) : ((⟨(txtM s C i).toArray⟩ : ByteArray) ++ (⟨#[47]⟩ : ByteArray)) ++ rowM s C i = ⟨(txtM s C (i + 1)).toArray⟩ := by
  apply ByteArray.ext
  apply Array.ext'
  rw [ByteArray.data_append, ByteArray.data_append, Array.toList_append, Array.toList_append]
  simp [txtM, h]
theorem txt_first (s : ByteArray) (C : Nat) : (⟨(txtM s C 0).toArray⟩ : ByteArray) ++ rowM s C 0 = ⟨(txtM s C 1).toArray⟩ := by
  apply ByteArray.ext
  apply Array.ext'
  rw [ByteArray.data_append, Array.toList_append]
  simp [txtM]
theorem spec_GridText_l0_ev (s : ByteArray) (R C : Nat) (hg : gridM R C s = true) (hs : s.size = R * C) (h36 : s.size ≤ 36) (hR : R ≤ 6) (hC : 2 ≤ C) (hC6 : C ≤ 6) : ∀ i : Nat, i ≤ R → Ev (fun k => spec_GridText.l0 k (⟨(txtM s C i).toArray⟩ : ByteArray) i R C s) (⟨(txtM s C R).toArray⟩ : ByteArray) := by
  have hstop : ∀ (x : ByteArray) (i : Nat), Ev (fun k => spec_GridText.j1 k x i false R C s) x := by
    intro x i
    apply ev_succ
    simp only [spec_GridText.j1]
    exact ev_neg (by simp) (ev_now rfl)
  refine down R ?_ ?_
  · intro i h hi
    have e : i = R := by omega
    subst e
    apply ev_succ
    simp only [spec_GridText.l0]
    exact ev_neg (by omega) (hstop _ _)
  · intro i h ih hi
    have hm : (i + 1) * C ≤ R * C := Nat.mul_le_mul_right _ h
    have hm2 : (i + 1) * C = i * C + C := Nat.succ_mul i C
    have hl := txtM_length s C h36 i
    have hrow := row_size s C i
    have e1 : (i : Int) * (C : Int) = ((i * C : Nat) : Int) := by simp
    have e2 : ((i + 1 : Nat) : Int) * (C : Int) = (((i + 1) * C : Nat) : Int) := by simp
    have hx : ((⟨(txtM s C i).toArray⟩ : ByteArray)).size = (txtM s C i).length := by simp [ByteArray.size]
    have h47 : ((⟨(txtM s C i).toArray⟩ : ByteArray) ++ (⟨#[47]⟩ : ByteArray)).size = (txtM s C i).length + 1 := by
      rw [ByteArray.size_append, hx]
      rfl
    apply ev_succ
    simp only [spec_GridText.l0]
    refine ev_pos (by omega) (ev_bind (spec_IsGrid_ev R C s (by omega)) ?_)
    rw [hg]
    apply ev_succ
    simp only [spec_GridText.j1]
    rw [wrap64_id (n := (i : Int) + 1) (by omega) (by omega), succ_cast, e1, e2, wrap64_id (n := ((i * C : Nat) : Int)) (by omega) (by omega), wrap64_id (n := (((i + 1) * C : Nat) : Int)) (by omega) (by omega), Int.toNat_natCast, Int.toNat_natCast]
    refine ev_pos (by trivial) ?_
    have ih' := ih (by omega)
    by_cases h0 : 0 < i
    · rw [← txt_next s C i h0] at ih'
      refine ev_pos (by omega) (ev_pos (by rw [hx]; omega) (ev_pos (by omega) (ev_pos (by omega) (ev_pos (by omega) (ev_pos ?_ ih')))))
      rw [h47]
      have : (s.extract (i * C) ((i + 1) * C)).size ≤ s.size := hrow
      omega
    · have e0 : i = 0 := by omega
      subst e0
      rw [← txt_first s C] at ih'
      refine ev_neg (by omega) (ev_pos (by omega) (ev_pos (by omega) (ev_pos (by omega) (ev_pos ?_ ih'))))
      rw [hx]
      have : (s.extract (0 * C) ((0 + 1) * C)).size ≤ s.size := hrow
      omega
theorem spec_GridText_ev (r c : Int) (s : ByteArray) (hs : s.size ≤ 1048576) : Ev (fun k => spec_GridText.f k r c s) (textM r c s) := by
  unfold spec_GridText.f textM
  by_cases hg : gridM r c s = true
  · obtain ⟨R, C, rfl, rfl, h1, h2, h3, h4, h5, h6⟩ := gridM_dims hg
    rw [if_pos hg]
    exact spec_GridText_l0_ev s R C hg h5 (by omega) h2 h3 h4 0 (by omega)
  · rw [if_neg hg]
    rw [Bool.not_eq_true] at hg
    have hstop : Ev (fun k => spec_GridText.j1 k (⟨#[]⟩ : ByteArray) 0 false r c s) ⟨#[]⟩ := by
      apply ev_succ
      simp only [spec_GridText.j1]
      exact ev_neg (by simp) (ev_now rfl)
    apply ev_succ
    simp only [spec_GridText.l0]
    by_cases h0 : (0 : Int) < r
    · refine ev_pos h0 (ev_bind (spec_IsGrid_ev r c s (by omega)) ?_)
      rw [hg]
      exact hstop
    · exact ev_neg h0 hstop

/-! ### parsegrid -/
/-- A text cut at its strokes. -/
def cutL : List UInt8 → List (List UInt8)
  | [] => [[]]
  | b :: l => if b = 47 then [] :: cutL l else (b :: (cutL l).headD []) :: (cutL l).tail
theorem cutL_cons (b : UInt8) (l : List UInt8) : cutL (b :: l) = if b = 47 then [] :: cutL l else (b :: (cutL l).headD []) :: (cutL l).tail := rfl
theorem cutL_length : ∀ l : List UInt8, 1 ≤ (cutL l).length ∧ (cutL l).length ≤ l.length + 1
  | [] => by simp [cutL]
  | b :: l => by
    have := cutL_length l
    rw [cutL_cons]
    split
    · simp only [List.length_cons]
      omega
    · simp only [List.length_cons, List.length_tail]
      omega
theorem cutL_flat : ∀ l : List UInt8, (cutL l).flatten.length ≤ l.length
  | [] => by simp [cutL]
  | b :: l => by
    have ih := cutL_flat l
    have h1 := (cutL_length l).1
    rw [cutL_cons]
    split
    · simp only [List.flatten_cons, List.nil_append, List.length_cons]
      omega
    · cases hc : cutL l with
      | nil => rw [hc] at h1; simp at h1
      | cons x t =>
        rw [hc] at ih
        simp only [List.flatten_cons, List.length_append, List.length_cons, List.headD_cons, List.tail_cons] at ih ⊢
        omega
theorem cutL_flat_cons {b : UInt8} (h : ¬ b = 47) (l : List UInt8) : (cutL (b :: l)).flatten = b :: (cutL l).flatten := by
  have h1 := (cutL_length l).1
  rw [cutL_cons, if_neg h]
  cases hc : cutL l with
  | nil => rw [hc] at h1; simp at h1
  | cons x t => simp
theorem cutL_head : ∀ l : List UInt8, ((cutL l).headD []).length ≤ l.length
  | [] => by simp [cutL]
  | b :: l => by
    have ih := cutL_head l
    rw [cutL_cons]
    split
    · simp
    · simp only [List.headD_cons, List.length_cons]
      omega
theorem index_cons (b : UInt8) (l : List UInt8) : Lib.index (b :: l) [47] = if b = 47 then 0 else if Lib.index l [47] == -1 then -1 else Lib.index l [47] + 1 := by
  rw [Lib.index]
  by_cases h : b = 47
  · subst h
    simp [List.isPrefixOf]
  · have hp : ([47] : List UInt8).isPrefixOf (b :: l) = false := by simp [List.isPrefixOf, Ne.symm h]
    rw [hp, if_neg h]
    simp
theorem split_cut : ∀ l : List UInt8, Lib.splitK [47] 0 (Lib.count l [47]) l = cutL l
  | [] => by
    rw [Lib.count_one]
    rfl
  | b :: l => by
    have ih := split_cut l
    rw [cutL_cons]
    by_cases h : b = 47
    · subst h
      have e : Lib.index (47 :: l) [47] = 0 := by rw [index_cons, if_pos rfl]
      rw [if_pos rfl, Lib.count_cons_eq, Nat.add_comm, Lib.splitK, e, if_neg (by decide)]
      have e2 : (47 :: l : List UInt8).take ((0 : Int).toNat + 0) = [] := rfl
      have e3 : (47 :: l : List UInt8).drop ((0 : Int).toNat + [(47 : UInt8)].length) = l := rfl
      rw [e2, e3, ih]
    · rw [if_neg h, Lib.count_cons_ne b 47 l h]
      generalize Lib.count l [47] = n at ih ⊢
      cases n with
      | zero =>
        have e : cutL l = [l] := ih.symm
        rw [e]
        rfl
      | succ n =>
        rw [Lib.splitK, index_cons, if_neg h]
        rw [Lib.splitK] at ih
        by_cases hm : Lib.index l [47] = -1
        · rw [if_pos (beq_iff_eq.2 hm)] at ih
          rw [if_pos (beq_iff_eq.2 hm), if_pos (by decide), ← ih]
          rfl
        · have hb : ¬ (Lib.index l [47] == -1) = true := fun e => hm (beq_iff_eq.1 e)
          have hge := Lib.index_ge l [47]
          obtain ⟨j, hj⟩ : ∃ j : Nat, Lib.index l [47] = j := ⟨(Lib.index l [47]).toNat, by omega⟩
          rw [if_neg hb] at ih
          rw [if_neg hb, if_neg (fun e => by have := beq_iff_eq.1 e; omega), ← ih, hj]
          have e1 : ((j : Int) + 1).toNat = j + 1 := by omega
          rw [e1, Int.toNat_natCast]
          rfl
theorem join_empty : ∀ xs : List (List UInt8), Lib.join xs [] = xs.flatten
  | [] => rfl
  | x :: r => by
    rw [Lib.join_cons, List.flatten_cons]
    unfold Lib.joinTail
    simp
def zeroG : Int × Int × ByteArray × Bool := (0, 0, ⟨#[]⟩, false)
/-- What a text that is cut says of a grid. -/
def finM (s : ByteArray) (R C : Int) (cells : ByteArray) : Int × Int × ByteArray × Bool := if (textM R C cells).toList = s.toList then (if gridM R C cells = true then (R, C, cells, true) else zeroG) else zeroG
def parseM (s : ByteArray) : Int × Int × ByteArray × Bool := finM s (cutL s.data.toList).length ((cutL s.data.toList).headD []).length ⟨(cutL s.data.toList).flatten.toArray⟩
theorem bt_lt {s : ByteArray} {i : Nat} (h : i < s.data.toList.length) : bt s (i : Int) = ((s.data.toList[i]).toNat : Int) := by
  have h' : i < s.size := by simpa using h
  unfold bt
  rw [dif_pos (by simpa using h')]
  rfl
theorem spec_ParseGrid_ev (s : ByteArray) (hs : s.size ≤ 1048576) : Ev (fun k => spec_ParseGrid.f k s) (parseM s) := by
  have hL : s.data.toList.length = s.size := by simp
  have main : ∀ i : Nat, i ≤ s.size → ∀ (R C : Int) (cells : ByteArray), 1 ≤ R → R ≤ i + 1 → (R = 1 → C = i) → (¬ R = 1 → 0 ≤ C ∧ C ≤ i) → cells.size ≤ i → Ev (fun k => spec_ParseGrid.l0 k s i R C cells) (finM s (R + (((cutL (s.data.toList.drop i)).length : Int) - 1)) (if R = 1 then (i : Int) + ((cutL (s.data.toList.drop i)).headD []).length else C) (cells ++ ⟨(cutL (s.data.toList.drop i)).flatten.toArray⟩)) := by
    refine down s.size ?_ ?_
    · intro i h hi R C cells h1 h2 h3 h4 h5
      apply ev_succ
      simp only [spec_ParseGrid.l0]
      have e : s.data.toList.drop i = [] := List.drop_eq_nil_of_le (by omega)
      rw [e]
      have e1 : (R + (((cutL []).length : Int) - 1)) = R := by
        show R + ((1 : Int) - 1) = R
        omega
      have e2 : (if R = 1 then (i : Int) + (((cutL []).headD []).length : Int) else C) = C := by
        split
        · rename_i hR
          rw [h3 hR]
          show (i : Int) + 0 = i
          omega
        · rfl
      have e3 : cells ++ (⟨(cutL []).flatten.toArray⟩ : ByteArray) = cells := by
        apply ByteArray.ext
        apply Array.ext'
        rw [ByteArray.data_append, Array.toList_append]
        simp [cutL]
      rw [e1, e2, e3]
      refine ev_neg (by omega) (ev_bind (spec_GridText_ev R C cells (by omega)) ?_)
      unfold finM zeroG
      by_cases ht : (textM R C cells).toList = s.toList
      · rw [if_pos ht]
        refine ev_pos ht (ev_bind (spec_IsGrid_ev R C cells (by omega)) ?_)
        by_cases hg : gridM R C cells = true
        · exact ev_pos hg (ev_now (by rw [if_pos hg]))
        · exact ev_neg hg (ev_now (by rw [if_neg hg]))
      · rw [if_neg ht]
        exact ev_neg ht (ev_now rfl)
    · intro i h ih hi R C cells h1 h2 h3 h4 h5
      have hl : i < s.data.toList.length := by omega
      have hb := bt_lt hl
      have hlen := (cutL_length (s.data.toList.drop (i + 1))).1
      have hdr := List.drop_eq_getElem_cons hl
      apply ev_succ
      simp only [spec_ParseGrid.l0]
      rw [hb, wrap64_id (n := (i : Int) + 1) (by omega) (by omega), wrap64_id (n := R + 1) (by omega) (by omega), succ_cast, Int.toNat_natCast, Int.toNat_natCast, hdr]
      generalize hu : s.data.toList[i] = u at hdr
      refine ev_pos (by omega) (ev_pos (by omega) ?_)
      by_cases h47 : u = 47
      · have e1 : R + (((cutL (u :: s.data.toList.drop (i + 1))).length : Int) - 1) = (R + 1) + (((cutL (s.data.toList.drop (i + 1))).length : Int) - 1) := by
          rw [cutL_cons, if_pos h47, List.length_cons]
          omega
        have e2 : (if R = 1 then (i : Int) + (((cutL (u :: s.data.toList.drop (i + 1))).headD []).length : Int) else C) = (if R + 1 = 1 then ((i + 1 : Nat) : Int) + (((cutL (s.data.toList.drop (i + 1))).headD []).length : Int) else C) := by
          rw [if_neg (show ¬ R + 1 = 1 by omega), cutL_cons, if_pos h47]
          split
          · rename_i hR
            rw [h3 hR]
            show (i : Int) + 0 = i
            omega
          · rfl
        have e3 : (cutL (u :: s.data.toList.drop (i + 1))).flatten = (cutL (s.data.toList.drop (i + 1))).flatten := by
          rw [cutL_cons, if_pos h47]
          simp
        rw [e1, e2, e3]
        refine ev_pos (by rw [h47]; rfl) (ev_neg (by omega) (ih (by omega) (R + 1) C cells (by omega) (by omega) (by omega) (fun _ => ?_) (by omega)))
        by_cases hR : R = 1
        · rw [h3 hR]; omega
        · have := h4 hR; omega
      · have hne : ¬ ((u.toNat : Int) = 47) := fun e => h47 (UInt8.toNat_inj.1 (by show u.toNat = 47; omega))
        have e1 : ((cutL (u :: s.data.toList.drop (i + 1))).length : Int) = ((cutL (s.data.toList.drop (i + 1))).length : Int) := by
          rw [cutL_cons, if_neg h47, List.length_cons, List.length_tail]
          omega
        have e2 : (if R = 1 then (i : Int) + (((cutL (u :: s.data.toList.drop (i + 1))).headD []).length : Int) else C) = (if R = 1 then ((i + 1 : Nat) : Int) + (((cutL (s.data.toList.drop (i + 1))).headD []).length : Int) else C) := by
          rw [cutL_cons, if_neg h47, List.headD_cons, List.length_cons]
          split <;> omega
        have e3 : cells ++ (⟨(cutL (u :: s.data.toList.drop (i + 1))).flatten.toArray⟩ : ByteArray) = (cells ++ s.extract i (i + 1)) ++ ⟨(cutL (s.data.toList.drop (i + 1))).flatten.toArray⟩ := by
          rw [cutL_flat_cons h47]
          apply ByteArray.ext
          apply Array.ext'
          rw [ByteArray.data_append, ByteArray.data_append, ByteArray.data_append, Array.toList_append, Array.toList_append, Array.toList_append, ByteArray.data_extract, Array.toList_extract]
          simp only [List.extract]
          rw [show i + 1 - i = 1 by omega, hdr]
          simp
        have hsz : (cells ++ s.extract i (i + 1)).size ≤ i + 1 := by
          rw [ByteArray.size_append, ByteArray.size_extract]
          omega
        rw [e1, e2, e3]
        refine ev_neg hne (ev_pos (by omega) (ev_pos (by omega) (ev_pos (by rw [ByteArray.size_extract]; omega) ?_)))
        by_cases hR : R = 1
        · refine ev_pos hR ?_
          have := ih (by omega) R ((i + 1 : Nat) : Int) (cells ++ s.extract i (i + 1)) h1 (by omega) (fun _ => rfl) (fun h => absurd hR h) hsz
          rw [if_pos hR] at this ⊢
          exact this
        · refine ev_neg hR (ih (by omega) R C (cells ++ s.extract i (i + 1)) h1 (by omega) (fun h => absurd h hR) (fun _ => ?_) hsz)
          have := h4 hR
          omega
  have h0 := main 0 (by omega) 1 0 ⟨#[]⟩ (by omega) (by omega) (fun _ => rfl) (fun h => absurd rfl h) (by simp [ByteArray.size])
  unfold spec_ParseGrid.f parseM
  rw [List.drop_zero, if_pos rfl] at h0
  have e1 : (1 : Int) + (((cutL s.data.toList).length : Int) - 1) = ((cutL s.data.toList).length : Int) := by omega
  have e2 : ((0 : Nat) : Int) + (((cutL s.data.toList).headD []).length : Int) = (((cutL s.data.toList).headD []).length : Int) := by omega
  have e3 : (⟨#[]⟩ : ByteArray) ++ (⟨(cutL s.data.toList).flatten.toArray⟩ : ByteArray) = ⟨(cutL s.data.toList).flatten.toArray⟩ := by
    apply ByteArray.ext
    apply Array.ext'
    rw [ByteArray.data_append, Array.toList_append]
    rfl
  rw [e1, e2, e3] at h0
  exact h0
theorem pgRows_cut (s : ByteArray) : (pgRows s).map (·.data.toList) = cutL s.data.toList := by
  unfold pgRows
  rw [Lib.splitB_data]
  exact split_cut s.data.toList
theorem textM_ne {r c : Int} {s : ByteArray} (h : gridM r c s = true) : ¬ (textM r c s).toList = [] := by
  obtain ⟨R, C, rfl, rfl, h1, _⟩ := gridM_dims h
  unfold textM
  rw [if_pos h, toList_eq]
  simp only [Int.toNat_natCast]
  obtain ⟨n, rfl⟩ : ∃ n, R = n + 1 := ⟨R - 1, by omega⟩
  rw [txtM, if_pos (by omega)]
  simp
theorem impl_ParseGrid_ev (s : ByteArray) (hs : s.size ≤ 1048576) : Ev (fun k => impl_ParseGrid.f k s) (parseM s) := by
  have hL : s.data.toList.length = s.size := by simp
  have hr := pgRows_cut s
  have hn : (pgRows s).length = (cutL s.data.toList).length := by rw [← hr, List.length_map]
  have h1 := cutL_length s.data.toList
  have h2 := cutL_flat s.data.toList
  have hh : ((pgRows s).getD 0 ⟨#[]⟩).size = ((cutL s.data.toList).headD []).length := by
    rw [← hr]
    cases hp : pgRows s with
    | nil => rw [hp] at hn; simp at hn; omega
    | cons x t => simp
  have hj : strings_Join.f (pgRows s) ⟨#[]⟩ = some ⟨(cutL s.data.toList).flatten.toArray⟩ := by
    unfold strings_Join.f
    have e : Lib.join ((pgRows s).map (·.data.toList)) (⟨#[]⟩ : ByteArray).data.toList = (cutL s.data.toList).flatten := by
      rw [hr]
      exact join_empty _
    rw [e, if_pos ⟨by omega, by omega⟩]
  have hsz : (⟨(cutL s.data.toList).flatten.toArray⟩ : ByteArray).size ≤ 1048576 := by
    show (cutL s.data.toList).flatten.toArray.size ≤ 1048576
    rw [List.size_toArray]
    omega
  unfold impl_ParseGrid.f parseM
  rw [hn, hh]
  refine ev_pos ⟨hs, by omega⟩ (ev_let hj ?_)
  generalize (⟨(cutL s.data.toList).flatten.toArray⟩ : ByteArray) = cells at hsz ⊢
  generalize ((cutL s.data.toList).length : Int) = R
  generalize (((cutL s.data.toList).headD []).length : Int) = C
  unfold finM zeroG
  by_cases hg : gridM R C cells = true
  · by_cases ht : (textM R C cells).toList = s.toList
    · rw [if_pos ht, if_pos hg]
      refine ev_neg (by rw [← ht]; exact textM_ne hg) (ev_bind (impl_GridText_ev R C cells hsz) (ev_pos ht (ev_now rfl)))
    · rw [if_neg ht]
      by_cases h0 : s.toList = []
      · exact ev_pos h0 (ev_now rfl)
      · exact ev_neg h0 (ev_bind (impl_GridText_ev R C cells hsz) (ev_neg ht (ev_now rfl)))
  · rw [if_neg hg]
    have e : (if (textM R C cells).toList = s.toList then ((0, 0, ⟨#[]⟩, false) : Int × Int × ByteArray × Bool) else (0, 0, ⟨#[]⟩, false)) = (0, 0, ⟨#[]⟩, false) := by split <;> rfl
    rw [e]
    by_cases h0 : s.toList = []
    · exact ev_pos h0 (ev_now rfl)
    · refine ev_neg h0 (ev_bind (impl_GridText_ev R C cells hsz) (ev_neg ?_ (ev_now rfl)))
      intro ht
      apply h0
      rw [← ht]
      unfold textM
      rw [if_neg hg, toList_eq]

/-! ### drawgrid -/
theorem spec_l1Int_some (l : List Int) (i h : Int) (L : List Int) (h0 : 0 ≤ i ∧ i ≤ l.length) (hl : l.length ≤ 1048576) (hL : 0 < L.length) (hL2 : L.length ≤ 1000) : ∃ x i' h' : Int, spec_l1Int.f l i h L = some (x, i', h') ∧ x ∈ L ∧ (0 ≤ i' ∧ i' ≤ l.length) := by
  unfold spec_l1Int.f
  obtain ⟨x, i1, g1, e1, hx, hi1⟩ := spec_l1Below_some l i h (L.length : Int) h0 hl (by omega)
  obtain ⟨j, rfl⟩ := Int.eq_ofNat_of_zero_le hx.1
  have hj : j < L.length := by have := hx.2.1 (by omega); omega
  rw [e1, Option.bind_some, if_pos hx.1, if_pos (by show (j : Int) < _; omega)]
  refine ⟨_, _, _, rfl, ?_, hi1⟩
  show rd L (j : Int) ∈ L
  rw [rd_get hj]
  exact List.getElem_mem hj
/-- A text that says a grid. -/
def okText (x : ByteArray) : Bool := gridM ((cutL x.data.toList).length : Int) (((cutL x.data.toList).headD []).length : Int) ⟨(cutL x.data.toList).flatten.toArray⟩ && (decide (textM ((cutL x.data.toList).length : Int) (((cutL x.data.toList).headD []).length : Int) ⟨(cutL x.data.toList).flatten.toArray⟩ = x) && decide (1 ≤ (cutL x.data.toList).flatten.length ∧ (cutL x.data.toList).flatten.length ≤ 36 ∧ (cutL x.data.toList).length ≤ 6 ∧ ((cutL x.data.toList).headD []).length ≤ 6))
theorem okText_parse {x : ByteArray} (h : okText x = true) : ∃ (R C : Int) (s : ByteArray), parseM x = (R, C, s, true) ∧ (1 ≤ s.size ∧ s.size ≤ 36) ∧ (0 ≤ R ∧ R ≤ 6) ∧ (0 ≤ C ∧ C ≤ 6) := by
  unfold okText at h
  rw [Bool.and_eq_true, Bool.and_eq_true, decide_eq_true_eq, decide_eq_true_eq] at h
  obtain ⟨hg, ht, h1, h2, h3, h4⟩ := h
  refine ⟨((cutL x.data.toList).length : Int), (((cutL x.data.toList).headD []).length : Int), ⟨(cutL x.data.toList).flatten.toArray⟩, ?_, ?_, ⟨by omega, by omega⟩, ⟨by omega, by omega⟩⟩
  · unfold parseM finM
    rw [if_pos (by rw [ht]), if_pos hg]
  · show 1 ≤ (cutL x.data.toList).flatten.toArray.size ∧ (cutL x.data.toList).flatten.toArray.size ≤ 36
    rw [List.size_toArray]
    exact ⟨h1, h2⟩
theorem spec_l7Draw_ev (l : List Int) (i h : Int) (h0 : 0 ≤ i ∧ i ≤ l.length) (hl : l.length ≤ 1048576) : ∃ (r c : Int) (s : ByteArray) (i' h' : Int), Ev (fun k => spec_l7Draw.f k l i h) (r, c, s, i', h') ∧ (1 ≤ s.size ∧ s.size ≤ 36) ∧ (0 ≤ r ∧ r ≤ 6) ∧ (0 ≤ c ∧ c ≤ 6) ∧ (0 ≤ i' ∧ i' ≤ l.length) := by
  unfold spec_l7Draw.f spec_l7Texts.f
  have hall : ∀ x ∈ [(⟨#[46, 46, 46, 47, 46, 46, 46, 47, 46, 46, 46]⟩ : ByteArray), (⟨#[46, 46, 35, 47, 46, 46, 46, 47, 35, 46, 46]⟩ : ByteArray), (⟨#[46, 46, 46, 47, 46, 35, 46, 47, 46, 46, 46]⟩ : ByteArray), (⟨#[46, 46, 46, 46, 47, 46, 46, 46, 46, 47, 46, 46, 46, 46]⟩ : ByteArray), (⟨#[46, 46, 46, 46, 35, 47, 46, 35, 46, 46, 46, 47, 46, 46, 46, 46, 46]⟩ : ByteArray), (⟨#[46, 46, 46, 46, 47, 46, 35, 35, 46, 47, 46, 46, 46, 46]⟩ : ByteArray), (⟨#[46, 46, 46, 46, 46, 35, 47, 46, 35, 46, 35, 46, 46, 47, 46, 46, 46, 46, 46, 46]⟩ : ByteArray), (⟨#[46, 46, 47, 46, 46]⟩ : ByteArray), (⟨#[35, 46, 46, 46, 47, 46, 46, 46, 46, 47, 46, 46, 46, 35]⟩ : ByteArray), (⟨#[46, 46, 46, 47, 35, 35, 35, 47, 46, 46, 46]⟩ : ByteArray)], okText x = true ∧ x.size ≤ 100 := by decide +kernel
  obtain ⟨x, i1, g1, e1, hx, hi1⟩ := spec_l1Str_some l i h (L := [(⟨#[46, 46, 46, 47, 46, 46, 46, 47, 46, 46, 46]⟩ : ByteArray), (⟨#[46, 46, 35, 47, 46, 46, 46, 47, 35, 46, 46]⟩ : ByteArray), (⟨#[46, 46, 46, 47, 46, 35, 46, 47, 46, 46, 46]⟩ : ByteArray), (⟨#[46, 46, 46, 46, 47, 46, 46, 46, 46, 47, 46, 46, 46, 46]⟩ : ByteArray), (⟨#[46, 46, 46, 46, 35, 47, 46, 35, 46, 46, 46, 47, 46, 46, 46, 46, 46]⟩ : ByteArray), (⟨#[46, 46, 46, 46, 47, 46, 35, 35, 46, 47, 46, 46, 46, 46]⟩ : ByteArray), (⟨#[46, 46, 46, 46, 46, 35, 47, 46, 35, 46, 35, 46, 46, 47, 46, 46, 46, 46, 46, 46]⟩ : ByteArray), (⟨#[46, 46, 47, 46, 46]⟩ : ByteArray), (⟨#[35, 46, 46, 46, 47, 46, 46, 46, 46, 47, 46, 46, 46, 35]⟩ : ByteArray), (⟨#[46, 46, 46, 47, 35, 35, 35, 47, 46, 46, 46]⟩ : ByteArray)]) h0 hl (by decide) (by decide)
  obtain ⟨hok, hxs⟩ := hall x hx
  obtain ⟨R, C, s, hp, hs, hR, hC⟩ := okText_parse hok
  have hpe := spec_ParseGrid_ev x (by omega)
  rw [hp] at hpe
  obtain ⟨z, i2, g2, e2, _, hi2⟩ := spec_l1Below_some l i1 g1 3 hi1 hl (by omega)
  have e3 : spec_l1Once.f l i1 g1 3 = some ((z == 0), i2, g2) := by
    unfold spec_l1Once.f
    rw [e2]
    rfl
  cases hz : (z == 0) with
  | false =>
    rw [hz] at e3
    exact ⟨R, C, s, i2, g2, ev_let rfl (ev_let e1 (ev_bind hpe (ev_let e3 (ev_neg (by simp) (ev_now rfl))))), hs, hR, hC, hi2⟩
  | true =>
    rw [hz] at e3
    obtain ⟨a, i3, g3, e4, ha, hi3⟩ := spec_l1Below_some l i2 g2 (s.size : Int) hi2 hl (by omega)
    have ha1 := ha.2.1 (by omega)
    obtain ⟨an, rfl⟩ := Int.eq_ofNat_of_zero_le ha.1
    obtain ⟨y, i4, g4, e5, hy, hi4⟩ := spec_l1Str_some l i3 g3 [(⟨#[35]⟩ : ByteArray), (⟨#[46]⟩ : ByteArray)] hi3 hl (by decide) (by decide)
    have hy1 : y.size = 1 := by
      simp only [List.mem_cons, List.not_mem_nil, or_false] at hy
      rcases hy with rfl | rfl <;> rfl
    have n1 : (s.extract 0 an).size = an := by rw [ByteArray.size_extract]; omega
    have n2 : (s.extract (an + 1) s.size).size = s.size - (an + 1) := by rw [ByteArray.size_extract]; omega
    have n3 : ((s.extract 0 an) ++ y).size = an + 1 := by rw [ByteArray.size_append]; omega
    refine ⟨R, C, (s.extract 0 an ++ y) ++ s.extract (an + 1) s.size, i4, g4, ?_, ?_, hR, hC, hi4⟩
    · refine ev_let rfl (ev_let e1 (ev_bind hpe (ev_let e3 (ev_pos rfl (ev_let e4 ?_)))))
      refine ev_pos (by show 0 ≤ (an : Int); omega) (ev_pos (by show (an : Int) ≤ (s.size : Int); omega) (ev_let e5 ?_))
      show Ev (fun n => if (s.extract 0 ((an : Int)).toNat).size + y.size ≤ 9223372036854775807 then (if 0 ≤ wrap64 ((an : Int) + 1) then (if wrap64 ((an : Int) + 1) ≤ (s.size : Int) then (if ((s.extract 0 ((an : Int)).toNat) ++ y).size + (s.extract (wrap64 ((an : Int) + 1)).toNat s.size).size ≤ 9223372036854775807 then some (R, C, ((s.extract 0 ((an : Int)).toNat) ++ y) ++ (s.extract (wrap64 ((an : Int) + 1)).toNat s.size), i4, g4) else none) else none) else none) else none) _
      rw [wrap64_id (n := (an : Int) + 1) (by omega) (by omega), succ_cast, Int.toNat_natCast, Int.toNat_natCast]
      exact ev_pos (by omega) (ev_pos (by omega) (ev_pos (by omega) (ev_pos (by omega) (ev_now rfl))))
    · rw [ByteArray.size_append]
      omega
theorem spec_l7Any_ev (l : List Int) (i h : Int) (h0 : 0 ≤ i ∧ i ≤ l.length) (hl : l.length ≤ 1048576) : ∃ (r c : Int) (s : ByteArray) (i' h' : Int), Ev (fun k => spec_l7Any.f k l i h) (r, c, s, i', h') ∧ (1 ≤ s.size ∧ s.size ≤ 100) ∧ (-9223372036854775808 ≤ r ∧ r ≤ 9223372036854775807) ∧ (0 ≤ c ∧ c ≤ 7) ∧ (0 ≤ i' ∧ i' ≤ l.length) := by
  unfold spec_l7Any.f
  obtain ⟨r, c, s, i1, g1, hd, hs, hr, hc, hi1⟩ := spec_l7Draw_ev l i h h0 hl
  obtain ⟨z, i2, g2, e2, hz, hi2⟩ := spec_l1Below_some l i1 g1 9 hi1 hl (by omega)
  by_cases h1 : z = 0
  · obtain ⟨q, i3, g3, e3, hq, hi3⟩ := spec_l1Int_some l i2 g2 [(-1), 0, 99, 100, 1000, 1001, 9223372036854775807, (-9223372036854775808)] hi2 hl (by decide) (by decide)
    have e4 : spec_l5Raw.f l i2 g2 = some (q, i3, g3) := by
      unfold spec_l5Raw.f
      rw [e3]
      rfl
    refine ⟨q, c, s, i3, g3, ev_bind hd (ev_let e2 (ev_pos h1 (ev_let e4 (ev_now rfl)))), by omega, ?_, by omega, hi3⟩
    simp only [List.mem_cons, List.not_mem_nil, or_false] at hq
    omega
  · by_cases h2 : z = 1
    · obtain ⟨q, i3, g3, e3, hq, hi3⟩ := spec_l1Int_some l i2 g2 [1, 7, 3] hi2 hl (by decide) (by decide)
      refine ⟨r, q, s, i3, g3, ev_bind hd (ev_let e2 (ev_neg h1 (ev_pos h2 (ev_let e3 (ev_now rfl))))), by omega, by omega, ?_, hi3⟩
      simp only [List.mem_cons, List.not_mem_nil, or_false] at hq
      omega
    · by_cases h3 : z = 2
      · have n1 : (s ++ (⟨#[46]⟩ : ByteArray)).size = s.size + 1 := by rw [ByteArray.size_append]; rfl
        exact ⟨r, c, s ++ (⟨#[46]⟩ : ByteArray), i2, g2, ev_bind hd (ev_let e2 (ev_neg h1 (ev_neg h2 (ev_pos h3 (ev_pos (by show s.size + 1 ≤ 9223372036854775807; omega) (ev_now rfl)))))), by omega, by omega, by omega, hi2⟩
      · by_cases h4 : z = 3
        · have n2 : (s.extract 1 s.size).size = s.size - 1 := by rw [ByteArray.size_extract]; omega
          have n1 : ((⟨#[120]⟩ : ByteArray) ++ s.extract 1 s.size).size = 1 + (s.size - 1) := by
            rw [ByteArray.size_append, n2]
            rfl
          exact ⟨r, c, (⟨#[120]⟩ : ByteArray) ++ s.extract 1 s.size, i2, g2, ev_bind hd (ev_let e2 (ev_neg h1 (ev_neg h2 (ev_neg h3 (ev_pos h4 (ev_pos (by show 1 ≤ (s.size : Int); omega) (ev_pos (by show 1 + (s.extract 1 s.size).size ≤ 9223372036854775807; omega) (ev_now rfl)))))))), by omega, by omega, by omega, hi2⟩
        · exact ⟨r, c, s, i2, g2, ev_bind hd (ev_let e2 (ev_neg h1 (ev_neg h2 (ev_neg h3 (ev_neg h4 (ev_now rfl)))))), by omega, by omega, by omega, hi2⟩

/-! ### back -/
def backM (s : ByteArray) : ByteArray := if 100 < s.size then ⟨#[]⟩ else ⟨s.data.reverse⟩
theorem impl_Backwards_eq (s : ByteArray) : impl_Backwards.f s = some (backM s) := rfl
theorem back_step (s acc : ByteArray) (i : Nat) (hi : i < s.size) (ha : acc.data.toList = (s.data.toList.take i).reverse) : (s.extract i (i + 1) ++ acc).data.toList = (s.data.toList.take (i + 1)).reverse := by
  have hl : i < s.data.toList.length := by simpa using hi
  rw [List.take_succ_eq_append_getElem hl, List.reverse_append, ← ha]
  have e : (s.extract i (i + 1)).data.toList = [s.data.toList[i]] := by
    rw [ByteArray.data_extract, Array.toList_extract]
    simp only [List.extract]
    rw [show i + 1 - i = 1 by omega, List.drop_eq_getElem_cons hl]
    rfl
  rw [ByteArray.data_append, Array.toList_append, e]
  rfl

/-! ### turn -/
def turnM (r c : Int) (s : ByteArray) : Int × Int × ByteArray := if gridM r c s = true then (r, c, backM s) else (0, 0, ⟨#[]⟩)
theorem impl_TurnGrid_ev (r c : Int) (s : ByteArray) (hs : s.size ≤ 140737488351232) : Ev (fun k => impl_TurnGrid.f k r c s) (turnM r c s) := by
  unfold impl_TurnGrid.f turnM
  refine ev_bind (impl_IsGrid_ev r c s hs) ?_
  by_cases hg : gridM r c s = true
  · refine ev_pos hg (ev_let (impl_Backwards_eq s) (ev_now ?_))
    rw [if_pos hg]
  · refine ev_neg hg (ev_now ?_)
    rw [if_neg hg]

/-! ### sym -/
def symM (r c : Int) (s : ByteArray) : Bool := gridM r c s && decide (backM s = s)
theorem sym_eq (s : ByteArray) : ((backM s).toList == s.toList) = decide (backM s = s) ∧ (s.toList == (backM s).toList) = decide (backM s = s) := by
  constructor
  · rw [Bool.eq_iff_iff, beq_iff_eq, decide_eq_true_eq, toList_inj]
  · rw [Bool.eq_iff_iff, beq_iff_eq, decide_eq_true_eq, toList_inj]
    exact ⟨Eq.symm, Eq.symm⟩
theorem impl_IsSymmetric_ev (r c : Int) (s : ByteArray) (hs : s.size ≤ 1048576) : Ev (fun k => impl_IsSymmetric.f k r c s) (symM r c s) := by
  unfold impl_IsSymmetric.f symM
  refine ev_bind (impl_IsGrid_ev r c s (by omega)) ?_
  by_cases h : gridM r c s = true
  · refine ev_pos h (ev_bind (impl_TurnGrid_ev r c s (by omega)) (ev_now ?_))
    unfold turnM
    rw [if_pos h, h, (sym_eq s).2]
    simp
  · exact ev_neg h (ev_now (by rw [Bool.not_eq_true] at h; rw [h]; rfl))

/-! ### fnparts_back -/
theorem dl_ext (s : ByteArray) (a b : Nat) : (s.extract a b).data.toList = (s.data.toList.drop a).take (b - a) := by
  rw [ByteArray.data_extract, Array.toList_extract]
theorem dl_app (s t : ByteArray) : (s ++ t).data.toList = s.data.toList ++ t.data.toList := by rw [ByteArray.data_append, Array.toList_append]
theorem dl_len (s : ByteArray) : s.data.toList.length = s.size := by simp
theorem ba_ext {s t : ByteArray} (h : s.data.toList = t.data.toList) : s = t := ByteArray.ext (Array.ext' h)
theorem part_join (w : ByteArray) (i : Nat) : w.extract 0 i ++ w.extract i w.size = w := by
  apply ba_ext
  rw [dl_app, dl_ext, dl_ext, List.drop_zero, Nat.sub_zero, List.take_of_length_le (l := w.data.toList.drop i) (by rw [List.length_drop, dl_len]; exact Nat.le_refl _), List.take_append_drop]
theorem bt_dl {s : ByteArray} {i : Nat} (h : i < s.data.toList.length) : bt s (i : Int) = ((s.data.toList[i]).toNat : Int) := by
  have h' : i < s.size := by rw [← dl_len]; exact h
  unfold bt
  rw [dif_pos (by simpa using h')]
  rfl
theorem back_dl {w : ByteArray} (h : w.size ≤ 100) : (backM w).data.toList = w.data.toList.reverse := by
  unfold backM
  rw [if_neg (by omega)]
  exact Array.toList_reverse ..
theorem back_size {w : ByteArray} (h : w.size ≤ 100) : (backM w).size = w.size := by
  rw [← dl_len, back_dl h, List.length_reverse, dl_len]

/-! ### fngrids -/
theorem gridM_dl {r c : Int} {s : ByteArray} : gridM r c s = true ↔ (2 ≤ r ∧ r ≤ 6) ∧ (2 ≤ c ∧ c ≤ 6) ∧ (s.size : Int) = r * c ∧ ∀ u ∈ s.data.toList, isC (u.toNat : Int) = true := by
  unfold gridM
  rw [Bool.and_eq_true, Bool.and_eq_true, Bool.and_eq_true, decide_eq_true_eq, decide_eq_true_eq, decide_eq_true_eq, List.all_eq_true]
  constructor
  · rintro ⟨⟨⟨h1, h2⟩, h3⟩, h4⟩
    refine ⟨h1, h2, h3, fun u hu => ?_⟩
    obtain ⟨i, hi, rfl⟩ := List.getElem_of_mem hu
    rw [← bt_dl hi]
    exact h4 i (by rw [List.mem_range']; exact ⟨i, by rw [dl_len] at hi; omega, by omega⟩)
  · rintro ⟨h1, h2, h3, h4⟩
    refine ⟨⟨⟨h1, h2⟩, h3⟩, fun j hj => ?_⟩
    rw [List.mem_range'] at hj
    obtain ⟨q, hq, rfl⟩ := hj
    have hl : 0 + 1 * q < s.data.toList.length := by rw [dl_len]; omega
    rw [bt_dl hl]
    exact h4 _ (List.getElem_mem hl)
theorem grid_size36 {r c : Int} {s : ByteArray} (h : gridM r c s = true) : s.size ≤ 36 := by
  obtain ⟨R, C, rfl, rfl, _, h2, _, h4, h5, h6⟩ := gridM_dims h
  omega
theorem back_grid {r c : Int} {s : ByteArray} (h : gridM r c s = true) : gridM r c (backM s) = true := by
  have hs := grid_size36 h
  obtain ⟨h1, h2, h3, h4⟩ := gridM_dl.1 h
  refine gridM_dl.2 ⟨h1, h2, by rw [back_size (by omega)]; exact h3, fun u hu => h4 u ?_⟩
  rw [back_dl (by omega)] at hu
  exact List.mem_reverse.1 hu
theorem back_back {s : ByteArray} (h : s.size ≤ 100) : backM (backM s) = s := by
  apply ba_ext
  rw [back_dl (by rw [back_size h]; exact h), back_dl h, List.reverse_reverse]
theorem back_bt {s : ByteArray} (h : s.size ≤ 100) {j : Nat} (hj : j < s.size) : bt (backM s) ((s.size - 1 - j : Nat) : Int) = bt s (j : Int) := by
  have hl := dl_len s
  have h1 : s.size - 1 - j < (backM s).data.toList.length := by rw [back_dl h, List.length_reverse]; omega
  have h2 : j < s.data.toList.length := by omega
  rw [bt_dl h1, bt_dl h2]
  congr 2
  simp only [back_dl h]
  rw [List.getElem_reverse]
  congr 1
  omega
theorem cutL_app : ∀ x : List UInt8, (∀ u ∈ x, u ≠ 47) → ∀ r, cutL (x ++ 47 :: r) = x :: cutL r
  | [], _, r => by
    rw [List.nil_append, cutL_cons, if_pos rfl]
  | b :: x, h, r => by
    rw [List.cons_append, cutL_cons, if_neg (h b (by simp)), cutL_app x (fun u hu => h u (by simp [hu])) r]
    rfl
theorem cutL_one : ∀ x : List UInt8, (∀ u ∈ x, u ≠ 47) → cutL x = [x]
  | [], _ => rfl
  | b :: x, h => by
    rw [cutL_cons, if_neg (h b (by simp)), cutL_one x (fun u hu => h u (by simp [hu]))]
    rfl
theorem cutL_join : ∀ (r : List (List UInt8)) (x : List UInt8), (∀ u ∈ x, u ≠ 47) → (∀ y ∈ r, ∀ u ∈ y, u ≠ 47) → cutL (Lib.join (x :: r) [47]) = x :: r
  | [], x, hx, _ => by
    rw [Lib.join_one]
    exact cutL_one x hx
  | y :: r, x, hx, hr => by
    have ih := cutL_join r y (fun u hu => hr y (by simp) u hu) (fun z hz => hr z (by simp [hz]))
    rw [Lib.join_cons] at ih ⊢
    have e : Lib.joinTail [47] (y :: r) = 47 :: (y ++ Lib.joinTail [47] r) := by
      unfold Lib.joinTail
      simp
    rw [e, cutL_app x hx, ih]
theorem rows_flat (s : ByteArray) (C : Nat) : ∀ n : Nat, n * C ≤ s.size → ((rowsM s C n).map (·.data.toList)).flatten = s.data.toList.take (n * C)
  | 0, _ => by simp [rowsM]
  | n + 1, h => by
    have h1 : (n + 1) * C = n * C + C := Nat.succ_mul n C
    rw [rowsM_succ, List.map_append, List.flatten_append, rows_flat s C n (by omega), h1, List.take_add]
    unfold rowM
    simp only [List.map_cons, List.map_nil, List.flatten_cons, List.flatten_nil, List.append_nil]
    rw [dl_ext, h1, Nat.add_sub_cancel_left]
theorem parse_text {r c : Int} {s : ByteArray} (h : gridM r c s = true) : parseM (textM r c s) = (r, c, s, true) := by
  obtain ⟨R, C, rfl, rfl, h1, h2, h3, h4, h5, h6⟩ := gridM_dims h
  have hdl := gridM_dl.1 h
  have hno : ∀ x ∈ (rowsM s C R).map (·.data.toList), ∀ u ∈ x, u ≠ 47 := by
    intro x hx u hu e
    obtain ⟨y, hy, rfl⟩ := List.mem_map.1 hx
    unfold rowsM at hy
    obtain ⟨i, _, rfl⟩ := List.mem_map.1 hy
    unfold rowM at hu
    rw [dl_ext] at hu
    have hm := hdl.2.2.2 u (List.mem_of_mem_drop (List.mem_of_mem_take hu))
    rw [e] at hm
    exact absurd hm (by decide)
  have htx : (textM R C s).data.toList = txtM s C R := by
    unfold textM
    rw [if_pos h, Int.toNat_natCast, Int.toNat_natCast]
  have hcut : cutL (textM R C s).data.toList = (rowsM s C R).map (·.data.toList) := by
    rw [htx, ← join_rows]
    cases hr : (rowsM s C R).map (·.data.toList) with
    | nil =>
      have := congrArg List.length hr
      rw [List.length_map, rowsM_length, List.length_nil] at this
      omega
    | cons x t =>
      rw [hr] at hno
      exact cutL_join t x (fun u hu => hno x (by simp) u hu) (fun y hy => hno y (by simp [hy]))
  have hlen : ((rowsM s C R).map (·.data.toList)).length = R := by rw [List.length_map, rowsM_length]
  have hhead : (((rowsM s C R).map (·.data.toList)).headD []).length = C := by
    obtain ⟨n, rfl⟩ : ∃ n, R = n + 1 := ⟨R - 1, by omega⟩
    have hC : C ≤ s.size := by rw [h5]; exact Nat.le_mul_of_pos_left C (by omega)
    unfold rowsM
    rw [List.range_succ_eq_map]
    simp only [List.map_cons, List.headD_cons]
    unfold rowM
    rw [dl_len, ByteArray.size_extract]
    omega
  have hflat : ((rowsM s C R).map (·.data.toList)).flatten = s.data.toList := by
    rw [rows_flat s C R (by omega), List.take_of_length_le (by rw [dl_len]; omega)]
  have hs : (⟨s.data.toList.toArray⟩ : ByteArray) = s := ba_ext rfl
  unfold parseM finM
  rw [hcut, hlen, hhead, hflat, hs, if_pos rfl, if_pos h]
theorem parse_none {r c : Int} {s : ByteArray} (h : ¬ gridM r c s = true) : parseM (textM r c s) = zeroG := by
  have e : textM r c s = ⟨#[]⟩ := by
    unfold textM
    rw [if_neg h]
  rw [e]
  unfold parseM finM
  have hg : ¬ gridM ((cutL (⟨#[]⟩ : ByteArray).data.toList).length : Int) (((cutL (⟨#[]⟩ : ByteArray).data.toList).headD []).length : Int) ⟨(cutL (⟨#[]⟩ : ByteArray).data.toList).flatten.toArray⟩ = true := by decide
  rw [if_neg hg]
  split <;> rfl
theorem parse_good {t : ByteArray} (h : (parseM t).2.2.2 = true) : textM (parseM t).1 (parseM t).2.1 (parseM t).2.2.1 = t ∧ (parseM t).2.2.1.size ≤ t.size := by
  have hz := cutL_flat t.data.toList
  rw [dl_len] at hz
  unfold parseM finM at h ⊢
  split at h
  · rename_i h1
    split at h
    · rename_i h2
      rw [if_pos h1, if_pos h2]
      exact ⟨toList_inj.1 h1, by show (cutL t.data.toList).flatten.toArray.size ≤ t.size; rw [List.size_toArray]; exact hz⟩
    · exact absurd h (by simp [zeroG])
  · exact absurd h (by simp [zeroG])
def whiteM (r c : Int) (s : ByteArray) (cell : Int) : Bool := gridM r c s && (decide (0 ≤ cell ∧ cell < (s.size : Int)) && (bt s cell == 46))
theorem impl_IsWhite_ev (r c : Int) (s : ByteArray) (cell : Int) (hs : s.size ≤ 1048576) : Ev (fun k => impl_IsWhite.f k r c s cell) (whiteM r c s cell) := by
  unfold impl_IsWhite.f whiteM
  refine ev_bind (impl_IsGrid_ev r c s (by omega)) ?_
  have ha : impl_at.f cell (s.size : Int) = some (decide (0 ≤ cell ∧ cell < (s.size : Int))) := by
    unfold impl_at.f
    by_cases h : cell ≥ 0
    · rw [if_pos h]
      simp [h]
    · rw [if_neg h]
      simp [h]
  by_cases hg : gridM r c s = true
  · refine ev_pos hg (ev_let ha ?_)
    rw [hg, Bool.true_and]
    by_cases hc : 0 ≤ cell ∧ cell < (s.size : Int)
    · exact ev_pos (decide_eq_true hc) (ev_pos hc.1 (ev_pos hc.2 (ev_now (by rw [decide_eq_true hc, Bool.true_and]))))
    · exact ev_neg (by simpa using hc) (ev_now (by rw [decide_eq_false hc, Bool.false_and]))
  · rw [Bool.not_eq_true] at hg
    exact ev_neg (by rw [hg]; simp) (ev_now (by rw [hg, Bool.false_and]))
theorem spec_DrawIsGrid_ev (l : List Int) (hl : l.length ≤ 1048576) : ∃ (r c : Int) (s : ByteArray), Ev (fun k => spec_DrawIsGrid.f k l) (r, c, s) ∧ s.size ≤ 100 := by
  obtain ⟨h, hn⟩ := spec_l1New_ev l hl
  obtain ⟨r, c, s, i1, g1, e1, hs, _⟩ := spec_l7Any_ev l 0 h ⟨by omega, by omega⟩ hl
  refine ⟨r, c, s, ?_, hs.2⟩
  unfold spec_DrawIsGrid.f
  exact ev_bind hn (ev_bind e1 (ev_now rfl))
theorem spec_DrawParseGrid_ev (l : List Int) (hl : l.length ≤ 1048576) : ∃ t : ByteArray, Ev (fun k => spec_DrawParseGrid.f k l) t ∧ t.size ≤ 1000 := by
  obtain ⟨h, hn⟩ := spec_l1New_ev l hl
  obtain ⟨r, c, s, i1, g1, e1, hs, _, _, hi1⟩ := spec_l7Draw_ev l 0 h ⟨by omega, by omega⟩ hl
  have ht : (textM r c s).size ≤ 300 := by
    unfold textM
    split
    · rename_i hg
      obtain ⟨R, C, rfl, rfl, _, h2, _⟩ := gridM_dims hg
      have := txtM_length s C hs.2 R
      show (txtM s (C : Int).toNat (R : Int).toNat).toArray.size ≤ 300
      rw [List.size_toArray, Int.toNat_natCast, Int.toNat_natCast]
      omega
    · show (0 : Nat) ≤ 300
      omega
  have hgt := spec_GridText_ev r c s (by omega)
  generalize textM r c s = t at ht hgt
  obtain ⟨x, i2, g2, e2, hx, _⟩ := spec_l1Str_some l i1 g1 [t, t, t, t ++ (⟨#[47]⟩ : ByteArray), t ++ (⟨#[46]⟩ : ByteArray), (⟨#[]⟩ : ByteArray), (⟨#[46, 47, 46]⟩ : ByteArray), (⟨#[46, 46, 47, 46]⟩ : ByteArray), (⟨#[46, 46, 120, 47, 46, 46, 46]⟩ : ByteArray), (⟨#[46, 46, 46, 46, 46, 46, 46, 47, 46, 46, 46, 46, 46, 46, 46]⟩ : ByteArray)] hi1 hl (by simp) (by simp)
  refine ⟨x, ?_, ?_⟩
  · unfold spec_DrawParseGrid.f
    exact ev_bind hn (ev_bind e1 (ev_bind hgt (ev_pos (by omega) (ev_let e2 (ev_now rfl)))))
  · have a1 : (t ++ (⟨#[47]⟩ : ByteArray)).size = t.size + 1 := by rw [ByteArray.size_append]; rfl
    have a2 : (t ++ (⟨#[46]⟩ : ByteArray)).size = t.size + 1 := by rw [ByteArray.size_append]; rfl
    simp only [List.mem_cons, List.not_mem_nil, or_false] at hx
    rcases hx with rfl | rfl | rfl | rfl | rfl | rfl | rfl | rfl | rfl | rfl
    · omega
    · omega
    · omega
    · omega
    · omega
    · decide
    · decide
    · decide
    · decide
    · decide
theorem spec_DrawIsWhite_ev (l : List Int) (hl : l.length ≤ 1048576) : ∃ (r c : Int) (s : ByteArray) (cell : Int), Ev (fun k => spec_DrawIsWhite.f k l) (r, c, s, cell) ∧ s.size ≤ 100 := by
  obtain ⟨h, hn⟩ := spec_l1New_ev l hl
  obtain ⟨r, c, s, i1, g1, e1, hs, _, _, hi1⟩ := spec_l7Any_ev l 0 h ⟨by omega, by omega⟩ hl
  obtain ⟨x, i2, g2, e2, _, _⟩ := spec_l1Int_some l i1 g1 [0, 1, 4, 8, 11, 35, 36, (-1)] hi1 hl (by decide) (by decide)
  refine ⟨r, c, s, x, ?_, hs.2⟩
  unfold spec_DrawIsWhite.f
  exact ev_bind hn (ev_bind e1 (ev_let e2 (ev_now rfl)))

/-! ### the law -/
theorem grids_j2 (l : List Int) (hl : l.length ≤ 1048576) : Ev (fun k => laws_FnGrids.j2 k l false) true := by
  obtain ⟨r, c, s, cell, hd, hs⟩ := spec_DrawIsWhite_ev l hl
  apply ev_succ
  simp only [laws_FnGrids.j2]
  refine ev_neg (by simp) (ev_bind hd (ev_bind (impl_IsWhite_ev r c s cell (by omega)) ?_))
  by_cases hw : whiteM r c s cell = true
  · have hw2 := hw
    unfold whiteM at hw2
    rw [Bool.and_eq_true, Bool.and_eq_true, decide_eq_true_eq, beq_iff_eq] at hw2
    obtain ⟨hg, hc, hb⟩ := hw2
    obtain ⟨j, rfl⟩ := Int.eq_ofNat_of_zero_le hc.1
    have hj : j < s.size := by omega
    refine ev_pos hw (ev_bind (impl_IsGrid_ev r c s (by omega)) (ev_pos hg (ev_bind (impl_TurnGrid_ev r c s (by omega)) ?_)))
    have ht : turnM r c s = (r, c, backM s) := by
      unfold turnM
      rw [if_pos hg]
    rw [ht, wrap64_id (n := (s.size : Int) - 1) (by omega) (by omega), wrap64_id (n := (s.size : Int) - 1 - (j : Int)) (by omega) (by omega), show (s.size : Int) - 1 - (j : Int) = ((s.size - 1 - j : Nat) : Int) by omega]
    have hbs := back_size (w := s) hs
    refine ev_bind (impl_IsWhite_ev r c (backM s) _ (by omega)) (ev_now ?_)
    unfold whiteM
    rw [back_grid hg, back_bt hs hj, hb, decide_eq_true (by omega)]
    rfl
  · exact ev_neg hw (ev_now rfl)
theorem grids_j1 (l : List Int) (hl : l.length ≤ 1048576) : Ev (fun k => laws_FnGrids.j1 k l false) true := by
  obtain ⟨t, hd, ht⟩ := spec_DrawParseGrid_ev l hl
  have hp := impl_ParseGrid_ev t (by omega)
  apply ev_succ
  simp only [laws_FnGrids.j1]
  refine ev_neg (by simp) (ev_bind hd (ev_bind hp ?_))
  by_cases hk : (parseM t).2.2.2 = true
  · obtain ⟨h1, h2⟩ := parse_good hk
    refine ev_pos hk (ev_bind (impl_GridText_ev _ _ _ (by omega)) ?_)
    rw [h1, show (t.toList != t.toList) = false by simp]
    exact grids_j2 l hl
  · exact ev_neg hk (grids_j2 l hl)
theorem grids_j0 (l : List Int) (hl : l.length ≤ 1048576) (r c : Int) (s : ByteArray) (hs : s.size ≤ 100) : Ev (fun k => laws_FnGrids.j0 k l (gridM r c s) false r c s) true := by
  apply ev_succ
  simp only [laws_FnGrids.j0]
  refine ev_neg (by simp) ?_
  by_cases hg : gridM r c s = true
  · have hbg := back_grid hg
    have hbs := back_size (w := s) hs
    have hbb := back_back hs
    have ht : turnM r c s = (r, c, backM s) := by
      unfold turnM
      rw [if_pos hg]
    have ht2 : turnM r c (backM s) = (r, c, s) := by
      unfold turnM
      rw [if_pos hbg, hbb]
    have e1 := impl_TurnGrid_ev r c s (by omega)
    have e2 := impl_TurnGrid_ev r c (backM s) (by omega)
    rw [ht] at e1
    rw [ht2] at e2
    refine ev_pos hg (ev_bind e1 (ev_bind e2 (ev_neg (by simp) (ev_bind (impl_IsSymmetric_ev r c s (by omega)) (ev_bind e1 (ev_bind (impl_IsSymmetric_ev r c (backM s) (by omega)) ?_))))))
    have es : symM r c (backM s) = symM r c s := by
      unfold symM
      rw [hg, hbg, hbb, Bool.true_and, Bool.true_and, decide_eq_decide]
      exact eq_comm
    rw [es, show (symM r c s != symM r c s) = false by simp]
    exact grids_j1 l hl
  · exact ev_neg hg (grids_j1 l hl)
theorem FnGrids : laws_FnGrids.Pure := by
  intro l _ _ _
  apply Ev.rounds
  unfold laws_FnGrids.f
  refine ev_let (laws_big_eq l) ?_
  by_cases hb : (l.length : Int) > 1048576
  · exact ev_pos (decide_eq_true hb) (ev_now rfl)
  · have hl : l.length ≤ 1048576 := by omega
    obtain ⟨r, c, s, hd, hs⟩ := spec_DrawIsGrid_ev l hl
    have hts : (textM r c s).size ≤ 1048576 := by
      unfold textM
      split
      · rename_i hg
        have h36 := grid_size36 hg
        obtain ⟨R, C, rfl, rfl, _, h2, _⟩ := gridM_dims hg
        have := txtM_length s C h36 R
        show (txtM s (C : Int).toNat (R : Int).toNat).toArray.size ≤ 1048576
        rw [List.size_toArray, Int.toNat_natCast, Int.toNat_natCast]
        omega
      · show (0 : Nat) ≤ 1048576
        omega
    have hj := grids_j0 l hl r c s hs
    have hp := impl_ParseGrid_ev (textM r c s) hts
    refine ev_neg (by simpa using hb) (ev_bind hd (ev_bind (impl_GridText_ev r c s (by omega)) ?_))
    by_cases hg : gridM r c s = true
    · rw [parse_text hg] at hp
      rw [hg] at hj
      refine ev_bind hp (ev_bind (impl_IsGrid_ev r c s (by omega)) (ev_bind (spec_IsGrid_ev r c s (by omega)) (ev_neg (by simp) (ev_bind (impl_IsGrid_ev r c s (by omega)) ?_))))
      rw [hg]
      refine ev_neg (by simp) (ev_pos rfl ?_)
      rw [show (!(r == r) || (!(c == c) || !(s.toList == s.toList))) = false by simp]
      exact hj
    · rw [parse_none hg] at hp
      rw [Bool.not_eq_true] at hg
      rw [hg] at hj
      refine ev_bind hp (ev_bind (impl_IsGrid_ev r c s (by omega)) (ev_bind (spec_IsGrid_ev r c s (by omega)) (ev_neg (by simp) (ev_bind (impl_IsGrid_ev r c s (by omega)) ?_))))
      rw [hg]
      exact ev_neg (by simp [zeroG]) (ev_neg (by simp [zeroG]) hj)

end Go.Proofs.YtodcckiphdnjeacDoor.Pure
