/-
  The law FnExactGridText over numbers and lists: the program's GridText and the reference's answer alike for every grid.
  Conditions: none.
-/
import Derived.Test.YtgmhjinlpikpjacQFnExactGridTextx
namespace Go.Proofs.Ytgmhjinlpikpjac.Pure
open Go.RowKit Go.Proofs.Ytgmhjinlpikpjac.QFnExactGridText Go.Proofs.YtgmhjinlpikpjacW.PrintWords Go.Proofs.YtgmhjinlpikpjacW.PrintLast Go.Proofs.YtgmhjinlpikpjacW.PrintMore
set_option linter.unusedVariables false
set_option linter.unusedSimpArgs false

/-! ### base -/
theorem wrap64_id {n : Int} (h : -9223372036854775808 ≤ n) (h' : n ≤ 9223372036854775807) : wrap64 n = n := by
  unfold wrap64
  omega
section
variable {α β : Type}
theorem ev_succ {g : Nat → Option α} {r : α} (h : Ev (fun k => g (k + 1)) r) : Ev g r := Ev.step (fun _ => rfl) h
theorem ev_pos {c : Prop} [Decidable c] {g f : Nat → Option α} {r : α} (h : c) (k : Ev g r) : Ev (fun n => if c then g n else f n) r := by
  simpa only [if_pos h] using k
theorem ev_neg {c : Prop} [Decidable c] {g f : Nat → Option α} {r : α} (h : ¬ c) (k : Ev f r) : Ev (fun n => if c then g n else f n) r := by
  simpa only [if_neg h] using k
theorem ev_now {a r : α} (h : a = r) : Ev (fun _ => some a) r := h ▸ Ev.now a
theorem ev_let {o : Option β} {a : β} {f : Nat → β → Option α} {r : α} (h : o = some a) (k : Ev (fun n => f n a) r) : Ev (fun n => o.bind (f n)) r := by
  subst h
  exact k
theorem ev_bind {g : Nat → Option β} {f : Nat → β → Option α} {a : β} {r : α} (h : Ev g a) (k : Ev (fun n => f n a) r) : Ev (fun n => (g n).bind (f n)) r := Ev.bind h k
theorem ev_eq {g : Nat → Option α} {a r : α} (h : Ev g a) (e : a = r) : Ev g r := e ▸ h
end
/-- From the end of a loop back to a round: P holds from n on, and a round below n may use the next. -/
theorem down {P : Nat → Prop} (n : Nat) (hend : ∀ i, n ≤ i → P i) (hstep : ∀ i, i < n → P (i + 1) → P i) : ∀ i, P i := by
  intro i
  rcases Nat.lt_or_ge i n with h | h
  · obtain ⟨d, hd⟩ : ∃ d, n = i + d := ⟨n - i, by omega⟩
    induction d generalizing i with
    | zero => omega
    | succ d ih =>
      refine hstep i h ?_
      rcases Nat.lt_or_ge (i + 1) n with h1 | h1
      · exact ih (i + 1) h1 (by omega)
      · exact hend _ h1
  · exact hend i h
theorem range_cons {i n : Nat} (h : i < n) : List.range' i (n - i) = i :: List.range' (i + 1) (n - (i + 1)) := by
  obtain ⟨d, hd⟩ : ∃ d, n - i = d + 1 := ⟨n - i - 1, by omega⟩
  rw [hd, List.range'_succ, show n - (i + 1) = d by omega]
theorem range_nil {i n : Nat} (h : n ≤ i) : List.range' i (n - i) = [] := by
  rw [show n - i = 0 by omega]
  rfl
theorem succ_cast (i : Nat) : ((i : Int) + 1) = ((i + 1 : Nat) : Int) := by omega

/-! ### word -/
/-- A byte is a small letter. -/
def isL (c : Int) : Bool := decide (97 ≤ c ∧ c ≤ 122)
/-- A word: one to eight small letters. -/
def wordM (s : ByteArray) : Bool := decide (1 ≤ s.size ∧ s.size ≤ 8) && (List.range' 0 (s.size - 0)).all fun j => isL (bt s j)
theorem spec_l1In_eq (a b c : Int) : spec_l1In.f a b c = some (decide (b ≤ a ∧ a ≤ c)) := by
  unfold spec_l1In.f
  by_cases h : b ≤ a
  · rw [if_pos h]; simp [h]
  · rw [if_neg h]; simp [h]
theorem impl_InRange_eq (a b c : Int) : impl_InRange.f a b c = some (decide (b ≤ a ∧ a ≤ c)) := by
  unfold impl_InRange.f
  by_cases h : b ≤ a
  · rw [if_pos h]; simp [h]
  · rw [if_neg h]; simp [h]
theorem wordM_size {s : ByteArray} (h : wordM s = true) : 1 ≤ s.size ∧ s.size ≤ 8 := by
  simp only [wordM, Bool.and_eq_true, decide_eq_true_eq] at h
  exact h.1

/-! ### grid -/
/-- A cell's sign. -/
def isC (c : Int) : Bool := decide (c = 35) || decide (c = 46)
/-- A grid: 2 to 6 rows and columns, its cells black or white. -/
def gridM (r c : Int) (s : ByteArray) : Bool := decide (2 ≤ r ∧ r ≤ 6) && decide (2 ≤ c ∧ c ≤ 6) && decide ((s.size : Int) = r * c) && (List.range' 0 (s.size - 0)).all fun j => isC (bt s j)
theorem spec_IsGrid_l0_ev (r c : Int) (s : ByteArray) (hs : s.size ≤ 140737488351232) : ∀ i : Nat, i ≤ s.size → Ev (fun k => spec_IsGrid.l0 k i r c s) ((List.range' i (s.size - i)).all fun j => isC (bt s j)) := by
  refine down s.size ?_ ?_
  · intro i h hi
    apply ev_succ
    simp only [spec_IsGrid.l0]
    refine ev_neg (by omega) (ev_now ?_)
    rw [range_nil h]; rfl
  · intro i h ih hi
    apply ev_succ
    simp only [spec_IsGrid.l0]
    rw [range_cons h, List.all_cons, wrap64_id (by omega) (by omega), succ_cast]
    refine ev_pos (by omega) (ev_pos (by omega) ?_)
    by_cases h1 : bt s i = 35
    · exact ev_pos h1 (ev_eq (ih (by omega)) (by simp [isC, h1]))
    · refine ev_neg h1 ?_
      by_cases h2 : bt s i = 46
      · exact ev_pos h2 (ev_eq (ih (by omega)) (by simp [isC, h2]))
      · exact ev_neg h2 (ev_now (by simp [isC, h1, h2]))
theorem impl_IsGrid_l0_ev (r c : Int) (s : ByteArray) (hs : s.size ≤ 140737488351232) : ∀ i : Nat, i ≤ s.size → Ev (fun k => impl_IsGrid.l0 k s.size i r c s) ((List.range' i (s.size - i)).all fun j => isC (bt s j)) := by
  refine down s.size ?_ ?_
  · intro i h hi
    apply ev_succ
    simp only [impl_IsGrid.l0]
    refine ev_neg (by omega) (ev_now ?_)
    rw [range_nil h]; rfl
  · intro i h ih hi
    apply ev_succ
    simp only [impl_IsGrid.l0]
    rw [range_cons h, List.all_cons, wrap64_id (by omega) (by omega), succ_cast]
    refine ev_pos (by omega) (ev_pos (by omega) (ev_pos (by omega) ?_))
    by_cases h1 : bt s i = 35
    · exact ev_pos h1 (ev_eq (ih (by omega)) (by simp [isC, h1]))
    · refine ev_neg h1 ?_
      by_cases h2 : bt s i = 46
      · exact ev_pos h2 (ev_eq (ih (by omega)) (by simp [isC, h2]))
      · exact ev_neg h2 (ev_now (by simp [isC, h1, h2]))
theorem wrap_mul {r c : Int} (hr : 2 ≤ r ∧ r ≤ 6) (hc : 2 ≤ c ∧ c ≤ 6) : wrap64 (r * c) = r * c := by
  have h1 : 0 ≤ r * c := Int.mul_nonneg (by omega) (by omega)
  have h2 : r * c ≤ 6 * 6 := Int.mul_le_mul hr.2 hc.2 (by omega) (by omega)
  exact wrap64_id (by omega) (by omega)
theorem spec_IsGrid_ev (r c : Int) (s : ByteArray) (hs : s.size ≤ 140737488351232) : Ev (fun k => spec_IsGrid.f k r c s) (gridM r c s) := by
  unfold spec_IsGrid.f
  refine ev_let (spec_l1In_eq _ _ _) ?_
  by_cases hr : 2 ≤ r ∧ r ≤ 6
  · refine ev_pos (by simpa using hr) (ev_let (spec_l1In_eq _ _ _) ?_)
    by_cases hc : 2 ≤ c ∧ c ≤ 6
    · refine ev_pos (by simpa using hc) ?_
      rw [wrap_mul hr hc]
      apply ev_succ
      simp only [spec_IsGrid.j0]
      by_cases hn : (s.size : Int) = r * c
      · refine ev_neg (by simp [hn]) (ev_eq (spec_IsGrid_l0_ev r c s hs 0 (by omega)) ?_)
        simp [gridM, hr, hc, hn]
      · exact ev_pos (by simp [hn]) (ev_now (by simp [gridM, hn]))
    · refine ev_neg (by simpa using hc) (ev_succ ?_)
      simp only [spec_IsGrid.j0]
      exact ev_pos (by simp) (ev_now (by simp [gridM, hc]))
  · refine ev_neg (by simpa using hr) (ev_succ ?_)
    simp only [spec_IsGrid.j0]
    exact ev_pos (by simp) (ev_now (by simp [gridM, hr]))
theorem impl_IsGrid_ev (r c : Int) (s : ByteArray) (hs : s.size ≤ 140737488351232) : Ev (fun k => impl_IsGrid.f k r c s) (gridM r c s) := by
  unfold impl_IsGrid.f
  refine ev_let (impl_InRange_eq _ _ _) ?_
  by_cases hr : 2 ≤ r ∧ r ≤ 6
  · refine ev_pos (by simpa using hr) (ev_let (impl_InRange_eq _ _ _) ?_)
    by_cases hc : 2 ≤ c ∧ c ≤ 6
    · refine ev_pos (by simpa using hc) ?_
      rw [wrap_mul hr hc]
      apply ev_succ
      simp only [impl_IsGrid.j0]
      by_cases hn : (s.size : Int) = r * c
      · refine ev_neg (by simp [hn]) (ev_eq (impl_IsGrid_l0_ev r c s hs 0 (by omega)) ?_)
        simp [gridM, hr, hc, hn]
      · exact ev_pos (by simp [hn]) (ev_now (by simp [gridM, hn]))
    · refine ev_neg (by simpa using hc) (ev_succ ?_)
      simp only [impl_IsGrid.j0]
      exact ev_pos (by simp) (ev_now (by simp [gridM, hc]))
  · refine ev_neg (by simpa using hr) (ev_succ ?_)
    simp only [impl_IsGrid.j0]
    exact ev_pos (by simp) (ev_now (by simp [gridM, hr]))

/-! ### lists -/
theorem rdOf_get {α : Type} {d : α} {l : List α} {i : Nat} (h : i < l.length) : rdOf d l (i : Int) = l[i] := by
  unfold rdOf
  simp [h]
theorem rd_get {l : List Int} {i : Nat} (h : i < l.length) : rd l (i : Int) = l[i] := by
  unfold rd
  simp [h]
theorem toList_eq (s : ByteArray) : s.toList = s.data.toList := Go.ByteArray.toList_eq s
instance lawfulBA : LawfulBEq ByteArray where
  eq_of_beq {a b} h := ByteArray.ext (eq_of_beq (α := Array UInt8) h)
  rfl {a} := by
    show (a.data == a.data) = true
    simp
theorem toList_inj {a b : ByteArray} : a.toList = b.toList ↔ a = b := by
  constructor
  · intro h
    rw [toList_eq, toList_eq] at h
    cases a
    cases b
    simp only [ByteArray.mk.injEq]
    exact Array.toList_inj.1 h
  · intro h
    rw [h]
theorem set_known {α : Type} {l x : List α} {i : Nat} {a : α} (hi : i < l.length) (hx : x.length = l.length) (ha : a = l[i]) (h : ∀ j, j < i → x[j]? = l[j]?) : ∀ j, j < i + 1 → (x.set i a)[j]? = l[j]? := by
  intro j hj
  by_cases e : j = i
  · subst e
    rw [List.getElem?_set_self (by omega), ha, List.getElem?_eq_getElem hi]
  · rw [List.getElem?_set_ne (Ne.symm e)]
    exact h j (by omega)
theorem all_known {α : Type} {l x : List α} (hx : x.length = l.length) (h : ∀ j, j < l.length → x[j]? = l[j]?) : x = l := by
  apply List.ext_getElem?
  intro j
  by_cases hj : j < l.length
  · exact h j hj
  · rw [List.getElem?_eq_none (by omega), List.getElem?_eq_none (by omega)]

/-! ### gridtext -/
def rowM (s : ByteArray) (C i : Nat) : ByteArray := s.extract (i * C) ((i + 1) * C)
/-- The text of a grid's first rows. -/
def txtM (s : ByteArray) (C : Nat) : Nat → List UInt8
  | 0 => []
  | i + 1 => txtM s C i ++ (if 0 < i then [47] else []) ++ (rowM s C i).data.toList
def rowsM (s : ByteArray) (C n : Nat) : List ByteArray := (List.range n).map (rowM s C)
theorem rowsM_succ (s : ByteArray) (C n : Nat) : rowsM s C (n + 1) = rowsM s C n ++ [rowM s C n] := by
  unfold rowsM
  rw [List.range_succ, List.map_append]
  rfl
theorem rowsM_length (s : ByteArray) (C n : Nat) : (rowsM s C n).length = n := by simp [rowsM]
theorem join_snoc (sep x : List UInt8) (l : List (List UInt8)) : Lib.join (l ++ [x]) sep = Lib.join l sep ++ (if 0 < l.length then sep else []) ++ x := by
  match l with
  | [] => simp [Lib.join_one, Lib.join_nil]
  | y :: r =>
    rw [List.cons_append, Lib.join_cons, Lib.join_cons]
    simp [Lib.joinTail]
theorem join_rows (s : ByteArray) (C : Nat) : ∀ n : Nat, Lib.join ((rowsM s C n).map (·.data.toList)) [47] = txtM s C n
  | 0 => rfl
  | n + 1 => by
    rw [rowsM_succ, List.map_append, List.map_cons, List.map_nil, join_snoc, join_rows s C n, List.length_map, rowsM_length]
    rfl
theorem row_size (s : ByteArray) (C i : Nat) : (rowM s C i).size ≤ s.size := by
  unfold rowM
  rw [ByteArray.size_extract]
  omega
theorem txtM_length (s : ByteArray) (C : Nat) (h : s.size ≤ 36) : ∀ n : Nat, (txtM s C n).length ≤ n * 37
  | 0 => by simp [txtM]
  | n + 1 => by
    have h1 := txtM_length s C h n
    have h2 := row_size s C n
    have h3 : (rowM s C n).data.toList.length = (rowM s C n).size := by simp
    have h4 : (if 0 < n then [(47 : UInt8)] else []).length ≤ 1 := by split <;> simp
    unfold txtM
    rw [List.length_append, List.length_append]
    omega
def textM (r c : Int) (s : ByteArray) : ByteArray := if gridM r c s = true then ⟨(txtM s c.toNat r.toNat).toArray⟩ else ⟨#[]⟩
theorem gridM_dims {r c : Int} {s : ByteArray} (h : gridM r c s = true) : ∃ R C : Nat, r = R ∧ c = C ∧ 2 ≤ R ∧ R ≤ 6 ∧ 2 ≤ C ∧ C ≤ 6 ∧ s.size = R * C ∧ R * C ≤ 36 := by
  unfold gridM at h
  simp only [Bool.and_eq_true, decide_eq_true_eq] at h
  obtain ⟨⟨⟨hr, hc⟩, hs⟩, _⟩ := h
  obtain ⟨R, rfl⟩ := Int.eq_ofNat_of_zero_le (show 0 ≤ r by omega)
  obtain ⟨C, rfl⟩ := Int.eq_ofNat_of_zero_le (show 0 ≤ c by omega)
  refine ⟨R, C, rfl, rfl, by omega, by omega, by omega, by omega, ?_, ?_⟩
  · have : ((R * C : Nat) : Int) = (R : Int) * (C : Int) := by simp
    omega
  · have : R * C ≤ 6 * 6 := Nat.mul_le_mul (by omega) (by omega)
    omega
theorem impl_rowsOf_l0_ev (s : ByteArray) (R C : Nat) (hs : s.size = R * C) (h36 : s.size ≤ 36) (hR : R ≤ 6) (hC : 2 ≤ C) (hC6 : C ≤ 6) : ∀ i : Nat, i ≤ R → Ev (fun k => impl_rowsOf.l0 k s C (rowsM s C i) ((i * C : Nat) : Int)) (⟨(txtM s C R).toArray⟩ : ByteArray) := by
  refine down R ?_ ?_
  · intro i h hi
    have e : i = R := by omega
    subst e
    have hl := txtM_length s C h36 i
    apply ev_succ
    simp only [impl_rowsOf.l0]
    refine ev_neg (by omega) ?_
    unfold strings_Join.f
    have hj := join_rows s C i
    have e47 : (⟨#[47]⟩ : ByteArray).data.toList = [47] := rfl
    rw [e47, hj, if_pos ⟨by rw [rowsM_length]; omega, by omega⟩]
    exact ev_now rfl
  · intro i h ih hi
    have hm : (i + 1) * C ≤ R * C := Nat.mul_le_mul_right _ h
    have hm2 : (i + 1) * C = i * C + C := Nat.succ_mul i C
    apply ev_succ
    simp only [impl_rowsOf.l0]
    rw [wrap64_id (n := ((i * C : Nat) : Int) + (C : Int)) (by omega) (by omega), show ((i * C : Nat) : Int) + (C : Int) = (((i + 1) * C : Nat) : Int) by omega, Int.toNat_natCast, Int.toNat_natCast]
    refine ev_pos (by omega) (ev_pos (by omega) (ev_pos (by omega) (ev_pos (by omega) (ev_pos (by rw [rowsM_length]; omega) ?_))))
    have := ih (by omega)
    rw [rowsM_succ] at this
    exact this
theorem impl_GridText_ev (r c : Int) (s : ByteArray) (hs : s.size ≤ 1048576) : Ev (fun k => impl_GridText.f k r c s) (textM r c s) := by
  unfold impl_GridText.f textM
  refine ev_bind (impl_IsGrid_ev r c s (by omega)) ?_
  by_cases hg : gridM r c s = true
  · obtain ⟨R, C, rfl, rfl, h1, h2, h3, h4, h5, h6⟩ := gridM_dims hg
    refine ev_pos hg ?_
    rw [if_pos hg]
    unfold impl_rowsOf.f
    have := impl_rowsOf_l0_ev s R C h5 (by omega) h2 h3 h4 0 (by omega)
    simp only [Nat.zero_mul] at this
    exact ev_bind this (ev_now rfl)
  · refine ev_neg hg (ev_now ?_)
    rw [if_neg hg]
theorem txt_next (s : ByteArray) (C i : Nat) (h : 0 < i) : ((⟨(txtM s C i).toArray⟩ : ByteArray) ++ (⟨#[47]⟩ : ByteArray)) ++ rowM s C i = ⟨(txtM s C (i + 1)).toArray⟩ := by
  apply ByteArray.ext
  apply Array.ext'
  rw [ByteArray.data_append, ByteArray.data_append, Array.toList_append, Array.toList_append]
  simp [txtM, h]
theorem txt_first (s : ByteArray) (C : Nat) : (⟨(txtM s C 0).toArray⟩ : ByteArray) ++ rowM s C 0 = ⟨(txtM s C 1).toArray⟩ := by
  apply ByteArray.ext
  apply Array.ext'
  rw [ByteArray.data_append, Array.toList_append]
  simp [txtM]
theorem spec_GridText_l0_ev (s : ByteArray) (R C : Nat) (hg : gridM R C s = true) (hs : s.size = R * C) (h36 : s.size ≤ 36) (hR : R ≤ 6) (hC : 2 ≤ C) (hC6 : C ≤ 6) : ∀ i : Nat, i ≤ R → Ev (fun k => spec_GridText.l0 k (⟨(txtM s C i).toArray⟩ : ByteArray) i R C s) (⟨(txtM s C R).toArray⟩ : ByteArray) := by
  have hstop : ∀ (x : ByteArray) (i : Nat), Ev (fun k => spec_GridText.j1 k x i false R C s) x := by
    intro x i
    apply ev_succ
    simp only [spec_GridText.j1]
    exact ev_neg (by simp) (ev_now rfl)
  refine down R ?_ ?_
  · intro i h hi
    have e : i = R := by omega
    subst e
    apply ev_succ
    simp only [spec_GridText.l0]
    exact ev_neg (by omega) (hstop _ _)
  · intro i h ih hi
    have hm : (i + 1) * C ≤ R * C := Nat.mul_le_mul_right _ h
    have hm2 : (i + 1) * C = i * C + C := Nat.succ_mul i C
    have hl := txtM_length s C h36 i
    have hrow := row_size s C i
    have e1 : (i : Int) * (C : Int) = ((i * C : Nat) : Int) := by simp
    have e2 : ((i + 1 : Nat) : Int) * (C : Int) = (((i + 1) * C : Nat) : Int) := by simp
    have hx : ((⟨(txtM s C i).toArray⟩ : ByteArray)).size = (txtM s C i).length := by simp [ByteArray.size]
    have h47 : ((⟨(txtM s C i).toArray⟩ : ByteArray) ++ (⟨#[47]⟩ : ByteArray)).size = (txtM s C i).length + 1 := by
      rw [ByteArray.size_append, hx]
      rfl
    apply ev_succ
    simp only [spec_GridText.l0]
    refine ev_pos (by omega) (ev_bind (spec_IsGrid_ev R C s (by omega)) ?_)
    rw [hg]
    apply ev_succ
    simp only [spec_GridText.j1]
    rw [wrap64_id (n := (i : Int) + 1) (by omega) (by omega), succ_cast, e1, e2, wrap64_id (n := ((i * C : Nat) : Int)) (by omega) (by omega), wrap64_id (n := (((i + 1) * C : Nat) : Int)) (by omega) (by omega), Int.toNat_natCast, Int.toNat_natCast]
    refine ev_pos (by trivial) ?_
    have ih' := ih (by omega)
    by_cases h0 : 0 < i
    · rw [← txt_next s C i h0] at ih'
      refine ev_pos (by omega) (ev_pos (by rw [hx]; omega) (ev_pos (by omega) (ev_pos (by omega) (ev_pos (by omega) (ev_pos ?_ ih')))))
      rw [h47]
      have : (s.extract (i * C) ((i + 1) * C)).size ≤ s.size := hrow
      omega
    · have e0 : i = 0 := by omega
      subst e0
      rw [← txt_first s C] at ih'
      refine ev_neg (by omega) (ev_pos (by omega) (ev_pos (by omega) (ev_pos (by omega) (ev_pos ?_ ih'))))
      rw [hx]
      have : (s.extract (0 * C) ((0 + 1) * C)).size ≤ s.size := hrow
      omega
theorem spec_GridText_ev (r c : Int) (s : ByteArray) (hs : s.size ≤ 1048576) : Ev (fun k => spec_GridText.f k r c s) (textM r c s) := by
  unfold spec_GridText.f textM
  by_cases hg : gridM r c s = true
  · obtain ⟨R, C, rfl, rfl, h1, h2, h3, h4, h5, h6⟩ := gridM_dims hg
    rw [if_pos hg]
    exact spec_GridText_l0_ev s R C hg h5 (by omega) h2 h3 h4 0 (by omega)
  · rw [if_neg hg]
    rw [Bool.not_eq_true] at hg
    have hstop : Ev (fun k => spec_GridText.j1 k (⟨#[]⟩ : ByteArray) 0 false r c s) ⟨#[]⟩ := by
      apply ev_succ
      simp only [spec_GridText.j1]
      exact ev_neg (by simp) (ev_now rfl)
    apply ev_succ
    simp only [spec_GridText.l0]
    by_cases h0 : (0 : Int) < r
    · refine ev_pos h0 (ev_bind (spec_IsGrid_ev r c s (by omega)) ?_)
      rw [hg]
      exact hstop
    · exact ev_neg h0 hstop

/-! ### sz -/
def szM (s : ByteArray) : Int := if s.size ≤ 1048576 then 1048576 - s.size else -1
theorem laws_szGrid_eq (r c : Int) (s : ByteArray) (hs : s.size ≤ 9223372036854775807) : laws_szGrid.f r c s 1048576 = some (szM s) := by
  unfold laws_szGrid.f szM
  rw [wrap64_id (by omega) (by omega)]
  by_cases h : s.size ≤ 1048576
  · rw [if_neg (by omega), if_pos h]
  · rw [if_pos (by omega), if_neg h]

/-! ### the law -/
theorem FnExactGridText (r c : Int) (s : ByteArray) (_ : -9223372036854775808 ≤ r ∧ r ≤ 9223372036854775807) (_ : -9223372036854775808 ≤ c ∧ c ≤ 9223372036854775807) (hs : s.size ≤ 9223372036854775807) : ∃ k, laws_FnExactGridText.f k r c s = some true := by
  apply Ev.rounds
  unfold laws_FnExactGridText.f
  refine ev_let (laws_szGrid_eq r c s hs) ?_
  by_cases hc : s.size ≤ 1048576
  · exact ev_neg (by simp [szM, hc]; omega) (ev_let rfl (ev_bind (spec_GridText_ev r c s hc) (ev_let rfl (ev_bind (impl_GridText_ev r c s hc) (ev_pos rfl (ev_now rfl))))))
  · exact ev_pos (by simp [szM, hc]) (ev_now rfl)

end Go.Proofs.Ytgmhjinlpikpjac.Pure
