/-
  The law FnExactEmptyFill over numbers and lists: the program's EmptyFill and the reference's answer alike for every grid.
  Conditions: none.
-/
import Derived.Test.YtgmhjinlpikpjaeDoorQFnExactEmptyFillx
namespace Go.Proofs.YtgmhjinlpikpjaeDoor.Pure
open Go.RowKit Go.Proofs.YtgmhjinlpikpjaeDoor.QFnExactEmptyFill Go.Proofs.YtgmhjinlpikpjaeDoorW.PrintWords Go.Proofs.YtgmhjinlpikpjaeDoorW.PrintLast Go.Proofs.YtgmhjinlpikpjaeDoorW.PrintMore
set_option linter.unusedVariables false
set_option linter.unusedSimpArgs false

/-! ### base -/
theorem wrap64_id {n : Int} (h : -9223372036854775808 ≤ n) (h' : n ≤ 9223372036854775807) : wrap64 n = n := by
  unfold wrap64
  omega
section
variable {α β : Type}
theorem ev_succ {g : Nat → Option α} {r : α} (h : Ev (fun k => g (k + 1)) r) : Ev g r := Ev.step (fun _ => rfl) h
theorem ev_pos {c : Prop} [Decidable c] {g f : Nat → Option α} {r : α} (h : c) (k : Ev g r) : Ev (fun n => if c then g n else f n) r := by
  simpa only [if_pos h] using k
theorem ev_neg {c : Prop} [Decidable c] {g f : Nat → Option α} {r : α} (h : ¬ c) (k : Ev f r) : Ev (fun n => if c then g n else f n) r := by
  simpa only [if_neg h] using k
theorem ev_now {a r : α} (h : a = r) : Ev (fun _ => some a) r := h ▸ Ev.now a
theorem ev_let {o : Option β} {a : β} {f : Nat → β → Option α} {r : α} (h : o = some a) (k : Ev (fun n => f n a) r) : Ev (fun n => o.bind (f n)) r := by
  subst h
  exact k
theorem ev_bind {g : Nat → Option β} {f : Nat → β → Option α} {a : β} {r : α} (h : Ev g a) (k : Ev (fun n => f n a) r) : Ev (fun n => (g n).bind (f n)) r := Ev.bind h k
theorem ev_eq {g : Nat → Option α} {a r : α} (h : Ev g a) (e : a = r) : Ev g r := e ▸ h
end
/-- From the end of a loop back to a round: P holds from n on, and a round below n may use the next. -/
theorem down {P : Nat → Prop} (n : Nat) (hend : ∀ i, n ≤ i → P i) (hstep : ∀ i, i < n → P (i + 1) → P i) : ∀ i, P i := by
  intro i
  rcases Nat.lt_or_ge i n with h | h
  · obtain ⟨d, hd⟩ : ∃ d, n = i + d := ⟨n - i, by omega⟩
    induction d generalizing i with
    | zero => omega
    | succ d ih =>
      refine hstep i h ?_
      rcases Nat.lt_or_ge (i + 1) n with h1 | h1
      · exact ih (i + 1) h1 (by omega)
      · exact hend _ h1
  · exact hend i h
theorem range_cons {i n : Nat} (h : i < n) : List.range' i (n - i) = i :: List.range' (i + 1) (n - (i + 1)) := by
  obtain ⟨d, hd⟩ : ∃ d, n - i = d + 1 := ⟨n - i - 1, by omega⟩
  rw [hd, List.range'_succ, show n - (i + 1) = d by omega]
theorem range_nil {i n : Nat} (h : n ≤ i) : List.range' i (n - i) = [] := by
  rw [show n - i = 0 by omega]
  rfl
theorem succ_cast (i : Nat) : ((i : Int) + 1) = ((i + 1 : Nat) : Int) := by omega

/-! ### word -/
/-- A byte is a small letter. -/
def isL (c : Int) : Bool := decide (97 ≤ c ∧ c ≤ 122)
/-- A word: one to eight small letters. -/
def wordM (s : ByteArray) : Bool := decide (1 ≤ s.size ∧ s.size ≤ 8) && (List.range' 0 (s.size - 0)).all fun j => isL (bt s j)
theorem spec_l1In_eq (a b c : Int) : spec_l1In.f a b c = some (decide (b ≤ a ∧ a ≤ c)) := by
  unfold spec_l1In.f
  by_cases h : b ≤ a
  · rw [if_pos h]; simp [h]
  · rw [if_neg h]; simp [h]
theorem impl_InRange_eq (a b c : Int) : impl_InRange.f a b c = some (decide (b ≤ a ∧ a ≤ c)) := by
  unfold impl_InRange.f
  by_cases h : b ≤ a
  · rw [if_pos h]; simp [h]
  · rw [if_neg h]; simp [h]
theorem wordM_size {s : ByteArray} (h : wordM s = true) : 1 ≤ s.size ∧ s.size ≤ 8 := by
  simp only [wordM, Bool.and_eq_true, decide_eq_true_eq] at h
  exact h.1

/-! ### grid -/
/-- A cell's sign. -/
def isC (c : Int) : Bool := decide (c = 35) || decide (c = 46)
/-- A grid: 2 to 6 rows and columns, its cells black or white. -/
def gridM (r c : Int) (s : ByteArray) : Bool := decide (2 ≤ r ∧ r ≤ 6) && decide (2 ≤ c ∧ c ≤ 6) && decide ((s.size : Int) = r * c) && (List.range' 0 (s.size - 0)).all fun j => isC (bt s j)
theorem spec_IsGrid_l0_ev (r c : Int) (s : ByteArray) (hs : s.size ≤ 140737488351232) : ∀ i : Nat, i ≤ s.size → Ev (fun k => spec_IsGrid.l0 k i r c s) ((List.range' i (s.size - i)).all fun j => isC (bt s j)) := by
  refine down s.size ?_ ?_
  · intro i h hi
    apply ev_succ
    simp only [spec_IsGrid.l0]
    refine ev_neg (by omega) (ev_now ?_)
    rw [range_nil h]; rfl
  · intro i h ih hi
    apply ev_succ
    simp only [spec_IsGrid.l0]
    rw [range_cons h, List.all_cons, wrap64_id (by omega) (by omega), succ_cast]
    refine ev_pos (by omega) (ev_pos (by omega) ?_)
    by_cases h1 : bt s i = 35
    · exact ev_pos h1 (ev_eq (ih (by omega)) (by simp [isC, h1]))
    · refine ev_neg h1 ?_
      by_cases h2 : bt s i = 46
      · exact ev_pos h2 (ev_eq (ih (by omega)) (by simp [isC, h2]))
      · exact ev_neg h2 (ev_now (by simp [isC, h1, h2]))
theorem impl_IsGrid_l0_ev (r c : Int) (s : ByteArray) (hs : s.size ≤ 140737488351232) : ∀ i : Nat, i ≤ s.size → Ev (fun k => impl_IsGrid.l0 k s.size i r c s) ((List.range' i (s.size - i)).all fun j => isC (bt s j)) := by
  refine down s.size ?_ ?_
  · intro i h hi
    apply ev_succ
    simp only [impl_IsGrid.l0]
    refine ev_neg (by omega) (ev_now ?_)
    rw [range_nil h]; rfl
  · intro i h ih hi
    apply ev_succ
    simp only [impl_IsGrid.l0]
    rw [range_cons h, List.all_cons, wrap64_id (by omega) (by omega), succ_cast]
    refine ev_pos (by omega) (ev_pos (by omega) (ev_pos (by omega) ?_))
    by_cases h1 : bt s i = 35
    · exact ev_pos h1 (ev_eq (ih (by omega)) (by simp [isC, h1]))
    · refine ev_neg h1 ?_
      by_cases h2 : bt s i = 46
      · exact ev_pos h2 (ev_eq (ih (by omega)) (by simp [isC, h2]))
      · exact ev_neg h2 (ev_now (by simp [isC, h1, h2]))
theorem wrap_mul {r c : Int} (hr : 2 ≤ r ∧ r ≤ 6) (hc : 2 ≤ c ∧ c ≤ 6) : wrap64 (r * c) = r * c := by
  have h1 : 0 ≤ r * c := Int.mul_nonneg (by omega) (by omega)
  have h2 : r * c ≤ 6 * 6 := Int.mul_le_mul hr.2 hc.2 (by omega) (by omega)
  exact wrap64_id (by omega) (by omega)
theorem spec_IsGrid_ev (r c : Int) (s : ByteArray) (hs : s.size ≤ 140737488351232) : Ev (fun k => spec_IsGrid.f k r c s) (gridM r c s) := by
  unfold spec_IsGrid.f
  refine ev_let (spec_l1In_eq _ _ _) ?_
  by_cases hr : 2 ≤ r ∧ r ≤ 6
  · refine ev_pos (by simpa using hr) (ev_let (spec_l1In_eq _ _ _) ?_)
    by_cases hc : 2 ≤ c ∧ c ≤ 6
    · refine ev_pos (by simpa using hc) ?_
      rw [wrap_mul hr hc]
      apply ev_succ
      simp only [spec_IsGrid.j0]
      by_cases hn : (s.size : Int) = r * c
      · refine ev_neg (by simp [hn]) (ev_eq (spec_IsGrid_l0_ev r c s hs 0 (by omega)) ?_)
        simp [gridM, hr, hc, hn]
      · exact ev_pos (by simp [hn]) (ev_now (by simp [gridM, hn]))
    · refine ev_neg (by simpa using hc) (ev_succ ?_)
      simp only [spec_IsGrid.j0]
      exact ev_pos (by simp) (ev_now (by simp [gridM, hc]))
  · refine ev_neg (by simpa using hr) (ev_succ ?_)
    simp only [spec_IsGrid.j0]
    exact ev_pos (by simp) (ev_now (by simp [gridM, hr]))
theorem impl_IsGrid_ev (r c : Int) (s : ByteArray) (hs : s.size ≤ 140737488351232) : Ev (fun k => impl_IsGrid.f k r c s) (gridM r c s) := by
  unfold impl_IsGrid.f
  refine ev_let (impl_InRange_eq _ _ _) ?_
  by_cases hr : 2 ≤ r ∧ r ≤ 6
  · refine ev_pos (by simpa using hr) (ev_let (impl_InRange_eq _ _ _) ?_)
    by_cases hc : 2 ≤ c ∧ c ≤ 6
    · refine ev_pos (by simpa using hc) ?_
      rw [wrap_mul hr hc]
      apply ev_succ
      simp only [impl_IsGrid.j0]
      by_cases hn : (s.size : Int) = r * c
      · refine ev_neg (by simp [hn]) (ev_eq (impl_IsGrid_l0_ev r c s hs 0 (by omega)) ?_)
        simp [gridM, hr, hc, hn]
      · exact ev_pos (by simp [hn]) (ev_now (by simp [gridM, hn]))
    · refine ev_neg (by simpa using hc) (ev_succ ?_)
      simp only [impl_IsGrid.j0]
      exact ev_pos (by simp) (ev_now (by simp [gridM, hc]))
  · refine ev_neg (by simpa using hr) (ev_succ ?_)
    simp only [impl_IsGrid.j0]
    exact ev_pos (by simp) (ev_now (by simp [gridM, hr]))

/-! ### lists -/
theorem rdOf_get {α : Type} {d : α} {l : List α} {i : Nat} (h : i < l.length) : rdOf d l (i : Int) = l[i] := by
  unfold rdOf
  simp [h]
theorem rd_get {l : List Int} {i : Nat} (h : i < l.length) : rd l (i : Int) = l[i] := by
  unfold rd
  simp [h]
theorem toList_eq (s : ByteArray) : s.toList = s.data.toList := Go.ByteArray.toList_eq s
instance lawfulBA : LawfulBEq ByteArray where
  eq_of_beq {a b} h := ByteArray.ext (eq_of_beq (α := Array UInt8) h)
  rfl {a} := by
    show (a.data == a.data) = true
    simp
theorem toList_inj {a b : ByteArray} : a.toList = b.toList ↔ a = b := by
  constructor
  · intro h
    rw [toList_eq, toList_eq] at h
    cases a
    cases b
    simp only [ByteArray.mk.injEq]
    exact Array.toList_inj.1 h
  · intro h
    rw [h]
theorem set_known {α : Type} {l x : List α} {i : Nat} {a : α} (hi : i < l.length) (hx : x.length = l.length) (ha : a = l[i]) (h : ∀ j, j < i → x[j]? = l[j]?) : ∀ j, j < i + 1 → (x.set i a)[j]? = l[j]? := by
  intro j hj
  by_cases e : j = i
  · subst e
    rw [List.getElem?_set_self (by omega), ha, List.getElem?_eq_getElem hi]
  · rw [List.getElem?_set_ne (Ne.symm e)]
    exact h j (by omega)
theorem all_known {α : Type} {l x : List α} (hx : x.length = l.length) (h : ∀ j, j < l.length → x[j]? = l[j]?) : x = l := by
  apply List.ext_getElem?
  intro j
  by_cases hj : j < l.length
  · exact h j hj
  · rw [List.getElem?_eq_none (by omega), List.getElem?_eq_none (by omega)]

/-! ### emptyfill -/
theorem gridM_cell2 {r c : Int} {s : ByteArray} (h : gridM r c s = true) (i : Nat) (hi : i < s.size) : bt s i = 35 ∨ bt s i = 46 := by
  simp only [gridM, Bool.and_eq_true, List.all_eq_true] at h
  have := h.2 i (by rw [List.mem_range']; exact ⟨i, by omega, by omega⟩)
  simpa [isC] using this
def subB (b : UInt8) : UInt8 := if b = 46 then 63 else b
theorem replaceK_map : ∀ s : List UInt8, Lib.replaceK [46] [63] (Lib.count s [46]) s = s.map subB
  | [] => rfl
  | b :: l => by
    have ih := replaceK_map l
    by_cases hb : b = 46
    · subst hb
      have hi : Lib.index (46 :: l) [46] = ((0 : Nat) : Int) := by
        unfold Lib.index
        simp
      rw [Lib.count_cons_eq, Nat.add_comm, Lib.replaceK_hit _ _ _ _ 0 hi]
      simp [ih, subB]
    · rw [Lib.count_cons_ne b 46 l hb]
      have hs : subB b = b := if_neg hb
      rcases Nat.eq_zero_or_pos (Lib.count l [46]) with h0 | h0
      · rw [h0] at ih ⊢
        have e1 : Lib.replaceK [46] [63] 0 l = l := rfl
        have e2 : Lib.replaceK [46] [63] 0 (b :: l) = b :: l := rfl
        rw [e1] at ih
        rw [e2, List.map_cons, hs, ← ih]
      · obtain ⟨i, hi⟩ := Lib.index_of_count h0
        obtain ⟨n, hn⟩ : ∃ n, Lib.count l [46] = n + 1 := ⟨Lib.count l [46] - 1, by omega⟩
        have hi2 : Lib.index (b :: l) [46] = ((i + 1 : Nat) : Int) := by
          have hp : List.isPrefixOf [46] (b :: l) = false := by
            rw [List.isPrefixOf_cons_cons]
            rw [show ((46 : UInt8) == b) = false from beq_eq_false_iff_ne.mpr (fun e => hb e.symm)]
            rfl
          have hne : (Lib.index l [46] == -1) = false := by
            rw [hi]
            exact beq_eq_false_iff_ne.mpr (by omega)
          unfold Lib.index
          rw [hp, hne, hi]
          simp
        rw [hn] at ih ⊢
        rw [Lib.replaceK_hit _ _ _ _ i hi] at ih
        rw [Lib.replaceK_hit _ _ _ _ (i + 1) hi2, List.map_cons, hs, ← ih]
        simp
theorem replaceAll_map (s : List UInt8) : Lib.replaceAll s [46] [63] = s.map subB := by
  unfold Lib.replaceAll Lib.replace Lib.replaceNum
  rw [if_neg (by decide), if_pos (Or.inl (by decide))]
  exact replaceK_map s
def emptyM (r c : Int) (s : ByteArray) : ByteArray := if gridM r c s = true then ⟨(s.data.toList.map subB).toArray⟩ else ⟨#[]⟩
theorem bt_list {s : ByteArray} {i : Nat} (h : i < s.data.toList.length) : bt s (i : Int) = ((s.data.toList[i]).toNat : Int) := by
  have h' : i < s.size := by simpa using h
  unfold bt
  rw [dif_pos (by simpa using h')]
  rfl
theorem u8_of (b : UInt8) (n : Nat) (hn : n < 256) (h : (b.toNat : Int) = n) : b = UInt8.ofNat n := by
  apply UInt8.toNat_inj.1
  rw [UInt8.toNat_ofNat']
  omega
def fillTo (s : ByteArray) (i : Nat) : ByteArray := ⟨((s.data.toList.take i).map subB).toArray⟩
theorem fillTo_size (s : ByteArray) (i : Nat) : (fillTo s i).size ≤ s.size := by
  have : (fillTo s i).size = ((s.data.toList.take i).map subB).length := by
    show ((s.data.toList.take i).map subB).toArray.size = _
    rw [List.size_toArray]
  rw [this, List.length_map, List.length_take]
  have : s.data.toList.length = s.size := by simp
  omega
theorem fillTo_next (s : ByteArray) (i : Nat) (h : i < s.data.toList.length) (b : UInt8) (hb : subB (s.data.toList[i]) = b) : fillTo s i ++ ⟨#[b]⟩ = fillTo s (i + 1) := by
  apply ByteArray.ext
  apply Array.ext'
  rw [ByteArray.data_append, Array.toList_append]
  unfold fillTo
  rw [List.take_succ_eq_append_getElem h, List.map_append, List.map_cons, List.map_nil, hb]
theorem spec_EmptyFill_l0_ev (r c : Int) (s : ByteArray) (hg : gridM r c s = true) (hs : s.size ≤ 1048576) : ∀ i : Nat, i ≤ s.size → Ev (fun k => spec_EmptyFill.l0 k (fillTo s i) i r c s) (fillTo s s.size) := by
  refine down s.size ?_ ?_
  · intro i h hi
    have e : i = s.size := by omega
    subst e
    apply ev_succ
    simp only [spec_EmptyFill.l0]
    refine ev_neg (by omega) (ev_succ ?_)
    simp only [spec_EmptyFill.j1]
    exact ev_neg (by simp) (ev_now rfl)
  · intro i h ih hi
    have hl : i < s.data.toList.length := by simpa using h
    have hb := bt_list hl
    have hcell := gridM_cell2 hg i h
    have hsz := fillTo_size s i
    apply ev_succ
    simp only [spec_EmptyFill.l0]
    refine ev_pos (by omega) (ev_bind (spec_IsGrid_ev r c s (by omega)) ?_)
    rw [hg]
    apply ev_succ
    simp only [spec_EmptyFill.j1]
    rw [wrap64_id (n := (i : Int) + 1) (by omega) (by omega), succ_cast]
    refine ev_pos (by trivial) (ev_pos (by omega) (ev_pos (by omega) ?_))
    by_cases h1 : bt s (i : Int) = 35
    · have e : s.data.toList[i] = 35 := u8_of _ 35 (by decide) (by omega)
      rw [fillTo_next s i hl 35 (by rw [e]; rfl)]
      exact ev_pos h1 (ev_pos (by omega) (ih (by omega)))
    · have e : s.data.toList[i] = 46 := u8_of _ 46 (by decide) (by omega)
      rw [fillTo_next s i hl 63 (by rw [e]; rfl)]
      exact ev_neg h1 (ev_pos (by omega) (ih (by omega)))
theorem fillTo_all (s : ByteArray) : fillTo s s.size = ⟨(s.data.toList.map subB).toArray⟩ := by
  unfold fillTo
  rw [List.take_of_length_le (by simp)]
theorem spec_EmptyFill_ev (r c : Int) (s : ByteArray) (hs : s.size ≤ 1048576) : Ev (fun k => spec_EmptyFill.f k r c s) (emptyM r c s) := by
  unfold spec_EmptyFill.f emptyM
  by_cases hg : gridM r c s = true
  · rw [if_pos hg, ← fillTo_all]
    exact spec_EmptyFill_l0_ev r c s hg hs 0 (by omega)
  · rw [if_neg hg]
    rw [Bool.not_eq_true] at hg
    have hstop : Ev (fun k => spec_EmptyFill.j1 k (⟨#[]⟩ : ByteArray) 0 false r c s) ⟨#[]⟩ := by
      apply ev_succ
      simp only [spec_EmptyFill.j1]
      exact ev_neg (by simp) (ev_now rfl)
    apply ev_succ
    simp only [spec_EmptyFill.l0]
    by_cases h0 : (0 : Int) < (s.size : Int)
    · refine ev_pos h0 (ev_bind (spec_IsGrid_ev r c s (by omega)) ?_)
      rw [hg]
      exact hstop
    · exact ev_neg h0 hstop
theorem impl_EmptyFill_ev (r c : Int) (s : ByteArray) (hs : s.size ≤ 1048576) : Ev (fun k => impl_EmptyFill.f k r c s) (emptyM r c s) := by
  unfold impl_EmptyFill.f emptyM
  refine ev_bind (impl_IsGrid_ev r c s (by omega)) ?_
  by_cases hg : gridM r c s = true
  · have h36 : s.size ≤ 36 := by
      unfold gridM at hg
      simp only [Bool.and_eq_true, decide_eq_true_eq] at hg
      obtain ⟨⟨⟨hr, hc⟩, h3⟩, _⟩ := hg
      have : r * c ≤ 6 * 6 := Int.mul_le_mul hr.2 hc.2 (by omega) (by omega)
      omega
    have hc := Lib.count_le s.data.toList [46]
    have hl : s.data.toList.length = s.size := by simp
    refine ev_pos hg (ev_pos ⟨hs, ?_⟩ (ev_now ?_))
    · show Lib.count s.data.toList [46] ≤ 1048576
      omega
    · rw [if_pos hg]
      unfold replM
      rw [replaceAll_map]
  · refine ev_neg hg (ev_now ?_)
    rw [if_neg hg]

/-! ### sz -/
def szM (s : ByteArray) : Int := if s.size ≤ 1048576 then 1048576 - s.size else -1
theorem laws_szGrid_eq (r c : Int) (s : ByteArray) (hs : s.size ≤ 9223372036854775807) : laws_szGrid.f r c s 1048576 = some (szM s) := by
  unfold laws_szGrid.f szM
  rw [wrap64_id (by omega) (by omega)]
  by_cases h : s.size ≤ 1048576
  · rw [if_neg (by omega), if_pos h]
  · rw [if_pos (by omega), if_neg h]

/-! ### the law -/
theorem FnExactEmptyFill (r c : Int) (s : ByteArray) (hs : s.size ≤ 9223372036854775807) : ∃ (k : Nat) (z : Int) (T : ByteArray), laws_szGrid.f r c s 1048576 = some z ∧ (z < 0 ∨ (¬ z < 0 ∧ spec_EmptyFill.f k r c s = some T ∧ impl_EmptyFill.f k r c s = some T)) := by
  by_cases hc : s.size ≤ 1048576
  · obtain ⟨n1, h1⟩ := spec_EmptyFill_ev r c s hc
    obtain ⟨n2, h2⟩ := impl_EmptyFill_ev r c s hc
    exact ⟨max n1 n2, szM s, emptyM r c s, laws_szGrid_eq r c s hs, Or.inr ⟨by simp [szM, hc]; omega, h1 _ (by omega), h2 _ (by omega)⟩⟩
  · exact ⟨0, szM s, ⟨#[]⟩, laws_szGrid_eq r c s hs, Or.inl (by simp [szM, hc])⟩

end Go.Proofs.YtgmhjinlpikpjaeDoor.Pure
