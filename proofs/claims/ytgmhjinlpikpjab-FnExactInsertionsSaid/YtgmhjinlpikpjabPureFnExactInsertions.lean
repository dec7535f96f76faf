/-
  The law FnExactInsertions over numbers and lists: the program's Insertions and the reference's answer alike for every two strings.
  Conditions: none.
-/
import Derived.Test.YtgmhjinlpikpjabQFnExactInsertionsx
namespace Go.Proofs.Ytgmhjinlpikpjab.Pure
open Go.RowKit Go.Proofs.Ytgmhjinlpikpjab.QFnExactInsertions Go.Proofs.YtgmhjinlpikpjabW.PrintWords Go.Proofs.YtgmhjinlpikpjabW.PrintLast Go.Proofs.YtgmhjinlpikpjabW.PrintMore

/-! ### base -/
theorem wrap64_id {n : Int} (h : -9223372036854775808 ≤ n) (h' : n ≤ 9223372036854775807) : wrap64 n = n := by
  unfold wrap64
  omega
section
variable {α β : Type}
theorem ev_succ {g : Nat → Option α} {r : α} (h : Ev (fun k => g (k + 1)) r) : Ev g r := Ev.step (fun _ => rfl) h
theorem ev_pos {c : Prop} [Decidable c] {g f : Nat → Option α} {r : α} (h : c) (k : Ev g r) : Ev (fun n => if c then g n else f n) r := by
  simpa only [if_pos h] using k
theorem ev_neg {c : Prop} [Decidable c] {g f : Nat → Option α} {r : α} (h : ¬ c) (k : Ev f r) : Ev (fun n => if c then g n else f n) r := by
  simpa only [if_neg h] using k
theorem ev_now {a r : α} (h : a = r) : Ev (fun _ => some a) r := h ▸ Ev.now a
theorem ev_let {o : Option β} {a : β} {f : Nat → β → Option α} {r : α} (h : o = some a) (k : Ev (fun n => f n a) r) : Ev (fun n => o.bind (f n)) r := by
  subst h
  exact k
theorem ev_bind {g : Nat → Option β} {f : Nat → β → Option α} {a : β} {r : α} (h : Ev g a) (k : Ev (fun n => f n a) r) : Ev (fun n => (g n).bind (f n)) r := Ev.bind h k
theorem ev_eq {g : Nat → Option α} {a r : α} (h : Ev g a) (e : a = r) : Ev g r := e ▸ h
end
/-- From the end of a loop back to a round: P holds from n on, and a round below n may use the next. -/
theorem down {P : Nat → Prop} (n : Nat) (hend : ∀ i, n ≤ i → P i) (hstep : ∀ i, i < n → P (i + 1) → P i) : ∀ i, P i := by
  intro i
  rcases Nat.lt_or_ge i n with h | h
  · obtain ⟨d, hd⟩ : ∃ d, n = i + d := ⟨n - i, by omega⟩
    induction d generalizing i with
    | zero => omega
    | succ d ih =>
      refine hstep i h ?_
      rcases Nat.lt_or_ge (i + 1) n with h1 | h1
      · exact ih (i + 1) h1 (by omega)
      · exact hend _ h1
  · exact hend i h
theorem range_cons {i n : Nat} (h : i < n) : List.range' i (n - i) = i :: List.range' (i + 1) (n - (i + 1)) := by
  obtain ⟨d, hd⟩ : ∃ d, n - i = d + 1 := ⟨n - i - 1, by omega⟩
  rw [hd, List.range'_succ, show n - (i + 1) = d by omega]
theorem range_nil {i n : Nat} (h : n ≤ i) : List.range' i (n - i) = [] := by
  rw [show n - i = 0 by omega]
  rfl
theorem succ_cast (i : Nat) : ((i : Int) + 1) = ((i + 1 : Nat) : Int) := by omega

/-! ### lists -/
theorem rdOf_get {α : Type} {d : α} {l : List α} {i : Nat} (h : i < l.length) : rdOf d l (i : Int) = l[i] := by
  unfold rdOf
  simp [h]
theorem rd_get {l : List Int} {i : Nat} (h : i < l.length) : rd l (i : Int) = l[i] := by
  unfold rd
  simp [h]
theorem toList_eq (s : ByteArray) : s.toList = s.data.toList := Go.ByteArray.toList_eq s
instance lawfulBA : LawfulBEq ByteArray where
  eq_of_beq {a b} h := ByteArray.ext (eq_of_beq (α := Array UInt8) h)
  rfl {a} := by
    show (a.data == a.data) = true
    simp
theorem toList_inj {a b : ByteArray} : a.toList = b.toList ↔ a = b := by
  constructor
  · intro h
    rw [toList_eq, toList_eq] at h
    cases a
    cases b
    simp only [ByteArray.mk.injEq]
    exact Array.toList_inj.1 h
  · intro h
    rw [h]
theorem set_known {α : Type} {l x : List α} {i : Nat} {a : α} (hi : i < l.length) (hx : x.length = l.length) (ha : a = l[i]) (h : ∀ j, j < i → x[j]? = l[j]?) : ∀ j, j < i + 1 → (x.set i a)[j]? = l[j]? := by
  intro j hj
  by_cases e : j = i
  · subst e
    rw [List.getElem?_set_self (by omega), ha, List.getElem?_eq_getElem hi]
  · rw [List.getElem?_set_ne (Ne.symm e)]
    exact h j (by omega)
theorem all_known {α : Type} {l x : List α} (hx : x.length = l.length) (h : ∀ j, j < l.length → x[j]? = l[j]?) : x = l := by
  apply List.ext_getElem?
  intro j
  by_cases hj : j < l.length
  · exact h j hj
  · rw [List.getElem?_eq_none (by omega), List.getElem?_eq_none (by omega)]

/-! ### word -/
/-- A byte is a small letter. -/
def isL (c : Int) : Bool := decide (97 ≤ c ∧ c ≤ 122)
/-- A word: one to eight small letters. -/
def wordM (s : ByteArray) : Bool := decide (1 ≤ s.size ∧ s.size ≤ 8) && (List.range' 0 (s.size - 0)).all fun j => isL (bt s j)
theorem spec_l1In_eq (a b c : Int) : spec_l1In.f a b c = some (decide (b ≤ a ∧ a ≤ c)) := by
  unfold spec_l1In.f
  by_cases h : b ≤ a
  · rw [if_pos h]; simp [h]
  · rw [if_neg h]; simp [h]
theorem impl_InRange_eq (a b c : Int) : impl_InRange.f a b c = some (decide (b ≤ a ∧ a ≤ c)) := by
  unfold impl_InRange.f
  by_cases h : b ≤ a
  · rw [if_pos h]; simp [h]
  · rw [if_neg h]; simp [h]
theorem impl_isLetter_eq (c : Int) : impl_isLetter.f c = some (isL c) := by
  unfold impl_isLetter.f isL
  by_cases h : c ≥ 97
  · rw [if_pos h]; congr 1; simp; omega
  · rw [if_neg h]; congr 1; simp; omega
theorem spec_IsWord_l0_ev (s : ByteArray) (hs : s.size ≤ 140737488351232) : ∀ i : Nat, i ≤ s.size → Ev (fun k => spec_IsWord.l0 k s i) ((List.range' i (s.size - i)).all fun j => isL (bt s j)) := by
  refine down s.size ?_ ?_
  · intro i h hi
    apply ev_succ
    simp only [spec_IsWord.l0]
    refine ev_neg (by omega) (ev_now ?_)
    rw [range_nil h]; rfl
  · intro i h ih hi
    apply ev_succ
    simp only [spec_IsWord.l0]
    rw [range_cons h, List.all_cons, wrap64_id (by omega) (by omega), succ_cast]
    refine ev_pos (by omega) (ev_pos (by omega) ?_)
    by_cases h1 : bt s i < 97
    · exact ev_pos h1 (ev_now (by simp [isL]; omega))
    · refine ev_neg h1 ?_
      by_cases h2 : bt s i > 122
      · exact ev_pos h2 (ev_now (by simp [isL]; omega))
      · refine ev_neg h2 (ev_eq (ih (by omega)) ?_)
        rw [show isL (bt s i) = true by simp [isL]; omega, Bool.true_and]
theorem impl_IsWord_l0_ev (s : ByteArray) (hs : s.size ≤ 140737488351232) : ∀ i : Nat, i ≤ s.size → Ev (fun k => impl_IsWord.l0 k s s.size i) ((List.range' i (s.size - i)).all fun j => isL (bt s j)) := by
  refine down s.size ?_ ?_
  · intro i h hi
    apply ev_succ
    simp only [impl_IsWord.l0]
    refine ev_neg (by omega) (ev_now ?_)
    rw [range_nil h]; rfl
  · intro i h ih hi
    apply ev_succ
    simp only [impl_IsWord.l0]
    rw [range_cons h, List.all_cons, wrap64_id (by omega) (by omega), succ_cast]
    refine ev_pos (by omega) (ev_pos (by omega) (ev_pos (by omega) (ev_let (impl_isLetter_eq _) ?_)))
    cases isL (bt s i)
    · exact ev_neg (by simp) (ev_now (by simp))
    · exact ev_pos rfl (ev_eq (ih (by omega)) (by simp))
theorem spec_IsWord_ev (s : ByteArray) (hs : s.size ≤ 140737488351232) : Ev (fun k => spec_IsWord.f k s) (wordM s) := by
  simp only [spec_IsWord.f]
  refine ev_let (spec_l1In_eq _ _ _) ?_
  by_cases h : 1 ≤ s.size ∧ s.size ≤ 8
  · refine ev_pos (by simp; omega) (ev_eq (spec_IsWord_l0_ev s hs 0 (by omega)) ?_)
    simp [wordM, h]
  · refine ev_neg (by simp; omega) (ev_now ?_)
    simp [wordM, h]
theorem impl_IsWord_ev (s : ByteArray) (hs : s.size ≤ 140737488351232) : Ev (fun k => impl_IsWord.f k s) (wordM s) := by
  simp only [impl_IsWord.f]
  refine ev_let (impl_InRange_eq _ _ _) ?_
  by_cases h : 1 ≤ s.size ∧ s.size ≤ 8
  · refine ev_pos (by simp; omega) (ev_eq (impl_IsWord_l0_ev s hs 0 (by omega)) ?_)
    simp [wordM, h]
  · refine ev_neg (by simp; omega) (ev_now ?_)
    simp [wordM, h]
theorem wordM_size {s : ByteArray} (h : wordM s = true) : 1 ≤ s.size ∧ s.size ≤ 8 := by
  simp only [wordM, Bool.and_eq_true, decide_eq_true_eq] at h
  exact h.1

/-! ### strs -/
def total (l : List ByteArray) : Nat := (l.map ByteArray.size).sum
theorem total_drop {l : List ByteArray} {i : Nat} (h : i < l.length) : total (l.drop i) = l[i].size + total (l.drop (i + 1)) := by
  rw [List.drop_eq_getElem_cons h]
  rfl
theorem laws_eqStringS_l0_ev (a b : List ByteArray) (hl : a.length = b.length) (hb : a.length ≤ 9223372036854775806) : ∀ i : Nat, i ≤ a.length → Ev (fun k => laws_eqStringS.l0 k a b i) (decide (a.drop i = b.drop i)) := by
  refine down a.length ?_ ?_
  · intro i h hi
    apply ev_succ
    simp only [laws_eqStringS.l0]
    refine ev_neg (by omega) (ev_now ?_)
    rw [List.drop_eq_nil_of_le h, List.drop_eq_nil_of_le (by omega)]
    simp
  · intro i h ih hi
    have h' : i < b.length := by omega
    apply ev_succ
    simp only [laws_eqStringS.l0]
    rw [rdOf_get h, rdOf_get h', wrap64_id (n := (i : Int) + 1) (by omega) (by omega), succ_cast, List.drop_eq_getElem_cons h, List.drop_eq_getElem_cons h']
    refine ev_pos (by omega) (ev_pos (by omega) (ev_pos (by omega) ?_))
    by_cases he : a[i].toList = b[i].toList
    · refine ev_pos he (ev_eq (ih (by omega)) ?_)
      rw [toList_inj] at he
      rw [he]
      simp [-List.getElem_cons_drop]
    · refine ev_neg he (ev_now ?_)
      rw [toList_inj] at he
      symm
      simp only [decide_eq_false_iff_not, List.cons.injEq]
      exact fun h => he h.1
theorem laws_eqStringS_ev (a b : List ByteArray) (hb : a.length ≤ 9223372036854775806) : Ev (fun k => laws_eqStringS.f k a b) (decide (a = b)) := by
  unfold laws_eqStringS.f
  by_cases h : a.length = b.length
  · exact ev_pos (by omega) (ev_eq (laws_eqStringS_l0_ev a b h hb 0 (by omega)) (by simp))
  · exact ev_neg (by omega) (ev_now (by symm; simp; intro e; exact h (by rw [e])))

/-! ### once -/
/-- Each word once, in order. -/
def onceM : List ByteArray → List ByteArray → List ByteArray
  | acc, [] => acc
  | acc, s :: r => if s ∈ acc then onceM acc r else onceM (acc ++ [s]) r
theorem onceM_length : ∀ (l acc : List ByteArray), (onceM acc l).length ≤ acc.length + l.length
  | [], acc => by simp [onceM]
  | s :: r, acc => by
    unfold onceM
    split
    · have := onceM_length r acc
      simp only [List.length_cons]; omega
    · have := onceM_length r (acc ++ [s])
      simp only [List.length_cons, List.length_append, List.length_nil] at this ⊢; omega
theorem spec_HasWord_l0_ev (l : List ByteArray) (w : ByteArray) (hl : l.length ≤ 9223372036854775806) : ∀ i : Nat, i ≤ l.length → Ev (fun k => spec_HasWord.l0 k l w i) (decide (w ∈ l.drop i)) := by
  refine down l.length ?_ ?_
  · intro i h hi
    apply ev_succ
    simp only [spec_HasWord.l0]
    exact ev_neg (by omega) (ev_now (by rw [List.drop_eq_nil_of_le h]; simp))
  · intro i h ih hi
    apply ev_succ
    simp only [spec_HasWord.l0]
    rw [rdOf_get h, wrap64_id (n := (i : Int) + 1) (by omega) (by omega), succ_cast, List.drop_eq_getElem_cons h]
    refine ev_pos (by omega) (ev_pos (by omega) ?_)
    by_cases he : l[i].toList = w.toList
    · exact ev_pos he (ev_now (by simp [-List.getElem_cons_drop, toList_inj.1 he]))
    · refine ev_neg he (ev_eq (ih (by omega)) ?_)
      rw [toList_inj] at he
      simp [-List.getElem_cons_drop, show ¬ w = l[i] from fun e => he e.symm]
theorem spec_HasWord_ev (l : List ByteArray) (w : ByteArray) (hl : l.length ≤ 9223372036854775806) : Ev (fun k => spec_HasWord.f k l w) (decide (w ∈ l)) := by
  unfold spec_HasWord.f
  exact ev_eq (spec_HasWord_l0_ev l w hl 0 (by omega)) (by simp)
theorem slices_Index_string_string_l0_ev (l : List ByteArray) (w : ByteArray) (hl : l.length ≤ 9223372036854775806) : ∀ i : Nat, i ≤ l.length → ∃ r : Int, Ev (fun k => slices_Index_string_string.l0 k l w l.length i) r ∧ decide (r ≥ 0) = decide (w ∈ l.drop i) := by
  refine down l.length ?_ ?_
  · intro i h hi
    refine ⟨-1, ?_, by rw [List.drop_eq_nil_of_le h]; simp⟩
    apply ev_succ
    simp only [slices_Index_string_string.l0]
    exact ev_neg (by omega) (ev_now rfl)
  · intro i h ih hi
    by_cases he : w.toList = l[i].toList
    · refine ⟨i, ?_, by rw [List.drop_eq_getElem_cons h]; simp [-List.getElem_cons_drop, toList_inj.1 he]⟩
      apply ev_succ
      simp only [slices_Index_string_string.l0]
      rw [rdOf_get h]
      exact ev_pos (by omega) (ev_pos (by omega) (ev_pos (by omega) (ev_pos he (ev_now rfl))))
    · obtain ⟨r, hr, h1⟩ := ih (by omega)
      refine ⟨r, ?_, ?_⟩
      · apply ev_succ
        simp only [slices_Index_string_string.l0]
        rw [rdOf_get h, wrap64_id (n := (i : Int) + 1) (by omega) (by omega), succ_cast]
        exact ev_pos (by omega) (ev_pos (by omega) (ev_pos (by omega) (ev_neg he hr)))
      · rw [toList_inj] at he
        rw [h1, List.drop_eq_getElem_cons h]
        simp [-List.getElem_cons_drop, he]
theorem slices_Contains_string_string_ev (l : List ByteArray) (w : ByteArray) (hl : l.length ≤ 9223372036854775806) : Ev (fun k => slices_Contains_string_string.f k l w) (decide (w ∈ l)) := by
  unfold slices_Contains_string_string.f slices_Index_string_string.f
  obtain ⟨r, hr, h⟩ := slices_Index_string_string_l0_ev l w hl 0 (by omega)
  exact ev_bind hr (ev_now (by simpa using h))
theorem impl_once_l0_ev (l : List ByteArray) (hl : l.length ≤ 1048576) : ∀ i : Nat, i ≤ l.length → ∀ acc : List ByteArray, acc.length ≤ i → Ev (fun k => impl_once.l0 k acc l l.length i) (onceM acc (l.drop i)) := by
  refine down l.length ?_ ?_
  · intro i h hi acc ha
    apply ev_succ
    simp only [impl_once.l0]
    exact ev_neg (by omega) (ev_now (by rw [List.drop_eq_nil_of_le h]; rfl))
  · intro i h ih hi acc ha
    apply ev_succ
    simp only [impl_once.l0]
    rw [rdOf_get h, wrap64_id (n := (i : Int) + 1) (by omega) (by omega), succ_cast, List.drop_eq_getElem_cons h]
    unfold onceM
    refine ev_pos (by omega) (ev_pos (by omega) (ev_pos (by omega) (ev_bind (slices_Contains_string_string_ev acc l[i] (by omega)) ?_)))
    by_cases hm : l[i] ∈ acc
    · rw [if_pos hm]
      exact ev_pos (by simp [hm]) (ih (by omega) acc (by omega))
    · rw [if_neg hm]
      exact ev_neg (by simp [hm]) (ev_pos (by omega) (ih (by omega) (acc ++ [l[i]]) (by simp; omega)))
theorem impl_once_ev (l : List ByteArray) (hl : l.length ≤ 1048576) : Ev (fun k => impl_once.f k l) (onceM [] l) := by
  unfold impl_once.f
  exact ev_eq (impl_once_l0_ev l hl 0 (by omega) [] (by simp)) (by simp)

/-! ### insertions -/
/-- The inner word inserted at a place. -/
def piece (o n : ByteArray) (i : Nat) : ByteArray := (o.extract 0 i ++ n) ++ o.extract i o.size
def insL (o n : ByteArray) (i : Nat) : List ByteArray := (List.range' i (o.size - i)).map (piece o n)
def insM (o n : ByteArray) : List ByteArray := if wordM o && wordM n then onceM [] (insL o n 1) else []
theorem insL_cons {o n : ByteArray} {i : Nat} (h : i < o.size) : insL o n i = piece o n i :: insL o n (i + 1) := by
  unfold insL
  rw [range_cons h, List.map_cons]
theorem insL_nil {o n : ByteArray} {i : Nat} (h : o.size ≤ i) : insL o n i = [] := by
  unfold insL
  rw [range_nil h, List.map_nil]
theorem spec_Insertions_j1_ev (o n : ByteArray) (acc : List ByteArray) (i : Int) : Ev (fun k => spec_Insertions.j1 k o n acc i false) acc := by
  apply ev_succ
  simp only [spec_Insertions.j1]
  exact ev_neg (by simp) (ev_now rfl)
theorem spec_Insertions_l0_ev (o n : ByteArray) (hw : wordM o = true) (hn : wordM n = true) : ∀ i : Nat, i ≤ o.size → ∀ acc : List ByteArray, acc.length ≤ i → Ev (fun k => spec_Insertions.l0 k o n acc i) (onceM acc (insL o n i)) := by
  have ho := wordM_size hw
  have hn' := wordM_size hn
  refine down o.size ?_ ?_
  · intro i h hi acc ha
    apply ev_succ
    simp only [spec_Insertions.l0]
    rw [insL_nil h]
    exact ev_neg (by omega) (spec_Insertions_j1_ev o n acc i)
  · intro i h ih hi acc ha
    apply ev_succ
    simp only [spec_Insertions.l0]
    rw [insL_cons h]
    unfold onceM
    refine ev_pos (by omega) (ev_bind (spec_IsWord_ev o (by omega)) (ev_pos hw (ev_bind (spec_IsWord_ev n (by omega)) (ev_succ ?_))))
    simp only [spec_Insertions.j1]
    rw [wrap64_id (n := (i : Int) + 1) (by omega) (by omega), succ_cast, show (i : Int).toNat = i by omega]
    refine ev_pos hn (ev_pos (by omega) (ev_pos (by omega) (ev_pos (by simp [ByteArray.size_extract]; omega) (ev_pos (by simp [ByteArray.size_extract, ByteArray.size_append]; omega) (ev_bind (spec_HasWord_ev acc _ (by omega)) ?_)))))
    by_cases hm : piece o n i ∈ acc
    · rw [if_pos hm]
      exact ev_pos (by simpa [piece] using hm) (ih (by omega) acc (by omega))
    · rw [if_neg hm]
      exact ev_neg (by simpa [piece] using hm) (ev_pos (by omega) (ih (by omega) _ (by simp; omega)))
theorem spec_Insertions_ev (o n : ByteArray) (ho : o.size ≤ 1048576) (hn : n.size ≤ 1048576) : Ev (fun k => spec_Insertions.f k o n) (insM o n) := by
  unfold spec_Insertions.f insM
  by_cases hw : wordM o = true
  · by_cases hw2 : wordM n = true
    · rw [hw, hw2]
      exact spec_Insertions_l0_ev o n hw hw2 1 (wordM_size hw).1 [] (by simp)
    · apply ev_succ
      simp only [spec_Insertions.l0]
      by_cases h1 : (1 : Int) < (o.size : Int)
      · refine ev_pos h1 (ev_bind (spec_IsWord_ev o (by omega)) (ev_pos hw (ev_bind (spec_IsWord_ev n (by omega)) ?_)))
        rw [Bool.not_eq_true] at hw2
        rw [hw2]
        simpa using spec_Insertions_j1_ev o n [] 1
      · exact ev_neg h1 (by simpa [hw2] using spec_Insertions_j1_ev o n [] 1)
  · apply ev_succ
    simp only [spec_Insertions.l0]
    by_cases h1 : (1 : Int) < (o.size : Int)
    · exact ev_pos h1 (ev_bind (spec_IsWord_ev o (by omega)) (ev_neg hw (by simpa [hw] using spec_Insertions_j1_ev o n [] 1)))
    · exact ev_neg h1 (by simpa [hw] using spec_Insertions_j1_ev o n [] 1)
theorem insL_length (o n : ByteArray) (i : Nat) : (insL o n i).length = o.size - i := by
  simp [insL]
theorem impl_Insertions_l0_ev (o n : ByteArray) (hw : wordM o = true) (hn : wordM n = true) : ∀ i : Nat, i ≤ o.size → ∀ acc : List ByteArray, acc.length ≤ i → Ev (fun k => impl_Insertions.l0 k o n acc i) (onceM [] (acc ++ insL o n i)) := by
  have ho := wordM_size hw
  have hn' := wordM_size hn
  refine down o.size ?_ ?_
  · intro i h hi acc ha
    apply ev_succ
    simp only [impl_Insertions.l0]
    rw [insL_nil h, List.append_nil]
    exact ev_neg (by omega) (ev_bind (impl_once_ev acc (by omega)) (ev_now rfl))
  · intro i h ih hi acc ha
    apply ev_succ
    simp only [impl_Insertions.l0]
    rw [insL_cons h, wrap64_id (n := (i : Int) + 1) (by omega) (by omega), succ_cast, show (i : Int).toNat = i by omega]
    refine ev_pos (by omega) (ev_pos (by omega) (ev_pos (by omega) (ev_pos (by simp [ByteArray.size_extract]; omega) (ev_pos (by simp [ByteArray.size_extract, ByteArray.size_append]; omega) (ev_pos (by omega) ?_)))))
    exact ev_eq (ih (by omega) _ (by simp; omega)) (by simp [piece])
theorem impl_Insertions_ev (o n : ByteArray) (ho : o.size ≤ 1048576) (hn : n.size ≤ 1048576) : Ev (fun k => impl_Insertions.f k o n) (insM o n) := by
  unfold impl_Insertions.f insM
  refine ev_bind (impl_IsWord_ev o (by omega)) ?_
  by_cases hw : wordM o = true
  · refine ev_pos hw (ev_bind (impl_IsWord_ev n (by omega)) (ev_succ ?_))
    simp only [impl_Insertions.j0]
    by_cases hw2 : wordM n = true
    · rw [hw, hw2]
      exact ev_neg (by simp) (impl_Insertions_l0_ev o n hw hw2 1 (wordM_size hw).1 [] (by simp))
    · rw [Bool.not_eq_true] at hw2
      rw [hw2]
      exact ev_pos (by simp) (ev_now (by simp))
  · refine ev_neg hw (ev_succ ?_)
    simp only [impl_Insertions.j0]
    rw [Bool.not_eq_true] at hw
    rw [hw]
    exact ev_pos (by simp) (ev_now (by simp))
theorem insM_length (o n : ByteArray) (h : o.size ≤ 1048576) : (insM o n).length ≤ 1048576 := by
  unfold insM
  split
  · have := onceM_length (insL o n 1) []
    rw [insL_length] at this
    simp at this
    omega
  · simp

/-! ### marks -/
theorem strOfNums_one (n : Int) : (strOfNums [n]).size = 1 := by
  simp [strOfNums, ByteArray.size]
theorem laws_markText_l0_some : ∀ (d : Nat) (n : Int) (x : ByteArray), 0 ≤ n → n < 10 ^ d → x.size + d ≤ 1000 → d ≤ 19 → ∃ r, Ev (fun k => laws_markText.l0 k n x) r := by
  intro d
  induction d with
  | zero =>
    intro n x h0 h1 hx hd
    refine ⟨⟨#[109]⟩ ++ x, ev_succ ?_⟩
    simp only [laws_markText.l0]
    exact ev_neg (by omega) (ev_pos (by omega) (ev_now rfl))
  | succ d ih =>
    intro n x h0 h1 hx hd
    by_cases hn : n > 0
    · have hq : Int.tdiv n 10 = n / 10 := Int.tdiv_eq_ediv_of_nonneg (by omega)
      have h10 : (10 : Int) ^ (d + 1) = 10 ^ d * 10 := by rw [Int.pow_succ]
      have h2 : n / 10 < 10 ^ d := Int.ediv_lt_of_lt_mul (by omega) (by omega)
      have h3 : (10 : Int) ^ (d + 1) ≤ 10 ^ 19 := by
        have := Nat.pow_le_pow_right (n := 10) (by omega) hd
        exact_mod_cast this
      obtain ⟨r, hr⟩ := ih (n / 10) (strOfNums [(wrap64 (48 + Int.tmod n 10)) % 256] ++ x) (by omega) h2 (by rw [ByteArray.size_append, strOfNums_one]; omega) (by omega)
      refine ⟨r, ev_succ ?_⟩
      simp only [laws_markText.l0]
      rw [hq, wrap64_id (n := n / 10) (by omega) (by omega)]
      refine ev_pos hn (ev_let rfl (ev_pos ?_ hr))
      rw [strOfNums_one]
      omega
    · refine ⟨⟨#[109]⟩ ++ x, ev_succ ?_⟩
      simp only [laws_markText.l0]
      exact ev_neg hn (ev_pos (by omega) (ev_now rfl))
theorem laws_markText_some (n : Int) (h0 : 0 ≤ n) (h1 : n ≤ 9223372036854775807) : ∃ r, Ev (fun k => laws_markText.f k n) r := by
  unfold laws_markText.f
  by_cases h : n ≤ 0
  · exact ⟨_, ev_pos h (ev_now rfl)⟩
  · obtain ⟨r, hr⟩ := laws_markText_l0_some 19 n ⟨#[]⟩ h0 (by omega) (by decide) (by omega)
    exact ⟨r, ev_neg h hr⟩
theorem laws_markStringS_l0_ev (L : Nat) (hL : L ≤ 1048576) : ∀ i : Nat, i ≤ L → ∀ (x : List ByteArray) (n : Int), x.length = L → 0 ≤ n → n + (L - i : Nat) ≤ 1000000000000 →
    ∃ y : List ByteArray, y.length = L ∧ (∀ j, j < i → y[j]? = x[j]?) ∧ Ev (fun k => laws_markStringS.l0 k x n i) (n + (L - i : Nat), y) ∧ Ev (fun k => laws_heldStringS.l0 k y n i) (n + (L - i : Nat)) := by
  refine down L ?_ ?_
  · intro i h hi x n hx h0 hn
    refine ⟨x, hx, fun _ _ => rfl, ?_, ?_⟩
    · apply ev_succ
      simp only [laws_markStringS.l0]
      exact ev_neg (by omega) (ev_now (by rw [show L - i = 0 by omega]; simp))
    · apply ev_succ
      simp only [laws_heldStringS.l0]
      exact ev_neg (by omega) (ev_now (by rw [show L - i = 0 by omega]; simp))
  · intro i h ih hi x n hx h0 hn
    obtain ⟨r, hr⟩ := laws_markText_some n h0 (by omega)
    obtain ⟨y, hy, hj, hm, hh⟩ := ih (by omega) (x.set i r) (n + 1) (by simpa using hx) (by omega) (by omega)
    have hyi : y[i]? = some r := by
      rw [hj i (by omega), List.getElem?_set_self (by omega)]
    have hyi' : y[i]'(by omega) = r := by
      rw [List.getElem?_eq_getElem (by omega)] at hyi
      exact Option.some.inj hyi
    refine ⟨y, hy, fun j h' => ?_, ?_, ?_⟩
    · rw [hj j (by omega), List.getElem?_set_ne (by omega)]
    · apply ev_succ
      simp only [laws_markStringS.l0]
      rw [wrap64_id (n := (i : Int) + 1) (by omega) (by omega), wrap64_id (n := n + 1) (by omega) (by omega), succ_cast, show (i : Int).toNat = i by omega]
      exact ev_pos (by omega) (ev_bind hr (ev_pos (by omega) (ev_eq hm (by rw [show L - i = (L - (i + 1)) + 1 by omega]; simp; omega))))
    · apply ev_succ
      simp only [laws_heldStringS.l0]
      rw [wrap64_id (n := (i : Int) + 1) (by omega) (by omega), wrap64_id (n := n + 1) (by omega) (by omega), succ_cast, rdOf_get (by omega), hyi']
      exact ev_pos (by omega) (ev_pos (by omega) (ev_bind hr (ev_pos rfl (ev_eq hh (by rw [show L - i = (L - (i + 1)) + 1 by omega]; simp; omega)))))
/-- What is marked is held. -/
theorem laws_markStringS_ev (x : List ByteArray) (n : Int) (hx : x.length ≤ 1048576) (h0 : 0 ≤ n) (hn : n ≤ 100000000000) :
    ∃ y : List ByteArray, y.length = x.length ∧ Ev (fun k => laws_markStringS.f k x n) (n + x.length, y) ∧ Ev (fun k => laws_heldStringS.f k y n) (n + x.length) := by
  unfold laws_markStringS.f laws_heldStringS.f
  obtain ⟨y, hy, _, hm, hh⟩ := laws_markStringS_l0_ev x.length hx 0 (by omega) x n rfl h0 (by omega)
  exact ⟨y, hy, by simpa using hm, by simpa using hh⟩

/-! ### the law -/
theorem FnExactInsertions (o n : ByteArray) (ho : o.size ≤ 140737488351232) (hn : n.size ≤ 140737488351232) : ∃ k, laws_FnExactInsertions.f k o n = some true := by
  apply Ev.rounds
  unfold laws_FnExactInsertions.f
  by_cases hb : (o.size : Int) > 1048576
  · exact ev_pos hb (ev_now rfl)
  · refine ev_neg hb ?_
    by_cases hc : (n.size : Int) > 1048576
    · exact ev_pos hc (ev_now rfl)
    · have hs := spec_Insertions_ev o n (by omega) (by omega)
      have hi := impl_Insertions_ev o n (by omega) (by omega)
      have hl := insM_length o n (by omega)
      have he : Ev (fun k => laws_eqStringS.f k (insM o n) (insM o n)) true := ev_eq (laws_eqStringS_ev _ _ (by omega)) (by simp)
      obtain ⟨z, hz, hz1, hz2⟩ := laws_markStringS_ev (insM o n) 1 hl (by omega) (by omega)
      exact ev_neg hc (ev_bind hs (ev_bind hi (ev_bind he (ev_pos rfl (ev_bind hz1 (ev_bind hz2 (ev_neg (by omega) (ev_pos rfl (ev_bind hi (ev_bind he (ev_pos rfl (ev_bind hz2 (ev_neg (by omega) (ev_pos rfl (ev_now rfl)))))))))))))))

end Go.Proofs.Ytgmhjinlpikpjab.Pure
