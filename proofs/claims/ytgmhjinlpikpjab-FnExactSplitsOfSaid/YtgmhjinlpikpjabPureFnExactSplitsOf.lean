/-
  The law FnExactSplitsOf over strings and lists: the program's SplitsOf and the reference's answer alike for every word, and what is written into the answer's rows is held there.
  Conditions: none.
-/
import Derived.Test.YtgmhjinlpikpjabQFnExactSplitsOfx
namespace Go.Proofs.Ytgmhjinlpikpjab.Pure
open Go.RowKit Go.Proofs.Ytgmhjinlpikpjab.QFnExactSplitsOf Go.Proofs.YtgmhjinlpikpjabW.PrintWords Go.Proofs.YtgmhjinlpikpjabW.PrintLast Go.Proofs.YtgmhjinlpikpjabW.PrintMore
set_option linter.unusedVariables false
set_option linter.unusedSimpArgs false

/-! ### base -/
theorem wrap64_id {n : Int} (h : -9223372036854775808 ≤ n) (h' : n ≤ 9223372036854775807) : wrap64 n = n := by
  unfold wrap64
  omega
section
variable {α β : Type}
theorem ev_succ {g : Nat → Option α} {r : α} (h : Ev (fun k => g (k + 1)) r) : Ev g r := Ev.step (fun _ => rfl) h
theorem ev_pos {c : Prop} [Decidable c] {g f : Nat → Option α} {r : α} (h : c) (k : Ev g r) : Ev (fun n => if c then g n else f n) r := by
  simpa only [if_pos h] using k
theorem ev_neg {c : Prop} [Decidable c] {g f : Nat → Option α} {r : α} (h : ¬ c) (k : Ev f r) : Ev (fun n => if c then g n else f n) r := by
  simpa only [if_neg h] using k
theorem ev_now {a r : α} (h : a = r) : Ev (fun _ => some a) r := h ▸ Ev.now a
theorem ev_let {o : Option β} {a : β} {f : Nat → β → Option α} {r : α} (h : o = some a) (k : Ev (fun n => f n a) r) : Ev (fun n => o.bind (f n)) r := by
  subst h
  exact k
theorem ev_bind {g : Nat → Option β} {f : Nat → β → Option α} {a : β} {r : α} (h : Ev g a) (k : Ev (fun n => f n a) r) : Ev (fun n => (g n).bind (f n)) r := Ev.bind h k
theorem ev_eq {g : Nat → Option α} {a r : α} (h : Ev g a) (e : a = r) : Ev g r := e ▸ h
end
/-- From the end of a loop back to a round: P holds from n on, and a round below n may use the next. -/
theorem down {P : Nat → Prop} (n : Nat) (hend : ∀ i, n ≤ i → P i) (hstep : ∀ i, i < n → P (i + 1) → P i) : ∀ i, P i := by
  intro i
  rcases Nat.lt_or_ge i n with h | h
  · obtain ⟨d, hd⟩ : ∃ d, n = i + d := ⟨n - i, by omega⟩
    induction d generalizing i with
    | zero => omega
    | succ d ih =>
      refine hstep i h ?_
      rcases Nat.lt_or_ge (i + 1) n with h1 | h1
      · exact ih (i + 1) h1 (by omega)
      · exact hend _ h1
  · exact hend i h
theorem range_cons {i n : Nat} (h : i < n) : List.range' i (n - i) = i :: List.range' (i + 1) (n - (i + 1)) := by
  obtain ⟨d, hd⟩ : ∃ d, n - i = d + 1 := ⟨n - i - 1, by omega⟩
  rw [hd, List.range'_succ, show n - (i + 1) = d by omega]
theorem range_nil {i n : Nat} (h : n ≤ i) : List.range' i (n - i) = [] := by
  rw [show n - i = 0 by omega]
  rfl
theorem succ_cast (i : Nat) : ((i : Int) + 1) = ((i + 1 : Nat) : Int) := by omega

/-! ### lists -/
theorem rdOf_get {α : Type} {d : α} {l : List α} {i : Nat} (h : i < l.length) : rdOf d l (i : Int) = l[i] := by
  unfold rdOf
  simp [h]
theorem rd_get {l : List Int} {i : Nat} (h : i < l.length) : rd l (i : Int) = l[i] := by
  unfold rd
  simp [h]
theorem toList_eq (s : ByteArray) : s.toList = s.data.toList := Go.ByteArray.toList_eq s
instance lawfulBA : LawfulBEq ByteArray where
  eq_of_beq {a b} h := ByteArray.ext (eq_of_beq (α := Array UInt8) h)
  rfl {a} := by
    show (a.data == a.data) = true
    simp
theorem toList_inj {a b : ByteArray} : a.toList = b.toList ↔ a = b := by
  constructor
  · intro h
    rw [toList_eq, toList_eq] at h
    cases a
    cases b
    simp only [ByteArray.mk.injEq]
    exact Array.toList_inj.1 h
  · intro h
    rw [h]
theorem set_known {α : Type} {l x : List α} {i : Nat} {a : α} (hi : i < l.length) (hx : x.length = l.length) (ha : a = l[i]) (h : ∀ j, j < i → x[j]? = l[j]?) : ∀ j, j < i + 1 → (x.set i a)[j]? = l[j]? := by
  intro j hj
  by_cases e : j = i
  · subst e
    rw [List.getElem?_set_self (by omega), ha, List.getElem?_eq_getElem hi]
  · rw [List.getElem?_set_ne (Ne.symm e)]
    exact h j (by omega)
theorem all_known {α : Type} {l x : List α} (hx : x.length = l.length) (h : ∀ j, j < l.length → x[j]? = l[j]?) : x = l := by
  apply List.ext_getElem?
  intro j
  by_cases hj : j < l.length
  · exact h j hj
  · rw [List.getElem?_eq_none (by omega), List.getElem?_eq_none (by omega)]

/-! ### word -/
/-- A byte is a small letter. -/
def isL (c : Int) : Bool := decide (97 ≤ c ∧ c ≤ 122)
/-- A word: one to eight small letters. -/
def wordM (s : ByteArray) : Bool := decide (1 ≤ s.size ∧ s.size ≤ 8) && (List.range' 0 (s.size - 0)).all fun j => isL (bt s j)
theorem spec_l1In_eq (a b c : Int) : spec_l1In.f a b c = some (decide (b ≤ a ∧ a ≤ c)) := by
  unfold spec_l1In.f
  by_cases h : b ≤ a
  · rw [if_pos h]; simp [h]
  · rw [if_neg h]; simp [h]
theorem impl_InRange_eq (a b c : Int) : impl_InRange.f a b c = some (decide (b ≤ a ∧ a ≤ c)) := by
  unfold impl_InRange.f
  by_cases h : b ≤ a
  · rw [if_pos h]; simp [h]
  · rw [if_neg h]; simp [h]
theorem impl_isLetter_eq (c : Int) : impl_isLetter.f c = some (isL c) := by
  unfold impl_isLetter.f isL
  by_cases h : c ≥ 97
  · rw [if_pos h]; congr 1; simp; omega
  · rw [if_neg h]; congr 1; simp; omega
theorem spec_IsWord_l0_ev (s : ByteArray) (hs : s.size ≤ 140737488351232) : ∀ i : Nat, i ≤ s.size → Ev (fun k => spec_IsWord.l0 k s i) ((List.range' i (s.size - i)).all fun j => isL (bt s j)) := by
  refine down s.size ?_ ?_
  · intro i h hi
    apply ev_succ
    simp only [spec_IsWord.l0]
    refine ev_neg (by omega) (ev_now ?_)
    rw [range_nil h]; rfl
  · intro i h ih hi
    apply ev_succ
    simp only [spec_IsWord.l0]
    rw [range_cons h, List.all_cons, wrap64_id (by omega) (by omega), succ_cast]
    refine ev_pos (by omega) (ev_pos (by omega) ?_)
    by_cases h1 : bt s i < 97
    · exact ev_pos h1 (ev_now (by simp [isL]; omega))
    · refine ev_neg h1 ?_
      by_cases h2 : bt s i > 122
      · exact ev_pos h2 (ev_now (by simp [isL]; omega))
      · refine ev_neg h2 (ev_eq (ih (by omega)) ?_)
        rw [show isL (bt s i) = true by simp [isL]; omega, Bool.true_and]
theorem impl_IsWord_l0_ev (s : ByteArray) (hs : s.size ≤ 140737488351232) : ∀ i : Nat, i ≤ s.size → Ev (fun k => impl_IsWord.l0 k s s.size i) ((List.range' i (s.size - i)).all fun j => isL (bt s j)) := by
  refine down s.size ?_ ?_
  · intro i h hi
    apply ev_succ
    simp only [impl_IsWord.l0]
    refine ev_neg (by omega) (ev_now ?_)
    rw [range_nil h]; rfl
  · intro i h ih hi
    apply ev_succ
    simp only [impl_IsWord.l0]
    rw [range_cons h, List.all_cons, wrap64_id (by omega) (by omega), succ_cast]
    refine ev_pos (by omega) (ev_pos (by omega) (ev_pos (by omega) (ev_let (impl_isLetter_eq _) ?_)))
    cases isL (bt s i)
    · exact ev_neg (by simp) (ev_now (by simp))
    · exact ev_pos rfl (ev_eq (ih (by omega)) (by simp))
theorem spec_IsWord_ev (s : ByteArray) (hs : s.size ≤ 140737488351232) : Ev (fun k => spec_IsWord.f k s) (wordM s) := by
  simp only [spec_IsWord.f]
  refine ev_let (spec_l1In_eq _ _ _) ?_
  by_cases h : 1 ≤ s.size ∧ s.size ≤ 8
  · refine ev_pos (by simp; omega) (ev_eq (spec_IsWord_l0_ev s hs 0 (by omega)) ?_)
    simp [wordM, h]
  · refine ev_neg (by simp; omega) (ev_now ?_)
    simp [wordM, h]
theorem impl_IsWord_ev (s : ByteArray) (hs : s.size ≤ 140737488351232) : Ev (fun k => impl_IsWord.f k s) (wordM s) := by
  simp only [impl_IsWord.f]
  refine ev_let (impl_InRange_eq _ _ _) ?_
  by_cases h : 1 ≤ s.size ∧ s.size ≤ 8
  · refine ev_pos (by simp; omega) (ev_eq (impl_IsWord_l0_ev s hs 0 (by omega)) ?_)
    simp [wordM, h]
  · refine ev_neg (by simp; omega) (ev_now ?_)
    simp [wordM, h]
theorem wordM_size {s : ByteArray} (h : wordM s = true) : 1 ≤ s.size ∧ s.size ≤ 8 := by
  simp only [wordM, Bool.and_eq_true, decide_eq_true_eq] at h
  exact h.1

/-! ### strs -/
def total (l : List ByteArray) : Nat := (l.map ByteArray.size).sum
theorem total_drop {l : List ByteArray} {i : Nat} (h : i < l.length) : total (l.drop i) = l[i].size + total (l.drop (i + 1)) := by
  rw [List.drop_eq_getElem_cons h]
  rfl
theorem laws_eqStringS_l0_ev (a b : List ByteArray) (hl : a.length = b.length) (hb : a.length ≤ 9223372036854775806) : ∀ i : Nat, i ≤ a.length → Ev (fun k => laws_eqStringS.l0 k a b i) (decide (a.drop i = b.drop i)) := by
  refine down a.length ?_ ?_
  · intro i h hi
    apply ev_succ
    simp only [laws_eqStringS.l0]
    refine ev_neg (by omega) (ev_now ?_)
    rw [List.drop_eq_nil_of_le h, List.drop_eq_nil_of_le (by omega)]
    simp
  · intro i h ih hi
    have h' : i < b.length := by omega
    apply ev_succ
    simp only [laws_eqStringS.l0]
    rw [rdOf_get h, rdOf_get h', wrap64_id (n := (i : Int) + 1) (by omega) (by omega), succ_cast, List.drop_eq_getElem_cons h, List.drop_eq_getElem_cons h']
    refine ev_pos (by omega) (ev_pos (by omega) (ev_pos (by omega) ?_))
    by_cases he : a[i].toList = b[i].toList
    · refine ev_pos he (ev_eq (ih (by omega)) ?_)
      rw [toList_inj] at he
      rw [he]
      simp [-List.getElem_cons_drop]
    · refine ev_neg he (ev_now ?_)
      rw [toList_inj] at he
      symm
      simp only [decide_eq_false_iff_not, List.cons.injEq]
      exact fun h => he h.1
theorem laws_eqStringS_ev (a b : List ByteArray) (hb : a.length ≤ 9223372036854775806) : Ev (fun k => laws_eqStringS.f k a b) (decide (a = b)) := by
  unfold laws_eqStringS.f
  by_cases h : a.length = b.length
  · exact ev_pos (by omega) (ev_eq (laws_eqStringS_l0_ev a b h hb 0 (by omega)) (by simp))
  · exact ev_neg (by omega) (ev_now (by symm; simp; intro e; exact h (by rw [e])))

/-! ### choices -/
theorem rd_rows_get {l : List (List ByteArray)} {i : Nat} (h : i < l.length) : rd_L1 l (i : Int) = l[i] := by
  unfold rd_L1
  simp [h]
theorem laws_eqStringSS_l0_ev (a b : List (List ByteArray)) (hl : a.length = b.length) (hb : a.length ≤ 9223372036854775806) (hs : ∀ x ∈ a, x.length ≤ 9223372036854775806) : ∀ i : Nat, i ≤ a.length → Ev (fun k => laws_eqStringSS.l0 k a b i) (decide (a.drop i = b.drop i)) := by
  refine down a.length ?_ ?_
  · intro i h hi
    apply ev_succ
    simp only [laws_eqStringSS.l0]
    refine ev_neg (by omega) (ev_now ?_)
    rw [List.drop_eq_nil_of_le h, List.drop_eq_nil_of_le (by omega)]
    simp
  · intro i h ih hi
    have h' : i < b.length := by omega
    have hb1 := hs a[i] (List.getElem_mem h)
    apply ev_succ
    simp only [laws_eqStringSS.l0]
    rw [rd_rows_get h, rd_rows_get h', wrap64_id (n := (i : Int) + 1) (by omega) (by omega), succ_cast, List.drop_eq_getElem_cons h, List.drop_eq_getElem_cons h']
    refine ev_pos (by omega) (ev_pos (by omega) (ev_pos (by omega) (ev_bind (laws_eqStringS_ev a[i] b[i] hb1) ?_)))
    by_cases he : a[i] = b[i]
    · refine ev_pos (by simpa using he) (ev_eq (ih (by omega)) ?_)
      rw [he]
      simp [-List.getElem_cons_drop]
    · refine ev_neg (by simpa using he) (ev_now ?_)
      symm
      simp only [decide_eq_false_iff_not, List.cons.injEq]
      exact fun h => he h.1
theorem laws_eqStringSS_ev (a b : List (List ByteArray)) (hb : a.length ≤ 9223372036854775806) (hs : ∀ x ∈ a, x.length ≤ 9223372036854775806) : Ev (fun k => laws_eqStringSS.f k a b) (decide (a = b)) := by
  unfold laws_eqStringSS.f
  by_cases h : a.length = b.length
  · exact ev_pos (by omega) (ev_eq (laws_eqStringSS_l0_ev a b h hb hs 0 (by omega)) (by simp))
  · exact ev_neg (by omega) (ev_now (by symm; simp; intro e; exact h (by rw [e])))

/-! ### splits -/
/-- A word, parted at a place. -/
def partAt (w : ByteArray) (i : Nat) : List ByteArray := [w.extract 0 i, w.extract i w.size]
def splitsM (w : ByteArray) : List (List ByteArray) := if wordM w then (List.range' 1 (w.size - 1)).map (partAt w) else []
theorem splitsM_length (w : ByteArray) : (splitsM w).length ≤ 8 := by
  unfold splitsM
  split
  · rename_i h
    have := wordM_size h
    simp
    omega
  · simp
theorem splitsM_two {w : ByteArray} {y : List ByteArray} (h : y ∈ splitsM w) : y.length = 2 := by
  unfold splitsM at h
  split at h
  · obtain ⟨i, _, rfl⟩ := List.mem_map.1 h
    rfl
  · cases h
theorem impl_SplitsOf_l0_ev (w : ByteArray) (hw : wordM w = true) : ∀ i : Nat, i ≤ w.size → ∀ acc : List (List ByteArray), acc.length ≤ i → Ev (fun k => impl_SplitsOf.l0 k w acc i) (acc ++ (List.range' i (w.size - i)).map (partAt w)) := by
  have hs := wordM_size hw
  refine down w.size ?_ ?_
  · intro i h hi acc ha
    apply ev_succ
    simp only [impl_SplitsOf.l0]
    rw [range_nil h]
    exact ev_neg (by omega) (ev_now (by simp))
  · intro i h ih hi acc ha
    apply ev_succ
    simp only [impl_SplitsOf.l0]
    rw [range_cons h, wrap64_id (n := (i : Int) + 1) (by omega) (by omega), succ_cast, show (i : Int).toNat = i by omega]
    exact ev_pos (by omega) (ev_pos (by omega) (ev_pos (by omega) (ev_pos (by omega) (ev_eq (ih (by omega) _ (by simp; omega)) (by simp [partAt])))))
theorem impl_SplitsOf_ev (w : ByteArray) (hs : w.size ≤ 1048576) : Ev (fun k => impl_SplitsOf.f k w) (splitsM w) := by
  unfold impl_SplitsOf.f splitsM
  refine ev_bind (impl_IsWord_ev w (by omega)) ?_
  by_cases hw : wordM w = true
  · rw [if_pos hw]
    exact ev_pos hw (ev_eq (impl_SplitsOf_l0_ev w hw 1 (wordM_size hw).1 [] (by simp)) (by simp))
  · rw [if_neg hw]
    exact ev_neg hw (ev_now rfl)
theorem spec_SplitsOf_l0_ev (w : ByteArray) (hw : wordM w = true) : ∀ i : Nat, i ≤ w.size → ∀ acc : List (List ByteArray), acc.length ≤ i → Ev (fun k => spec_SplitsOf.l0 k w acc i) (acc ++ (List.range' i (w.size - i)).map (partAt w)) := by
  have hs := wordM_size hw
  refine down w.size ?_ ?_
  · intro i h hi acc ha
    apply ev_succ
    simp only [spec_SplitsOf.l0]
    rw [range_nil h]
    exact ev_neg (by omega) (ev_now (by simp))
  · intro i h ih hi acc ha
    apply ev_succ
    simp only [spec_SplitsOf.l0]
    rw [range_cons h, wrap64_id (n := (i : Int) + 1) (by omega) (by omega), succ_cast, show (i : Int).toNat = i by omega]
    exact ev_pos (by omega) (ev_bind (spec_IsWord_ev w (by omega)) (ev_pos hw (ev_pos (by omega) (ev_pos (by omega) (ev_pos (by omega) (ev_eq (ih (by omega) _ (by simp; omega)) (by simp [partAt])))))))
theorem spec_SplitsOf_ev (w : ByteArray) (hs : w.size ≤ 1048576) : Ev (fun k => spec_SplitsOf.f k w) (splitsM w) := by
  unfold spec_SplitsOf.f splitsM
  by_cases hw : wordM w = true
  · rw [if_pos hw]
    exact ev_eq (spec_SplitsOf_l0_ev w hw 1 (wordM_size hw).1 [] (by simp)) (by simp)
  · rw [if_neg hw]
    apply ev_succ
    simp only [spec_SplitsOf.l0]
    by_cases h : (1 : Int) < (w.size : Int)
    · exact ev_pos h (ev_bind (spec_IsWord_ev w (by omega)) (ev_neg hw (ev_now rfl)))
    · exact ev_neg h (ev_now rfl)

/-! ### marks -/
theorem strOfNums_one (n : Int) : (strOfNums [n]).size = 1 := by
  simp [strOfNums, ByteArray.size]
theorem laws_markText_l0_some : ∀ (d : Nat) (n : Int) (x : ByteArray), 0 ≤ n → n < 10 ^ d → x.size + d ≤ 1000 → d ≤ 19 → ∃ r, Ev (fun k => laws_markText.l0 k n x) r := by
  intro d
  induction d with
  | zero =>
    intro n x h0 h1 hx hd
    refine ⟨⟨#[109]⟩ ++ x, ev_succ ?_⟩
    simp only [laws_markText.l0]
    exact ev_neg (by omega) (ev_pos (by omega) (ev_now rfl))
  | succ d ih =>
    intro n x h0 h1 hx hd
    by_cases hn : n > 0
    · have hq : Int.tdiv n 10 = n / 10 := Int.tdiv_eq_ediv_of_nonneg (by omega)
      have h10 : (10 : Int) ^ (d + 1) = 10 ^ d * 10 := by rw [Int.pow_succ]
      have h2 : n / 10 < 10 ^ d := Int.ediv_lt_of_lt_mul (by omega) (by omega)
      have h3 : (10 : Int) ^ (d + 1) ≤ 10 ^ 19 := by
        have := Nat.pow_le_pow_right (n := 10) (by omega) hd
        exact_mod_cast this
      obtain ⟨r, hr⟩ := ih (n / 10) (strOfNums [(wrap64 (48 + Int.tmod n 10)) % 256] ++ x) (by omega) h2 (by rw [ByteArray.size_append, strOfNums_one]; omega) (by omega)
      refine ⟨r, ev_succ ?_⟩
      simp only [laws_markText.l0]
      rw [hq, wrap64_id (n := n / 10) (by omega) (by omega)]
      refine ev_pos hn (ev_let rfl (ev_pos ?_ hr))
      rw [strOfNums_one]
      omega
    · refine ⟨⟨#[109]⟩ ++ x, ev_succ ?_⟩
      simp only [laws_markText.l0]
      exact ev_neg hn (ev_pos (by omega) (ev_now rfl))
theorem laws_markText_some (n : Int) (h0 : 0 ≤ n) (h1 : n ≤ 9223372036854775807) : ∃ r, Ev (fun k => laws_markText.f k n) r := by
  unfold laws_markText.f
  by_cases h : n ≤ 0
  · exact ⟨_, ev_pos h (ev_now rfl)⟩
  · obtain ⟨r, hr⟩ := laws_markText_l0_some 19 n ⟨#[]⟩ h0 (by omega) (by decide) (by omega)
    exact ⟨r, ev_neg h hr⟩
theorem laws_markStringS_l0_ev (L : Nat) (hL : L ≤ 1048576) : ∀ i : Nat, i ≤ L → ∀ (x : List ByteArray) (n : Int), x.length = L → 0 ≤ n → n + (L - i : Nat) ≤ 1000000000000 →
    ∃ y : List ByteArray, y.length = L ∧ (∀ j, j < i → y[j]? = x[j]?) ∧ Ev (fun k => laws_markStringS.l0 k x n i) (n + (L - i : Nat), y) ∧ Ev (fun k => laws_heldStringS.l0 k y n i) (n + (L - i : Nat)) := by
  refine down L ?_ ?_
  · intro i h hi x n hx h0 hn
    refine ⟨x, hx, fun _ _ => rfl, ?_, ?_⟩
    · apply ev_succ
      simp only [laws_markStringS.l0]
      exact ev_neg (by omega) (ev_now (by rw [show L - i = 0 by omega]; simp))
    · apply ev_succ
      simp only [laws_heldStringS.l0]
      exact ev_neg (by omega) (ev_now (by rw [show L - i = 0 by omega]; simp))
  · intro i h ih hi x n hx h0 hn
    obtain ⟨r, hr⟩ := laws_markText_some n h0 (by omega)
    obtain ⟨y, hy, hj, hm, hh⟩ := ih (by omega) (x.set i r) (n + 1) (by simpa using hx) (by omega) (by omega)
    have hyi : y[i]? = some r := by
      rw [hj i (by omega), List.getElem?_set_self (by omega)]
    have hyi' : y[i]'(by omega) = r := by
      rw [List.getElem?_eq_getElem (by omega)] at hyi
      exact Option.some.inj hyi
    refine ⟨y, hy, fun j h' => ?_, ?_, ?_⟩
    · rw [hj j (by omega), List.getElem?_set_ne (by omega)]
    · apply ev_succ
      simp only [laws_markStringS.l0]
      rw [wrap64_id (n := (i : Int) + 1) (by omega) (by omega), wrap64_id (n := n + 1) (by omega) (by omega), succ_cast, show (i : Int).toNat = i by omega]
      exact ev_pos (by omega) (ev_bind hr (ev_pos (by omega) (ev_eq hm (by rw [show L - i = (L - (i + 1)) + 1 by omega]; simp; omega))))
    · apply ev_succ
      simp only [laws_heldStringS.l0]
      rw [wrap64_id (n := (i : Int) + 1) (by omega) (by omega), wrap64_id (n := n + 1) (by omega) (by omega), succ_cast, rdOf_get (by omega), hyi']
      exact ev_pos (by omega) (ev_pos (by omega) (ev_bind hr (ev_pos rfl (ev_eq hh (by rw [show L - i = (L - (i + 1)) + 1 by omega]; simp; omega)))))
/-- What is marked is held. -/
theorem laws_markStringS_ev (x : List ByteArray) (n : Int) (hx : x.length ≤ 1048576) (h0 : 0 ≤ n) (hn : n ≤ 100000000000) :
    ∃ y : List ByteArray, y.length = x.length ∧ Ev (fun k => laws_markStringS.f k x n) (n + x.length, y) ∧ Ev (fun k => laws_heldStringS.f k y n) (n + x.length) := by
  unfold laws_markStringS.f laws_heldStringS.f
  obtain ⟨y, hy, _, hm, hh⟩ := laws_markStringS_l0_ev x.length hx 0 (by omega) x n rfl h0 (by omega)
  exact ⟨y, hy, by simpa using hm, by simpa using hh⟩

/-! ### marksss -/
theorem sum_le {l : List (List ByteArray)} {b : Nat} (h : ∀ y ∈ l, y.length ≤ b) : (l.map List.length).sum ≤ l.length * b := by
  induction l with
  | nil => simp
  | cons a l ih =>
    have := ih (fun y hy => h y (by simp [hy]))
    have := h a (by simp)
    rw [List.map_cons, List.sum_cons, List.length_cons, Nat.add_mul]
    omega
theorem marks_getD {l : List (List ByteArray)} {i : Nat} (h : i < l.length) : l.getD i [] = l[i] := by simp [h]
theorem laws_markStringSS_l0_ev (L : Nat) (hL : L ≤ 1048576) : ∀ i : Nat, i ≤ L → ∀ (x : List (List ByteArray)) (n : Int), x.length = L → (∀ y ∈ x, y.length ≤ 1048576) → 0 ≤ n → n + (((x.drop i).map List.length).sum : Nat) ≤ 100000000000 →
    ∃ (y : List (List ByteArray)) (q : Int), 0 ≤ q ∧ y.length = L ∧ (∀ j, j < i → y[j]? = x[j]?) ∧ Ev (fun k => laws_markStringSS.l0 k x n i) (q, y) ∧ Ev (fun k => laws_heldStringSS.l0 k y n i) q := by
  refine down L ?_ ?_
  · intro i h hi x n hx _ h0 hn
    refine ⟨x, n, h0, hx, fun _ _ => rfl, ?_, ?_⟩
    · apply ev_succ
      simp only [laws_markStringSS.l0]
      exact ev_neg (by omega) (ev_now rfl)
    · apply ev_succ
      simp only [laws_heldStringSS.l0]
      exact ev_neg (by omega) (ev_now rfl)
  · intro i h ih hi x n hx hs h0 hn
    rw [List.drop_eq_getElem_cons (show i < x.length by omega), List.map_cons, List.sum_cons] at hn
    have hxi : x[i].length ≤ 1048576 := hs _ (List.getElem_mem (by omega))
    obtain ⟨z, hz, hm, hh⟩ := laws_markStringS_ev x[i] n hxi h0 (by omega)
    obtain ⟨y, q, hq, hy, hj, hm2, hh2⟩ := ih (by omega) (x.set i z) (n + x[i].length) (by simpa using hx) (fun y hy => by
      rcases List.mem_or_eq_of_mem_set hy with h1 | h1
      · exact hs y h1
      · rw [h1, hz]; exact hxi) (by omega) (by rw [List.drop_set_of_lt (by omega)]; omega)
    have hyi : y[i]? = some z := by
      rw [hj i (by omega), List.getElem?_set_self (by omega)]
    have hyi' : y[i]'(by omega) = z := by
      rw [List.getElem?_eq_getElem (by omega)] at hyi
      exact Option.some.inj hyi
    refine ⟨y, q, hq, hy, fun j h' => ?_, ?_, ?_⟩
    · rw [hj j (by omega), List.getElem?_set_ne (by omega)]
    · apply ev_succ
      simp only [laws_markStringSS.l0]
      rw [marks_getD (by omega)]
      exact ev_pos (by omega) (ev_bind hm hm2)
    · apply ev_succ
      simp only [laws_heldStringSS.l0]
      rw [wrap64_id (n := (i : Int) + 1) (by omega) (by omega), succ_cast, rd_rows_get (by omega), hyi']
      exact ev_pos (by omega) (ev_pos (by omega) (ev_bind hh (ev_neg (by omega) hh2)))
/-- What is marked, row by row, is held. -/
theorem laws_markStringSS_ev (x : List (List ByteArray)) (hx : x.length ≤ 1048576) (hs : ∀ y ∈ x, y.length ≤ 1048576) (ht : (x.map List.length).sum ≤ 10000000000) :
    ∃ (y : List (List ByteArray)) (q : Int), 0 ≤ q ∧ Ev (fun k => laws_markStringSS.f k x 1) (q, y) ∧ Ev (fun k => laws_heldStringSS.f k y 1) q := by
  unfold laws_markStringSS.f laws_heldStringSS.f
  obtain ⟨y, q, hq, _, _, hm, hh⟩ := laws_markStringSS_l0_ev x.length hx 0 (by omega) x 1 rfl hs (by omega) (by rw [List.drop_zero]; omega)
  exact ⟨y, q, hq, ev_pos hx (by simpa using hm), by simpa using hh⟩

/-! ### the law -/
theorem FnExactSplitsOf (w : ByteArray) (_ : w.size ≤ 140737488351232) : ∃ k, laws_FnExactSplitsOf.f k w = some true := by
  apply Ev.rounds
  unfold laws_FnExactSplitsOf.f
  by_cases hb : (w.size : Int) > 1048576
  · exact ev_pos hb (ev_now rfl)
  · have hl := splitsM_length w
    have hs : ∀ y ∈ splitsM w, y.length ≤ 1048576 := fun y hy => by have := splitsM_two hy; omega
    obtain ⟨y, q, hq, hm, hh⟩ := laws_markStringSS_ev (splitsM w) (by omega) hs (by have := sum_le (b := 2) (fun y hy => by have := splitsM_two hy; omega : ∀ y ∈ splitsM w, y.length ≤ 2); omega)
    exact ev_neg hb (ev_bind (spec_SplitsOf_ev w (by omega)) (ev_bind (impl_SplitsOf_ev w (by omega)) (ev_bind (laws_eqStringSS_ev _ _ (by omega) (fun x h => by have := hs x h; omega)) (ev_bind hm (ev_bind hh (ev_pos (by simp; omega) (ev_now rfl)))))))

end Go.Proofs.Ytgmhjinlpikpjab.Pure
