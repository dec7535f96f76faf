/-
  The law FnExactDomainsOf over numbers and lists: the program's DomainsOf and the reference's answer alike for every grid, fill and list of words, and what is written into the answer's rows is held there.
  Conditions: none.
-/
import Derived.Test.YtgmhjinlpikpjafQFnExactDomainsOfx
namespace Go.Proofs.Ytgmhjinlpikpjaf.Pure
open Go.RowKit Go.Proofs.Ytgmhjinlpikpjaf.QFnExactDomainsOf Go.Proofs.YtgmhjinlpikpjafW.PrintWords Go.Proofs.YtgmhjinlpikpjafW.PrintLast Go.Proofs.YtgmhjinlpikpjafW.PrintMore
set_option linter.unusedVariables false
set_option linter.unusedSimpArgs false

/-! ### base -/
theorem wrap64_id {n : Int} (h : -9223372036854775808 ≤ n) (h' : n ≤ 9223372036854775807) : wrap64 n = n := by
  unfold wrap64
  omega
section
variable {α β : Type}
theorem ev_succ {g : Nat → Option α} {r : α} (h : Ev (fun k => g (k + 1)) r) : Ev g r := Ev.step (fun _ => rfl) h
theorem ev_pos {c : Prop} [Decidable c] {g f : Nat → Option α} {r : α} (h : c) (k : Ev g r) : Ev (fun n => if c then g n else f n) r := by
  simpa only [if_pos h] using k
theorem ev_neg {c : Prop} [Decidable c] {g f : Nat → Option α} {r : α} (h : ¬ c) (k : Ev f r) : Ev (fun n => if c then g n else f n) r := by
  simpa only [if_neg h] using k
theorem ev_now {a r : α} (h : a = r) : Ev (fun _ => some a) r := h ▸ Ev.now a
theorem ev_let {o : Option β} {a : β} {f : Nat → β → Option α} {r : α} (h : o = some a) (k : Ev (fun n => f n a) r) : Ev (fun n => o.bind (f n)) r := by
  subst h
  exact k
theorem ev_bind {g : Nat → Option β} {f : Nat → β → Option α} {a : β} {r : α} (h : Ev g a) (k : Ev (fun n => f n a) r) : Ev (fun n => (g n).bind (f n)) r := Ev.bind h k
theorem ev_eq {g : Nat → Option α} {a r : α} (h : Ev g a) (e : a = r) : Ev g r := e ▸ h
end
/-- From the end of a loop back to a round: P holds from n on, and a round below n may use the next. -/
theorem down {P : Nat → Prop} (n : Nat) (hend : ∀ i, n ≤ i → P i) (hstep : ∀ i, i < n → P (i + 1) → P i) : ∀ i, P i := by
  intro i
  rcases Nat.lt_or_ge i n with h | h
  · obtain ⟨d, hd⟩ : ∃ d, n = i + d := ⟨n - i, by omega⟩
    induction d generalizing i with
    | zero => omega
    | succ d ih =>
      refine hstep i h ?_
      rcases Nat.lt_or_ge (i + 1) n with h1 | h1
      · exact ih (i + 1) h1 (by omega)
      · exact hend _ h1
  · exact hend i h
theorem range_cons {i n : Nat} (h : i < n) : List.range' i (n - i) = i :: List.range' (i + 1) (n - (i + 1)) := by
  obtain ⟨d, hd⟩ : ∃ d, n - i = d + 1 := ⟨n - i - 1, by omega⟩
  rw [hd, List.range'_succ, show n - (i + 1) = d by omega]
theorem range_nil {i n : Nat} (h : n ≤ i) : List.range' i (n - i) = [] := by
  rw [show n - i = 0 by omega]
  rfl
theorem succ_cast (i : Nat) : ((i : Int) + 1) = ((i + 1 : Nat) : Int) := by omega

/-! ### word -/
/-- A byte is a small letter. -/
def isL (c : Int) : Bool := decide (97 ≤ c ∧ c ≤ 122)
/-- A word: one to eight small letters. -/
def wordM (s : ByteArray) : Bool := decide (1 ≤ s.size ∧ s.size ≤ 8) && (List.range' 0 (s.size - 0)).all fun j => isL (bt s j)
theorem spec_l1In_eq (a b c : Int) : spec_l1In.f a b c = some (decide (b ≤ a ∧ a ≤ c)) := by
  unfold spec_l1In.f
  by_cases h : b ≤ a
  · rw [if_pos h]; simp [h]
  · rw [if_neg h]; simp [h]
theorem impl_InRange_eq (a b c : Int) : impl_InRange.f a b c = some (decide (b ≤ a ∧ a ≤ c)) := by
  unfold impl_InRange.f
  by_cases h : b ≤ a
  · rw [if_pos h]; simp [h]
  · rw [if_neg h]; simp [h]
theorem impl_isLetter_eq (c : Int) : impl_isLetter.f c = some (isL c) := by
  unfold impl_isLetter.f isL
  by_cases h : c ≥ 97
  · rw [if_pos h]; congr 1; simp; omega
  · rw [if_neg h]; congr 1; simp; omega
theorem spec_IsWord_l0_ev (s : ByteArray) (hs : s.size ≤ 140737488351232) : ∀ i : Nat, i ≤ s.size → Ev (fun k => spec_IsWord.l0 k s i) ((List.range' i (s.size - i)).all fun j => isL (bt s j)) := by
  refine down s.size ?_ ?_
  · intro i h hi
    apply ev_succ
    simp only [spec_IsWord.l0]
    refine ev_neg (by omega) (ev_now ?_)
    rw [range_nil h]; rfl
  · intro i h ih hi
    apply ev_succ
    simp only [spec_IsWord.l0]
    rw [range_cons h, List.all_cons, wrap64_id (by omega) (by omega), succ_cast]
    refine ev_pos (by omega) (ev_pos (by omega) ?_)
    by_cases h1 : bt s i < 97
    · exact ev_pos h1 (ev_now (by simp [isL]; omega))
    · refine ev_neg h1 ?_
      by_cases h2 : bt s i > 122
      · exact ev_pos h2 (ev_now (by simp [isL]; omega))
      · refine ev_neg h2 (ev_eq (ih (by omega)) ?_)
        rw [show isL (bt s i) = true by simp [isL]; omega, Bool.true_and]
theorem impl_IsWord_l0_ev (s : ByteArray) (hs : s.size ≤ 140737488351232) : ∀ i : Nat, i ≤ s.size → Ev (fun k => impl_IsWord.l0 k s s.size i) ((List.range' i (s.size - i)).all fun j => isL (bt s j)) := by
  refine down s.size ?_ ?_
  · intro i h hi
    apply ev_succ
    simp only [impl_IsWord.l0]
    refine ev_neg (by omega) (ev_now ?_)
    rw [range_nil h]; rfl
  · intro i h ih hi
    apply ev_succ
    simp only [impl_IsWord.l0]
    rw [range_cons h, List.all_cons, wrap64_id (by omega) (by omega), succ_cast]
    refine ev_pos (by omega) (ev_pos (by omega) (ev_pos (by omega) (ev_let (impl_isLetter_eq _) ?_)))
    cases isL (bt s i)
    · exact ev_neg (by simp) (ev_now (by simp))
    · exact ev_pos rfl (ev_eq (ih (by omega)) (by simp))
theorem spec_IsWord_ev (s : ByteArray) (hs : s.size ≤ 140737488351232) : Ev (fun k => spec_IsWord.f k s) (wordM s) := by
  simp only [spec_IsWord.f]
  refine ev_let (spec_l1In_eq _ _ _) ?_
  by_cases h : 1 ≤ s.size ∧ s.size ≤ 8
  · refine ev_pos (by simp; omega) (ev_eq (spec_IsWord_l0_ev s hs 0 (by omega)) ?_)
    simp [wordM, h]
  · refine ev_neg (by simp; omega) (ev_now ?_)
    simp [wordM, h]
theorem impl_IsWord_ev (s : ByteArray) (hs : s.size ≤ 140737488351232) : Ev (fun k => impl_IsWord.f k s) (wordM s) := by
  simp only [impl_IsWord.f]
  refine ev_let (impl_InRange_eq _ _ _) ?_
  by_cases h : 1 ≤ s.size ∧ s.size ≤ 8
  · refine ev_pos (by simp; omega) (ev_eq (impl_IsWord_l0_ev s hs 0 (by omega)) ?_)
    simp [wordM, h]
  · refine ev_neg (by simp; omega) (ev_now ?_)
    simp [wordM, h]
theorem wordM_size {s : ByteArray} (h : wordM s = true) : 1 ≤ s.size ∧ s.size ≤ 8 := by
  simp only [wordM, Bool.and_eq_true, decide_eq_true_eq] at h
  exact h.1

/-! ### fits -/
def isQ (c : Int) : Bool := decide (c = 63) || isL c
/-- A pattern: one to eight small letters and question marks. -/
def patOk (p : ByteArray) : Bool := decide (1 ≤ p.size ∧ p.size ≤ 8) && (List.range' 0 (p.size - 0)).all fun j => isQ (bt p j)
/-- A word fits a pattern. -/
def fitsM (p w : ByteArray) : Bool := patOk p && (wordM w && (decide (p.size = w.size) && (List.range' 0 (p.size - 0)).all fun j => decide (bt p j = 63 ∨ bt p j = bt w j)))
theorem spec_IsPattern_l0_ev (s : ByteArray) (hs : s.size ≤ 140737488351232) : ∀ i : Nat, i ≤ s.size → Ev (fun k => spec_IsPattern.l0 k s i) ((List.range' i (s.size - i)).all fun j => isQ (bt s j)) := by
  refine down s.size ?_ ?_
  · intro i h hi
    apply ev_succ
    simp only [spec_IsPattern.l0]
    refine ev_neg (by omega) (ev_now ?_)
    rw [range_nil h]; rfl
  · intro i h ih hi
    apply ev_succ
    simp only [spec_IsPattern.l0]
    rw [range_cons h, List.all_cons, wrap64_id (by omega) (by omega), succ_cast]
    refine ev_pos (by omega) (ev_pos (by omega) ?_)
    by_cases h0 : bt s i = 63
    · exact ev_pos h0 (ev_eq (ih (by omega)) (by simp [isQ, h0]))
    · refine ev_neg h0 ?_
      by_cases h1 : bt s i < 97
      · exact ev_pos h1 (ev_now (by simp [isQ, isL, h0]; omega))
      · refine ev_neg h1 ?_
        by_cases h2 : bt s i > 122
        · exact ev_pos h2 (ev_now (by simp [isQ, isL, h0]; omega))
        · refine ev_neg h2 (ev_eq (ih (by omega)) ?_)
          rw [show isQ (bt s i) = true by simp [isQ, isL]; omega, Bool.true_and]
theorem spec_IsPattern_ev (s : ByteArray) (hs : s.size ≤ 140737488351232) : Ev (fun k => spec_IsPattern.f k s) (patOk s) := by
  unfold spec_IsPattern.f patOk
  refine ev_let (spec_l1In_eq _ _ _) ?_
  by_cases h : 1 ≤ s.size ∧ s.size ≤ 8
  · rw [decide_eq_true h, Bool.true_and]
    exact ev_pos (by simp; omega) (spec_IsPattern_l0_ev s hs 0 (by omega))
  · rw [decide_eq_false h, Bool.false_and]
    exact ev_neg (by simp; omega) (ev_now rfl)
theorem impl_IsPattern_l0_ev (s : ByteArray) (hs : s.size ≤ 140737488351232) : ∀ i : Nat, i ≤ s.size → Ev (fun k => impl_IsPattern.l0 k s s.size i) ((List.range' i (s.size - i)).all fun j => isQ (bt s j)) := by
  refine down s.size ?_ ?_
  · intro i h hi
    apply ev_succ
    simp only [impl_IsPattern.l0]
    refine ev_neg (by omega) (ev_now ?_)
    rw [range_nil h]; rfl
  · intro i h ih hi
    apply ev_succ
    simp only [impl_IsPattern.l0]
    rw [range_cons h, List.all_cons, wrap64_id (by omega) (by omega), succ_cast]
    refine ev_pos (by omega) (ev_pos (by omega) (ev_pos (by omega) ?_))
    by_cases h0 : bt s i = 63
    · exact ev_pos h0 (ev_eq (ih (by omega)) (by simp [isQ, h0]))
    · refine ev_neg h0 (ev_let (impl_isLetter_eq _) ?_)
      by_cases h1 : isL (bt s i) = true
      · exact ev_pos h1 (ev_eq (ih (by omega)) (by simp [isQ, h1]))
      · exact ev_neg h1 (ev_now (by simp [isQ, h0, h1]))
theorem impl_IsPattern_ev (s : ByteArray) (hs : s.size ≤ 140737488351232) : Ev (fun k => impl_IsPattern.f k s) (patOk s) := by
  unfold impl_IsPattern.f patOk
  refine ev_let (impl_InRange_eq _ _ _) ?_
  by_cases h : 1 ≤ s.size ∧ s.size ≤ 8
  · rw [decide_eq_true h, Bool.true_and]
    exact ev_pos (by simp; omega) (impl_IsPattern_l0_ev s hs 0 (by omega))
  · rw [decide_eq_false h, Bool.false_and]
    exact ev_neg (by simp; omega) (ev_now rfl)
theorem spec_FitsPattern_l0_ev (p w : ByteArray) (he : p.size = w.size) (hs : p.size ≤ 1000) : ∀ i : Nat, i ≤ p.size → Ev (fun k => spec_FitsPattern.l0 k p w i) ((List.range' i (p.size - i)).all fun j => decide (bt p j = 63 ∨ bt p j = bt w j)) := by
  refine down p.size ?_ ?_
  · intro i h hi
    apply ev_succ
    simp only [spec_FitsPattern.l0]
    refine ev_neg (by omega) (ev_now ?_)
    rw [range_nil h]; rfl
  · intro i h ih hi
    apply ev_succ
    simp only [spec_FitsPattern.l0]
    rw [range_cons h, List.all_cons, wrap64_id (by omega) (by omega), succ_cast]
    refine ev_pos (by omega) (ev_pos (by omega) ?_)
    by_cases h0 : bt p i = 63
    · exact ev_pos h0 (ev_eq (ih (by omega)) (by simp [h0]))
    · refine ev_neg h0 (ev_pos (by omega) ?_)
      by_cases h1 : bt p i = bt w i
      · exact ev_pos h1 (ev_eq (ih (by omega)) (by simp [h1]))
      · exact ev_neg h1 (ev_now (by simp [h0, h1]))
theorem spec_FitsPattern_ev (p w : ByteArray) (hp : p.size ≤ 140737488351232) (hw : w.size ≤ 140737488351232) : Ev (fun k => spec_FitsPattern.f k p w) (fitsM p w) := by
  have hno : Ev (fun k => spec_FitsPattern.j0 k p w true) false := by
    apply ev_succ
    simp only [spec_FitsPattern.j0]
    exact ev_pos (by simp) (ev_now rfl)
  unfold spec_FitsPattern.f fitsM
  refine ev_bind (spec_IsPattern_ev p hp) ?_
  by_cases h1 : patOk p = true
  · have h8 : p.size ≤ 8 := by
      unfold patOk at h1
      simp only [Bool.and_eq_true, decide_eq_true_eq] at h1
      exact h1.1.2
    refine ev_pos h1 (ev_bind (spec_IsWord_ev w hw) ?_)
    rw [h1, Bool.true_and]
    by_cases h2 : wordM w = true
    · refine ev_pos h2 ?_
      rw [h2, Bool.true_and]
      by_cases h3 : p.size = w.size
      · rw [decide_eq_true h3, Bool.true_and]
        apply ev_succ
        simp only [spec_FitsPattern.j0]
        exact ev_neg (by simp [h3]) (spec_FitsPattern_l0_ev p w h3 (by omega) 0 (by omega))
      · rw [decide_eq_false h3, Bool.false_and]
        rw [show ((p.size : Int) != (w.size : Int)) = true by simp; omega]
        exact hno
    · refine ev_neg h2 (ev_eq hno ?_)
      rw [Bool.not_eq_true] at h2
      rw [h2, Bool.false_and]
  · refine ev_neg h1 (ev_eq hno ?_)
    rw [Bool.not_eq_true] at h1
    rw [h1, Bool.false_and]
theorem impl_FitsPattern_l0_ev (p w : ByteArray) (he : p.size = w.size) (hs : p.size ≤ 1000) : ∀ i : Nat, i ≤ p.size → Ev (fun k => impl_FitsPattern.l0 k p w p.size i) ((List.range' i (p.size - i)).all fun j => decide (bt p j = 63 ∨ bt p j = bt w j)) := by
  refine down p.size ?_ ?_
  · intro i h hi
    apply ev_succ
    simp only [impl_FitsPattern.l0]
    refine ev_neg (by omega) (ev_now ?_)
    rw [range_nil h]; rfl
  · intro i h ih hi
    apply ev_succ
    simp only [impl_FitsPattern.l0]
    rw [range_cons h, List.all_cons, wrap64_id (by omega) (by omega), succ_cast]
    refine ev_pos (by omega) (ev_pos (by omega) (ev_pos (by omega) ?_))
    by_cases h0 : bt p i = 63
    · exact ev_pos h0 (ev_eq (ih (by omega)) (by simp [h0]))
    · refine ev_neg h0 (ev_pos (by omega) ?_)
      by_cases h1 : bt p i = bt w i
      · exact ev_pos h1 (ev_eq (ih (by omega)) (by simp [h1]))
      · exact ev_neg h1 (ev_now (by simp [h0, h1]))
theorem impl_FitsPattern_ev (p w : ByteArray) (hp : p.size ≤ 140737488351232) (hw : w.size ≤ 140737488351232) : Ev (fun k => impl_FitsPattern.f k p w) (fitsM p w) := by
  have hno : Ev (fun k => impl_FitsPattern.j0 k p w true) false := by
    apply ev_succ
    simp only [impl_FitsPattern.j0]
    exact ev_pos (by simp) (ev_now rfl)
  unfold impl_FitsPattern.f fitsM
  refine ev_bind (impl_IsPattern_ev p hp) ?_
  by_cases h1 : patOk p = true
  · have h8 : p.size ≤ 8 := by
      unfold patOk at h1
      simp only [Bool.and_eq_true, decide_eq_true_eq] at h1
      exact h1.1.2
    refine ev_pos h1 (ev_bind (impl_IsWord_ev w hw) ?_)
    rw [h1, Bool.true_and]
    by_cases h2 : wordM w = true
    · refine ev_pos h2 ?_
      rw [h2, Bool.true_and]
      by_cases h3 : p.size = w.size
      · rw [decide_eq_true h3, Bool.true_and]
        apply ev_succ
        simp only [impl_FitsPattern.j0]
        exact ev_neg (by simp [h3]) (impl_FitsPattern_l0_ev p w h3 (by omega) 0 (by omega))
      · rw [decide_eq_false h3, Bool.false_and]
        rw [show ((p.size : Int) != (w.size : Int)) = true by simp; omega]
        exact hno
    · refine ev_neg h2 (ev_eq hno ?_)
      rw [Bool.not_eq_true] at h2
      rw [h2, Bool.false_and]
  · refine ev_neg h1 (ev_eq hno ?_)
    rw [Bool.not_eq_true] at h1
    rw [h1, Bool.false_and]

/-! ### lists -/
theorem rdOf_get {α : Type} {d : α} {l : List α} {i : Nat} (h : i < l.length) : rdOf d l (i : Int) = l[i] := by
  unfold rdOf
  simp [h]
theorem rd_get {l : List Int} {i : Nat} (h : i < l.length) : rd l (i : Int) = l[i] := by
  unfold rd
  simp [h]
theorem toList_eq (s : ByteArray) : s.toList = s.data.toList := Go.ByteArray.toList_eq s
instance lawfulBA : LawfulBEq ByteArray where
  eq_of_beq {a b} h := ByteArray.ext (eq_of_beq (α := Array UInt8) h)
  rfl {a} := by
    show (a.data == a.data) = true
    simp
theorem toList_inj {a b : ByteArray} : a.toList = b.toList ↔ a = b := by
  constructor
  · intro h
    rw [toList_eq, toList_eq] at h
    cases a
    cases b
    simp only [ByteArray.mk.injEq]
    exact Array.toList_inj.1 h
  · intro h
    rw [h]
theorem set_known {α : Type} {l x : List α} {i : Nat} {a : α} (hi : i < l.length) (hx : x.length = l.length) (ha : a = l[i]) (h : ∀ j, j < i → x[j]? = l[j]?) : ∀ j, j < i + 1 → (x.set i a)[j]? = l[j]? := by
  intro j hj
  by_cases e : j = i
  · subst e
    rw [List.getElem?_set_self (by omega), ha, List.getElem?_eq_getElem hi]
  · rw [List.getElem?_set_ne (Ne.symm e)]
    exact h j (by omega)
theorem all_known {α : Type} {l x : List α} (hx : x.length = l.length) (h : ∀ j, j < l.length → x[j]? = l[j]?) : x = l := by
  apply List.ext_getElem?
  intro j
  by_cases hj : j < l.length
  · exact h j hj
  · rw [List.getElem?_eq_none (by omega), List.getElem?_eq_none (by omega)]

/-! ### grid -/
/-- A cell's sign. -/
def isC (c : Int) : Bool := decide (c = 35) || decide (c = 46)
/-- A grid: 2 to 6 rows and columns, its cells black or white. -/
def gridM (r c : Int) (s : ByteArray) : Bool := decide (2 ≤ r ∧ r ≤ 6) && decide (2 ≤ c ∧ c ≤ 6) && decide ((s.size : Int) = r * c) && (List.range' 0 (s.size - 0)).all fun j => isC (bt s j)
theorem gridM_nat {r c : Int} {s : ByteArray} (h : gridM r c s = true) : ∃ R C : Nat, r = R ∧ c = C ∧ 2 ≤ R ∧ R ≤ 6 ∧ 2 ≤ C ∧ C ≤ 6 ∧ s.size = R * C := by
  simp only [gridM, Bool.and_eq_true, decide_eq_true_eq] at h
  obtain ⟨⟨⟨hr, hc⟩, hs⟩, _⟩ := h
  obtain ⟨R, rfl⟩ := Int.eq_ofNat_of_zero_le (show 0 ≤ r by omega)
  obtain ⟨C, rfl⟩ := Int.eq_ofNat_of_zero_le (show 0 ≤ c by omega)
  exact ⟨R, C, rfl, rfl, by omega, by omega, by omega, by omega, by exact_mod_cast hs⟩
theorem bounds36 {R C : Nat} (hR : R ≤ 6) (hC : C ≤ 6) : R * C ≤ 36 := Nat.mul_le_mul hR hC
theorem spec_IsGrid_l0_ev (r c : Int) (s : ByteArray) (hs : s.size ≤ 140737488351232) : ∀ i : Nat, i ≤ s.size → Ev (fun k => spec_IsGrid.l0 k i r c s) ((List.range' i (s.size - i)).all fun j => isC (bt s j)) := by
  refine down s.size ?_ ?_
  · intro i h hi
    apply ev_succ
    simp only [spec_IsGrid.l0]
    refine ev_neg (by omega) (ev_now ?_)
    rw [range_nil h]; rfl
  · intro i h ih hi
    apply ev_succ
    simp only [spec_IsGrid.l0]
    rw [range_cons h, List.all_cons, wrap64_id (by omega) (by omega), succ_cast]
    refine ev_pos (by omega) (ev_pos (by omega) ?_)
    by_cases h1 : bt s i = 35
    · exact ev_pos h1 (ev_eq (ih (by omega)) (by simp [isC, h1]))
    · refine ev_neg h1 ?_
      by_cases h2 : bt s i = 46
      · exact ev_pos h2 (ev_eq (ih (by omega)) (by simp [isC, h2]))
      · exact ev_neg h2 (ev_now (by simp [isC, h1, h2]))
theorem impl_IsGrid_l0_ev (r c : Int) (s : ByteArray) (hs : s.size ≤ 140737488351232) : ∀ i : Nat, i ≤ s.size → Ev (fun k => impl_IsGrid.l0 k s.size i r c s) ((List.range' i (s.size - i)).all fun j => isC (bt s j)) := by
  refine down s.size ?_ ?_
  · intro i h hi
    apply ev_succ
    simp only [impl_IsGrid.l0]
    refine ev_neg (by omega) (ev_now ?_)
    rw [range_nil h]; rfl
  · intro i h ih hi
    apply ev_succ
    simp only [impl_IsGrid.l0]
    rw [range_cons h, List.all_cons, wrap64_id (by omega) (by omega), succ_cast]
    refine ev_pos (by omega) (ev_pos (by omega) (ev_pos (by omega) ?_))
    by_cases h1 : bt s i = 35
    · exact ev_pos h1 (ev_eq (ih (by omega)) (by simp [isC, h1]))
    · refine ev_neg h1 ?_
      by_cases h2 : bt s i = 46
      · exact ev_pos h2 (ev_eq (ih (by omega)) (by simp [isC, h2]))
      · exact ev_neg h2 (ev_now (by simp [isC, h1, h2]))
theorem wrap_mul {r c : Int} (hr : 2 ≤ r ∧ r ≤ 6) (hc : 2 ≤ c ∧ c ≤ 6) : wrap64 (r * c) = r * c := by
  have h1 : 0 ≤ r * c := Int.mul_nonneg (by omega) (by omega)
  have h2 : r * c ≤ 6 * 6 := Int.mul_le_mul hr.2 hc.2 (by omega) (by omega)
  exact wrap64_id (by omega) (by omega)
theorem spec_IsGrid_ev (r c : Int) (s : ByteArray) (hs : s.size ≤ 140737488351232) : Ev (fun k => spec_IsGrid.f k r c s) (gridM r c s) := by
  unfold spec_IsGrid.f
  refine ev_let (spec_l1In_eq _ _ _) ?_
  by_cases hr : 2 ≤ r ∧ r ≤ 6
  · refine ev_pos (by simpa using hr) (ev_let (spec_l1In_eq _ _ _) ?_)
    by_cases hc : 2 ≤ c ∧ c ≤ 6
    · refine ev_pos (by simpa using hc) ?_
      rw [wrap_mul hr hc]
      apply ev_succ
      simp only [spec_IsGrid.j0]
      by_cases hn : (s.size : Int) = r * c
      · refine ev_neg (by simp [hn]) (ev_eq (spec_IsGrid_l0_ev r c s hs 0 (by omega)) ?_)
        simp [gridM, hr, hc, hn]
      · exact ev_pos (by simp [hn]) (ev_now (by simp [gridM, hn]))
    · refine ev_neg (by simpa using hc) (ev_succ ?_)
      simp only [spec_IsGrid.j0]
      exact ev_pos (by simp) (ev_now (by simp [gridM, hc]))
  · refine ev_neg (by simpa using hr) (ev_succ ?_)
    simp only [spec_IsGrid.j0]
    exact ev_pos (by simp) (ev_now (by simp [gridM, hr]))
theorem impl_IsGrid_ev (r c : Int) (s : ByteArray) (hs : s.size ≤ 140737488351232) : Ev (fun k => impl_IsGrid.f k r c s) (gridM r c s) := by
  unfold impl_IsGrid.f
  refine ev_let (impl_InRange_eq _ _ _) ?_
  by_cases hr : 2 ≤ r ∧ r ≤ 6
  · refine ev_pos (by simpa using hr) (ev_let (impl_InRange_eq _ _ _) ?_)
    by_cases hc : 2 ≤ c ∧ c ≤ 6
    · refine ev_pos (by simpa using hc) ?_
      rw [wrap_mul hr hc]
      apply ev_succ
      simp only [impl_IsGrid.j0]
      by_cases hn : (s.size : Int) = r * c
      · refine ev_neg (by simp [hn]) (ev_eq (impl_IsGrid_l0_ev r c s hs 0 (by omega)) ?_)
        simp [gridM, hr, hc, hn]
      · exact ev_pos (by simp [hn]) (ev_now (by simp [gridM, hn]))
    · refine ev_neg (by simpa using hc) (ev_succ ?_)
      simp only [impl_IsGrid.j0]
      exact ev_pos (by simp) (ev_now (by simp [gridM, hc]))
  · refine ev_neg (by simpa using hr) (ev_succ ?_)
    simp only [impl_IsGrid.j0]
    exact ev_pos (by simp) (ev_now (by simp [gridM, hr]))

/-! ### slots -/
/-- How many cells follow one another from a cell on, white ones, at most m. -/
def runLen (s : ByteArray) (step : Nat) : Nat → Nat → Nat
  | _, 0 => 0
  | i, m + 1 => if bt s i = 46 then 1 + runLen s step (i + step) m else 0
def stepM (C : Nat) (dn : Bool) : Nat := if dn then C else 1
def atM (C : Nat) (dn : Bool) (i : Nat) : Nat := if dn then i / C else i % C
def mostM (R C : Nat) (dn : Bool) : Nat := if dn then R else C
/-- The length of the part of white cells that begins at a cell; 0 if none begins there. -/
def runM (R C : Nat) (s : ByteArray) (i : Nat) (dn : Bool) : Nat :=
  if bt s i = 46 ∧ ¬ (0 < atM C dn i ∧ bt s (i - stepM C dn : Nat) = 46) then runLen s (stepM C dn) i (mostM R C dn - atM C dn i) else 0
theorem runLen_le (s : ByteArray) (step : Nat) : ∀ m i, runLen s step i m ≤ m
  | 0, _ => Nat.le_refl _
  | m + 1, i => by
    unfold runLen
    split
    · have := runLen_le s step m (i + step)
      omega
    · omega
theorem cell_lt {R C : Nat} {i j : Nat} {dn : Bool} (hC : 0 < C) (hi : i < R * C) (hj : atM C dn i + j < mostM R C dn) : i + j * stepM C dn < R * C := by
  cases dn with
  | true =>
    simp only [atM, mostM, stepM, if_true] at hj ⊢
    have h1 := Nat.div_add_mod i C
    have h2 := Nat.mod_lt i hC
    have h3 : C * (i / C + j + 1) ≤ C * R := Nat.mul_le_mul_left _ (by omega)
    rw [Nat.mul_comm R C]
    rw [Nat.mul_add, Nat.mul_add, Nat.mul_one] at h3
    rw [Nat.mul_comm j C]
    omega
  | false =>
    simp only [atM, mostM, stepM, Bool.false_eq_true, if_false] at hj ⊢
    have h1 := Nat.div_add_mod i C
    have h4 : i / C < R := (Nat.div_lt_iff_lt_mul hC).2 hi
    have h3 : C * (i / C + 1) ≤ C * R := Nat.mul_le_mul_left _ h4
    rw [Nat.mul_comm R C]
    rw [Nat.mul_add, Nat.mul_one] at h3
    omega
theorem mul_bound {j C : Nat} (hj : j ≤ 6) (hC : C ≤ 6) : j * C ≤ 36 := Nat.mul_le_mul hj hC
theorem stepM_le {C : Nat} (hC : C ≤ 6) (h0 : 0 < C) (dn : Bool) : 1 ≤ stepM C dn ∧ stepM C dn ≤ 6 := by
  unfold stepM
  split <;> omega
theorem mostM_le {R C : Nat} (hR : R ≤ 6) (hC : C ≤ 6) (dn : Bool) : mostM R C dn ≤ 6 := by
  unfold mostM
  split <;> omega
theorem spec_l8From_l0_ev (R C : Nat) (s : ByteArray) (r c : Int) (hR : R ≤ 6) (hC : C ≤ 6) (h0 : 0 < C) (hs : s.size = R * C) (i : Nat) (dn : Bool) (hi : i < R * C) : ∀ n : Nat, atM C dn i + n ≤ mostM R C dn →
    Ev (fun k => spec_l8From.l0 k i (stepM C dn) (atM C dn i) (mostM R C dn) n r c s) (n + runLen s (stepM C dn) (i + n * stepM C dn) (mostM R C dn - atM C dn i - n) : Nat) := by
  have hm := mostM_le hR hC dn
  have hst := stepM_le hC h0 dn
  have h36 := bounds36 hR hC
  refine down (mostM R C dn - atM C dn i) ?_ ?_
  · intro n h hn
    apply ev_succ
    simp only [spec_l8From.l0]
    rw [wrap64_id (n := (atM C dn i : Int) + n) (by omega) (by omega)]
    refine ev_neg (by omega) (ev_now ?_)
    rw [show mostM R C dn - atM C dn i - n = 0 by omega]
    rfl
  · intro n h ih hn
    have hlt := cell_lt h0 hi (show atM C dn i + n < mostM R C dn by omega)
    have hb := mul_bound (show n ≤ 6 by omega) (show stepM C dn ≤ 6 by omega)
    have hcast : ((n : Int) * (stepM C dn : Int)) = ((n * stepM C dn : Nat) : Int) := by rw [Int.natCast_mul]
    apply ev_succ
    simp only [spec_l8From.l0]
    rw [wrap64_id (n := (atM C dn i : Int) + n) (by omega) (by omega), hcast, wrap64_id (n := ((n * stepM C dn : Nat) : Int)) (by omega) (by omega), wrap64_id (n := (i : Int) + _) (by omega) (by omega), wrap64_id (n := (n : Int) + 1) (by omega) (by omega), succ_cast]
    rw [show mostM R C dn - atM C dn i - n = (mostM R C dn - atM C dn i - (n + 1)) + 1 by omega]
    unfold runLen
    rw [show ((i : Int) + ((n * stepM C dn : Nat) : Int)) = ((i + n * stepM C dn : Nat) : Int) by omega]
    refine ev_pos (by omega) (ev_pos (by omega) (ev_pos (by omega) ?_))
    by_cases hw : bt s (i + n * stepM C dn : Nat) = 46
    · rw [if_pos hw]
      refine ev_pos hw (ev_eq (ih (by omega)) ?_)
      rw [show i + (n + 1) * stepM C dn = i + n * stepM C dn + stepM C dn by rw [Nat.add_mul, Nat.one_mul, Nat.add_assoc]]
      omega
    · rw [if_neg hw]
      exact ev_neg hw (ev_now (by simp))
theorem spec_l8From_ev (R C : Nat) (s : ByteArray) (hR : R ≤ 6) (hC : C ≤ 6) (h0 : 0 < C) (hs : s.size = R * C) (i : Nat) (dn : Bool) (hi : i < R * C) :
    Ev (fun k => spec_l8From.f k R C s i dn) (runM R C s i dn : Nat) := by
  have hst := stepM_le hC h0 dn
  have h36 := bounds36 hR hC
  have hl0 := spec_l8From_l0_ev R C s R C hR hC h0 hs i dn hi 0
  have key : Ev (fun k => spec_l8From.j0 k i (stepM C dn) (atM C dn i) (mostM R C dn) R C s) (runM R C s i dn : Nat) := by
    have hat : atM C dn i ≤ i ∧ (0 < atM C dn i → stepM C dn ≤ i) ∧ atM C dn i ≤ mostM R C dn := by
      cases dn with
      | true =>
        simp only [atM, stepM, mostM, if_true]
        refine ⟨Nat.div_le_self _ _, fun h => ?_, ?_⟩
        · exact (Nat.div_pos_iff.1 h).2
        · exact Nat.le_of_lt ((Nat.div_lt_iff_lt_mul h0).2 hi)
      | false =>
        simp only [atM, stepM, mostM, Bool.false_eq_true, if_false]
        have := Nat.mod_le i C
        have := Nat.mod_lt i h0
        omega
    have hj1 : ∀ b : Bool, (b = true → Ev (fun k => spec_l8From.j1 k i (stepM C dn) (atM C dn i) (mostM R C dn) b R C s) 0) ∧
        (b = false → Ev (fun k => spec_l8From.j1 k i (stepM C dn) (atM C dn i) (mostM R C dn) b R C s) (runLen s (stepM C dn) i (mostM R C dn - atM C dn i) : Nat)) := by
      intro b
      refine ⟨fun hb => ?_, fun hb => ?_⟩
      · apply ev_succ
        simp only [spec_l8From.j1]
        exact ev_pos hb (ev_now rfl)
      · apply ev_succ
        simp only [spec_l8From.j1]
        exact ev_neg (by simp [hb]) (by simpa using hl0 (by omega))
    apply ev_succ
    simp only [spec_l8From.j0]
    refine ev_pos (by omega) (ev_pos (by omega) ?_)
    unfold runM
    by_cases hw : bt s i = 46
    · refine ev_pos hw ?_
      by_cases ha : 0 < atM C dn i
      · have h2 := hat.2.1 ha
        rw [wrap64_id (n := (i : Int) - _) (by omega) (by omega), show ((i : Int) - (stepM C dn : Nat)) = ((i - stepM C dn : Nat) : Int) by omega]
        refine ev_pos (by omega) (ev_pos (by omega) (ev_pos (by omega) ?_))
        by_cases hp : bt s (i - stepM C dn : Nat) = 46
        · rw [if_neg (by simp [ha, hp])]
          exact (hj1 _).1 (by simp [hp])
        · rw [if_pos ⟨hw, fun x => hp x.2⟩]
          exact (hj1 _).2 (by simp [hp])
      · rw [if_pos ⟨hw, fun x => ha x.1⟩]
        exact ev_neg (by omega) ((hj1 false).2 rfl)
    · rw [if_neg (fun x => hw x.1)]
      exact ev_neg hw ((hj1 true).1 rfl)
  unfold spec_l8From.f
  refine ev_neg (by omega) ?_
  cases dn with
  | true =>
    refine ev_pos rfl ?_
    have e : Int.tdiv (i : Int) (C : Int) = ((i / C : Nat) : Int) := Int.ofNat_tdiv i C |>.symm
    have hd := Nat.div_le_self i C
    have hq := Int.natCast_nonneg (i / C)
    rw [e, wrap64_id (by omega) (by omega)]
    simpa only [stepM, atM, mostM, if_true] using key
  | false =>
    refine ev_neg (by simp) ?_
    have e : Int.tmod (i : Int) (C : Int) = ((i % C : Nat) : Int) := Int.ofNat_tmod i C |>.symm
    rw [e]
    simpa [stepM, atM, mostM] using key

theorem impl_run_l0_ev (R C : Nat) (s : ByteArray) (r c : Int) (hR : R ≤ 6) (hC : C ≤ 6) (h0 : 0 < C) (hs : s.size = R * C) (i : Nat) (dn : Bool) (hi : i < R * C) : ∀ n : Nat, atM C dn i + n ≤ mostM R C dn →
    Ev (fun k => impl_run.l0 k i (stepM C dn) (atM C dn i) (mostM R C dn) n r c s) (n + runLen s (stepM C dn) (i + n * stepM C dn) (mostM R C dn - atM C dn i - n) : Nat) := by
  have hm := mostM_le hR hC dn
  have hst := stepM_le hC h0 dn
  have h36 := bounds36 hR hC
  refine down (mostM R C dn - atM C dn i) ?_ ?_
  · intro n h hn
    apply ev_succ
    simp only [impl_run.l0]
    rw [wrap64_id (n := (atM C dn i : Int) + n) (by omega) (by omega)]
    refine ev_neg (by omega) (ev_now ?_)
    rw [show mostM R C dn - atM C dn i - n = 0 by omega]
    rfl
  · intro n h ih hn
    have hlt := cell_lt h0 hi (show atM C dn i + n < mostM R C dn by omega)
    have hb := mul_bound (show n ≤ 6 by omega) (show stepM C dn ≤ 6 by omega)
    have hcast : ((n : Int) * (stepM C dn : Int)) = ((n * stepM C dn : Nat) : Int) := by rw [Int.natCast_mul]
    apply ev_succ
    simp only [impl_run.l0]
    rw [wrap64_id (n := (atM C dn i : Int) + n) (by omega) (by omega), hcast, wrap64_id (n := ((n * stepM C dn : Nat) : Int)) (by omega) (by omega), wrap64_id (n := (i : Int) + _) (by omega) (by omega), wrap64_id (n := (n : Int) + 1) (by omega) (by omega), succ_cast]
    rw [show mostM R C dn - atM C dn i - n = (mostM R C dn - atM C dn i - (n + 1)) + 1 by omega]
    unfold runLen
    rw [show ((i : Int) + ((n * stepM C dn : Nat) : Int)) = ((i + n * stepM C dn : Nat) : Int) by omega]
    refine ev_pos (by omega) (ev_pos (by omega) (ev_pos (by omega) ?_))
    by_cases hw : bt s (i + n * stepM C dn : Nat) = 46
    · rw [if_pos hw]
      refine ev_pos hw (ev_eq (ih (by omega)) ?_)
      rw [show i + (n + 1) * stepM C dn = i + n * stepM C dn + stepM C dn by rw [Nat.add_mul, Nat.one_mul, Nat.add_assoc]]
      omega
    · rw [if_neg hw]
      exact ev_neg hw (ev_now (by simp))
theorem impl_run_ev (R C : Nat) (s : ByteArray) (hR : R ≤ 6) (hC : C ≤ 6) (h0 : 0 < C) (hs : s.size = R * C) (i : Nat) (dn : Bool) (hi : i < R * C) :
    Ev (fun k => impl_run.f k R C s i dn) (runM R C s i dn : Nat) := by
  have hst := stepM_le hC h0 dn
  have h36 := bounds36 hR hC
  have hl0 := impl_run_l0_ev R C s R C hR hC h0 hs i dn hi 0
  have key : Ev (fun k => impl_run.j0 k i (stepM C dn) (atM C dn i) (mostM R C dn) R C s) (runM R C s i dn : Nat) := by
    have hat : atM C dn i ≤ i ∧ (0 < atM C dn i → stepM C dn ≤ i) ∧ atM C dn i ≤ mostM R C dn := by
      cases dn with
      | true =>
        simp only [atM, stepM, mostM, if_true]
        refine ⟨Nat.div_le_self _ _, fun h => ?_, ?_⟩
        · exact (Nat.div_pos_iff.1 h).2
        · exact Nat.le_of_lt ((Nat.div_lt_iff_lt_mul h0).2 hi)
      | false =>
        simp only [atM, stepM, mostM, Bool.false_eq_true, if_false]
        have := Nat.mod_le i C
        have := Nat.mod_lt i h0
        omega
    have hj1 : ∀ b : Bool, (b = true → Ev (fun k => impl_run.j1 k i (stepM C dn) (atM C dn i) (mostM R C dn) b R C s) 0) ∧
        (b = false → Ev (fun k => impl_run.j1 k i (stepM C dn) (atM C dn i) (mostM R C dn) b R C s) (runLen s (stepM C dn) i (mostM R C dn - atM C dn i) : Nat)) := by
      intro b
      refine ⟨fun hb => ?_, fun hb => ?_⟩
      · apply ev_succ
        simp only [impl_run.j1]
        exact ev_pos hb (ev_now rfl)
      · apply ev_succ
        simp only [impl_run.j1]
        exact ev_neg (by simp [hb]) (by simpa using hl0 (by omega))
    apply ev_succ
    simp only [impl_run.j0]
    refine ev_pos (by omega) (ev_pos (by omega) ?_)
    unfold runM
    by_cases hw : bt s i = 46
    · refine ev_pos hw ?_
      by_cases ha : 0 < atM C dn i
      · have h2 := hat.2.1 ha
        rw [wrap64_id (n := (i : Int) - _) (by omega) (by omega), show ((i : Int) - (stepM C dn : Nat)) = ((i - stepM C dn : Nat) : Int) by omega]
        refine ev_pos (by omega) (ev_pos (by omega) (ev_pos (by omega) ?_))
        by_cases hp : bt s (i - stepM C dn : Nat) = 46
        · rw [if_neg (by simp [ha, hp])]
          exact (hj1 _).1 (by simp [hp])
        · rw [if_pos ⟨hw, fun x => hp x.2⟩]
          exact (hj1 _).2 (by simp [hp])
      · rw [if_pos ⟨hw, fun x => ha x.1⟩]
        exact ev_neg (by omega) ((hj1 false).2 rfl)
    · rw [if_neg (fun x => hw x.1)]
      exact ev_neg hw ((hj1 true).1 rfl)
  unfold impl_run.f
  refine ev_neg (by omega) ?_
  cases dn with
  | true =>
    refine ev_pos rfl ?_
    have e : Int.tdiv (i : Int) (C : Int) = ((i / C : Nat) : Int) := Int.ofNat_tdiv i C |>.symm
    have hd := Nat.div_le_self i C
    have hq := Int.natCast_nonneg (i / C)
    rw [e, wrap64_id (by omega) (by omega)]
    simpa only [stepM, atM, mostM, if_true] using key
  | false =>
    refine ev_neg (by simp) ?_
    have e : Int.tmod (i : Int) (C : Int) = ((i % C : Nat) : Int) := Int.ofNat_tmod i C |>.symm
    rw [e]
    simpa [stepM, atM, mostM] using key

/-! ### slotsof -/
abbrev ISlot := S49
theorem rd_Slot_get {l : List ISlot} {i : Nat} (h : i < l.length) : rd_T49 l (i : Int) = l[i] := by
  unfold rd_T49
  simp [h]
/-- The slots that begin at a cell, under a number. -/
def slotsOne (R C : Nat) (s : ByteArray) (i : Nat) (n : Int) : List ISlot :=
  (if 2 ≤ runM R C s i false then [⟨n, false, i, runM R C s i false⟩] else []) ++ (if 2 ≤ runM R C s i true then [⟨n, true, i, runM R C s i true⟩] else [])
def numOne (R C : Nat) (s : ByteArray) (i : Nat) (n : Int) : Int := if 2 ≤ runM R C s i false ∨ 2 ≤ runM R C s i true then n + 1 else n
def slotsGo (R C : Nat) (s : ByteArray) : List Nat → Int → List ISlot
  | [], _ => []
  | i :: l, n => slotsOne R C s i (numOne R C s i n) ++ slotsGo R C s l (numOne R C s i n)
/-- The slots of a grid; none of what is no grid. -/
def slotsM (r c : Int) (s : ByteArray) : List ISlot := if gridM r c s then slotsGo r.toNat c.toNat s (List.range' 0 (s.size - 0)) 0 else []
theorem slotsOne_length (R C : Nat) (s : ByteArray) (i : Nat) (n : Int) : (slotsOne R C s i n).length ≤ 2 := by
  unfold slotsOne
  split <;> split <;> simp
theorem slotsGo_length (R C : Nat) (s : ByteArray) : ∀ (l : List Nat) (n : Int), (slotsGo R C s l n).length ≤ 2 * l.length
  | [], _ => by simp [slotsGo]
  | i :: l, n => by
    unfold slotsGo
    have h1 := slotsOne_length R C s i (numOne R C s i n)
    have h2 := slotsGo_length R C s l (numOne R C s i n)
    simp only [List.length_append, List.length_cons]
    omega
theorem slotsM_length (r c : Int) (s : ByteArray) : (slotsM r c s).length ≤ 72 := by
  unfold slotsM
  split
  · rename_i h
    obtain ⟨R, C, rfl, rfl, _, hR, _, hC, hs⟩ := gridM_nat h
    have := slotsGo_length R C s (List.range' 0 (s.size - 0)) 0
    have h36 := bounds36 hR hC
    rw [List.length_range'] at this
    simp only [Int.toNat_natCast]
    omega
  · simp
theorem spec_SlotsOf_j3_ev {acc : List ISlot} {n : Int} {i a d : Nat} {r c : Int} {s : ByteArray} {ρ : List ISlot} (ha : acc.length ≤ 72) (hi : i ≤ 100)
    (h : Ev (fun k => spec_SlotsOf.l0 k (acc ++ ((if 2 ≤ a then [⟨n, false, i, a⟩] else []) ++ (if 2 ≤ d then [⟨n, true, i, d⟩] else []))) n (i + 1 : Nat) r c s) ρ) : Ev (fun k => spec_SlotsOf.j3 k acc n i a d r c s) ρ := by
  apply ev_succ
  simp only [spec_SlotsOf.j3]
  rw [wrap64_id (n := (i : Int) + 1) (by omega) (by omega), succ_cast]
  by_cases h1 : 2 ≤ a
  · rw [if_pos h1] at h
    refine ev_pos (by omega) (ev_pos (by omega) (ev_let rfl ?_))
    by_cases h2 : 2 ≤ d
    · rw [if_pos h2] at h
      exact ev_pos (by omega) (ev_pos (by simp; omega) (by simpa using h))
    · rw [if_neg h2] at h
      exact ev_neg (by omega) (by simpa using h)
  · rw [if_neg h1] at h
    refine ev_neg (by omega) ?_
    by_cases h2 : 2 ≤ d
    · rw [if_pos h2] at h
      exact ev_pos (by omega) (ev_pos (by omega) (by simpa using h))
    · rw [if_neg h2] at h
      exact ev_neg (by omega) (by simpa using h)
theorem spec_SlotsOf_l0_ev (R C : Nat) (s : ByteArray) (hR : 2 ≤ R ∧ R ≤ 6) (hC : 2 ≤ C ∧ C ≤ 6) (hg : gridM R C s = true) (hs : s.size = R * C) : ∀ i : Nat, i ≤ s.size → ∀ (acc : List ISlot) (n : Int), acc.length ≤ 2 * i → 0 ≤ n → n ≤ i →
    Ev (fun k => spec_SlotsOf.l0 k acc n i R C s) (acc ++ slotsGo R C s (List.range' i (s.size - i)) n) := by
  have h36 := bounds36 hR.2 hC.2
  refine down s.size ?_ ?_
  · intro i h hi acc n ha h0 hn
    apply ev_succ
    simp only [spec_SlotsOf.l0]
    refine ev_neg (by omega) (ev_succ ?_)
    simp only [spec_SlotsOf.j1]
    rw [range_nil h]
    exact ev_neg (by simp) (ev_now (by simp [slotsGo]))
  · intro i h ih hi acc n ha h0 hn
    apply ev_succ
    simp only [spec_SlotsOf.l0]
    refine ev_pos (by omega) (ev_bind (spec_IsGrid_ev R C s (by omega)) (ev_succ ?_))
    simp only [spec_SlotsOf.j1]
    refine ev_pos hg (ev_bind (spec_l8From_ev R C s hR.2 hC.2 (by omega) hs i false (by omega)) (ev_bind (spec_l8From_ev R C s hR.2 hC.2 (by omega) hs i true (by omega)) ?_))
    rw [range_cons h]
    unfold slotsGo
    have hnum : numOne R C s i n ≤ i + 1 ∧ 0 ≤ numOne R C s i n := by
      unfold numOne
      split <;> omega
    have hl := slotsOne_length R C s i (numOne R C s i n)
    have hnext := ih (by omega) (acc ++ slotsOne R C s i (numOne R C s i n)) (numOne R C s i n) (by simp; omega) hnum.2 (by omega)
    rw [List.append_assoc] at hnext
    have key : ∀ b : Bool, b = decide (2 ≤ runM R C s i false ∨ 2 ≤ runM R C s i true) → Ev (fun k => spec_SlotsOf.j2 k acc n i (runM R C s i false : Nat) (runM R C s i true : Nat) b R C s) (acc ++ (slotsOne R C s i (numOne R C s i n) ++ slotsGo R C s (List.range' (i + 1) (s.size - (i + 1))) (numOne R C s i n))) := by
      intro b hb
      apply ev_succ
      simp only [spec_SlotsOf.j2]
      rw [wrap64_id (n := n + 1) (by omega) (by omega)]
      by_cases hc : 2 ≤ runM R C s i false ∨ 2 ≤ runM R C s i true
      · have e : numOne R C s i n = n + 1 := if_pos hc
        rw [e] at hnext ⊢
        exact ev_pos (by rw [hb]; simpa using hc) (spec_SlotsOf_j3_ev (by omega) (by omega) hnext)
      · have e : numOne R C s i n = n := if_neg hc
        rw [e] at hnext ⊢
        exact ev_neg (by rw [hb]; simpa using hc) (spec_SlotsOf_j3_ev (by omega) (by omega) hnext)
    by_cases h1 : 2 ≤ runM R C s i false
    · exact ev_pos (by omega) (key true (decide_eq_true (.inl h1)).symm)
    · exact ev_neg (by omega) (key _ (decide_eq_decide.2 (by omega)))
theorem spec_SlotsOf_ev (r c : Int) (s : ByteArray) (hs : s.size ≤ 1048576) : Ev (fun k => spec_SlotsOf.f k r c s) (slotsM r c s) := by
  unfold spec_SlotsOf.f slotsM
  by_cases hg : gridM r c s = true
  · rw [if_pos hg]
    obtain ⟨R, C, rfl, rfl, h1, h2, h3, h4, h5⟩ := gridM_nat hg
    simpa using spec_SlotsOf_l0_ev R C s ⟨h1, h2⟩ ⟨h3, h4⟩ hg h5 0 (by omega) [] 0 (by simp) (by omega) (by omega)
  · rw [if_neg hg]
    have hj : Ev (fun k => spec_SlotsOf.j1 k [] 0 0 false r c s) [] := by
      apply ev_succ
      simp only [spec_SlotsOf.j1]
      exact ev_neg (by simp) (ev_now rfl)
    apply ev_succ
    simp only [spec_SlotsOf.l0]
    by_cases h : (0 : Int) < (s.size : Int)
    · refine ev_pos h (ev_bind (spec_IsGrid_ev r c s (by omega)) ?_)
      rw [Bool.not_eq_true] at hg
      rw [hg]
      exact hj
    · exact ev_neg h hj
theorem impl_SlotsOf_j2_ev {acc : List ISlot} {n : Int} {i a d m : Nat} {r c : Int} {s : ByteArray} {ρ : List ISlot} (ha : acc.length ≤ 72) (hi : i ≤ 100)
    (h : Ev (fun k => impl_SlotsOf.l0 k (acc ++ ((if 2 ≤ a then [⟨n, false, i, a⟩] else []) ++ (if 2 ≤ d then [⟨n, true, i, d⟩] else []))) n m (i + 1 : Nat) r c s) ρ) : Ev (fun k => impl_SlotsOf.j2 k acc n i a d m i r c s) ρ := by
  apply ev_succ
  simp only [impl_SlotsOf.j2]
  rw [wrap64_id (n := (i : Int) + 1) (by omega) (by omega), succ_cast]
  by_cases h1 : 2 ≤ a
  · rw [if_pos h1] at h
    refine ev_pos (by omega) (ev_pos (by omega) (ev_let rfl ?_))
    by_cases h2 : 2 ≤ d
    · rw [if_pos h2] at h
      exact ev_pos (by omega) (ev_pos (by simp; omega) (by simpa using h))
    · rw [if_neg h2] at h
      exact ev_neg (by omega) (by simpa using h)
  · rw [if_neg h1] at h
    refine ev_neg (by omega) ?_
    by_cases h2 : 2 ≤ d
    · rw [if_pos h2] at h
      exact ev_pos (by omega) (ev_pos (by omega) (by simpa using h))
    · rw [if_neg h2] at h
      exact ev_neg (by omega) (by simpa using h)
theorem impl_SlotsOf_l0_ev (R C : Nat) (s : ByteArray) (hR : 2 ≤ R ∧ R ≤ 6) (hC : 2 ≤ C ∧ C ≤ 6) (hs : s.size = R * C) : ∀ i : Nat, i ≤ s.size → ∀ (acc : List ISlot) (n : Int), acc.length ≤ 2 * i → 0 ≤ n → n ≤ i →
    Ev (fun k => impl_SlotsOf.l0 k acc n s.size i R C s) (acc ++ slotsGo R C s (List.range' i (s.size - i)) n) := by
  have h36 := bounds36 hR.2 hC.2
  refine down s.size ?_ ?_
  · intro i h hi acc n ha h0 hn
    apply ev_succ
    simp only [impl_SlotsOf.l0]
    rw [range_nil h]
    exact ev_neg (by omega) (ev_now (by simp [slotsGo]))
  · intro i h ih hi acc n ha h0 hn
    apply ev_succ
    simp only [impl_SlotsOf.l0]
    refine ev_pos (by omega) (ev_bind (impl_run_ev R C s hR.2 hC.2 (by omega) hs i false (by omega)) (ev_bind (impl_run_ev R C s hR.2 hC.2 (by omega) hs i true (by omega)) ?_))
    rw [range_cons h]
    unfold slotsGo
    have hnum : numOne R C s i n ≤ i + 1 ∧ 0 ≤ numOne R C s i n := by
      unfold numOne
      split <;> omega
    have hl := slotsOne_length R C s i (numOne R C s i n)
    have hnext := ih (by omega) (acc ++ slotsOne R C s i (numOne R C s i n)) (numOne R C s i n) (by simp; omega) hnum.2 (by omega)
    rw [List.append_assoc] at hnext
    have key : ∀ b : Bool, b = decide (2 ≤ runM R C s i false ∨ 2 ≤ runM R C s i true) → Ev (fun k => impl_SlotsOf.j1 k acc n i (runM R C s i false : Nat) (runM R C s i true : Nat) s.size i b R C s) (acc ++ (slotsOne R C s i (numOne R C s i n) ++ slotsGo R C s (List.range' (i + 1) (s.size - (i + 1))) (numOne R C s i n))) := by
      intro b hb
      apply ev_succ
      simp only [impl_SlotsOf.j1]
      rw [wrap64_id (n := n + 1) (by omega) (by omega)]
      by_cases hc : 2 ≤ runM R C s i false ∨ 2 ≤ runM R C s i true
      · have e : numOne R C s i n = n + 1 := if_pos hc
        rw [e] at hnext ⊢
        exact ev_pos (by rw [hb]; simpa using hc) (impl_SlotsOf_j2_ev (by omega) (by omega) hnext)
      · have e : numOne R C s i n = n := if_neg hc
        rw [e] at hnext ⊢
        exact ev_neg (by rw [hb]; simpa using hc) (impl_SlotsOf_j2_ev (by omega) (by omega) hnext)
    by_cases h1 : 2 ≤ runM R C s i false
    · exact ev_pos (by omega) (key true (decide_eq_true (.inl h1)).symm)
    · exact ev_neg (by omega) (key _ (decide_eq_decide.2 (by omega)))
theorem impl_SlotsOf_ev (r c : Int) (s : ByteArray) (hs : s.size ≤ 1048576) : Ev (fun k => impl_SlotsOf.f k r c s) (slotsM r c s) := by
  unfold impl_SlotsOf.f slotsM
  refine ev_bind (impl_IsGrid_ev r c s (by omega)) ?_
  by_cases hg : gridM r c s = true
  · rw [if_pos hg]
    obtain ⟨R, C, rfl, rfl, h1, h2, h3, h4, h5⟩ := gridM_nat hg
    exact ev_pos hg (by simpa using impl_SlotsOf_l0_ev R C s ⟨h1, h2⟩ ⟨h3, h4⟩ h5 0 (by omega) [] 0 (by simp) (by omega) (by omega))
  · rw [if_neg hg]
    exact ev_neg hg (ev_now rfl)

/-! ### cells -/
theorem slot_ext_iff {a b : ISlot} : (a.f0 = b.f0 ∧ a.f1 = b.f1 ∧ a.f2 = b.f2 ∧ a.f3 = b.f3) ↔ a = b := by
  cases a
  cases b
  simp
instance decSlot : DecidableEq ISlot := fun a b => decidable_of_iff _ slot_ext_iff
/-- The cells of a slot. -/
def cellsM (C : Nat) (x : ISlot) : List Int := (List.range' 0 (x.f3.toNat - 0)).map fun k : Nat => x.f2 + (k : Int) * (stepM C x.f1 : Int)
def okSlot (R C : Nat) (s : ByteArray) (x : ISlot) : Prop := ∃ i : Nat, i < R * C ∧ x.f2 = i ∧ x.f3 = runM R C s i x.f1 ∧ 2 ≤ runM R C s i x.f1
theorem slotsOne_mem {R C : Nat} {s : ByteArray} {i : Nat} {n : Int} {x : ISlot} (h : x ∈ slotsOne R C s i n) : x.f0 = n ∧ x.f2 = i ∧ x.f3 = runM R C s i x.f1 ∧ 2 ≤ runM R C s i x.f1 := by
  unfold slotsOne at h
  rcases List.mem_append.1 h with h | h
  · split at h
    · rename_i h2
      rw [List.mem_singleton] at h
      subst h
      exact ⟨rfl, rfl, rfl, h2⟩
    · cases h
  · split at h
    · rename_i h2
      rw [List.mem_singleton] at h
      subst h
      exact ⟨rfl, rfl, rfl, h2⟩
    · cases h
theorem slotsGo_mem {R C : Nat} {s : ByteArray} {x : ISlot} : ∀ {l : List Nat} {n : Int}, x ∈ slotsGo R C s l n → ∃ i ∈ l, x.f2 = i ∧ x.f3 = runM R C s i x.f1 ∧ 2 ≤ runM R C s i x.f1
  | [], _, h => by cases h
  | i :: l, n, h => by
    unfold slotsGo at h
    rcases List.mem_append.1 h with h | h
    · exact ⟨i, List.mem_cons_self, (slotsOne_mem h).2⟩
    · obtain ⟨j, hj, h2⟩ := slotsGo_mem h
      exact ⟨j, List.mem_cons_of_mem _ hj, h2⟩
theorem slotsM_ok {r c : Int} {s : ByteArray} {x : ISlot} (h : x ∈ slotsM r c s) : ∃ R C : Nat, r = R ∧ c = C ∧ 2 ≤ R ∧ R ≤ 6 ∧ 2 ≤ C ∧ C ≤ 6 ∧ s.size = R * C ∧ gridM r c s = true ∧ okSlot R C s x := by
  unfold slotsM at h
  split at h
  · rename_i hg
    obtain ⟨R, C, rfl, rfl, h1, h2, h3, h4, h5⟩ := gridM_nat hg
    obtain ⟨i, hi, h6⟩ := slotsGo_mem h
    rw [List.mem_range'] at hi
    obtain ⟨j, hj, rfl⟩ := hi
    refine ⟨R, C, rfl, rfl, h1, h2, h3, h4, h5, hg, _, ?_, h6⟩
    omega
  · cases h
def slotLt (a b : ISlot) : Prop := a.f2 < b.f2 ∨ (a.f2 = b.f2 ∧ a.f1 = false ∧ b.f1 = true)
theorem slotLt_ne {a b : ISlot} (h : slotLt a b) : a ≠ b := by
  rintro rfl
  rcases h with h | ⟨_, h1, h2⟩
  · omega
  · rw [h1] at h2
    cases h2
theorem slotsGo_pairwise {R C : Nat} {s : ByteArray} : ∀ {l : List Nat} {n : Int}, l.Pairwise (· < ·) → (slotsGo R C s l n).Pairwise slotLt
  | [], _, _ => by simp [slotsGo]
  | i :: l, n, h => by
    unfold slotsGo
    rw [List.pairwise_append]
    refine ⟨?_, slotsGo_pairwise (List.pairwise_cons.1 h).2, ?_⟩
    · unfold slotsOne
      rw [List.pairwise_append]
      refine ⟨by split <;> simp, by split <;> simp, ?_⟩
      intro a ha b hb
      split at ha
      · split at hb
        · rw [List.mem_singleton] at ha hb
          subst ha hb
          exact .inr ⟨rfl, rfl, rfl⟩
        · cases hb
      · cases ha
    · intro a ha b hb
      have h1 := (slotsOne_mem ha).2.1
      obtain ⟨j, hj, h2, _⟩ := slotsGo_mem hb
      have := (List.pairwise_cons.1 h).1 j hj
      exact .inl (by omega)
theorem slotsM_pairwise (r c : Int) (s : ByteArray) : (slotsM r c s).Pairwise slotLt := by
  unfold slotsM
  split
  · exact slotsGo_pairwise (List.pairwise_lt_range' (step := 1) (by omega))
  · simp
theorem slotsM_nodup (r c : Int) (s : ByteArray) : (slotsM r c s).Nodup := (slotsM_pairwise r c s).imp slotLt_ne
theorem okSlot_bounds {R C : Nat} {s : ByteArray} {x : ISlot} (hR : R ≤ 6) (hC : C ≤ 6) (h : okSlot R C s x) : 0 ≤ x.f2 ∧ x.f2 < 36 ∧ 2 ≤ x.f3 ∧ x.f3 ≤ 6 ∧ x.f3.toNat ≤ 6 := by
  obtain ⟨i, hi, h2, h3, h4⟩ := h
  have h36 := bounds36 hR hC
  have h5 : runM R C s i x.f1 ≤ 6 := by
    unfold runM
    split
    · have := runLen_le s (stepM C x.f1) (mostM R C x.f1 - atM C x.f1 i) i
      have := mostM_le hR hC x.f1
      omega
    · omega
  omega
/-- What CellsOf answers. -/
def cellsOfM (r c : Int) (s : ByteArray) (x : ISlot) : List Int := if x ∈ slotsM r c s then cellsM c.toNat x else []
theorem cellsM_length (C : Nat) (x : ISlot) : (cellsM C x).length = x.f3.toNat := by simp [cellsM]
theorem cellsOfM_length (r c : Int) (s : ByteArray) (x : ISlot) : (cellsOfM r c s x).length ≤ 6 := by
  unfold cellsOfM
  split
  · rename_i h
    obtain ⟨R, C, rfl, rfl, _, h2, _, h4, _, _, hk⟩ := slotsM_ok h
    have := okSlot_bounds h2 h4 hk
    rw [cellsM_length]
    omega
  · simp
theorem cell_wrap {C : Nat} {x : ISlot} {k : Nat} (hC : C ≤ 6) (_ : 0 < C) (hk : k ≤ 6) (h1 : 0 ≤ x.f2) (h2 : x.f2 < 36) : wrap64 ((k : Int) * (C : Int)) = (k : Int) * (C : Int) ∧ wrap64 (x.f2 + (k : Int) * (C : Int)) = x.f2 + (k : Int) * (C : Int) := by
  have hb := mul_bound hk hC
  have hcast : ((k : Int) * (C : Int)) = ((k * C : Nat) : Int) := by rw [Int.natCast_mul]
  rw [hcast]
  exact ⟨wrap64_id (by omega) (by omega), wrap64_id (by omega) (by omega)⟩
theorem spec_CellsOf_l1_ev {l : List ISlot} {j : Nat} {R C : Nat} {s : ByteArray} {x : ISlot} {ρ : List Int} (hl : l.length ≤ 1048576) (hj : j < l.length) (hC : C ≤ 6) (h0 : 0 < C) (hx : 0 ≤ x.f2 ∧ x.f2 < 36 ∧ 0 ≤ x.f3 ∧ x.f3.toNat ≤ 6) : ∀ n : Nat, n ≤ x.f3.toNat → ∀ acc : List Int, acc.length ≤ 1000000 + n →
    Ev (fun k => spec_CellsOf.l0 k (acc ++ (List.range' n (x.f3.toNat - n)).map fun k : Nat => x.f2 + (k : Int) * (stepM C x.f1 : Int)) l (j + 1 : Nat) R C s x.f0 x.f1 x.f2 x.f3) ρ → Ev (fun k => spec_CellsOf.l1 k acc l j n R C s x.f0 x.f1 x.f2 x.f3) ρ := by
  refine down x.f3.toNat ?_ ?_
  · intro n h hn acc ha hρ
    apply ev_succ
    simp only [spec_CellsOf.l1]
    rw [wrap64_id (n := (j : Int) + 1) (by omega) (by omega), succ_cast]
    rw [range_nil h] at hρ
    exact ev_neg (by omega) (by simpa using hρ)
  · intro n h ih hn acc ha hρ
    apply ev_succ
    simp only [spec_CellsOf.l1]
    rw [wrap64_id (n := (n : Int) + 1) (by omega) (by omega), succ_cast]
    rw [range_cons h, List.map_cons] at hρ
    have hw := cell_wrap (x := x) hC h0 (show n ≤ 6 by omega) hx.1 hx.2.1
    refine ev_pos (by omega) ?_
    cases hd : x.f1 with
    | true =>
      refine ev_pos rfl (ev_pos (by omega) ?_)
      rw [hw.1, hw.2]
      have := ih (by omega) (acc ++ [x.f2 + (n : Int) * (C : Int)]) (by simp; omega)
      rw [hd] at this hρ
      exact this (by simpa [stepM] using hρ)
    | false =>
      refine ev_neg (by simp) (ev_pos (by omega) ?_)
      rw [wrap64_id (n := x.f2 + n) (by omega) (by omega)]
      have := ih (by omega) (acc ++ [x.f2 + (n : Int)]) (by simp; omega)
      rw [hd] at this hρ
      exact this (by simpa [stepM] using hρ)
theorem spec_CellsOf_l0_ev (R C : Nat) (s : ByteArray) (x : ISlot) (l : List ISlot) (hl : l.length ≤ 1000) (hC : C ≤ 6) (h0 : 0 < C) (hx : x ∈ l → 0 ≤ x.f2 ∧ x.f2 < 36 ∧ 0 ≤ x.f3 ∧ x.f3.toNat ≤ 6) : ∀ i : Nat, i ≤ l.length → ∀ acc : List Int, acc.length ≤ 6 * i →
    Ev (fun k => spec_CellsOf.l0 k acc l i R C s x.f0 x.f1 x.f2 x.f3) (acc ++ (l.drop i).flatMap fun y => if y = x then cellsM C x else []) := by
  refine down l.length ?_ ?_
  · intro i h hi acc ha
    apply ev_succ
    simp only [spec_CellsOf.l0]
    exact ev_neg (by omega) (ev_now (by rw [List.drop_eq_nil_of_le h]; simp))
  · intro i h ih hi acc ha
    apply ev_succ
    simp only [spec_CellsOf.l0]
    rw [rd_Slot_get h, wrap64_id (n := (i : Int) + 1) (by omega) (by omega), succ_cast, List.drop_eq_getElem_cons h, List.flatMap_cons]
    refine ev_pos (by omega) (ev_pos (by omega) ?_)
    by_cases he : l[i] = x
    · have hm : x ∈ l := he ▸ List.getElem_mem h
      have hb := hx hm
      rw [if_pos he]
      refine ev_neg (by rw [he]; simp) ?_
      have := ih (by omega) (acc ++ cellsM C x) (by rw [List.length_append, cellsM_length]; omega)
      exact spec_CellsOf_l1_ev (by omega) h hC h0 hb 0 (by omega) acc (by omega) (by simpa [cellsM] using this)
    · rw [if_neg he]
      refine ev_pos ?_ (by simpa using ih (by omega) acc (by omega))
      rw [← slot_ext_iff] at he
      simp only [Bool.or_eq_true, Bool.not_eq_true', beq_eq_false_iff_ne, ne_eq]
      by_cases a : l[i].f0 = x.f0 <;> by_cases b : l[i].f1 = x.f1 <;> by_cases c : l[i].f2 = x.f2 <;> simp_all
theorem flatMap_one {l : List ISlot} {x : ISlot} {v : List Int} (h : l.Nodup) : (l.flatMap fun y => if y = x then v else []) = if x ∈ l then v else [] := by
  induction l with
  | nil => simp
  | cons a l ih =>
    rw [List.nodup_cons] at h
    rw [List.flatMap_cons, ih h.2]
    by_cases e : a = x
    · subst e
      simp [h.1]
    · simp [e, show ¬ x = a from fun h => e h.symm]
theorem spec_CellsOf_ev (r c : Int) (s : ByteArray) (x : ISlot) (hs : s.size ≤ 1048576) : Ev (fun k => spec_CellsOf.f k r c s x.f0 x.f1 x.f2 x.f3) (cellsOfM r c s x) := by
  unfold spec_CellsOf.f
  refine ev_bind (spec_SlotsOf_ev r c s hs) ?_
  by_cases hg : gridM r c s = true
  · obtain ⟨R, C, rfl, rfl, h1, h2, h3, h4, h5⟩ := gridM_nat hg
    have hl := slotsM_length R C s
    refine ev_eq (spec_CellsOf_l0_ev R C s x (slotsM R C s) (by omega) h4 (by omega) ?_ 0 (by omega) [] (by simp)) ?_
    · intro hm
      obtain ⟨R', C', e1, e2, _, h7, _, h9, _, _, hk⟩ := slotsM_ok hm
      have := okSlot_bounds h7 h9 hk
      omega
    · rw [List.drop_zero, flatMap_one (slotsM_nodup _ _ _)]
      simp [cellsOfM]
  · have e : slotsM r c s = [] := by
      unfold slotsM
      rw [if_neg hg]
    unfold cellsOfM
    rw [e]
    apply ev_succ
    simp only [spec_CellsOf.l0]
    exact ev_neg (by simp) (ev_now (by simp))
theorem impl_cells_l0_ev (C : Nat) (x : ISlot) (hC : C ≤ 6) (h0 : 0 < C) (hx : 0 ≤ x.f2 ∧ x.f2 < 36 ∧ 0 ≤ x.f3 ∧ x.f3.toNat ≤ 6) : ∀ n : Nat, n ≤ x.f3.toNat → ∀ acc : List Int, acc.length ≤ n →
    Ev (fun k => impl_cells.l0 k (stepM C x.f1) acc x.f3 n x.f0 x.f1 x.f2 x.f3) (acc ++ (List.range' n (x.f3.toNat - n)).map fun k : Nat => x.f2 + (k : Int) * (stepM C x.f1 : Int)) := by
  refine down x.f3.toNat ?_ ?_
  · intro n h hn acc ha
    apply ev_succ
    simp only [impl_cells.l0]
    rw [range_nil h]
    exact ev_neg (by omega) (ev_now (by simp))
  · intro n h ih hn acc ha
    have hst := stepM_le hC h0 x.f1
    have hw := cell_wrap (C := stepM C x.f1) (x := x) hst.2 (by omega) (show n ≤ 6 by omega) hx.1 hx.2.1
    apply ev_succ
    simp only [impl_cells.l0]
    rw [wrap64_id (n := (n : Int) + 1) (by omega) (by omega), succ_cast, hw.1, hw.2, range_cons h, List.map_cons]
    exact ev_pos (by omega) (ev_pos (by omega) (ev_eq (ih (by omega) _ (by simp; omega)) (by simp)))
theorem impl_cells_ev (R : Int) (C : Nat) (s : ByteArray) (x : ISlot) (hC : C ≤ 6) (h0 : 0 < C) (hx : 0 ≤ x.f2 ∧ x.f2 < 36 ∧ 0 ≤ x.f3 ∧ x.f3.toNat ≤ 6) : Ev (fun k => impl_cells.f k R C s x.f0 x.f1 x.f2 x.f3) (cellsM C x) := by
  have key : Ev (fun k => impl_cells.j0 k (stepM C x.f1) x.f0 x.f1 x.f2 x.f3) (cellsM C x) := by
    apply ev_succ
    simp only [impl_cells.j0]
    simpa [cellsM] using impl_cells_l0_ev C x hC h0 hx 0 (by omega) [] (by simp)
  unfold impl_cells.f
  cases hd : x.f1 with
  | true =>
    rw [hd] at key
    exact ev_pos rfl (by simpa [stepM] using key)
  | false =>
    rw [hd] at key
    exact ev_neg (by simp) (by simpa [stepM] using key)

/-! ### ints -/

/-! ### slotsat -/
theorem rd_ints_get {l : List (List Int)} {i : Nat} (h : i < l.length) : rd_L5 l (i : Int) = l[i] := by
  unfold rd_L5
  simp [h]
/-- The places, from i on, of the slots that hold a cell. -/
def atGo (C : Nat) (cell : Int) : List ISlot → Nat → List Int
  | [], _ => []
  | x :: l, i => if cell ∈ cellsM C x then (i : Int) :: atGo C cell l (i + 1) else atGo C cell l (i + 1)
def slotsAtM (r c : Int) (s : ByteArray) (cell : Int) : List Int := atGo c.toNat cell (slotsM r c s) 0
def checkedM (r c : Int) (s : ByteArray) (cell : Int) : Bool := decide ((slotsAtM r c s cell).length = 2)
theorem atGo_length (C : Nat) (cell : Int) : ∀ (l : List ISlot) (i : Nat), (atGo C cell l i).length ≤ l.length
  | [], _ => by simp [atGo]
  | x :: l, i => by
    unfold atGo
    have := atGo_length C cell l (i + 1)
    split <;> simp only [List.length_cons] <;> omega
theorem slotsAtM_length (r c : Int) (s : ByteArray) (cell : Int) : (slotsAtM r c s cell).length ≤ 72 := by
  have := atGo_length c.toNat cell (slotsM r c s) 0
  have := slotsM_length r c s
  unfold slotsAtM
  omega
theorem slotsM_elem {r c : Int} {s : ByteArray} {i : Nat} (h : i < (slotsM r c s).length) : ∃ R C : Nat, r = R ∧ c = C ∧ C ≤ 6 ∧ 0 < C ∧ 0 ≤ (slotsM r c s)[i].f2 ∧ (slotsM r c s)[i].f2 < 36 ∧ 0 ≤ (slotsM r c s)[i].f3 ∧ (slotsM r c s)[i].f3.toNat ≤ 6 := by
  obtain ⟨R, C, h1, h2, h3, h4, h5, h6, _, _, hk⟩ := slotsM_ok (List.getElem_mem h)
  have := okSlot_bounds h4 h6 hk
  exact ⟨R, C, h1, h2, h6, by omega, by omega, by omega, by omega, by omega⟩
theorem cellsOfM_elem {r c : Int} {s : ByteArray} {i : Nat} (h : i < (slotsM r c s).length) : cellsOfM r c s (slotsM r c s)[i] = cellsM c.toNat (slotsM r c s)[i] := by
  unfold cellsOfM
  rw [if_pos (List.getElem_mem h)]
theorem cellsM_length_elem {r c : Int} {s : ByteArray} {i : Nat} (h : i < (slotsM r c s).length) : (cellsM c.toNat (slotsM r c s)[i]).length ≤ 6 := by
  rw [← cellsOfM_elem h]
  exact cellsOfM_length _ _ _ _
theorem impl_layout_l0_ev (r c : Int) (s : ByteArray) : ∀ i : Nat, i ≤ (slotsM r c s).length → ∀ acc : List (List Int), acc.length ≤ i →
    Ev (fun k => impl_layout.l0 k acc (slotsM r c s) (slotsM r c s).length i r c s) (acc ++ ((slotsM r c s).drop i).map (cellsM c.toNat)) := by
  have hl := slotsM_length r c s
  refine down (slotsM r c s).length ?_ ?_
  · intro i h hi acc ha
    apply ev_succ
    simp only [impl_layout.l0]
    exact ev_neg (by omega) (ev_now (by rw [List.drop_eq_nil_of_le h]; simp))
  · intro i h ih hi acc ha
    obtain ⟨R, C, h1, h2, h3, h4, h5, h6, h7, h8⟩ := slotsM_elem h
    have e : c.toNat = C := by omega
    have hcells := impl_cells_ev r C s (slotsM r c s)[i] h3 h4 ⟨h5, h6, h7, h8⟩
    apply ev_succ
    simp only [impl_layout.l0]
    rw [rd_Slot_get h, wrap64_id (n := (i : Int) + 1) (by omega) (by omega), succ_cast, List.drop_eq_getElem_cons h, List.map_cons]
    refine ev_pos (by omega) (ev_pos (by omega) (ev_pos (by omega) (ev_bind (a := cellsM C (slotsM r c s)[i]) ?_ (ev_pos (by omega) ?_))))
    · rw [← h2] at hcells
      exact hcells
    · exact ev_eq (ih (by omega) _ (by simp; omega)) (by rw [e]; simp)
def layoutM (r c : Int) (s : ByteArray) : List (List Int) := (slotsM r c s).map (cellsM c.toNat)
theorem layoutM_length (r c : Int) (s : ByteArray) : (layoutM r c s).length = (slotsM r c s).length := by simp [layoutM]
theorem layoutM_get {r c : Int} {s : ByteArray} {i : Nat} (h : i < (slotsM r c s).length) : (layoutM r c s)[i]'(by rw [layoutM_length]; exact h) = cellsM c.toNat (slotsM r c s)[i] := by simp [layoutM]
theorem impl_layout_ev (r c : Int) (s : ByteArray) (hs : s.size ≤ 1048576) : Ev (fun k => impl_layout.f k r c s) (layoutM r c s) := by
  unfold impl_layout.f
  exact ev_bind (impl_SlotsOf_ev r c s hs) (ev_eq (impl_layout_l0_ev r c s 0 (by omega) [] (by simp)) (by simp [layoutM]))

/-! ### slotfacts -/
theorem runLen_white {s : ByteArray} {step : Nat} : ∀ {m i k : Nat}, k < runLen s step i m → bt s (i + k * step : Nat) = 46
  | 0, i, k, h => by simp [runLen] at h
  | m + 1, i, k, h => by
    unfold runLen at h
    split at h
    · rename_i hw
      cases k with
      | zero => simpa using hw
      | succ k =>
        have := runLen_white (s := s) (step := step) (m := m) (i := i + step) (k := k) (by omega)
        rw [show i + (k + 1) * step = i + step + k * step by rw [Nat.add_mul, Nat.one_mul]; omega]
        exact this
    · omega
theorem cellsM_mem {C : Nat} {x : ISlot} {c : Int} : c ∈ cellsM C x ↔ ∃ k : Nat, k < x.f3.toNat ∧ c = x.f2 + (k : Int) * (stepM C x.f1 : Int) := by
  unfold cellsM
  rw [List.mem_map]
  constructor
  · rintro ⟨k, hk, rfl⟩
    rw [List.mem_range'] at hk
    obtain ⟨j, hj, rfl⟩ := hk
    exact ⟨_, by omega, rfl⟩
  · rintro ⟨k, hk, rfl⟩
    exact ⟨k, by rw [List.mem_range']; exact ⟨k, by omega, by omega⟩, rfl⟩
/-- A slot's cell: its place, that it lies in the grid, that it is white. -/
theorem okSlot_cell {R C : Nat} {s : ByteArray} {x : ISlot} {c : Int} (h0 : 0 < C) (h : okSlot R C s x) (hc : c ∈ cellsM C x) :
    ∃ i k : Nat, x.f2 = i ∧ x.f3 = runM R C s i x.f1 ∧ i < R * C ∧ c = ((i + k * stepM C x.f1 : Nat) : Int) ∧ k < runM R C s i x.f1 ∧ atM C x.f1 i + k < mostM R C x.f1 ∧ i + k * stepM C x.f1 < R * C ∧ bt s c = 46 ∧ ¬ (0 < atM C x.f1 i ∧ bt s (i - stepM C x.f1 : Nat) = 46) := by
  obtain ⟨i, hi, h2, h3, h4⟩ := h
  obtain ⟨k, hk, rfl⟩ := cellsM_mem.1 hc
  have hk' : k < runM R C s i x.f1 := by omega
  have hk0 := hk'
  unfold runM at hk'
  split at hk'
  · rename_i hs
    have hle := runLen_le s (stepM C x.f1) (mostM R C x.f1 - atM C x.f1 i) i
    have hw := runLen_white hk'
    have hat : atM C x.f1 i + k < mostM R C x.f1 := by omega
    have hcast : x.f2 + (k : Int) * (stepM C x.f1 : Int) = ((i + k * stepM C x.f1 : Nat) : Int) := by
      rw [h2, Int.natCast_add, Int.natCast_mul]
    refine ⟨i, k, h2, h3, hi, hcast, hk0, hat, cell_lt h0 hi hat, ?_, hs.2⟩
    rw [hcast]
    exact hw
  · omega
theorem atM_add {C : Nat} {dn : Bool} {i d : Nat} {R : Nat} (h0 : 0 < C) (h : atM C dn i + d < mostM R C dn) : atM C dn (i + d * stepM C dn) = atM C dn i + d := by
  cases dn with
  | true =>
    simp only [atM, stepM, if_true]
    rw [Nat.add_mul_div_right _ _ h0]
  | false =>
    simp only [atM, stepM, mostM, Bool.false_eq_true, if_false, Nat.mul_one] at h ⊢
    rw [Nat.add_mod, Nat.mod_eq_of_lt (show d < C by omega), Nat.mod_eq_of_lt h]
/-- Two slots of one direction that share a cell begin at one cell. -/
theorem slot_one {R C : Nat} {s : ByteArray} {x y : ISlot} {c : Int} (h0 : 0 < C) (hx : okSlot R C s x) (hy : okSlot R C s y) (hd : x.f1 = y.f1) (h1 : c ∈ cellsM C x) (h2 : c ∈ cellsM C y) : x.f2 = y.f2 := by
  have aux : ∀ x y : ISlot, okSlot R C s x → okSlot R C s y → x.f1 = y.f1 → c ∈ cellsM C x → c ∈ cellsM C y → ¬ x.f2 < y.f2 := by
    intro x y hx hy hd h1 h2 hlt
    obtain ⟨i, a, e1, _, _, e2, ha, hat, _, _, _⟩ := okSlot_cell h0 hx h1
    obtain ⟨j, b, e3, _, _, e4, hb, hat2, _, _, hst⟩ := okSlot_cell h0 hy h2
    rw [← hd] at e4 hb hat2 hst
    have hij : i < j := by omega
    have hst' : 0 < stepM C x.f1 := by
      unfold stepM
      split <;> omega
    have e5 : i + a * stepM C x.f1 = j + b * stepM C x.f1 := by omega
    have hab : b < a := by
      apply Classical.byContradiction
      intro hn
      have := Nat.mul_le_mul_right (stepM C x.f1) (show a ≤ b by omega)
      omega
    obtain ⟨d, rfl⟩ : ∃ d, a = b + (d + 1) := ⟨a - b - 1, by omega⟩
    have e6 : j = i + (d + 1) * stepM C x.f1 := by
      rw [Nat.add_mul] at e5
      omega
    have e7 : atM C x.f1 j = atM C x.f1 i + (d + 1) := by
      rw [e6]
      exact atM_add (R := R) h0 (by omega)
    have hr : d < runM R C s i x.f1 := by omega
    have hw : bt s (i + d * stepM C x.f1 : Nat) = 46 := by
      unfold runM at hr
      split at hr
      · exact runLen_white hr
      · omega
    refine hst ⟨by omega, ?_⟩
    rw [show j - stepM C x.f1 = i + d * stepM C x.f1 by rw [e6, Nat.add_mul, Nat.one_mul]; omega]
    exact hw
  have := aux x y hx hy hd h1 h2
  have := aux y x hy hx hd.symm h2 h1
  omega
/-- The slots that hold a cell. -/
def holdersM (r c : Int) (s : ByteArray) (cell : Int) : List ISlot := (slotsM r c s).filter fun x => decide (cell ∈ cellsM c.toNat x)
theorem holders_dirs (r c : Int) (s : ByteArray) (cell : Int) : (holdersM r c s cell).Pairwise fun a b => a.f1 ≠ b.f1 := by
  unfold holdersM
  have hp := (slotsM_pairwise r c s).filter fun x => decide (cell ∈ cellsM c.toNat x)
  refine List.Pairwise.imp_of_mem ?_ hp
  intro a b ha hb hlt he
  rw [List.mem_filter, decide_eq_true_eq] at ha hb
  obtain ⟨R, C, rfl, rfl, _, _, h3, _, _, _, hka⟩ := slotsM_ok ha.1
  obtain ⟨R', C', e1, e2, _, _, _, _, _, _, hkb⟩ := slotsM_ok hb.1
  have e1' : R' = R := by omega
  have e2' : C' = C := by omega
  subst e1' e2'
  have := slot_one (by omega) hka hkb he ha.2 hb.2
  rcases hlt with h | ⟨_, h1, h2⟩
  · omega
  · rw [h1, h2] at he
    cases he
theorem holders_two (r c : Int) (s : ByteArray) (cell : Int) : (holdersM r c s cell).length ≤ 2 := by
  have h := holders_dirs r c s cell
  match holdersM r c s cell, h with
  | [], _ => simp
  | [_], _ => simp
  | [_, _], _ => simp
  | a :: b :: d :: l, h =>
    simp only [List.pairwise_cons] at h
    have h1 := h.1 b (by simp)
    have h2 := h.1 d (by simp)
    have h3 := h.2.1 d (by simp)
    cases ha : a.f1 <;> cases hb : b.f1 <;> cases hd : d.f1 <;> simp_all
theorem atGo_holders (C : Nat) (cell : Int) : ∀ (l : List ISlot) (i : Nat), (atGo C cell l i).length = (l.filter fun x => decide (cell ∈ cellsM C x)).length
  | [], _ => rfl
  | x :: l, i => by
    unfold atGo
    by_cases h : cell ∈ cellsM C x
    · simp [h, atGo_holders C cell l (i + 1)]
    · simp [h, atGo_holders C cell l (i + 1)]
theorem slotsAtM_two (r c : Int) (s : ByteArray) (cell : Int) : (slotsAtM r c s cell).length ≤ 2 := by
  have := holders_two r c s cell
  unfold slotsAtM
  rw [atGo_holders]
  exact this
theorem slotsAtM_white {r c : Int} {s : ByteArray} {cell : Int} (h : 0 < (slotsAtM r c s cell).length) : bt s cell = 46 := by
  unfold slotsAtM at h
  rw [atGo_holders] at h
  obtain ⟨x, hx⟩ := List.exists_mem_of_length_pos h
  rw [List.mem_filter, decide_eq_true_eq] at hx
  obtain ⟨R, C, rfl, rfl, _, _, h3, _, _, _, hk⟩ := slotsM_ok hx.1
  obtain ⟨_, _, _, _, _, _, _, _, _, hw, _⟩ := okSlot_cell (by omega) hk hx.2
  exact hw
theorem slotsM_nil {r c : Int} {s : ByteArray} (h : ¬ gridM r c s = true) : slotsM r c s = [] := by
  unfold slotsM
  rw [if_neg h]

/-! ### unchecked -/
def countU (r c : Int) (s : ByteArray) : List Int → Nat
  | [] => 0
  | x :: l => (if checkedM r c s x = true then 0 else 1) + countU r c s l
theorem countU_drop {r c : Int} {s : ByteArray} {l : List Int} {i : Nat} (h : i < l.length) : countU r c s (l.drop i) = (if checkedM r c s l[i] = true then 0 else 1) + countU r c s (l.drop (i + 1)) := by
  rw [List.drop_eq_getElem_cons h]
  rfl
def uncheckedM (r c : Int) (s : ByteArray) (slot : Int) : Int := if 0 ≤ slot ∧ slot < (slotsM r c s).length then countU r c s (cellsM c.toNat ((slotsM r c s).getD slot.toNat ⟨0, false, 0, 0⟩)) else -1

/-! ### fill -/
/-- May this sign stand in a fill over this cell of a grid? -/
def fillC (g f : Int) : Bool := (decide (g = 35) == decide (f = 35)) && (decide (f = 35) || decide (f = 63) || isL f)
def fillM (r c : Int) (s f : ByteArray) : Bool := gridM r c s && (decide (f.size = s.size) && (List.range' 0 (f.size - 0)).all fun j => fillC (bt s j) (bt f j))
theorem gridM_cell {r c : Int} {s : ByteArray} (h : gridM r c s = true) (i : Nat) (hi : i < s.size) : bt s i = 35 ∨ bt s i = 46 := by
  simp only [gridM, Bool.and_eq_true, List.all_eq_true] at h
  have := h.2 i (by rw [List.mem_range']; exact ⟨i, by omega, by omega⟩)
  simpa [isC] using this
theorem spec_IsFill_l0_ev (r c : Int) (s f : ByteArray) (hg : gridM r c s = true) (hf : f.size ≤ 140737488351232) (he : f.size = s.size) : ∀ i : Nat, i ≤ f.size → Ev (fun k => spec_IsFill.l0 k f i r c s) ((List.range' i (f.size - i)).all fun j => fillC (bt s j) (bt f j)) := by
  refine down f.size ?_ ?_
  · intro i h hi
    apply ev_succ
    simp only [spec_IsFill.l0]
    refine ev_neg (by omega) (ev_now ?_)
    rw [range_nil h]; rfl
  · intro i h ih hi
    have hc := gridM_cell hg i (by omega)
    apply ev_succ
    simp only [spec_IsFill.l0]
    rw [range_cons h, List.all_cons, wrap64_id (by omega) (by omega), succ_cast]
    refine ev_pos (by omega) (ev_pos (by omega) ?_)
    have ih' := ih (by omega)
    by_cases h1 : bt f i = 63
    · refine ev_pos h1 (ev_pos (by omega) ?_)
      rcases hc with hc | hc
      · exact ev_pos hc (ev_neg (by omega) (ev_now (by simp [fillC, hc, h1])))
      · exact ev_neg (by omega) (ev_pos hc (ev_eq ih' (by simp [fillC, hc, h1])))
    · refine ev_neg h1 ?_
      by_cases h2 : bt f i ≥ 97
      · refine ev_pos h2 (ev_pos (by omega) ?_)
        rcases hc with hc | hc
        · exact ev_pos hc (ev_neg (by omega) (ev_now (by simp [fillC, hc, show ¬ bt f i = 35 by omega])))
        · refine ev_neg (by omega) (ev_pos hc ?_)
          by_cases h3 : bt f i ≤ 122
          · exact ev_pos h3 (ev_eq ih' (by simp [fillC, isL, hc, show ¬ bt f i = 35 by omega, h1, h2, h3]))
          · exact ev_neg h3 (ev_now (by simp [fillC, isL, hc, show ¬ bt f i = 35 by omega, h1, h2, h3]))
      · refine ev_neg h2 (ev_pos (by omega) ?_)
        rcases hc with hc | hc
        · refine ev_pos hc ?_
          by_cases h3 : bt f i = 35
          · exact ev_pos h3 (ev_neg (by omega) (ev_eq ih' (by simp [fillC, hc, h3])))
          · exact ev_neg h3 (ev_now (by simp [fillC, hc, h3]))
        · refine ev_neg (by omega) (ev_pos hc (ev_now ?_))
          have : fillC (bt s i) (bt f i) = false := by
            unfold fillC isL
            rw [hc]
            by_cases h3 : bt f i = 35
            · simp [h3]
            · simp [h3, h1]; omega
          simp [this]
theorem impl_IsFill_l0_ev (r c : Int) (s f : ByteArray) (hg : gridM r c s = true) (hf : f.size ≤ 140737488351232) (he : f.size = s.size) : ∀ i : Nat, i ≤ f.size → Ev (fun k => impl_IsFill.l0 k f f.size i r c s) ((List.range' i (f.size - i)).all fun j => fillC (bt s j) (bt f j)) := by
  refine down f.size ?_ ?_
  · intro i h hi
    apply ev_succ
    simp only [impl_IsFill.l0]
    refine ev_neg (by omega) (ev_now ?_)
    rw [range_nil h]; rfl
  · intro i h ih hi
    have hc := gridM_cell hg i (by omega)
    apply ev_succ
    simp only [impl_IsFill.l0]
    rw [range_cons h, List.all_cons, wrap64_id (by omega) (by omega), succ_cast]
    refine ev_pos (by omega) (ev_pos (by omega) (ev_pos (by omega) (ev_pos (by omega) ?_)))
    have ih' := ih (by omega)
    rcases hc with hc | hc
    · refine ev_pos hc ?_
      by_cases h1 : bt f i = 35
      · exact ev_pos h1 (ev_eq ih' (by simp [fillC, hc, h1]))
      · exact ev_neg h1 (ev_now (by simp [fillC, hc, h1]))
    · refine ev_neg (by omega) ?_
      by_cases h1 : bt f i = 35
      · exact ev_pos h1 (ev_now (by simp [fillC, hc, h1]))
      · refine ev_neg h1 ?_
        by_cases h2 : bt f i = 63
        · exact ev_pos h2 (ev_eq ih' (by simp [fillC, hc, h2]))
        · refine ev_neg h2 (ev_let (impl_isLetter_eq _) ?_)
          cases hl : isL (bt f i)
          · exact ev_neg (by simp) (ev_now (by simp [fillC, hc, h1, h2, hl]))
          · exact ev_pos rfl (ev_eq ih' (by simp [fillC, hc, h1, h2, hl]))
theorem spec_IsFill_ev (r c : Int) (s f : ByteArray) (hs : s.size ≤ 140737488351232) (hf : f.size ≤ 140737488351232) : Ev (fun k => spec_IsFill.f k r c s f) (fillM r c s f) := by
  unfold spec_IsFill.f fillM
  refine ev_bind (spec_IsGrid_ev r c s hs) ?_
  cases hg : gridM r c s
  · refine ev_neg (by simp) (ev_succ ?_)
    simp only [spec_IsFill.j0]
    exact ev_pos (by simp) (ev_now rfl)
  · refine ev_pos rfl (ev_succ ?_)
    simp only [spec_IsFill.j0]
    by_cases he : f.size = s.size
    · exact ev_neg (by simp [he]) (ev_eq (spec_IsFill_l0_ev r c s f hg hf he 0 (by omega)) (by simp [he]))
    · exact ev_pos (by simp; omega) (ev_now (by simp [he]))
theorem impl_IsFill_ev (r c : Int) (s f : ByteArray) (hs : s.size ≤ 140737488351232) (hf : f.size ≤ 140737488351232) : Ev (fun k => impl_IsFill.f k r c s f) (fillM r c s f) := by
  unfold impl_IsFill.f fillM
  refine ev_bind (impl_IsGrid_ev r c s hs) ?_
  cases hg : gridM r c s
  · refine ev_neg (by simp) (ev_succ ?_)
    simp only [impl_IsFill.j0]
    exact ev_pos (by simp) (ev_now rfl)
  · refine ev_pos rfl (ev_succ ?_)
    simp only [impl_IsFill.j0]
    by_cases he : f.size = s.size
    · exact ev_neg (by simp [he]) (ev_eq (impl_IsFill_l0_ev r c s f hg hf he 0 (by omega)) (by simp [he]))
    · exact ev_pos (by simp; omega) (ev_now (by simp [he]))

/-! ### pattern -/
/-- The signs of a fill at some cells. -/
def patM (f : ByteArray) (l : List Int) : ByteArray := strOfNums (l.map fun x => bt f x)
theorem strOfNums_size (l : List Int) : (strOfNums l).size = l.length := by
  simp [strOfNums, ByteArray.size]
theorem strOfNums_snoc (l : List Int) (f : ByteArray) (j : Nat) (hj : j < f.size) : strOfNums l ++ f.extract j (j + 1) = strOfNums (l ++ [bt f j]) := by
  apply ByteArray.ext
  apply Array.ext'
  have h1 : (f.extract j (j + 1)).data.toList = [f[j]] := by
    rw [ByteArray.data_extract, Array.toList_extract, List.extract_eq_take_drop]
    have hl : j < f.data.toList.length := by rw [Array.length_toList]; exact hj
    rw [show j + 1 - j = 1 by omega, List.drop_eq_getElem_cons hl]
    simp [ByteArray.getElem_eq_getElem_data]
  rw [ByteArray.toList_data_append, h1]
  simp [strOfNums, bt, hj]
theorem slot_cells_in {r c : Int} {s : ByteArray} {x : ISlot} {cell : Int} (hx : x ∈ slotsM r c s) (hc : cell ∈ cellsM c.toNat x) : 0 ≤ cell ∧ cell < s.size := by
  obtain ⟨R, C, rfl, rfl, _, _, h3, _, h5, _, hk⟩ := slotsM_ok hx
  obtain ⟨i, k, _, _, _, e, _, _, h, _⟩ := okSlot_cell (by omega) hk hc
  omega
theorem impl_readCells_l0_ev (f : ByteArray) (l : List Int) (hl : l.length ≤ 1000) (hc : ∀ x ∈ l, 0 ≤ x ∧ x < f.size) : ∀ i : Nat, i ≤ l.length → ∀ acc : List Int, acc.length ≤ i → Ev (fun k => impl_readCells.l0 k f acc l l.length i) (strOfNums (acc ++ (l.drop i).map fun x => bt f x)) := by
  refine down l.length ?_ ?_
  · intro i h hi acc ha
    apply ev_succ
    simp only [impl_readCells.l0]
    exact ev_neg (by omega) (ev_now (by rw [List.drop_eq_nil_of_le h]; simp))
  · intro i h ih hi acc ha
    have hb := hc l[i] (List.getElem_mem h)
    apply ev_succ
    simp only [impl_readCells.l0]
    rw [rd_get h, wrap64_id (n := (i : Int) + 1) (by omega) (by omega), succ_cast, List.drop_eq_getElem_cons h, List.map_cons]
    exact ev_pos (by omega) (ev_pos (by omega) (ev_pos (by omega) (ev_pos hb.1 (ev_pos hb.2 (ev_pos (by omega) (ev_eq (ih (by omega) _ (by simp; omega)) (by simp)))))))
theorem impl_readCells_ev (f : ByteArray) (l : List Int) (hl : l.length ≤ 1000) (hc : ∀ x ∈ l, 0 ≤ x ∧ x < f.size) : Ev (fun k => impl_readCells.f k f l) (patM f l) := by
  unfold impl_readCells.f patM
  exact ev_eq (impl_readCells_l0_ev f l hl hc 0 (by omega) [] (by simp)) (by simp)
theorem fillM_size {r c : Int} {s f : ByteArray} (h : fillM r c s f = true) : gridM r c s = true ∧ f.size = s.size := by
  simp only [fillM, Bool.and_eq_true, decide_eq_true_eq] at h
  exact ⟨h.1, h.2.1⟩
def patternsM (r c : Int) (s f : ByteArray) : List ByteArray := if fillM r c s f then (layoutM r c s).map (patM f) else []
theorem patternsM_length (r c : Int) (s f : ByteArray) : (patternsM r c s f).length ≤ 72 := by
  have := slotsM_length r c s
  unfold patternsM
  split
  · rw [List.length_map, layoutM_length]
    omega
  · simp
/-- What SlotPattern answers. -/
def patternM (r c : Int) (s f : ByteArray) (slot : Int) : ByteArray := if 0 ≤ slot ∧ slot < (patternsM r c s f).length then (patternsM r c s f).getD slot.toNat ⟨#[]⟩ else ⟨#[]⟩
theorem impl_patterns_l0_ev (r c : Int) (s f : ByteArray) (hs : f.size = s.size) : ∀ i : Nat, i ≤ (slotsM r c s).length → ∀ acc : List ByteArray, acc.length ≤ i →
    Ev (fun k => impl_patterns.l0 k f acc (layoutM r c s) (layoutM r c s).length i) (acc ++ ((layoutM r c s).drop i).map (patM f)) := by
  have hl := slotsM_length r c s
  have hL := layoutM_length r c s
  refine down (slotsM r c s).length ?_ ?_
  · intro i h hi acc ha
    apply ev_succ
    simp only [impl_patterns.l0]
    exact ev_neg (by omega) (ev_now (by rw [List.drop_eq_nil_of_le (by omega)]; simp))
  · intro i h ih hi acc ha
    have h6 := cellsM_length_elem h
    have hi' : i < (layoutM r c s).length := by omega
    have hr := impl_readCells_ev f (cellsM c.toNat (slotsM r c s)[i]) (by omega) (fun x hx => by have := slot_cells_in (List.getElem_mem h) hx; omega)
    apply ev_succ
    simp only [impl_patterns.l0]
    rw [rd_ints_get hi', layoutM_get h, wrap64_id (n := (i : Int) + 1) (by omega) (by omega), succ_cast, List.drop_eq_getElem_cons hi', List.map_cons, layoutM_get h]
    exact ev_pos (by omega) (ev_pos (by omega) (ev_pos (by omega) (ev_bind hr (ev_pos (by omega) (ev_eq (ih (by omega) _ (by simp; omega)) (by simp))))))
theorem impl_patterns_ev (r c : Int) (s f : ByteArray) (hs : s.size ≤ 1048576) (hf : f.size ≤ 1048576) : Ev (fun k => impl_patterns.f k r c s f) (patternsM r c s f) := by
  unfold impl_patterns.f patternsM
  refine ev_bind (impl_IsFill_ev r c s f (by omega) (by omega)) ?_
  by_cases h : fillM r c s f = true
  · rw [if_pos h]
    exact ev_pos h (ev_bind (impl_layout_ev r c s hs) (ev_eq (impl_patterns_l0_ev r c s f (fillM_size h).2 0 (by omega) [] (by simp)) (by simp)))
  · rw [if_neg h]
    exact ev_neg h (ev_now rfl)
theorem spec_SlotPattern_l0_ev (f : ByteArray) (l : List Int) (hf : f.size ≤ 1048576) (hl : l.length ≤ 1000) (hc : ∀ x ∈ l, 0 ≤ x ∧ x < f.size) : ∀ i : Nat, i ≤ l.length → ∀ acc : List Int, acc.length ≤ i → Ev (fun k => spec_SlotPattern.l0 k f (strOfNums acc) l i) (strOfNums (acc ++ (l.drop i).map fun x => bt f x)) := by
  refine down l.length ?_ ?_
  · intro i h hi acc ha
    apply ev_succ
    simp only [spec_SlotPattern.l0]
    exact ev_neg (by omega) (ev_now (by rw [List.drop_eq_nil_of_le h]; simp))
  · intro i h ih hi acc ha
    have hb := hc l[i] (List.getElem_mem h)
    obtain ⟨j, hj⟩ := Int.eq_ofNat_of_zero_le hb.1
    have hjf : j < f.size := by omega
    have hsn := strOfNums_snoc acc f j hjf
    apply ev_succ
    simp only [spec_SlotPattern.l0]
    rw [rd_get h, wrap64_id (n := (i : Int) + 1) (by omega) (by omega), succ_cast, List.drop_eq_getElem_cons h, List.map_cons, hj, wrap64_id (n := (j : Int) + 1) (by omega) (by omega), show ((j : Int) + 1).toNat = j + 1 by omega, show (j : Int).toNat = j by omega, hsn]
    refine ev_pos (by omega) (ev_pos (by omega) (ev_pos (by omega) (ev_pos (by omega) (ev_pos (by omega) (ev_pos ?_ (ev_eq (ih (by omega) _ (by simp; omega)) (by simp)))))))
    rw [strOfNums_size]
    simp [ByteArray.size_extract]
    omega
theorem spec_SlotPattern_ev (r c : Int) (s f : ByteArray) (slot : Int) (hs : s.size ≤ 1048576) (hf : f.size ≤ 1048576) : Ev (fun k => spec_SlotPattern.f k r c s f slot) (patternM r c s f slot) := by
  have hl := slotsM_length r c s
  have hL := layoutM_length r c s
  have hno : Ev (fun k => spec_SlotPattern.j0 k f slot (slotsM r c s) true r c s) ⟨#[]⟩ := by
    apply ev_succ
    simp only [spec_SlotPattern.j0]
    exact ev_pos (by simp) (ev_now rfl)
  unfold spec_SlotPattern.f patternM
  refine ev_bind (spec_SlotsOf_ev r c s hs) (ev_bind (spec_IsFill_ev r c s f (by omega) (by omega)) ?_)
  by_cases h : fillM r c s f = true
  · refine ev_pos h (ev_let (spec_l1In_eq _ _ _) ?_)
    have e : patternsM r c s f = (layoutM r c s).map (patM f) := if_pos h
    have el : (patternsM r c s f).length = (slotsM r c s).length := by rw [e, List.length_map, hL]
    rw [wrap64_id (by omega) (by omega)]
    by_cases hb : 0 ≤ slot ∧ slot < (slotsM r c s).length
    · obtain ⟨j, rfl⟩ := Int.eq_ofNat_of_zero_le hb.1
      have hj : j < (slotsM r c s).length := by omega
      have h6 := cellsM_length_elem hj
      rw [if_pos (by rw [el]; exact hb)]
      apply ev_succ
      simp only [spec_SlotPattern.j0]
      rw [rd_Slot_get hj]
      refine ev_neg (by simp; omega) (ev_pos (by omega) (ev_pos (by omega) (ev_bind (spec_CellsOf_ev r c s _ hs) ?_)))
      rw [cellsOfM_elem hj]
      refine ev_eq (spec_SlotPattern_l0_ev f _ hf (by omega) (fun x hx => by have := slot_cells_in (List.getElem_mem hj) hx; have := (fillM_size h).2; omega) 0 (by omega) [] (by simp)) ?_
      rw [e]
      simp only [List.drop_zero, List.nil_append, Int.toNat_natCast]
      rw [List.getD_eq_getElem?_getD, List.getElem?_map, List.getElem?_eq_getElem (by omega), layoutM_get hj]
      rfl
    · rw [if_neg (by rw [el]; exact hb)]
      rw [show (!decide (0 ≤ slot ∧ slot ≤ ((slotsM r c s).length : Int) - 1)) = true by simp; omega]
      exact hno
  · have e : patternsM r c s f = [] := if_neg h
    refine ev_neg h ?_
    rw [e]
    exact ev_eq hno (by simp)

/-! ### strs -/
def total (l : List ByteArray) : Nat := (l.map ByteArray.size).sum
theorem mem_total {l : List ByteArray} {x : ByteArray} (h : x ∈ l) : x.size ≤ total l := by
  induction l with
  | nil => cases h
  | cons a r ih =>
    have e : total (a :: r) = a.size + total r := rfl
    rcases List.mem_cons.1 h with rfl | h
    · omega
    · have := ih h
      omega
theorem total_drop {l : List ByteArray} {i : Nat} (h : i < l.length) : total (l.drop i) = l[i].size + total (l.drop (i + 1)) := by
  rw [List.drop_eq_getElem_cons h]
  rfl
theorem laws_szStringS_l0_ev (l : List ByteArray) (hl : l.length ≤ 9223372036854775806) (hs : ∀ s ∈ l, s.size ≤ 9223372036854775807) : ∀ i : Nat, i ≤ l.length → ∀ n : Int, 0 ≤ n → n ≤ 1048576 →
    ∃ r : Int, Ev (fun k => laws_szStringS.l0 k l n i) r ∧ (r < 0 ∨ 0 ≤ r ∧ r + total (l.drop i) = n) := by
  refine down l.length ?_ ?_
  · intro i h hi n h0 hn
    refine ⟨n, ?_, .inr ⟨h0, ?_⟩⟩
    · apply ev_succ
      simp only [laws_szStringS.l0]
      exact ev_neg (by omega) (ev_now rfl)
    · rw [List.drop_eq_nil_of_le h]
      simp [total]
  · intro i h ih hi n h0 hn
    have hb := hs l[i] (List.getElem_mem h)
    have ht := total_drop h
    by_cases hneg : n - (l[i].size : Int) < 0
    · refine ⟨-1, ?_, .inl (by omega)⟩
      apply ev_succ
      simp only [laws_szStringS.l0]
      rw [rdOf_get h, wrap64_id (n := n - _) (by omega) (by omega)]
      exact ev_pos (by omega) (ev_pos (by omega) (ev_pos hneg (ev_now rfl)))
    · obtain ⟨r, hr, h1⟩ := ih (by omega) (n - (l[i].size : Int)) (by omega) (by omega)
      refine ⟨r, ?_, ?_⟩
      · apply ev_succ
        simp only [laws_szStringS.l0]
        rw [rdOf_get h, wrap64_id (n := n - _) (by omega) (by omega), wrap64_id (n := (i : Int) + 1) (by omega) (by omega), succ_cast]
        exact ev_pos (by omega) (ev_pos (by omega) (ev_neg hneg hr))
      · rcases h1 with h1 | h1
        · exact .inl h1
        · exact .inr ⟨h1.1, by omega⟩
theorem laws_szStringS_ev (l : List ByteArray) (hl : l.length ≤ 9223372036854775807) (hs : ∀ s ∈ l, s.size ≤ 9223372036854775807) (n : Int) (h0 : 0 ≤ n) (hn : n ≤ 1048576) :
    ∃ r : Int, Ev (fun k => laws_szStringS.f k l n) r ∧ (r < 0 ∨ 0 ≤ r ∧ r + l.length + total l = n) := by
  unfold laws_szStringS.f
  rw [wrap64_id (n := n - _) (by omega) (by omega)]
  by_cases hneg : n - (l.length : Int) < 0
  · exact ⟨-1, ev_pos hneg (ev_now rfl), .inl (by omega)⟩
  · obtain ⟨r, hr, h1⟩ := laws_szStringS_l0_ev l (by omega) hs 0 (by omega) (n - (l.length : Int)) (by omega) (by omega)
    refine ⟨r, ev_neg hneg hr, ?_⟩
    rcases h1 with h1 | h1
    · exact .inl h1
    · exact .inr ⟨h1.1, by have := h1.2; simp at this; omega⟩
theorem laws_toStringS_l0_ev (l : List ByteArray) (hl : l.length ≤ 1048576) : ∀ i : Nat, i ≤ l.length → ∀ x : List ByteArray, x.length = l.length → (∀ j, j < i → x[j]? = l[j]?) → Ev (fun k => laws_toStringS.l0 k l x i) l := by
  refine down l.length ?_ ?_
  · intro i h hi x hx hj
    apply ev_succ
    simp only [laws_toStringS.l0]
    exact ev_neg (by omega) (ev_now (all_known hx (fun j h' => hj j (by omega))))
  · intro i h ih hi x hx hj
    apply ev_succ
    simp only [laws_toStringS.l0]
    rw [rdOf_get h, wrap64_id (n := (i : Int) + 1) (by omega) (by omega), succ_cast, show (i : Int).toNat = i by omega]
    exact ev_pos (by omega) (ev_pos (by omega) (ev_pos (by omega) (ih (by omega) _ (by simpa using hx) (set_known h hx rfl hj))))
theorem laws_toStringS_ev (l : List ByteArray) (hl : l.length ≤ 1048576) : Ev (fun k => laws_toStringS.f k l) l := by
  unfold laws_toStringS.f
  exact ev_pos (by omega) (ev_pos (by omega) (laws_toStringS_l0_ev l hl 0 (by omega) _ (by simp) (by intro j hj; omega)))
theorem laws_eqStringS_l0_ev (a b : List ByteArray) (hl : a.length = b.length) (hb : a.length ≤ 9223372036854775806) : ∀ i : Nat, i ≤ a.length → Ev (fun k => laws_eqStringS.l0 k a b i) (decide (a.drop i = b.drop i)) := by
  refine down a.length ?_ ?_
  · intro i h hi
    apply ev_succ
    simp only [laws_eqStringS.l0]
    refine ev_neg (by omega) (ev_now ?_)
    rw [List.drop_eq_nil_of_le h, List.drop_eq_nil_of_le (by omega)]
    simp
  · intro i h ih hi
    have h' : i < b.length := by omega
    apply ev_succ
    simp only [laws_eqStringS.l0]
    rw [rdOf_get h, rdOf_get h', wrap64_id (n := (i : Int) + 1) (by omega) (by omega), succ_cast, List.drop_eq_getElem_cons h, List.drop_eq_getElem_cons h']
    refine ev_pos (by omega) (ev_pos (by omega) (ev_pos (by omega) ?_))
    by_cases he : a[i].toList = b[i].toList
    · refine ev_pos he (ev_eq (ih (by omega)) ?_)
      rw [toList_inj] at he
      rw [he]
      simp [-List.getElem_cons_drop]
    · refine ev_neg he (ev_now ?_)
      rw [toList_inj] at he
      symm
      simp only [decide_eq_false_iff_not, List.cons.injEq]
      exact fun h => he h.1
theorem laws_eqStringS_ev (a b : List ByteArray) (hb : a.length ≤ 9223372036854775806) : Ev (fun k => laws_eqStringS.f k a b) (decide (a = b)) := by
  unfold laws_eqStringS.f
  by_cases h : a.length = b.length
  · exact ev_pos (by omega) (ev_eq (laws_eqStringS_l0_ev a b h hb 0 (by omega)) (by simp))
  · exact ev_neg (by omega) (ev_now (by symm; simp; intro e; exact h (by rw [e])))

/-! ### domains -/
/-- The words that fit a pattern. -/
def fittingM (l : List ByteArray) (p : ByteArray) : List ByteArray := l.filter fun w => fitsM p w
theorem fitGo_ev (p : ByteArray) (hp : p.size ≤ 140737488351232) : ∀ l : List ByteArray, (∀ w ∈ l, w.size ≤ 140737488351232) → Ev (fun k => fitGo k p l) (fittingM l p)
  | [], _ => by
    simp only [fitGo_nil]
    exact ev_now rfl
  | w :: l, h => by
    simp only [fitGo_cons]
    refine ev_bind (impl_FitsPattern_ev p w hp (h w (by simp))) (ev_bind (fitGo_ev p hp l (fun x hx => h x (by simp [hx]))) (ev_now ?_))
    unfold fittingM
    rw [List.filter_cons]
theorem impl_WordsFitting_ev (l : List ByteArray) (p : ByteArray) (hl : l.length ≤ 1048576) (hp : p.size ≤ 140737488351232) (h : ∀ w ∈ l, w.size ≤ 140737488351232) : Ev (fun k => impl_WordsFitting.f k l p) (fittingM l p) := by
  unfold impl_WordsFitting.f
  exact ev_pos hl (fitGo_ev p hp l h)
theorem spec_WordsFitting_l0_ev (l : List ByteArray) (p : ByteArray) (hl : l.length ≤ 1048576) (hp : p.size ≤ 140737488351232) (h : ∀ w ∈ l, w.size ≤ 140737488351232) : ∀ i : Nat, i ≤ l.length → ∀ acc : List ByteArray, acc.length ≤ i → Ev (fun k => spec_WordsFitting.l0 k l p acc i) (acc ++ fittingM (l.drop i) p) := by
  refine down l.length ?_ ?_
  · intro i hi _ acc ha
    apply ev_succ
    simp only [spec_WordsFitting.l0]
    refine ev_neg (by omega) (ev_now ?_)
    rw [List.drop_eq_nil_of_le hi]
    simp [fittingM]
  · intro i hi ih _ acc ha
    apply ev_succ
    simp only [spec_WordsFitting.l0]
    rw [rdOf_get hi, wrap64_id (n := (i : Int) + 1) (by omega) (by omega), succ_cast, List.drop_eq_getElem_cons hi]
    refine ev_pos (by omega) (ev_pos (by omega) (ev_bind (spec_FitsPattern_ev p l[i] hp (h _ (List.getElem_mem hi))) ?_))
    unfold fittingM
    rw [List.filter_cons]
    by_cases hf : fitsM p l[i] = true
    · rw [if_pos hf]
      exact ev_pos hf (ev_pos (by omega) (ev_eq (ih (by omega) _ (by simp; omega)) (by simp [fittingM])))
    · rw [if_neg hf]
      exact ev_neg hf (ih (by omega) acc (by omega))
theorem spec_WordsFitting_ev (l : List ByteArray) (p : ByteArray) (hl : l.length ≤ 1048576) (hp : p.size ≤ 140737488351232) (h : ∀ w ∈ l, w.size ≤ 140737488351232) : Ev (fun k => spec_WordsFitting.f k l p) (fittingM l p) := by
  unfold spec_WordsFitting.f
  exact ev_eq (spec_WordsFitting_l0_ev l p hl hp h 0 (by omega) [] (by simp)) (by simp)
theorem patternsM_small' (r c : Int) (s f : ByteArray) : ∀ p ∈ patternsM r c s f, p.size ≤ 1000 := by
  intro p hp
  unfold patternsM at hp
  split at hp
  · obtain ⟨l, hl, rfl⟩ := List.mem_map.1 hp
    unfold layoutM at hl
    obtain ⟨x, hx, rfl⟩ := List.mem_map.1 hl
    obtain ⟨i, hi, rfl⟩ := List.getElem_of_mem hx
    have := cellsM_length_elem hi
    unfold patM
    rw [strOfNums_size, List.length_map]
    omega
  · cases hp
def domainsM (r c : Int) (s f : ByteArray) (words : List ByteArray) : List (List ByteArray) := (patternsM r c s f).map (fittingM words)
theorem domainsM_length (r c : Int) (s f : ByteArray) (words : List ByteArray) : (domainsM r c s f words).length ≤ 72 := by
  unfold domainsM
  rw [List.length_map]
  exact patternsM_length r c s f
theorem domainsM_rows {r c : Int} {s f : ByteArray} {words : List ByteArray} : ∀ y ∈ domainsM r c s f words, y.length ≤ words.length := by
  intro y hy
  unfold domainsM at hy
  obtain ⟨p, _, rfl⟩ := List.mem_map.1 hy
  exact List.length_filter_le _ _
theorem impl_DomainsOf_l0_ev (P words : List ByteArray) (hP : P.length ≤ 72) (hp : ∀ p ∈ P, p.size ≤ 1000) (hl : words.length ≤ 1048576) (h : ∀ w ∈ words, w.size ≤ 140737488351232) : ∀ i : Nat, i ≤ P.length → ∀ acc : List (List ByteArray), acc.length ≤ i → Ev (fun k => impl_DomainsOf.l0 k words acc P P.length i) (acc ++ (P.drop i).map (fittingM words)) := by
  refine down P.length ?_ ?_
  · intro i hi _ acc ha
    apply ev_succ
    simp only [impl_DomainsOf.l0]
    refine ev_neg (by omega) (ev_now ?_)
    rw [List.drop_eq_nil_of_le hi]
    simp
  · intro i hi ih _ acc ha
    have := hp _ (List.getElem_mem hi)
    apply ev_succ
    simp only [impl_DomainsOf.l0]
    rw [rdOf_get hi, wrap64_id (n := (i : Int) + 1) (by omega) (by omega), succ_cast, List.drop_eq_getElem_cons hi, List.map_cons]
    exact ev_pos (by omega) (ev_pos (by omega) (ev_pos (by omega) (ev_bind (impl_WordsFitting_ev words P[i] hl (by omega) h) (ev_pos (by omega) (ev_eq (ih (by omega) _ (by simp; omega)) (by simp))))))
theorem impl_DomainsOf_ev (r c : Int) (s f : ByteArray) (words : List ByteArray) (hs : s.size ≤ 1048576) (hf : f.size ≤ 1048576) (hl : words.length ≤ 1048576) (h : ∀ w ∈ words, w.size ≤ 140737488351232) : Ev (fun k => impl_DomainsOf.f k r c s f words) (domainsM r c s f words) := by
  unfold impl_DomainsOf.f domainsM
  exact ev_bind (impl_patterns_ev r c s f hs hf) (ev_eq (impl_DomainsOf_l0_ev _ words (patternsM_length r c s f) (fun p hp => patternsM_small' r c s f p hp) hl h 0 (by omega) [] (by simp)) (by simp))
theorem spec_DomainsOf_l0_ev (r c : Int) (s f : ByteArray) (words : List ByteArray) (hs : s.size ≤ 1048576) (hf : f.size ≤ 1048576) (hl : words.length ≤ 1048576) (h : ∀ w ∈ words, w.size ≤ 140737488351232) (hg : fillM r c s f = true) : ∀ i : Nat, i ≤ (slotsM r c s).length → ∀ acc : List (List ByteArray), acc.length ≤ i →
    Ev (fun k => spec_DomainsOf.l0 k f words acc (slotsM r c s) i r c s) (acc ++ ((patternsM r c s f).drop i).map (fittingM words)) := by
  have hlen := slotsM_length r c s
  have hP : (patternsM r c s f).length = (slotsM r c s).length := by
    unfold patternsM
    rw [if_pos hg, List.length_map, layoutM_length]
  refine down (slotsM r c s).length ?_ ?_
  · intro i hi _ acc ha
    apply ev_succ
    simp only [spec_DomainsOf.l0]
    refine ev_neg (by omega) (ev_succ ?_)
    simp only [spec_DomainsOf.j1]
    refine ev_neg (by simp) (ev_now ?_)
    rw [List.drop_eq_nil_of_le (by omega)]
    simp
  · intro i hi ih _ acc ha
    have hiP : i < (patternsM r c s f).length := by omega
    have hsm := patternsM_small' r c s f _ (List.getElem_mem hiP)
    have hpm : patternM r c s f (i : Int) = (patternsM r c s f)[i] := by
      unfold patternM
      rw [if_pos ⟨by omega, by omega⟩, Int.toNat_natCast, List.getD_eq_getElem?_getD, List.getElem?_eq_getElem hiP]
      rfl
    have hsp := spec_SlotPattern_ev r c s f i hs hf
    rw [hpm] at hsp
    apply ev_succ
    simp only [spec_DomainsOf.l0]
    refine ev_pos (by omega) (ev_bind (spec_IsFill_ev r c s f (by omega) (by omega)) (ev_succ ?_))
    simp only [spec_DomainsOf.j1]
    rw [wrap64_id (n := (i : Int) + 1) (by omega) (by omega), succ_cast, List.drop_eq_getElem_cons hiP, List.map_cons]
    exact ev_pos hg (ev_bind hsp (ev_bind (spec_WordsFitting_ev words _ hl (by omega) h) (ev_pos (by omega) (ev_eq (ih (by omega) _ (by simp; omega)) (by simp)))))
theorem spec_DomainsOf_ev (r c : Int) (s f : ByteArray) (words : List ByteArray) (hs : s.size ≤ 1048576) (hf : f.size ≤ 1048576) (hl : words.length ≤ 1048576) (h : ∀ w ∈ words, w.size ≤ 140737488351232) : Ev (fun k => spec_DomainsOf.f k r c s f words) (domainsM r c s f words) := by
  unfold spec_DomainsOf.f domainsM
  refine ev_bind (spec_SlotsOf_ev r c s hs) ?_
  by_cases hg : fillM r c s f = true
  · exact ev_eq (spec_DomainsOf_l0_ev r c s f words hs hf hl h hg 0 (by omega) [] (by simp)) (by simp)
  · have hn : patternsM r c s f = [] := by
      unfold patternsM
      rw [if_neg hg]
    rw [hn, List.map_nil]
    have hj : ∀ b : Bool, b = false → Ev (fun k => spec_DomainsOf.j1 k f words [] (slotsM r c s) 0 b r c s) [] := by
      intro b hb
      apply ev_succ
      simp only [spec_DomainsOf.j1]
      exact ev_neg (by simp [hb]) (ev_now rfl)
    apply ev_succ
    simp only [spec_DomainsOf.l0]
    by_cases hc : (0 : Int) < ((slotsM r c s).length : Int)
    · exact ev_pos hc (ev_bind (spec_IsFill_ev r c s f (by omega) (by omega)) (hj _ (by simpa using hg)))
    · exact ev_neg hc (hj _ rfl)

/-! ### marks -/
theorem strOfNums_one (n : Int) : (strOfNums [n]).size = 1 := by
  simp [strOfNums, ByteArray.size]
theorem laws_markText_l0_some : ∀ (d : Nat) (n : Int) (x : ByteArray), 0 ≤ n → n < 10 ^ d → x.size + d ≤ 1000 → d ≤ 19 → ∃ r, Ev (fun k => laws_markText.l0 k n x) r := by
  intro d
  induction d with
  | zero =>
    intro n x h0 h1 hx hd
    refine ⟨⟨#[109]⟩ ++ x, ev_succ ?_⟩
    simp only [laws_markText.l0]
    exact ev_neg (by omega) (ev_pos (by omega) (ev_now rfl))
  | succ d ih =>
    intro n x h0 h1 hx hd
    by_cases hn : n > 0
    · have hq : Int.tdiv n 10 = n / 10 := Int.tdiv_eq_ediv_of_nonneg (by omega)
      have h10 : (10 : Int) ^ (d + 1) = 10 ^ d * 10 := by rw [Int.pow_succ]
      have h2 : n / 10 < 10 ^ d := Int.ediv_lt_of_lt_mul (by omega) (by omega)
      have h3 : (10 : Int) ^ (d + 1) ≤ 10 ^ 19 := by
        have := Nat.pow_le_pow_right (n := 10) (by omega) hd
        exact_mod_cast this
      obtain ⟨r, hr⟩ := ih (n / 10) (strOfNums [(wrap64 (48 + Int.tmod n 10)) % 256] ++ x) (by omega) h2 (by rw [ByteArray.size_append, strOfNums_one]; omega) (by omega)
      refine ⟨r, ev_succ ?_⟩
      simp only [laws_markText.l0]
      rw [hq, wrap64_id (n := n / 10) (by omega) (by omega)]
      refine ev_pos hn (ev_let rfl (ev_pos ?_ hr))
      rw [strOfNums_one]
      omega
    · refine ⟨⟨#[109]⟩ ++ x, ev_succ ?_⟩
      simp only [laws_markText.l0]
      exact ev_neg hn (ev_pos (by omega) (ev_now rfl))
theorem laws_markText_some (n : Int) (h0 : 0 ≤ n) (h1 : n ≤ 9223372036854775807) : ∃ r, Ev (fun k => laws_markText.f k n) r := by
  unfold laws_markText.f
  by_cases h : n ≤ 0
  · exact ⟨_, ev_pos h (ev_now rfl)⟩
  · obtain ⟨r, hr⟩ := laws_markText_l0_some 19 n ⟨#[]⟩ h0 (by omega) (by decide) (by omega)
    exact ⟨r, ev_neg h hr⟩
theorem laws_markStringS_l0_ev (L : Nat) (hL : L ≤ 1048576) : ∀ i : Nat, i ≤ L → ∀ (x : List ByteArray) (n : Int), x.length = L → 0 ≤ n → n + (L - i : Nat) ≤ 1000000000000 →
    ∃ y : List ByteArray, y.length = L ∧ (∀ j, j < i → y[j]? = x[j]?) ∧ Ev (fun k => laws_markStringS.l0 k x n i) (n + (L - i : Nat), y) ∧ Ev (fun k => laws_heldStringS.l0 k y n i) (n + (L - i : Nat)) := by
  refine down L ?_ ?_
  · intro i h hi x n hx h0 hn
    refine ⟨x, hx, fun _ _ => rfl, ?_, ?_⟩
    · apply ev_succ
      simp only [laws_markStringS.l0]
      exact ev_neg (by omega) (ev_now (by rw [show L - i = 0 by omega]; simp))
    · apply ev_succ
      simp only [laws_heldStringS.l0]
      exact ev_neg (by omega) (ev_now (by rw [show L - i = 0 by omega]; simp))
  · intro i h ih hi x n hx h0 hn
    obtain ⟨r, hr⟩ := laws_markText_some n h0 (by omega)
    obtain ⟨y, hy, hj, hm, hh⟩ := ih (by omega) (x.set i r) (n + 1) (by simpa using hx) (by omega) (by omega)
    have hyi : y[i]? = some r := by
      rw [hj i (by omega), List.getElem?_set_self (by omega)]
    have hyi' : y[i]'(by omega) = r := by
      rw [List.getElem?_eq_getElem (by omega)] at hyi
      exact Option.some.inj hyi
    refine ⟨y, hy, fun j h' => ?_, ?_, ?_⟩
    · rw [hj j (by omega), List.getElem?_set_ne (by omega)]
    · apply ev_succ
      simp only [laws_markStringS.l0]
      rw [wrap64_id (n := (i : Int) + 1) (by omega) (by omega), wrap64_id (n := n + 1) (by omega) (by omega), succ_cast, show (i : Int).toNat = i by omega]
      exact ev_pos (by omega) (ev_bind hr (ev_pos (by omega) (ev_eq hm (by rw [show L - i = (L - (i + 1)) + 1 by omega]; simp; omega))))
    · apply ev_succ
      simp only [laws_heldStringS.l0]
      rw [wrap64_id (n := (i : Int) + 1) (by omega) (by omega), wrap64_id (n := n + 1) (by omega) (by omega), succ_cast, rdOf_get (by omega), hyi']
      exact ev_pos (by omega) (ev_pos (by omega) (ev_bind hr (ev_pos rfl (ev_eq hh (by rw [show L - i = (L - (i + 1)) + 1 by omega]; simp; omega)))))
/-- What is marked is held. -/
theorem laws_markStringS_ev (x : List ByteArray) (n : Int) (hx : x.length ≤ 1048576) (h0 : 0 ≤ n) (hn : n ≤ 100000000000) :
    ∃ y : List ByteArray, y.length = x.length ∧ Ev (fun k => laws_markStringS.f k x n) (n + x.length, y) ∧ Ev (fun k => laws_heldStringS.f k y n) (n + x.length) := by
  unfold laws_markStringS.f laws_heldStringS.f
  obtain ⟨y, hy, _, hm, hh⟩ := laws_markStringS_l0_ev x.length hx 0 (by omega) x n rfl h0 (by omega)
  exact ⟨y, hy, by simpa using hm, by simpa using hh⟩

/-! ### choices -/
theorem rd_rows_get {l : List (List ByteArray)} {i : Nat} (h : i < l.length) : rd_L1 l (i : Int) = l[i] := by
  unfold rd_L1
  simp [h]
theorem laws_eqStringSS_l0_ev (a b : List (List ByteArray)) (hl : a.length = b.length) (hb : a.length ≤ 9223372036854775806) (hs : ∀ x ∈ a, x.length ≤ 9223372036854775806) : ∀ i : Nat, i ≤ a.length → Ev (fun k => laws_eqStringSS.l0 k a b i) (decide (a.drop i = b.drop i)) := by
  refine down a.length ?_ ?_
  · intro i h hi
    apply ev_succ
    simp only [laws_eqStringSS.l0]
    refine ev_neg (by omega) (ev_now ?_)
    rw [List.drop_eq_nil_of_le h, List.drop_eq_nil_of_le (by omega)]
    simp
  · intro i h ih hi
    have h' : i < b.length := by omega
    have hb1 := hs a[i] (List.getElem_mem h)
    apply ev_succ
    simp only [laws_eqStringSS.l0]
    rw [rd_rows_get h, rd_rows_get h', wrap64_id (n := (i : Int) + 1) (by omega) (by omega), succ_cast, List.drop_eq_getElem_cons h, List.drop_eq_getElem_cons h']
    refine ev_pos (by omega) (ev_pos (by omega) (ev_pos (by omega) (ev_bind (laws_eqStringS_ev a[i] b[i] hb1) ?_)))
    by_cases he : a[i] = b[i]
    · refine ev_pos (by simpa using he) (ev_eq (ih (by omega)) ?_)
      rw [he]
      simp [-List.getElem_cons_drop]
    · refine ev_neg (by simpa using he) (ev_now ?_)
      symm
      simp only [decide_eq_false_iff_not, List.cons.injEq]
      exact fun h => he h.1
theorem laws_eqStringSS_ev (a b : List (List ByteArray)) (hb : a.length ≤ 9223372036854775806) (hs : ∀ x ∈ a, x.length ≤ 9223372036854775806) : Ev (fun k => laws_eqStringSS.f k a b) (decide (a = b)) := by
  unfold laws_eqStringSS.f
  by_cases h : a.length = b.length
  · exact ev_pos (by omega) (ev_eq (laws_eqStringSS_l0_ev a b h hb hs 0 (by omega)) (by simp))
  · exact ev_neg (by omega) (ev_now (by symm; simp; intro e; exact h (by rw [e])))

/-! ### marksss -/
theorem sum_le {l : List (List ByteArray)} {b : Nat} (h : ∀ y ∈ l, y.length ≤ b) : (l.map List.length).sum ≤ l.length * b := by
  induction l with
  | nil => simp
  | cons a l ih =>
    have := ih (fun y hy => h y (by simp [hy]))
    have := h a (by simp)
    rw [List.map_cons, List.sum_cons, List.length_cons, Nat.add_mul]
    omega
theorem marks_getD {l : List (List ByteArray)} {i : Nat} (h : i < l.length) : l.getD i [] = l[i] := by simp [h]
theorem laws_markStringSS_l0_ev (L : Nat) (hL : L ≤ 1048576) : ∀ i : Nat, i ≤ L → ∀ (x : List (List ByteArray)) (n : Int), x.length = L → (∀ y ∈ x, y.length ≤ 1048576) → 0 ≤ n → n + (((x.drop i).map List.length).sum : Nat) ≤ 100000000000 →
    ∃ (y : List (List ByteArray)) (q : Int), 0 ≤ q ∧ y.length = L ∧ (∀ j, j < i → y[j]? = x[j]?) ∧ Ev (fun k => laws_markStringSS.l0 k x n i) (q, y) ∧ Ev (fun k => laws_heldStringSS.l0 k y n i) q := by
  refine down L ?_ ?_
  · intro i h hi x n hx _ h0 hn
    refine ⟨x, n, h0, hx, fun _ _ => rfl, ?_, ?_⟩
    · apply ev_succ
      simp only [laws_markStringSS.l0]
      exact ev_neg (by omega) (ev_now rfl)
    · apply ev_succ
      simp only [laws_heldStringSS.l0]
      exact ev_neg (by omega) (ev_now rfl)
  · intro i h ih hi x n hx hs h0 hn
    rw [List.drop_eq_getElem_cons (show i < x.length by omega), List.map_cons, List.sum_cons] at hn
    have hxi : x[i].length ≤ 1048576 := hs _ (List.getElem_mem (by omega))
    obtain ⟨z, hz, hm, hh⟩ := laws_markStringS_ev x[i] n hxi h0 (by omega)
    obtain ⟨y, q, hq, hy, hj, hm2, hh2⟩ := ih (by omega) (x.set i z) (n + x[i].length) (by simpa using hx) (fun y hy => by
      rcases List.mem_or_eq_of_mem_set hy with h1 | h1
      · exact hs y h1
      · rw [h1, hz]; exact hxi) (by omega) (by rw [List.drop_set_of_lt (by omega)]; omega)
    have hyi : y[i]? = some z := by
      rw [hj i (by omega), List.getElem?_set_self (by omega)]
    have hyi' : y[i]'(by omega) = z := by
      rw [List.getElem?_eq_getElem (by omega)] at hyi
      exact Option.some.inj hyi
    refine ⟨y, q, hq, hy, fun j h' => ?_, ?_, ?_⟩
    · rw [hj j (by omega), List.getElem?_set_ne (by omega)]
    · apply ev_succ
      simp only [laws_markStringSS.l0]
      rw [marks_getD (by omega)]
      exact ev_pos (by omega) (ev_bind hm hm2)
    · apply ev_succ
      simp only [laws_heldStringSS.l0]
      rw [wrap64_id (n := (i : Int) + 1) (by omega) (by omega), succ_cast, rd_rows_get (by omega), hyi']
      exact ev_pos (by omega) (ev_pos (by omega) (ev_bind hh (ev_neg (by omega) hh2)))
/-- What is marked, row by row, is held. -/
theorem laws_markStringSS_ev (x : List (List ByteArray)) (hx : x.length ≤ 1048576) (hs : ∀ y ∈ x, y.length ≤ 1048576) (ht : (x.map List.length).sum ≤ 10000000000) :
    ∃ (y : List (List ByteArray)) (q : Int), 0 ≤ q ∧ Ev (fun k => laws_markStringSS.f k x 1) (q, y) ∧ Ev (fun k => laws_heldStringSS.f k y 1) q := by
  unfold laws_markStringSS.f laws_heldStringSS.f
  obtain ⟨y, q, hq, _, _, hm, hh⟩ := laws_markStringSS_l0_ev x.length hx 0 (by omega) x 1 rfl hs (by omega) (by rw [List.drop_zero]; omega)
  exact ⟨y, q, hq, ev_pos hx (by simpa using hm), by simpa using hh⟩

/-! ### sz -/
def szM (s : ByteArray) : Int := if s.size ≤ 1048576 then 1048576 - s.size else -1
theorem laws_szGrid_eq (r c : Int) (s : ByteArray) (hs : s.size ≤ 9223372036854775807) : laws_szGrid.f r c s 1048576 = some (szM s) := by
  unfold laws_szGrid.f szM
  rw [wrap64_id (by omega) (by omega)]
  by_cases h : s.size ≤ 1048576
  · rw [if_neg (by omega), if_pos h]
  · rw [if_pos (by omega), if_neg h]

/-! ### the law -/
theorem FnExactDomainsOf (r c : Int) (s f : ByteArray) (l : List ByteArray) (_ : -9223372036854775808 ≤ r ∧ r ≤ 9223372036854775807) (_ : -9223372036854775808 ≤ c ∧ c ≤ 9223372036854775807) (hs : s.size ≤ 9223372036854775807) (_ : f.size ≤ 140737488351232) (hl : l.length ≤ 9223372036854775807) (hw : ∀ x ∈ l, x.size ≤ maxLen) : ∃ k, laws_FnExactDomainsOf.f k r c s f l = some true := by
  unfold maxLen at hw
  apply Ev.rounds
  unfold laws_FnExactDomainsOf.f
  by_cases hb : (f.size : Int) > 1048576
  · exact ev_pos hb (ev_now rfl)
  · refine ev_neg hb (ev_let (laws_szGrid_eq r c s hs) ?_)
    by_cases hc : s.size ≤ 1048576
    · refine ev_neg (by simp [szM, hc]; omega) ?_
      obtain ⟨z, hz, h1⟩ := laws_szStringS_ev l hl hw (szM s) (by simp [szM, hc]; omega) (by simp [szM, hc]; omega)
      refine ev_bind hz ?_
      rcases h1 with h1 | h1
      · exact ev_pos h1 (ev_now rfl)
      · have hlen : l.length ≤ 1048576 := by have : szM s ≤ 1048576 := by simp [szM, hc]; omega
                                             omega
        have hx : ∀ x ∈ l, x.size ≤ 140737488351232 := fun x h => by
          have := mem_total h
          have : szM s ≤ 1048576 := by simp [szM, hc]; omega
          omega
        have hd := domainsM_length r c s f l
        have hrow : ∀ y ∈ domainsM r c s f l, y.length ≤ 1048576 := fun y hy => by have := domainsM_rows y hy; omega
        obtain ⟨y, q, hq, hm, hh⟩ := laws_markStringSS_ev (domainsM r c s f l) (by omega) hrow (by have := sum_le hrow; omega)
        obtain ⟨z1, hz1, hz2, hz3⟩ := laws_markStringS_ev l 1 (by omega) (by omega) (by omega)
        refine ev_neg (by omega) ?_
        unfold laws_FnExactDomainsOf.g
        exact ev_let rfl (ev_bind (laws_toStringS_ev l hlen) (ev_bind (spec_DomainsOf_ev r c s f l hc (by omega) hlen hx) (ev_bind (impl_DomainsOf_ev r c s f l hc (by omega) hlen hx) (ev_bind (laws_eqStringSS_ev _ _ (by omega) (fun x h => by have := hrow x h; omega)) (ev_bind (laws_eqStringS_ev l l (by omega)) (ev_bind hz2 (ev_bind hm (ev_bind hh (ev_pos (by simp; omega) (ev_now rfl))))))))))
    · exact ev_pos (by simp [szM, hc]) (ev_now rfl)

end Go.Proofs.Ytgmhjinlpikpjaf.Pure
