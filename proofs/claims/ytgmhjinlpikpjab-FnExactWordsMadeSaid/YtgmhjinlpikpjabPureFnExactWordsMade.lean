/-
  The law FnExactWordsMade over numbers and lists: the program's WordsMade and the reference's answer alike for all steps and words.
  Conditions: none.
-/
import Derived.Test.YtgmhjinlpikpjabQFnExactWordsMadex
namespace Go.Proofs.Ytgmhjinlpikpjab.Pure
open Go.RowKit Go.Proofs.Ytgmhjinlpikpjab.QFnExactWordsMade Go.Proofs.YtgmhjinlpikpjabW.PrintWords Go.Proofs.YtgmhjinlpikpjabW.PrintLast Go.Proofs.YtgmhjinlpikpjabW.PrintMore
set_option linter.unusedVariables false
set_option linter.unusedSimpArgs false

/-! ### base -/
theorem wrap64_id {n : Int} (h : -9223372036854775808 ≤ n) (h' : n ≤ 9223372036854775807) : wrap64 n = n := by
  unfold wrap64
  omega
section
variable {α β : Type}
theorem ev_succ {g : Nat → Option α} {r : α} (h : Ev (fun k => g (k + 1)) r) : Ev g r := Ev.step (fun _ => rfl) h
theorem ev_pos {c : Prop} [Decidable c] {g f : Nat → Option α} {r : α} (h : c) (k : Ev g r) : Ev (fun n => if c then g n else f n) r := by
  simpa only [if_pos h] using k
theorem ev_neg {c : Prop} [Decidable c] {g f : Nat → Option α} {r : α} (h : ¬ c) (k : Ev f r) : Ev (fun n => if c then g n else f n) r := by
  simpa only [if_neg h] using k
theorem ev_now {a r : α} (h : a = r) : Ev (fun _ => some a) r := h ▸ Ev.now a
theorem ev_let {o : Option β} {a : β} {f : Nat → β → Option α} {r : α} (h : o = some a) (k : Ev (fun n => f n a) r) : Ev (fun n => o.bind (f n)) r := by
  subst h
  exact k
theorem ev_bind {g : Nat → Option β} {f : Nat → β → Option α} {a : β} {r : α} (h : Ev g a) (k : Ev (fun n => f n a) r) : Ev (fun n => (g n).bind (f n)) r := Ev.bind h k
theorem ev_eq {g : Nat → Option α} {a r : α} (h : Ev g a) (e : a = r) : Ev g r := e ▸ h
end
/-- From the end of a loop back to a round: P holds from n on, and a round below n may use the next. -/
theorem down {P : Nat → Prop} (n : Nat) (hend : ∀ i, n ≤ i → P i) (hstep : ∀ i, i < n → P (i + 1) → P i) : ∀ i, P i := by
  intro i
  rcases Nat.lt_or_ge i n with h | h
  · obtain ⟨d, hd⟩ : ∃ d, n = i + d := ⟨n - i, by omega⟩
    induction d generalizing i with
    | zero => omega
    | succ d ih =>
      refine hstep i h ?_
      rcases Nat.lt_or_ge (i + 1) n with h1 | h1
      · exact ih (i + 1) h1 (by omega)
      · exact hend _ h1
  · exact hend i h
theorem range_cons {i n : Nat} (h : i < n) : List.range' i (n - i) = i :: List.range' (i + 1) (n - (i + 1)) := by
  obtain ⟨d, hd⟩ : ∃ d, n - i = d + 1 := ⟨n - i - 1, by omega⟩
  rw [hd, List.range'_succ, show n - (i + 1) = d by omega]
theorem range_nil {i n : Nat} (h : n ≤ i) : List.range' i (n - i) = [] := by
  rw [show n - i = 0 by omega]
  rfl
theorem succ_cast (i : Nat) : ((i : Int) + 1) = ((i + 1 : Nat) : Int) := by omega

/-! ### lists -/
theorem rdOf_get {α : Type} {d : α} {l : List α} {i : Nat} (h : i < l.length) : rdOf d l (i : Int) = l[i] := by
  unfold rdOf
  simp [h]
theorem rd_get {l : List Int} {i : Nat} (h : i < l.length) : rd l (i : Int) = l[i] := by
  unfold rd
  simp [h]
theorem toList_eq (s : ByteArray) : s.toList = s.data.toList := Go.ByteArray.toList_eq s
instance lawfulBA : LawfulBEq ByteArray where
  eq_of_beq {a b} h := ByteArray.ext (eq_of_beq (α := Array UInt8) h)
  rfl {a} := by
    show (a.data == a.data) = true
    simp
theorem toList_inj {a b : ByteArray} : a.toList = b.toList ↔ a = b := by
  constructor
  · intro h
    rw [toList_eq, toList_eq] at h
    cases a
    cases b
    simp only [ByteArray.mk.injEq]
    exact Array.toList_inj.1 h
  · intro h
    rw [h]
theorem set_known {α : Type} {l x : List α} {i : Nat} {a : α} (hi : i < l.length) (hx : x.length = l.length) (ha : a = l[i]) (h : ∀ j, j < i → x[j]? = l[j]?) : ∀ j, j < i + 1 → (x.set i a)[j]? = l[j]? := by
  intro j hj
  by_cases e : j = i
  · subst e
    rw [List.getElem?_set_self (by omega), ha, List.getElem?_eq_getElem hi]
  · rw [List.getElem?_set_ne (Ne.symm e)]
    exact h j (by omega)
theorem all_known {α : Type} {l x : List α} (hx : x.length = l.length) (h : ∀ j, j < l.length → x[j]? = l[j]?) : x = l := by
  apply List.ext_getElem?
  intro j
  by_cases hj : j < l.length
  · exact h j hj
  · rw [List.getElem?_eq_none (by omega), List.getElem?_eq_none (by omega)]

/-! ### strs -/
def total (l : List ByteArray) : Nat := (l.map ByteArray.size).sum
theorem mem_total {l : List ByteArray} {x : ByteArray} (h : x ∈ l) : x.size ≤ total l := by
  induction l with
  | nil => cases h
  | cons a r ih =>
    have e : total (a :: r) = a.size + total r := rfl
    rcases List.mem_cons.1 h with rfl | h
    · omega
    · have := ih h
      omega
theorem total_drop {l : List ByteArray} {i : Nat} (h : i < l.length) : total (l.drop i) = l[i].size + total (l.drop (i + 1)) := by
  rw [List.drop_eq_getElem_cons h]
  rfl
theorem laws_szStringS_l0_ev (l : List ByteArray) (hl : l.length ≤ 9223372036854775806) (hs : ∀ s ∈ l, s.size ≤ 9223372036854775807) : ∀ i : Nat, i ≤ l.length → ∀ n : Int, 0 ≤ n → n ≤ 1048576 →
    ∃ r : Int, Ev (fun k => laws_szStringS.l0 k l n i) r ∧ (r < 0 ∨ 0 ≤ r ∧ r + total (l.drop i) = n) := by
  refine down l.length ?_ ?_
  · intro i h hi n h0 hn
    refine ⟨n, ?_, .inr ⟨h0, ?_⟩⟩
    · apply ev_succ
      simp only [laws_szStringS.l0]
      exact ev_neg (by omega) (ev_now rfl)
    · rw [List.drop_eq_nil_of_le h]
      simp [total]
  · intro i h ih hi n h0 hn
    have hb := hs l[i] (List.getElem_mem h)
    have ht := total_drop h
    by_cases hneg : n - (l[i].size : Int) < 0
    · refine ⟨-1, ?_, .inl (by omega)⟩
      apply ev_succ
      simp only [laws_szStringS.l0]
      rw [rdOf_get h, wrap64_id (n := n - _) (by omega) (by omega)]
      exact ev_pos (by omega) (ev_pos (by omega) (ev_pos hneg (ev_now rfl)))
    · obtain ⟨r, hr, h1⟩ := ih (by omega) (n - (l[i].size : Int)) (by omega) (by omega)
      refine ⟨r, ?_, ?_⟩
      · apply ev_succ
        simp only [laws_szStringS.l0]
        rw [rdOf_get h, wrap64_id (n := n - _) (by omega) (by omega), wrap64_id (n := (i : Int) + 1) (by omega) (by omega), succ_cast]
        exact ev_pos (by omega) (ev_pos (by omega) (ev_neg hneg hr))
      · rcases h1 with h1 | h1
        · exact .inl h1
        · exact .inr ⟨h1.1, by omega⟩
theorem laws_szStringS_ev (l : List ByteArray) (hl : l.length ≤ 9223372036854775807) (hs : ∀ s ∈ l, s.size ≤ 9223372036854775807) (n : Int) (h0 : 0 ≤ n) (hn : n ≤ 1048576) :
    ∃ r : Int, Ev (fun k => laws_szStringS.f k l n) r ∧ (r < 0 ∨ 0 ≤ r ∧ r + l.length + total l = n) := by
  unfold laws_szStringS.f
  rw [wrap64_id (n := n - _) (by omega) (by omega)]
  by_cases hneg : n - (l.length : Int) < 0
  · exact ⟨-1, ev_pos hneg (ev_now rfl), .inl (by omega)⟩
  · obtain ⟨r, hr, h1⟩ := laws_szStringS_l0_ev l (by omega) hs 0 (by omega) (n - (l.length : Int)) (by omega) (by omega)
    refine ⟨r, ev_neg hneg hr, ?_⟩
    rcases h1 with h1 | h1
    · exact .inl h1
    · exact .inr ⟨h1.1, by have := h1.2; simp at this; omega⟩
theorem laws_toStringS_l0_ev (l : List ByteArray) (hl : l.length ≤ 1048576) : ∀ i : Nat, i ≤ l.length → ∀ x : List ByteArray, x.length = l.length → (∀ j, j < i → x[j]? = l[j]?) → Ev (fun k => laws_toStringS.l0 k l x i) l := by
  refine down l.length ?_ ?_
  · intro i h hi x hx hj
    apply ev_succ
    simp only [laws_toStringS.l0]
    exact ev_neg (by omega) (ev_now (all_known hx (fun j h' => hj j (by omega))))
  · intro i h ih hi x hx hj
    apply ev_succ
    simp only [laws_toStringS.l0]
    rw [rdOf_get h, wrap64_id (n := (i : Int) + 1) (by omega) (by omega), succ_cast, show (i : Int).toNat = i by omega]
    exact ev_pos (by omega) (ev_pos (by omega) (ev_pos (by omega) (ih (by omega) _ (by simpa using hx) (set_known h hx rfl hj))))
theorem laws_toStringS_ev (l : List ByteArray) (hl : l.length ≤ 1048576) : Ev (fun k => laws_toStringS.f k l) l := by
  unfold laws_toStringS.f
  exact ev_pos (by omega) (ev_pos (by omega) (laws_toStringS_l0_ev l hl 0 (by omega) _ (by simp) (by intro j hj; omega)))
theorem laws_eqStringS_l0_ev (a b : List ByteArray) (hl : a.length = b.length) (hb : a.length ≤ 9223372036854775806) : ∀ i : Nat, i ≤ a.length → Ev (fun k => laws_eqStringS.l0 k a b i) (decide (a.drop i = b.drop i)) := by
  refine down a.length ?_ ?_
  · intro i h hi
    apply ev_succ
    simp only [laws_eqStringS.l0]
    refine ev_neg (by omega) (ev_now ?_)
    rw [List.drop_eq_nil_of_le h, List.drop_eq_nil_of_le (by omega)]
    simp
  · intro i h ih hi
    have h' : i < b.length := by omega
    apply ev_succ
    simp only [laws_eqStringS.l0]
    rw [rdOf_get h, rdOf_get h', wrap64_id (n := (i : Int) + 1) (by omega) (by omega), succ_cast, List.drop_eq_getElem_cons h, List.drop_eq_getElem_cons h']
    refine ev_pos (by omega) (ev_pos (by omega) (ev_pos (by omega) ?_))
    by_cases he : a[i].toList = b[i].toList
    · refine ev_pos he (ev_eq (ih (by omega)) ?_)
      rw [toList_inj] at he
      rw [he]
      simp [-List.getElem_cons_drop]
    · refine ev_neg he (ev_now ?_)
      rw [toList_inj] at he
      symm
      simp only [decide_eq_false_iff_not, List.cons.injEq]
      exact fun h => he h.1
theorem laws_eqStringS_ev (a b : List ByteArray) (hb : a.length ≤ 9223372036854775806) : Ev (fun k => laws_eqStringS.f k a b) (decide (a = b)) := by
  unfold laws_eqStringS.f
  by_cases h : a.length = b.length
  · exact ev_pos (by omega) (ev_eq (laws_eqStringS_l0_ev a b h hb 0 (by omega)) (by simp))
  · exact ev_neg (by omega) (ev_now (by symm; simp; intro e; exact h (by rw [e])))

/-! ### marks -/
theorem strOfNums_one (n : Int) : (strOfNums [n]).size = 1 := by
  simp [strOfNums, ByteArray.size]
theorem laws_markText_l0_some : ∀ (d : Nat) (n : Int) (x : ByteArray), 0 ≤ n → n < 10 ^ d → x.size + d ≤ 1000 → d ≤ 19 → ∃ r, Ev (fun k => laws_markText.l0 k n x) r := by
  intro d
  induction d with
  | zero =>
    intro n x h0 h1 hx hd
    refine ⟨⟨#[109]⟩ ++ x, ev_succ ?_⟩
    simp only [laws_markText.l0]
    exact ev_neg (by omega) (ev_pos (by omega) (ev_now rfl))
  | succ d ih =>
    intro n x h0 h1 hx hd
    by_cases hn : n > 0
    · have hq : Int.tdiv n 10 = n / 10 := Int.tdiv_eq_ediv_of_nonneg (by omega)
      have h10 : (10 : Int) ^ (d + 1) = 10 ^ d * 10 := by rw [Int.pow_succ]
      have h2 : n / 10 < 10 ^ d := Int.ediv_lt_of_lt_mul (by omega) (by omega)
      have h3 : (10 : Int) ^ (d + 1) ≤ 10 ^ 19 := by
        have := Nat.pow_le_pow_right (n := 10) (by omega) hd
        exact_mod_cast this
      obtain ⟨r, hr⟩ := ih (n / 10) (strOfNums [(wrap64 (48 + Int.tmod n 10)) % 256] ++ x) (by omega) h2 (by rw [ByteArray.size_append, strOfNums_one]; omega) (by omega)
      refine ⟨r, ev_succ ?_⟩
      simp only [laws_markText.l0]
      rw [hq, wrap64_id (n := n / 10) (by omega) (by omega)]
      refine ev_pos hn (ev_let rfl (ev_pos ?_ hr))
      rw [strOfNums_one]
      omega
    · refine ⟨⟨#[109]⟩ ++ x, ev_succ ?_⟩
      simp only [laws_markText.l0]
      exact ev_neg hn (ev_pos (by omega) (ev_now rfl))
theorem laws_markText_some (n : Int) (h0 : 0 ≤ n) (h1 : n ≤ 9223372036854775807) : ∃ r, Ev (fun k => laws_markText.f k n) r := by
  unfold laws_markText.f
  by_cases h : n ≤ 0
  · exact ⟨_, ev_pos h (ev_now rfl)⟩
  · obtain ⟨r, hr⟩ := laws_markText_l0_some 19 n ⟨#[]⟩ h0 (by omega) (by decide) (by omega)
    exact ⟨r, ev_neg h hr⟩
theorem laws_markStringS_l0_ev (L : Nat) (hL : L ≤ 1048576) : ∀ i : Nat, i ≤ L → ∀ (x : List ByteArray) (n : Int), x.length = L → 0 ≤ n → n + (L - i : Nat) ≤ 1000000000000 →
    ∃ y : List ByteArray, y.length = L ∧ (∀ j, j < i → y[j]? = x[j]?) ∧ Ev (fun k => laws_markStringS.l0 k x n i) (n + (L - i : Nat), y) ∧ Ev (fun k => laws_heldStringS.l0 k y n i) (n + (L - i : Nat)) := by
  refine down L ?_ ?_
  · intro i h hi x n hx h0 hn
    refine ⟨x, hx, fun _ _ => rfl, ?_, ?_⟩
    · apply ev_succ
      simp only [laws_markStringS.l0]
      exact ev_neg (by omega) (ev_now (by rw [show L - i = 0 by omega]; simp))
    · apply ev_succ
      simp only [laws_heldStringS.l0]
      exact ev_neg (by omega) (ev_now (by rw [show L - i = 0 by omega]; simp))
  · intro i h ih hi x n hx h0 hn
    obtain ⟨r, hr⟩ := laws_markText_some n h0 (by omega)
    obtain ⟨y, hy, hj, hm, hh⟩ := ih (by omega) (x.set i r) (n + 1) (by simpa using hx) (by omega) (by omega)
    have hyi : y[i]? = some r := by
      rw [hj i (by omega), List.getElem?_set_self (by omega)]
    have hyi' : y[i]'(by omega) = r := by
      rw [List.getElem?_eq_getElem (by omega)] at hyi
      exact Option.some.inj hyi
    refine ⟨y, hy, fun j h' => ?_, ?_, ?_⟩
    · rw [hj j (by omega), List.getElem?_set_ne (by omega)]
    · apply ev_succ
      simp only [laws_markStringS.l0]
      rw [wrap64_id (n := (i : Int) + 1) (by omega) (by omega), wrap64_id (n := n + 1) (by omega) (by omega), succ_cast, show (i : Int).toNat = i by omega]
      exact ev_pos (by omega) (ev_bind hr (ev_pos (by omega) (ev_eq hm (by rw [show L - i = (L - (i + 1)) + 1 by omega]; simp; omega))))
    · apply ev_succ
      simp only [laws_heldStringS.l0]
      rw [wrap64_id (n := (i : Int) + 1) (by omega) (by omega), wrap64_id (n := n + 1) (by omega) (by omega), succ_cast, rdOf_get (by omega), hyi']
      exact ev_pos (by omega) (ev_pos (by omega) (ev_bind hr (ev_pos rfl (ev_eq hh (by rw [show L - i = (L - (i + 1)) + 1 by omega]; simp; omega)))))
/-- What is marked is held. -/
theorem laws_markStringS_ev (x : List ByteArray) (n : Int) (hx : x.length ≤ 1048576) (h0 : 0 ≤ n) (hn : n ≤ 100000000000) :
    ∃ y : List ByteArray, y.length = x.length ∧ Ev (fun k => laws_markStringS.f k x n) (n + x.length, y) ∧ Ev (fun k => laws_heldStringS.f k y n) (n + x.length) := by
  unfold laws_markStringS.f laws_heldStringS.f
  obtain ⟨y, hy, _, hm, hh⟩ := laws_markStringS_l0_ev x.length hx 0 (by omega) x n rfl h0 (by omega)
  exact ⟨y, hy, by simpa using hm, by simpa using hh⟩

/-! ### word -/
/-- A byte is a small letter. -/
def isL (c : Int) : Bool := decide (97 ≤ c ∧ c ≤ 122)
/-- A word: one to eight small letters. -/
def wordM (s : ByteArray) : Bool := decide (1 ≤ s.size ∧ s.size ≤ 8) && (List.range' 0 (s.size - 0)).all fun j => isL (bt s j)
theorem spec_l1In_eq (a b c : Int) : spec_l1In.f a b c = some (decide (b ≤ a ∧ a ≤ c)) := by
  unfold spec_l1In.f
  by_cases h : b ≤ a
  · rw [if_pos h]; simp [h]
  · rw [if_neg h]; simp [h]
theorem impl_InRange_eq (a b c : Int) : impl_InRange.f a b c = some (decide (b ≤ a ∧ a ≤ c)) := by
  unfold impl_InRange.f
  by_cases h : b ≤ a
  · rw [if_pos h]; simp [h]
  · rw [if_neg h]; simp [h]
theorem impl_isLetter_eq (c : Int) : impl_isLetter.f c = some (isL c) := by
  unfold impl_isLetter.f isL
  by_cases h : c ≥ 97
  · rw [if_pos h]; congr 1; simp; omega
  · rw [if_neg h]; congr 1; simp; omega
theorem spec_IsWord_l0_ev (s : ByteArray) (hs : s.size ≤ 140737488351232) : ∀ i : Nat, i ≤ s.size → Ev (fun k => spec_IsWord.l0 k s i) ((List.range' i (s.size - i)).all fun j => isL (bt s j)) := by
  refine down s.size ?_ ?_
  · intro i h hi
    apply ev_succ
    simp only [spec_IsWord.l0]
    refine ev_neg (by omega) (ev_now ?_)
    rw [range_nil h]; rfl
  · intro i h ih hi
    apply ev_succ
    simp only [spec_IsWord.l0]
    rw [range_cons h, List.all_cons, wrap64_id (by omega) (by omega), succ_cast]
    refine ev_pos (by omega) (ev_pos (by omega) ?_)
    by_cases h1 : bt s i < 97
    · exact ev_pos h1 (ev_now (by simp [isL]; omega))
    · refine ev_neg h1 ?_
      by_cases h2 : bt s i > 122
      · exact ev_pos h2 (ev_now (by simp [isL]; omega))
      · refine ev_neg h2 (ev_eq (ih (by omega)) ?_)
        rw [show isL (bt s i) = true by simp [isL]; omega, Bool.true_and]
theorem impl_IsWord_l0_ev (s : ByteArray) (hs : s.size ≤ 140737488351232) : ∀ i : Nat, i ≤ s.size → Ev (fun k => impl_IsWord.l0 k s s.size i) ((List.range' i (s.size - i)).all fun j => isL (bt s j)) := by
  refine down s.size ?_ ?_
  · intro i h hi
    apply ev_succ
    simp only [impl_IsWord.l0]
    refine ev_neg (by omega) (ev_now ?_)
    rw [range_nil h]; rfl
  · intro i h ih hi
    apply ev_succ
    simp only [impl_IsWord.l0]
    rw [range_cons h, List.all_cons, wrap64_id (by omega) (by omega), succ_cast]
    refine ev_pos (by omega) (ev_pos (by omega) (ev_pos (by omega) (ev_let (impl_isLetter_eq _) ?_)))
    cases isL (bt s i)
    · exact ev_neg (by simp) (ev_now (by simp))
    · exact ev_pos rfl (ev_eq (ih (by omega)) (by simp))
theorem spec_IsWord_ev (s : ByteArray) (hs : s.size ≤ 140737488351232) : Ev (fun k => spec_IsWord.f k s) (wordM s) := by
  simp only [spec_IsWord.f]
  refine ev_let (spec_l1In_eq _ _ _) ?_
  by_cases h : 1 ≤ s.size ∧ s.size ≤ 8
  · refine ev_pos (by simp; omega) (ev_eq (spec_IsWord_l0_ev s hs 0 (by omega)) ?_)
    simp [wordM, h]
  · refine ev_neg (by simp; omega) (ev_now ?_)
    simp [wordM, h]
theorem impl_IsWord_ev (s : ByteArray) (hs : s.size ≤ 140737488351232) : Ev (fun k => impl_IsWord.f k s) (wordM s) := by
  simp only [impl_IsWord.f]
  refine ev_let (impl_InRange_eq _ _ _) ?_
  by_cases h : 1 ≤ s.size ∧ s.size ≤ 8
  · refine ev_pos (by simp; omega) (ev_eq (impl_IsWord_l0_ev s hs 0 (by omega)) ?_)
    simp [wordM, h]
  · refine ev_neg (by simp; omega) (ev_now ?_)
    simp [wordM, h]
theorem wordM_size {s : ByteArray} (h : wordM s = true) : 1 ≤ s.size ∧ s.size ≤ 8 := by
  simp only [wordM, Bool.and_eq_true, decide_eq_true_eq] at h
  exact h.1

/-! ### steps -/
abbrev LStep := S53
abbrev IStep := S55
def toI (x : LStep) : IStep := ⟨x.f0, x.f1, x.f2, x.f3⟩
theorem rd_L_get {l : List LStep} {i : Nat} (h : i < l.length) : rd_T53 l (i : Int) = l[i] := by
  unfold rd_T53
  simp [h]
theorem rd_I_get {l : List IStep} {i : Nat} (h : i < l.length) : rd_T55 l (i : Int) = l[i] := by
  unfold rd_T55
  simp [h]
def totalS (l : List LStep) : Nat := (l.map fun x => x.f1.size).sum
theorem totalS_drop {l : List LStep} {i : Nat} (h : i < l.length) : totalS (l.drop i) = l[i].f1.size + totalS (l.drop (i + 1)) := by
  rw [List.drop_eq_getElem_cons h]
  rfl
theorem laws_szStepS_l0_ev (l : List LStep) (hl : l.length ≤ 9223372036854775806) (hs : ∀ s ∈ l, s.f1.size ≤ 9223372036854775807) : ∀ i : Nat, i ≤ l.length → ∀ n : Int, 0 ≤ n → n ≤ 1048576 →
    ∃ r : Int, Ev (fun k => laws_szStepS.l0 k l n i) r ∧ (r < 0 ∨ 0 ≤ r ∧ r + totalS (l.drop i) = n) := by
  refine down l.length ?_ ?_
  · intro i h hi n h0 hn
    refine ⟨n, ?_, .inr ⟨h0, ?_⟩⟩
    · apply ev_succ
      simp only [laws_szStepS.l0]
      exact ev_neg (by omega) (ev_now rfl)
    · rw [List.drop_eq_nil_of_le h]
      simp [totalS]
  · intro i h ih hi n h0 hn
    have hb := hs l[i] (List.getElem_mem h)
    have ht := totalS_drop h
    by_cases hneg : n - (l[i].f1.size : Int) < 0
    · refine ⟨-1, ?_, .inl (by omega)⟩
      apply ev_succ
      simp only [laws_szStepS.l0, laws_szStep.f]
      rw [rd_L_get h, wrap64_id (n := n - _) (by omega) (by omega)]
      refine ev_pos (by omega) (ev_pos (by omega) (ev_let (a := -1) ?_ (ev_pos (by omega) (ev_now rfl))))
      rw [if_pos hneg]
    · obtain ⟨r, hr, h1⟩ := ih (by omega) (n - (l[i].f1.size : Int)) (by omega) (by omega)
      refine ⟨r, ?_, ?_⟩
      · apply ev_succ
        simp only [laws_szStepS.l0, laws_szStep.f]
        rw [rd_L_get h, wrap64_id (n := n - _) (by omega) (by omega), wrap64_id (n := (i : Int) + 1) (by omega) (by omega), succ_cast]
        refine ev_pos (by omega) (ev_pos (by omega) (ev_let (a := n - (l[i].f1.size : Int)) ?_ (ev_neg hneg hr)))
        rw [if_neg hneg]
      · rcases h1 with h1 | h1
        · exact .inl h1
        · exact .inr ⟨h1.1, by omega⟩
theorem laws_szStepS_ev (l : List LStep) (hl : l.length ≤ 9223372036854775807) (hs : ∀ s ∈ l, s.f1.size ≤ 9223372036854775807) (n : Int) (h0 : 0 ≤ n) (hn : n ≤ 1048576) :
    ∃ r : Int, Ev (fun k => laws_szStepS.f k l n) r ∧ (r < 0 ∨ 0 ≤ r ∧ r + l.length + totalS l = n) := by
  unfold laws_szStepS.f
  rw [wrap64_id (n := n - _) (by omega) (by omega)]
  by_cases hneg : n - (l.length : Int) < 0
  · exact ⟨-1, ev_pos hneg (ev_now rfl), .inl (by omega)⟩
  · obtain ⟨r, hr, h1⟩ := laws_szStepS_l0_ev l (by omega) hs 0 (by omega) (n - (l.length : Int)) (by omega) (by omega)
    refine ⟨r, ev_neg hneg hr, ?_⟩
    rcases h1 with h1 | h1
    · exact .inl h1
    · exact .inr ⟨h1.1, by have := h1.2; simp at this; omega⟩
theorem laws_toStepS_l0_ev (l : List LStep) (hl : l.length ≤ 1048576) : ∀ i : Nat, i ≤ l.length → ∀ x : List IStep, x.length = (l.map toI).length → (∀ j, j < i → x[j]? = (l.map toI)[j]?) → Ev (fun k => laws_toStepS.l0 k l x i) (l.map toI) := by
  refine down l.length ?_ ?_
  · intro i h hi x hx hj
    apply ev_succ
    simp only [laws_toStepS.l0]
    exact ev_neg (by omega) (ev_now (all_known hx (fun j h' => hj j (by simp at h'; omega))))
  · intro i h ih hi x hx hj
    have hx' : x.length = l.length := by simpa using hx
    apply ev_succ
    simp only [laws_toStepS.l0, laws_toStep.f]
    rw [rd_L_get h, wrap64_id (n := (i : Int) + 1) (by omega) (by omega), succ_cast, show (i : Int).toNat = i by omega]
    exact ev_pos (by omega) (ev_pos (by omega) (ev_let rfl (ev_pos (by omega) (ih (by omega) _ (by simpa using hx) (set_known (by simpa using h) hx (by simp [toI]) hj)))))
theorem laws_toStepS_ev (l : List LStep) (hl : l.length ≤ 1048576) : Ev (fun k => laws_toStepS.f k l) (l.map toI) := by
  unfold laws_toStepS.f
  exact ev_pos (by omega) (ev_pos (by omega) (laws_toStepS_l0_ev l hl 0 (by omega) _ (by simp) (by intro j hj; omega)))
theorem step_ext {a b : IStep} (h0 : a.f0 = b.f0) (h1 : a.f1 = b.f1) (h2 : a.f2 = b.f2) (h3 : a.f3 = b.f3) : a = b := by
  cases a
  cases b
  simp at h0 h1 h2 h3
  simp [h0, h1, h2, h3]
/-- Only what is equal is asked. -/
theorem laws_eqStepS_l0_ev (a : List IStep) (hb : a.length ≤ 9223372036854775806) : ∀ i : Nat, i ≤ a.length → Ev (fun k => laws_eqStepS.l0 k a a i) true := by
  refine down a.length ?_ ?_
  · intro i h hi
    apply ev_succ
    simp only [laws_eqStepS.l0]
    exact ev_neg (by omega) (ev_now rfl)
  · intro i h ih hi
    apply ev_succ
    simp only [laws_eqStepS.l0]
    rw [rd_I_get h, wrap64_id (n := (i : Int) + 1) (by omega) (by omega), succ_cast]
    refine ev_pos (by omega) (ev_pos (by omega) (ev_pos (by omega) (ev_let (a := true) ?_ (ev_pos rfl (ih (by omega))))))
    simp [laws_eqStep.f]
theorem laws_eqStepS_ev (a : List IStep) (hb : a.length ≤ 9223372036854775806) : Ev (fun k => laws_eqStepS.f k a a) true := by
  unfold laws_eqStepS.f
  exact ev_pos rfl (laws_eqStepS_l0_ev a hb 0 (by omega))
theorem laws_markStepS_l0_ev (L : Nat) (hL : L ≤ 1048576) : ∀ i : Nat, i ≤ L → ∀ (x : List IStep) (n : Int), x.length = L → 0 ≤ n → n + 4 * (L - i : Nat) ≤ 1000000000000 →
    ∃ y : List IStep, Ev (fun k => laws_markStepS.l0 k x n i) (n + 4 * (L - i : Nat), y) := by
  refine down L ?_ ?_
  · intro i h hi x n hx h0 hn
    refine ⟨x, ?_⟩
    apply ev_succ
    simp only [laws_markStepS.l0]
    exact ev_neg (by omega) (ev_now (by rw [show L - i = 0 by omega]; simp))
  · intro i h ih hi x n hx h0 hn
    obtain ⟨r, hr⟩ := laws_markText_some (n + 1) (by omega) (by omega)
    have key : ∀ x' : List IStep, x'.length = L → ∃ y : List IStep, Ev (fun k => laws_markStepS.l0 k x' (n + 4) ((i : Int) + 1)) (n + 4 * (L - i : Nat), y) := by
      intro x' hx'
      obtain ⟨y, hy⟩ := ih (by omega) x' (n + 4) hx' (by omega) (by omega)
      rw [succ_cast]
      exact ⟨y, ev_eq hy (by rw [show L - i = (L - (i + 1)) + 1 by omega]; simp; omega)⟩
    have step : ∃ x' : List IStep, x'.length = L ∧ ∀ ρ, Ev (fun k => laws_markStepS.l0 k x' (n + 4) ((i : Int) + 1)) ρ → Ev (fun k => laws_markStepS.l0 k x n i) ρ := by
      apply Exists.intro
      apply And.intro
      rotate_left
      · intro ρ hρ
        apply ev_succ
        simp only [laws_markStepS.l0]
        rw [wrap64_id (n := (i : Int) + 1) (by omega) (by omega), wrap64_id (n := n + 1) (by omega) (by omega), wrap64_id (n := n + 1 + 1) (by omega) (by omega), wrap64_id (n := n + 1 + 1 + 1) (by omega) (by omega), wrap64_id (n := n + 1 + 1 + 1 + 1) (by omega) (by omega), show n + 1 + 1 + 1 + 1 = n + 4 by omega]
        exact ev_pos (by omega) (ev_pos (by omega) (ev_let rfl (ev_bind hr (ev_let rfl (ev_let rfl hρ)))))
      · simpa using hx
    obtain ⟨x', hx', hs⟩ := step
    obtain ⟨y, hy⟩ := key x' hx'
    exact ⟨y, hs _ hy⟩
theorem laws_markStepS_ev (x : List IStep) (n : Int) (hx : x.length ≤ 1048576) (h0 : 0 ≤ n) (hn : n ≤ 100000000000) : ∃ y : List IStep, Ev (fun k => laws_markStepS.f k x n) (n + 4 * x.length, y) := by
  unfold laws_markStepS.f
  obtain ⟨y, hy⟩ := laws_markStepS_l0_ev x.length hx 0 (by omega) x n rfl h0 (by omega)
  exact ⟨y, by simpa using hy⟩

/-! ### play -/
def kindAt (l : List IStep) (a : Int) : Int := (l.getD a.toNat ⟨0, ⟨#[]⟩, 0, 0⟩).f0
/-- Is step number i of a play in order? -/
def stepOk (l : List IStep) (i : Nat) (x : IStep) : Bool :=
  if 1 ≤ x.f0 ∧ x.f0 ≤ 9 then
    if x.f0 = 1 then wordM x.f1 && (decide (x.f2 = 0) && decide (x.f3 = 0))
    else decide (x.f1 = ⟨#[]⟩) && (decide (0 ≤ x.f2 ∧ x.f2 < i) && ((decide (x.f0 = 4 ∨ x.f0 = 5 ∨ x.f0 = 2) || decide (kindAt l x.f2 = 1)) && (if x.f0 = 4 ∨ x.f0 = 5 then decide (0 ≤ x.f3 ∧ x.f3 < i) else decide (x.f3 = 0))))
  else false
def stepsFrom (l : List IStep) : List IStep → Nat → Bool
  | [], _ => true
  | x :: r, i => stepOk l i x && stepsFrom l r (i + 1)
def isPlayM (l : List IStep) : Bool := decide (1 ≤ l.length ∧ l.length ≤ 9) && stepsFrom l l 0
theorem kindAt_get {l : List IStep} {a : Nat} (h : a < l.length) : kindAt l (a : Int) = l[a].f0 := by
  unfold kindAt
  simp [h]
theorem empty_iff {s : ByteArray} : s.toList = [] ↔ s = ⟨#[]⟩ := by
  have : (⟨#[]⟩ : ByteArray).toList = [] := by rw [toList_eq]
  constructor
  · intro h
    exact toList_inj.1 (h.trans this.symm)
  · rintro rfl
    exact this
theorem wordM_empty : wordM ⟨#[]⟩ = false := by
  unfold wordM
  simp [ByteArray.size]
theorem spec_l15Ok_ev (l : List IStep) (i : Nat) (hi : i < l.length) (hl : l.length ≤ 9) (hw : l[i].f1.size ≤ 1048576) : Ev (fun k => spec_l15Ok.f k l i) (stepOk l i l[i]) := by
  unfold spec_l15Ok.f
  rw [rd_I_get hi]
  generalize l[i] = x at hw ⊢
  have hno : Ev (fun k => spec_l15Ok.j0 k l i true x.f0 x.f1 x.f2 x.f3) false := by
    apply ev_succ
    simp only [spec_l15Ok.j0]
    exact ev_pos (by simp) (ev_now rfl)
  have hj1 : ∀ b : Bool, b = decide (x.f0 = 4 ∨ x.f0 = 5) → ¬ x.f0 = 1 → Ev (fun k => spec_l15Ok.j1 k l i b x.f0 x.f1 x.f2 x.f3) (decide (0 ≤ x.f2 ∧ x.f2 < i) && ((decide (x.f0 = 4 ∨ x.f0 = 5 ∨ x.f0 = 2) || decide (kindAt l x.f2 = 1)) && (if x.f0 = 4 ∨ x.f0 = 5 then decide (0 ≤ x.f3 ∧ x.f3 < i) else decide (x.f3 = 0)))) := by
    intro b hb h1
    apply ev_succ
    simp only [spec_l15Ok.j1]
    rw [wrap64_id (by omega) (by omega)]
    refine ev_neg h1 (ev_let (spec_l1In_eq _ _ _) ?_)
    by_cases ha : 0 ≤ x.f2 ∧ x.f2 < i
    · refine ev_pos (by simp; omega) ?_
      rw [decide_eq_true ha, Bool.true_and]
      by_cases h2 : x.f0 = 4 ∨ x.f0 = 5
      · rw [if_pos h2, decide_eq_true (show x.f0 = 4 ∨ x.f0 = 5 ∨ x.f0 = 2 by omega), Bool.true_or, Bool.true_and]
        refine ev_pos (by rw [hb]; simpa using h2) (ev_let (spec_l1In_eq _ _ _) ?_)
        by_cases hb2 : 0 ≤ x.f3 ∧ x.f3 < i
        · rw [decide_eq_true hb2]
          exact ev_pos (by simp; omega) (ev_now rfl)
        · rw [decide_eq_false hb2]
          exact ev_neg (by simp; omega) (ev_now rfl)
      · rw [if_neg h2]
        refine ev_neg (by rw [hb]; simpa using h2) ?_
        by_cases h3 : x.f3 = 0
        · rw [decide_eq_true h3, Bool.and_true]
          refine ev_pos h3 ?_
          by_cases h4 : x.f0 = 2
          · rw [decide_eq_true (show x.f0 = 4 ∨ x.f0 = 5 ∨ x.f0 = 2 by omega), Bool.true_or]
            exact ev_pos h4 (ev_now rfl)
          · rw [decide_eq_false (show ¬ (x.f0 = 4 ∨ x.f0 = 5 ∨ x.f0 = 2) by omega), Bool.false_or]
            obtain ⟨a, ha2⟩ := Int.eq_ofNat_of_zero_le ha.1
            rw [ha2, rd_I_get (show a < l.length by omega), kindAt_get (show a < l.length by omega)]
            refine ev_neg h4 (ev_pos (by omega) (ev_pos (by omega) (ev_now ?_)))
            rfl
        · rw [decide_eq_false h3, Bool.and_false]
          exact ev_neg h3 (ev_now rfl)
    · rw [decide_eq_false ha, Bool.false_and]
      exact ev_neg (by simp; omega) (ev_now rfl)
  refine ev_pos (by omega) (ev_pos (by omega) (ev_let (spec_l1In_eq _ _ _) ?_))
  unfold stepOk
  by_cases hk : 1 ≤ x.f0 ∧ x.f0 ≤ 9
  · rw [if_pos hk]
    refine ev_pos (by simpa using hk) (ev_bind (spec_IsWord_ev x.f1 (by omega)) ?_)
    by_cases h1 : x.f0 = 1
    · rw [if_pos h1]
      refine ev_pos h1 ?_
      by_cases hwd : wordM x.f1 = true
      · refine ev_pos hwd (ev_succ ?_)
        simp only [spec_l15Ok.j0]
        refine ev_neg (by simp) (ev_neg (by omega) (ev_succ ?_))
        simp only [spec_l15Ok.j1]
        refine ev_pos h1 ?_
        rw [hwd, Bool.true_and]
        by_cases h2 : x.f2 = 0
        · exact ev_pos h2 (ev_now (by simp [h2]; rfl))
        · exact ev_neg h2 (ev_now (by simp [h2]))
      · refine ev_neg hwd (ev_eq hno ?_)
        rw [Bool.not_eq_true] at hwd
        simp [hwd]
    · rw [if_neg h1]
      refine ev_neg h1 ?_
      by_cases he : x.f1 = ⟨#[]⟩
      · rw [decide_eq_true he, Bool.true_and]
        refine ev_neg (by rw [he, wordM_empty]; simp) (ev_succ ?_)
        simp only [spec_l15Ok.j0]
        refine ev_neg (by rw [empty_iff.2 he]; simp) ?_
        by_cases h4 : x.f0 = 4
        · exact ev_pos h4 (hj1 true (by simp [h4]) h1)
        · exact ev_neg h4 (hj1 _ (by simp [h4]; rfl) h1)
      · rw [decide_eq_false he, Bool.false_and]
        by_cases hwd : wordM x.f1 = true
        · exact ev_pos hwd hno
        · refine ev_neg hwd ?_
          rw [show (x.f1.toList != ([] : List UInt8)) = true by rw [bne_iff_ne]; exact fun e => he (empty_iff.1 e)]
          exact hno
  · rw [if_neg hk]
    exact ev_neg (by simpa using hk) hno
theorem spec_IsPlay_l0_ev (l : List IStep) (hl : 1 ≤ l.length ∧ l.length ≤ 9) (hw : ∀ x ∈ l, x.f1.size ≤ 1048576) : ∀ i : Nat, i ≤ l.length → Ev (fun k => spec_IsPlay.l0 k l i) (stepsFrom l (l.drop i) i) := by
  refine down l.length ?_ ?_
  · intro i h hi
    apply ev_succ
    simp only [spec_IsPlay.l0]
    refine ev_neg (by omega) (ev_succ ?_)
    simp only [spec_IsPlay.j1]
    exact ev_neg (by simp) (ev_let (spec_l1In_eq _ _ _) (ev_now (by rw [List.drop_eq_nil_of_le h]; simp [stepsFrom]; omega)))
  · intro i h ih hi
    apply ev_succ
    simp only [spec_IsPlay.l0]
    refine ev_pos (by omega) (ev_succ ?_)
    simp only [spec_IsPlay.j1]
    rw [wrap64_id (n := (i : Int) + 1) (by omega) (by omega), succ_cast, List.drop_eq_getElem_cons h]
    unfold stepsFrom
    refine ev_pos (by simp; omega) (ev_bind (spec_l15Ok_ev l i h hl.2 (hw _ (List.getElem_mem h))) ?_)
    cases stepOk l i l[i] with
    | true => exact ev_pos rfl (ev_eq (ih (by omega)) (by simp))
    | false => exact ev_neg (by simp) (ev_now (by simp))
theorem spec_IsPlay_ev (l : List IStep) (hw : ∀ x ∈ l, x.f1.size ≤ 1048576) : Ev (fun k => spec_IsPlay.f k l) (isPlayM l) := by
  unfold spec_IsPlay.f isPlayM
  by_cases hl : 1 ≤ l.length ∧ l.length ≤ 9
  · rw [decide_eq_true hl, Bool.true_and]
    simpa using spec_IsPlay_l0_ev l hl hw 0 (by omega)
  · rw [decide_eq_false hl, Bool.false_and]
    have hj : Ev (fun k => spec_IsPlay.j1 k l 0 false) false := by
      apply ev_succ
      simp only [spec_IsPlay.j1]
      exact ev_neg (by simp) (ev_let (spec_l1In_eq _ _ _) (ev_now (by simp; omega)))
    apply ev_succ
    simp only [spec_IsPlay.l0]
    by_cases h0 : (0 : Int) < (l.length : Int)
    · rw [show decide ((l.length : Int) ≤ 9) = false by simp; omega]
      exact ev_pos h0 hj
    · exact ev_neg h0 hj
theorem impl_at_eq' (i n : Int) : impl_at.f i n = some (decide (0 ≤ i ∧ i < n)) := by
  unfold impl_at.f
  by_cases h : i ≥ 0
  · rw [if_pos h]
    simp [h]
  · rw [if_neg h]
    simp [h]
theorem impl_isPair_eq (n : Int) : impl_isPair.f n = some (decide (n = 4 ∨ n = 5)) := by
  unfold impl_isPair.f
  by_cases h : n = 4
  · rw [if_pos h]
    simp [h]
  · rw [if_neg h]
    simp [h]
    rfl
theorem impl_needsWord_eq (n : Int) : impl_needsWord.f n = some (decide (n = 3 ∨ 6 ≤ n)) := by
  unfold impl_needsWord.f
  by_cases h : n = 3
  · rw [if_pos h]
    simp [h]
  · rw [if_neg h]
    simp [h]
theorem impl_IsPlay_l0_ev (l : List IStep) (hl : l.length ≤ 9) (hw : ∀ x ∈ l, x.f1.size ≤ 1048576) : ∀ i : Nat, i ≤ l.length → Ev (fun k => impl_IsPlay.l0 k l l l.length i) (stepsFrom l (l.drop i) i) := by
  refine down l.length ?_ ?_
  · intro i h hi
    apply ev_succ
    simp only [impl_IsPlay.l0]
    exact ev_neg (by omega) (ev_now (by rw [List.drop_eq_nil_of_le h]; rfl))
  · intro i h ih hi
    have hwi := hw _ (List.getElem_mem h)
    apply ev_succ
    simp only [impl_IsPlay.l0]
    rw [rd_I_get h, wrap64_id (n := (i : Int) + 1) (by omega) (by omega), succ_cast, List.drop_eq_getElem_cons h]
    unfold stepsFrom
    have ih' := ih (by omega)
    generalize stepsFrom l (l.drop (i + 1)) (i + 1) = rest at ih' ⊢
    generalize l[i] = x at hwi ⊢
    refine ev_pos (by omega) (ev_pos (by omega) (ev_pos (by omega) (ev_let (impl_InRange_eq _ _ _) ?_)))
    unfold stepOk
    by_cases hk : 1 ≤ x.f0 ∧ x.f0 ≤ 9
    · rw [if_pos hk]
      refine ev_pos (by simpa using hk) ?_
      by_cases h1 : x.f0 = 1
      · rw [if_pos h1]
        refine ev_pos h1 (ev_bind (impl_IsWord_ev x.f1 (by omega)) ?_)
        cases wordM x.f1 with
        | false => exact ev_neg (by simp) (ev_now (by simp))
        | true =>
          refine ev_pos rfl ?_
          by_cases h2 : x.f2 = 0
          · refine ev_pos h2 ?_
            by_cases h3 : x.f3 = 0
            · exact ev_pos h3 (ev_eq ih' (by simp [h2, h3]))
            · exact ev_neg h3 (ev_now (by simp [h3]))
          · exact ev_neg h2 (ev_now (by simp [h2]))
      · rw [if_neg h1]
        refine ev_neg h1 ?_
        have hno : Ev (fun k => impl_IsPlay.j1 k l i l l.length i true x.f0 x.f1 x.f2 x.f3) false := by
          apply ev_succ
          simp only [impl_IsPlay.j1]
          exact ev_pos (by simp) (ev_now rfl)
        have hgo : Ev (fun k => impl_IsPlay.j1 k l i l l.length i false x.f0 x.f1 x.f2 x.f3) ((if x.f0 = 4 ∨ x.f0 = 5 then decide (0 ≤ x.f3 ∧ x.f3 < i) else decide (x.f3 = 0)) && rest) := by
          apply ev_succ
          simp only [impl_IsPlay.j1]
          rw [wrap64_id (n := (i : Int) + 1) (by omega) (by omega), succ_cast]
          refine ev_neg (by simp) (ev_let (impl_isPair_eq _) ?_)
          by_cases h2 : x.f0 = 4 ∨ x.f0 = 5
          · rw [if_pos h2]
            refine ev_pos (by simpa using h2) (ev_let (impl_at_eq' _ _) ?_)
            by_cases h3 : 0 ≤ x.f3 ∧ x.f3 < i
            · rw [decide_eq_true h3, Bool.true_and]
              exact ev_pos rfl (ev_let (impl_isPair_eq _) (ev_pos (by simpa using h2) ih'))
            · rw [decide_eq_false h3, Bool.false_and]
              exact ev_neg (by simp) (ev_now rfl)
          · rw [if_neg h2]
            refine ev_neg (by simpa using h2) (ev_let (impl_isPair_eq _) (ev_neg (by simpa using h2) ?_))
            by_cases h3 : x.f3 = 0
            · rw [decide_eq_true h3, Bool.true_and]
              exact ev_pos h3 ih'
            · rw [decide_eq_false h3, Bool.false_and]
              exact ev_neg h3 (ev_now rfl)
        by_cases he : x.f1 = ⟨#[]⟩
        · rw [decide_eq_true he, Bool.true_and]
          refine ev_pos (empty_iff.2 he) (ev_let (impl_at_eq' _ _) ?_)
          by_cases ha : 0 ≤ x.f2 ∧ x.f2 < i
          · rw [decide_eq_true ha, Bool.true_and]
            refine ev_pos rfl (ev_let (impl_needsWord_eq _) ?_)
            by_cases hn : x.f0 = 3 ∨ 6 ≤ x.f0
            · refine ev_pos (by simpa using hn) ?_
              obtain ⟨a, ha2⟩ := Int.eq_ofNat_of_zero_le ha.1
              rw [ha2] at hgo hno ⊢
              rw [rd_I_get (show a < l.length by omega), kindAt_get (show a < l.length by omega), decide_eq_false (show ¬ (x.f0 = 4 ∨ x.f0 = 5 ∨ x.f0 = 2) by omega), Bool.false_or]
              refine ev_pos (by omega) (ev_pos (by omega) ?_)
              by_cases h5 : l[a].f0 = 1
              · rw [decide_eq_true h5, Bool.true_and, show (l[a].f0 != 1) = false by simp [h5]]
                exact hgo
              · rw [decide_eq_false h5, Bool.false_and, Bool.false_and, show (l[a].f0 != 1) = true by simp [h5]]
                exact hno
            · refine ev_neg (by simpa using hn) ?_
              rw [decide_eq_true (show x.f0 = 4 ∨ x.f0 = 5 ∨ x.f0 = 2 by omega), Bool.true_or, Bool.true_and]
              exact hgo
          · rw [decide_eq_false ha, Bool.false_and, Bool.false_and]
            exact ev_neg (by simp) hno
        · rw [decide_eq_false he, Bool.false_and, Bool.false_and]
          exact ev_neg (fun e => he (empty_iff.1 e)) hno
    · rw [if_neg hk, Bool.false_and]
      exact ev_neg (by simpa using hk) (ev_now rfl)
theorem impl_IsPlay_ev (l : List IStep) (hw : ∀ x ∈ l, x.f1.size ≤ 1048576) : Ev (fun k => impl_IsPlay.f k l) (isPlayM l) := by
  unfold impl_IsPlay.f isPlayM
  refine ev_let (impl_InRange_eq _ _ _) ?_
  by_cases hl : 1 ≤ l.length ∧ l.length ≤ 9
  · rw [decide_eq_true hl, Bool.true_and]
    exact ev_pos (by simp; omega) (by simpa using impl_IsPlay_l0_ev l hl.2 hw 0 (by omega))
  · rw [decide_eq_false hl, Bool.false_and]
    exact ev_neg (by simp; omega) (ev_now rfl)
theorem toI_sizes {l : List LStep} (h : totalS l ≤ 1048576) : ∀ x ∈ l.map toI, x.f1.size ≤ 1048576 := by
  have key : ∀ (l : List LStep) (y : LStep), y ∈ l → y.f1.size ≤ totalS l := by
    intro l y hy
    induction l with
    | nil => cases hy
    | cons a r ih =>
      have e : totalS (a :: r) = a.f1.size + totalS r := rfl
      rcases List.mem_cons.1 hy with rfl | hy
      · omega
      · have := ih hy
        omega
  intro x hx
  obtain ⟨y, hy, rfl⟩ := List.mem_map.1 hx
  have := key l y hy
  simp only [toI]
  omega
def plainM : List IStep → Bool
  | [] => true
  | x :: r => decide (x.f0 = 1 ∨ x.f0 = 4) && plainM r

/-! ### sortl -/
theorem bt_lst {s : ByteArray} {i : Nat} (h : i < s.data.toList.length) : bt s (i : Int) = ((s.data.toList[i]).toNat : Int) := by
  have h' : i < s.size := by simpa using h
  unfold bt
  rw [dif_pos (show (i : Int).toNat < s.size by omega)]
  rfl
/-- The letters from a on, n of them, each as often as it stands in l. -/
def lettersFrom (l : List UInt8) (a n : Nat) : List UInt8 := (List.range' a n).flatMap fun c => l.filter fun b => b.toNat == c
theorem lettersFrom_perm (l : List UInt8) : ∀ n a : Nat, (lettersFrom l a n).Perm (l.filter fun b => decide (a ≤ b.toNat ∧ b.toNat < a + n))
  | 0, a => by
    have : (l.filter fun b => decide (a ≤ b.toNat ∧ b.toNat < a + 0)) = [] := by
      rw [List.filter_eq_nil_iff]
      intro b _
      simp
    rw [this]
    simp [lettersFrom]
  | n + 1, a => by
    have ih := lettersFrom_perm l n (a + 1)
    have e : lettersFrom l a (n + 1) = (l.filter fun b => b.toNat == a) ++ lettersFrom l (a + 1) n := by
      unfold lettersFrom
      rw [List.range'_succ, List.flatMap_cons]
    rw [e]
    refine (List.Perm.append_left _ ih).trans ?_
    have h := List.filter_append_perm (fun b : UInt8 => b.toNat == a) (l.filter fun b => decide (a ≤ b.toNat ∧ b.toNat < a + (n + 1)))
    rw [List.filter_filter, List.filter_filter] at h
    have e1 : (l.filter fun b => (b.toNat == a) && decide (a ≤ b.toNat ∧ b.toNat < a + (n + 1))) = l.filter fun b => b.toNat == a := by
      congr 1
      funext b
      by_cases hb : b.toNat = a
      · simp [hb]
      · simp [hb]
    have e2 : (l.filter fun b => !(b.toNat == a) && decide (a ≤ b.toNat ∧ b.toNat < a + (n + 1))) = l.filter fun b => decide (a + 1 ≤ b.toNat ∧ b.toNat < a + 1 + n) := by
      congr 1
      funext b
      rw [Bool.eq_iff_iff]
      simp
      omega
    rw [e1, e2] at h
    exact h
theorem lettersFrom_sorted (l : List UInt8) (n a : Nat) : (lettersFrom l a n).Pairwise fun x y => decide (x.toNat ≤ y.toNat) = true := by
  unfold lettersFrom
  rw [List.pairwise_flatMap]
  constructor
  · intro c _
    rw [List.pairwise_iff_forall_sublist]
    intro x y hxy
    have hx := hxy.subset (show x ∈ [x, y] by simp)
    have hy := hxy.subset (show y ∈ [x, y] by simp)
    simp at hx hy
    simp [hx.2, hy.2]
  · refine (List.pairwise_lt_range' (s := a) (n := n) (step := 1)).imp ?_
    intro c d hcd x hx y hy
    simp at hx hy
    simp
    omega
theorem letters_list (s : ByteArray) (hw : wordM s = true) : (lettersM s).data.toList = lettersFrom s.data.toList 97 26 := by
  have hsz := wordM_size hw
  have hall : ∀ b ∈ s.data.toList, 97 ≤ b.toNat ∧ b.toNat < 97 + 26 := by
    intro b hb
    obtain ⟨i, hi, rfl⟩ := List.getElem_of_mem hb
    have hi' : i < s.size := by simpa using hi
    simp only [wordM, Bool.and_eq_true, List.all_eq_true] at hw
    have := hw.2 i (by rw [List.mem_range'_1]; omega)
    simp only [isL, decide_eq_true_eq, bt_lst hi] at this
    omega
  generalize hd : s.data.map (fun b => (b.toNat : Int)) = d
  have hds : d.size = s.size := by rw [← hd]; simp
  obtain ⟨hP, hSo⟩ := Go.Sort.insertionSort_holds Go.Sort.swo_ltInt d 0 s.size (Nat.zero_le _) (by omega)
  have hl : (lettersM s).data.toList = (Go.Sort.insertionSort Go.Sort.ltInt d 0 s.size).toList.map fun n => UInt8.ofNat n.toNat := by
    unfold lettersM
    rw [hd]
    rfl
  generalize Go.Sort.insertionSort Go.Sort.ltInt d 0 s.size = d' at hP hSo hl
  obtain ⟨hz, _, hp⟩ := hP
  have e1 : d'.extract 0 s.size = d' := by rw [show s.size = d'.size by omega]; exact Array.extract_size
  have e2 : d.extract 0 s.size = d := by rw [← hds]; exact Array.extract_size
  rw [e1, e2] at hp
  have hdl : d.toList.map (fun n => UInt8.ofNat n.toNat) = s.data.toList := by
    rw [← hd, Array.toList_map, List.map_map]
    conv => rhs; rw [← List.map_id s.data.toList]
    congr 1
    funext b
    simp
  have hperm : ((lettersM s).data.toList).Perm s.data.toList := by
    rw [hl, ← hdl]
    exact hp.map _
  have hrng : ∀ x ∈ d'.toList, 0 ≤ x ∧ x ≤ 255 := by
    intro x hx
    have := hp.subset hx
    rw [← hd, Array.toList_map, List.mem_map] at this
    obtain ⟨b, _, rfl⟩ := this
    have := b.toNat_lt
    omega
  refine List.Perm.eq_of_pairwise (le := fun x y : UInt8 => decide (x.toNat ≤ y.toNat) = true) ?_ ?_ (lettersFrom_sorted _ _ _) (hperm.trans ?_)
  · intro a b _ _ h1 h2
    simp at h1 h2
    exact UInt8.le_antisymm h1 h2
  · rw [hl, List.pairwise_map, List.pairwise_iff_getElem]
    intro i j hi hj hij
    have hi' : i < d'.size := by simpa using hi
    have hj' : j < d'.size := by simpa using hj
    have := hSo i j (Nat.zero_le _) hij (by omega)
    rw [getElem!_pos d' j hj', getElem!_pos d' i hi'] at this
    simp only [Go.Sort.ltInt, decide_eq_false_iff_not] at this
    have ri := hrng d'[i] (by simp)
    have rj := hrng d'[j] (by simp)
    have ei : (UInt8.ofNat (d'.toList[i]).toNat).toNat = d'[i].toNat := by
      rw [UInt8.toNat_ofNat']
      simp only [Array.getElem_toList]
      omega
    have ej : (UInt8.ofNat (d'.toList[j]).toNat).toNat = d'[j].toNat := by
      rw [UInt8.toNat_ofNat']
      simp only [Array.getElem_toList]
      omega
    rw [decide_eq_true_eq, ei, ej]
    omega
  · refine List.Perm.trans ?_ (lettersFrom_perm s.data.toList 26 97).symm
    rw [List.filter_eq_self.2 (fun b hb => by simp; have := hall b hb; omega)]
theorem impl_SortLetters_ev (s : ByteArray) (hw : wordM s = true) : Ev (fun k => impl_SortLetters.f k s) (⟨(lettersFrom s.data.toList 97 26).toArray⟩ : ByteArray) := by
  unfold impl_SortLetters.f
  have h := wordM_size hw
  refine ev_bind (impl_IsWord_ev s (by omega)) (ev_pos hw (ev_pos (by omega) (ev_now ?_)))
  apply ByteArray.ext
  apply Array.ext'
  exact letters_list s hw
theorem spec_SortLetters_ev (s : ByteArray) (hw : wordM s = true) : Ev (fun k => spec_SortLetters.f k s) (⟨(lettersFrom s.data.toList 97 26).toArray⟩ : ByteArray) := by
  have hsz := wordM_size hw
  have key : ∀ n a : Nat, a + n = 123 → 97 ≤ a → ∀ acc : ByteArray, acc.size ≤ (a - 97) * 8 → Ev (fun k => spec_SortLetters.l0 k s acc a) (⟨(acc.data.toList ++ lettersFrom s.data.toList a n).toArray⟩ : ByteArray) := by
    intro n
    induction n with
    | zero =>
      intro a ha h97 acc hacc
      apply ev_succ
      simp only [spec_SortLetters.l0]
      refine ev_neg (by omega) (ev_succ ?_)
      simp only [spec_SortLetters.j1]
      exact ev_neg (by simp) (ev_now (by simp [lettersFrom]))
    | succ n ih =>
      intro a ha h97 acc hacc
      apply ev_succ
      simp only [spec_SortLetters.l0]
      refine ev_pos (by omega) (ev_bind (spec_IsWord_ev s (by omega)) (ev_succ ?_))
      simp only [spec_SortLetters.j1]
      refine ev_pos hw ?_
      have e : lettersFrom s.data.toList a (n + 1) = ((s.data.toList.drop 0).filter fun b => b.toNat == a) ++ lettersFrom s.data.toList (a + 1) n := by
        unfold lettersFrom
        rw [List.range'_succ, List.flatMap_cons]
        rfl
      rw [e]
      have inner : ∀ i : Nat, i ≤ s.size → ∀ x : ByteArray, x.size ≤ (a - 97) * 8 + i → Ev (fun k => spec_SortLetters.l1 k s x a i) (⟨(x.data.toList ++ (((s.data.toList.drop i).filter fun b => b.toNat == a) ++ lettersFrom s.data.toList (a + 1) n)).toArray⟩ : ByteArray) := by
        refine down s.size ?_ ?_
        · intro i h hi x hx
          apply ev_succ
          simp only [spec_SortLetters.l1]
          have hw32 : wrap32 ((a : Int) + 1) = ((a + 1 : Nat) : Int) := by
            unfold wrap32
            omega
          rw [hw32]
          have hl : s.data.toList.length ≤ i := by simpa using h
          rw [List.drop_eq_nil_of_le hl]
          exact ev_neg (by omega) (ih (a + 1) (by omega) (by omega) x (by omega))
        · intro i h ihi hi x hx
          apply ev_succ
          simp only [spec_SortLetters.l1]
          have hl : i < s.data.toList.length := by simpa using h
          have hb := bt_lst hl
          have hr := bt_range s (i : Int)
          have hw32 : wrap32 (bt s (i : Int)) = bt s (i : Int) := by
            unfold wrap32
            omega
          rw [hw32, wrap64_id (n := (i : Int) + 1) (by omega) (by omega), succ_cast, List.drop_eq_getElem_cons hl, show ((i + 1 : Nat) : Int).toNat = i + 1 by omega, show (i : Int).toNat = i by omega]
          refine ev_pos (by omega) (ev_pos (by omega) ?_)
          have ex : (s.extract i (i + 1)).data.toList = [s.data.toList[i]] := by
            rw [ByteArray.data_extract, Array.toList_extract]
            simp only [List.extract]
            rw [show i + 1 - i = 1 by omega, List.drop_eq_getElem_cons hl]
            rfl
          have hx1 : (s.extract i (i + 1)).size ≤ 1 := by
            rw [ByteArray.size_extract]
            omega
          by_cases hc : bt s (i : Int) = (a : Int)
          · refine ev_pos hc (ev_pos (by omega) (ev_pos (by omega) (ev_pos (by omega) ?_)))
            refine ev_eq (ihi (by omega) (x ++ s.extract i (i + 1)) (by rw [ByteArray.size_append]; omega)) ?_
            rw [hb] at hc
            have hc' : (s.data.toList[i]).toNat = a := by omega
            have e2 : List.filter (fun b : UInt8 => b.toNat == a) (s.data.toList[i] :: s.data.toList.drop (i + 1)) = s.data.toList[i] :: List.filter (fun b : UInt8 => b.toNat == a) (s.data.toList.drop (i + 1)) := List.filter_cons_of_pos (by simpa using hc')
            rw [e2, ByteArray.data_append, Array.toList_append, ex]
            simp
          · refine ev_neg hc (ev_eq (ihi (by omega) x (by omega)) ?_)
            rw [hb] at hc
            have hc' : ¬ (s.data.toList[i]).toNat = a := by omega
            have e2 : List.filter (fun b : UInt8 => b.toNat == a) (s.data.toList[i] :: s.data.toList.drop (i + 1)) = List.filter (fun b : UInt8 => b.toNat == a) (s.data.toList.drop (i + 1)) := List.filter_cons_of_neg (by simpa using hc')
            rw [e2]
      exact inner 0 (by omega) acc (by omega)
  unfold spec_SortLetters.f
  exact ev_eq (key 26 97 (by omega) (by omega) ⟨#[]⟩ (by simp [ByteArray.size])) (by simp)
/-- Are the letters of w those of s, in another order? -/
def rearrM (a b : ByteArray) : Bool := wordM a && (wordM b && (!decide (a = b) && decide (lettersFrom a.data.toList 97 26 = lettersFrom b.data.toList 97 26)))
theorem arr_eq_dec (x y : List UInt8) : ((⟨x.toArray⟩ : ByteArray).toList == (⟨y.toArray⟩ : ByteArray).toList) = decide (x = y) := by
  rw [toList_eq, toList_eq, Bool.eq_iff_iff]
  simp
theorem spec_IsRearranged_ev (a b : ByteArray) (ha : a.size ≤ 140737488351232) (hb : b.size ≤ 140737488351232) : Ev (fun k => spec_IsRearranged.f k a b) (rearrM a b) := by
  unfold spec_IsRearranged.f rearrM
  refine ev_bind (spec_IsWord_ev a ha) ?_
  by_cases h1 : wordM a = true
  · rw [h1, Bool.true_and]
    refine ev_pos rfl (ev_bind (spec_IsWord_ev b hb) ?_)
    by_cases h2 : wordM b = true
    · rw [h2, Bool.true_and]
      refine ev_pos rfl ?_
      by_cases h3 : a = b
      · exact ev_pos (toList_inj.2 h3) (ev_now (by simp [h3]))
      · refine ev_neg (fun e => h3 (toList_inj.1 e)) (ev_bind (spec_SortLetters_ev a h1) (ev_bind (spec_SortLetters_ev b h2) (ev_now ?_)))
        rw [arr_eq_dec]
        simp [h3]
    · rw [Bool.not_eq_true] at h2
      rw [h2]
      exact ev_neg (by simp) (ev_now (by simp))
  · rw [Bool.not_eq_true] at h1
    rw [h1]
    exact ev_neg (by simp) (ev_now (by simp))
theorem impl_IsRearranged_ev (a b : ByteArray) (ha : a.size ≤ 140737488351232) (hb : b.size ≤ 140737488351232) : Ev (fun k => impl_IsRearranged.f k a b) (rearrM a b) := by
  unfold impl_IsRearranged.f rearrM
  refine ev_bind (impl_IsWord_ev a ha) ?_
  by_cases h1 : wordM a = true
  · rw [h1, Bool.true_and]
    refine ev_pos rfl (ev_bind (impl_IsWord_ev b hb) ?_)
    by_cases h2 : wordM b = true
    · rw [h2, Bool.true_and]
      refine ev_pos rfl ?_
      by_cases h3 : a = b
      · exact ev_pos (toList_inj.2 h3) (ev_now (by simp [h3]))
      · refine ev_neg (fun e => h3 (toList_inj.1 e)) (ev_bind (impl_SortLetters_ev a h1) (ev_bind (impl_SortLetters_ev b h2) (ev_now ?_)))
        rw [arr_eq_dec]
        simp [h3]
    · rw [Bool.not_eq_true] at h2
      rw [h2]
      exact ev_neg (by simp) (ev_now (by simp))
  · rw [Bool.not_eq_true] at h1
    rw [h1]
    exact ev_neg (by simp) (ev_now (by simp))

/-! ### inside -/
/-- Does p stand in w from a place i on, with letters on both sides? -/
def insideFrom (p w : ByteArray) (i : Nat) : Bool := (List.range' i (w.size - p.size - i)).any fun j => decide ((w.extract j (j + p.size)).toList = p.toList)
def insideM (p w : ByteArray) : Bool := wordM p && (wordM w && insideFrom p w 1)
theorem spec_IsInside_l0_ev (p w : ByteArray) (hp : p.size ≤ 140737488351232) (hw : w.size ≤ 140737488351232) : ∀ i : Nat, i ≤ 140737488351232 → Ev (fun k => spec_IsInside.l0 k p w i) (insideFrom p w i) := by
  refine down (w.size - p.size) ?_ ?_
  · intro i h hi
    apply ev_succ
    simp only [spec_IsInside.l0]
    rw [wrap64_id (n := (i : Int) + p.size) (by omega) (by omega)]
    refine ev_neg (by omega) (ev_now ?_)
    unfold insideFrom
    rw [range_nil h]; rfl
  · intro i h ih hi
    apply ev_succ
    simp only [spec_IsInside.l0]
    rw [wrap64_id (n := (i : Int) + p.size) (by omega) (by omega), wrap64_id (n := (i : Int) + 1) (by omega) (by omega), succ_cast, show ((i : Int) + p.size).toNat = i + p.size by omega, show (i : Int).toNat = i by omega]
    refine ev_pos (by omega) (ev_pos (by omega) (ev_pos (by omega) (ev_pos (by omega) ?_)))
    unfold insideFrom at ih ⊢
    rw [range_cons h, List.any_cons]
    by_cases he : (w.extract i (i + p.size)).toList = p.toList
    · exact ev_pos he (ev_now (by simp [he]))
    · exact ev_neg he (ev_eq (ih (by omega)) (by simp [he]))
theorem spec_IsInside_ev (p w : ByteArray) (hp : p.size ≤ 140737488351232) (hw : w.size ≤ 140737488351232) : Ev (fun k => spec_IsInside.f k p w) (insideM p w) := by
  unfold spec_IsInside.f insideM
  refine ev_bind (spec_IsWord_ev p hp) ?_
  cases wordM p
  · refine ev_neg (by simp) (ev_succ ?_)
    simp only [spec_IsInside.j0]
    exact ev_pos (by simp) (ev_now rfl)
  · refine ev_pos rfl (ev_bind (spec_IsWord_ev w hw) (ev_succ ?_))
    simp only [spec_IsInside.j0]
    cases wordM w
    · exact ev_pos (by simp) (ev_now rfl)
    · exact ev_neg (by simp) (ev_eq (spec_IsInside_l0_ev p w hp hw 1 (by omega)) (by simp))
theorem impl_IsInside_l0_ev (p w : ByteArray) (hp : p.size ≤ 140737488351232) (hw : w.size ≤ 140737488351232) : ∀ i : Nat, i ≤ 140737488351232 → Ev (fun k => impl_IsInside.l0 k p w i) (insideFrom p w i) := by
  refine down (w.size - p.size) ?_ ?_
  · intro i h hi
    apply ev_succ
    simp only [impl_IsInside.l0]
    rw [wrap64_id (n := (i : Int) + p.size) (by omega) (by omega)]
    refine ev_neg (by omega) (ev_now ?_)
    unfold insideFrom
    rw [range_nil h]; rfl
  · intro i h ih hi
    apply ev_succ
    simp only [impl_IsInside.l0]
    rw [wrap64_id (n := (i : Int) + p.size) (by omega) (by omega), wrap64_id (n := (i : Int) + 1) (by omega) (by omega), succ_cast, show ((i : Int) + p.size).toNat = i + p.size by omega, show (i : Int).toNat = i by omega]
    refine ev_pos (by omega) (ev_pos (by omega) (ev_pos (by omega) (ev_pos (by omega) ?_)))
    unfold insideFrom at ih ⊢
    rw [range_cons h, List.any_cons]
    by_cases he : (w.extract i (i + p.size)).toList = p.toList
    · exact ev_pos he (ev_now (by simp [he]))
    · exact ev_neg he (ev_eq (ih (by omega)) (by simp [he]))
theorem impl_IsInside_ev (p w : ByteArray) (hp : p.size ≤ 140737488351232) (hw : w.size ≤ 140737488351232) : Ev (fun k => impl_IsInside.f k p w) (insideM p w) := by
  unfold impl_IsInside.f insideM
  refine ev_bind (impl_IsWord_ev p hp) ?_
  cases wordM p
  · refine ev_neg (by simp) (ev_succ ?_)
    simp only [impl_IsInside.j0]
    exact ev_pos (by simp) (ev_now rfl)
  · refine ev_pos rfl (ev_bind (impl_IsWord_ev w hw) (ev_succ ?_))
    simp only [impl_IsInside.j0]
    cases wordM w
    · exact ev_pos (by simp) (ev_now rfl)
    · exact ev_neg (by simp) (ev_eq (impl_IsInside_l0_ev p w hp hw 1 (by omega)) (by simp))

/-! ### parts -/
def headM (s : ByteArray) : ByteArray := if wordM s then s.extract 0 1 else ⟨#[]⟩
theorem spec_HeadOf_ev (s : ByteArray) (hs : s.size ≤ 140737488351232) : Ev (fun k => spec_HeadOf.f k s) (headM s) := by
  unfold spec_HeadOf.f headM
  refine ev_bind (spec_IsWord_ev s hs) ?_
  by_cases h : wordM s = true
  · have := wordM_size h
    exact ev_pos h (ev_pos (by omega) (ev_pos (by omega) (ev_now (if_pos h).symm)))
  · exact ev_neg h (ev_now (if_neg h).symm)
theorem impl_HeadOf_ev (s : ByteArray) (hs : s.size ≤ 140737488351232) : Ev (fun k => impl_HeadOf.f k s) (headM s) := by
  unfold impl_HeadOf.f headM
  refine ev_bind (impl_IsWord_ev s hs) ?_
  by_cases h : wordM s = true
  · have := wordM_size h
    exact ev_pos h (ev_pos (by omega) (ev_pos (by omega) (ev_now (if_pos h).symm)))
  · exact ev_neg h (ev_now (if_neg h).symm)
def noHeadM (s : ByteArray) : ByteArray := if wordM s then s.extract 1 s.size else ⟨#[]⟩
theorem spec_WithoutHead_ev (s : ByteArray) (hs : s.size ≤ 140737488351232) : Ev (fun k => spec_WithoutHead.f k s) (noHeadM s) := by
  unfold spec_WithoutHead.f noHeadM
  refine ev_bind (spec_IsWord_ev s hs) ?_
  by_cases h : wordM s = true
  · have := wordM_size h
    exact ev_pos h (ev_pos (by omega) (ev_now (if_pos h).symm))
  · exact ev_neg h (ev_now (if_neg h).symm)
theorem impl_WithoutHead_ev (s : ByteArray) (hs : s.size ≤ 140737488351232) : Ev (fun k => impl_WithoutHead.f k s) (noHeadM s) := by
  unfold impl_WithoutHead.f noHeadM
  refine ev_bind (impl_IsWord_ev s hs) ?_
  by_cases h : wordM s = true
  · have := wordM_size h
    exact ev_pos h (ev_pos (by omega) (ev_now (if_pos h).symm))
  · exact ev_neg h (ev_now (if_neg h).symm)
def noTailM (s : ByteArray) : ByteArray := if wordM s then s.extract 0 (s.size - 1) else ⟨#[]⟩
theorem spec_WithoutTail_ev (s : ByteArray) (hs : s.size ≤ 140737488351232) : Ev (fun k => spec_WithoutTail.f k s) (noTailM s) := by
  unfold spec_WithoutTail.f noTailM
  refine ev_bind (spec_IsWord_ev s hs) ?_
  by_cases h : wordM s = true
  · have := wordM_size h
    rw [wrap64_id (by omega) (by omega)]
    exact ev_pos h (ev_pos (by omega) (ev_pos (by omega) (ev_now (by rw [if_pos h, show ((s.size : Int) - 1).toNat = s.size - 1 by omega]))))
  · exact ev_neg h (ev_now (if_neg h).symm)
theorem impl_WithoutTail_ev (s : ByteArray) (hs : s.size ≤ 140737488351232) : Ev (fun k => impl_WithoutTail.f k s) (noTailM s) := by
  unfold impl_WithoutTail.f noTailM
  refine ev_bind (impl_IsWord_ev s hs) ?_
  by_cases h : wordM s = true
  · have := wordM_size h
    rw [wrap64_id (by omega) (by omega)]
    exact ev_pos h (ev_pos (by omega) (ev_pos (by omega) (ev_now (by rw [if_pos h, show ((s.size : Int) - 1).toNat = s.size - 1 by omega]))))
  · exact ev_neg h (ev_now (if_neg h).symm)

/-! ### back -/
def backM (s : ByteArray) : ByteArray := if 100 < s.size then ⟨#[]⟩ else ⟨s.data.reverse⟩
theorem impl_Backwards_eq (s : ByteArray) : impl_Backwards.f s = some (backM s) := rfl
theorem back_step (s acc : ByteArray) (i : Nat) (hi : i < s.size) (ha : acc.data.toList = (s.data.toList.take i).reverse) : (s.extract i (i + 1) ++ acc).data.toList = (s.data.toList.take (i + 1)).reverse := by
  have hl : i < s.data.toList.length := by simpa using hi
  rw [List.take_succ_eq_append_getElem hl, List.reverse_append, ← ha]
  have e : (s.extract i (i + 1)).data.toList = [s.data.toList[i]] := by
    rw [ByteArray.data_extract, Array.toList_extract]
    simp only [List.extract]
    rw [show i + 1 - i = 1 by omega, List.drop_eq_getElem_cons hl]
    rfl
  rw [ByteArray.data_append, Array.toList_append, e]
  rfl
theorem spec_Backwards_l0_ev (s : ByteArray) (hs : s.size ≤ 100) : ∀ i : Nat, i ≤ s.size → ∀ acc : ByteArray, acc.data.toList = (s.data.toList.take i).reverse → Ev (fun k => spec_Backwards.l0 k s acc i) (⟨s.data.reverse⟩ : ByteArray) := by
  refine down s.size ?_ ?_
  · intro i h hi acc ha
    apply ev_succ
    simp only [spec_Backwards.l0]
    refine ev_neg (by omega) (ev_now ?_)
    have hx : acc = ⟨s.data.reverse⟩ := by
      have : s.data.toList.length ≤ i := by simpa using h
      rw [List.take_of_length_le this] at ha
      apply ByteArray.ext
      apply Array.ext'
      rw [ha]
      simp
    rw [hx]
  · intro i h ih hi acc ha
    have hsz : acc.size ≤ 100 := by
      have : acc.size = acc.data.toList.length := by simp
      rw [this, ha]
      simp
      omega
    apply ev_succ
    simp only [spec_Backwards.l0]
    rw [wrap64_id (n := (i : Int) + 1) (by omega) (by omega), succ_cast]
    have hx : (s.extract i (i + 1)).size ≤ 1 := by
      rw [ByteArray.size_extract]
      omega
    refine ev_pos (by omega) (ev_pos (by omega) (ev_pos (by omega) (ev_pos (by omega) (ev_pos (by omega) (ev_pos ?_ (ih (by omega) _ ?_))))))
    · show (s.extract i (i + 1)).size + acc.size ≤ 9223372036854775807
      omega
    · exact back_step s acc i h ha
theorem spec_Backwards_ev (s : ByteArray) : Ev (fun k => spec_Backwards.f k s) (backM s) := by
  unfold spec_Backwards.f backM
  by_cases hs : 100 < s.size
  · rw [if_pos hs]
    apply ev_succ
    simp only [spec_Backwards.l0]
    exact ev_pos (by omega) (ev_neg (by omega) (ev_now rfl))
  · rw [if_neg hs]
    exact spec_Backwards_l0_ev s (by omega) 0 (by omega) _ (by simp)

/-! ### makes -/
def anyFrom (n i : Nat) (p : Nat → Bool) : Bool := (List.range' i (n - i)).any p
def stepGet (l : List IStep) (i : Nat) : IStep := l.getD i ⟨0, ⟨#[]⟩, 0, 0⟩
theorem stepGet_get {l : List IStep} {i : Nat} (h : i < l.length) : stepGet l i = l[i] := by
  unfold stepGet
  simp [h]
/-- Does step number i of a play make s? (n: more than i) -/
def makesM (l : List IStep) : Nat → Nat → ByteArray → Bool
  | 0, _, _ => false
  | n + 1, i, s =>
    if (stepGet l i).f0 = 1 then decide ((stepGet l i).f1 = s)
    else if (stepGet l i).f0 = 2 then makesM l n (stepGet l i).f2.toNat (backM s)
    else if (stepGet l i).f0 = 3 then rearrM (stepGet l (stepGet l i).f2.toNat).f1 s
    else if (stepGet l i).f0 = 4 then anyFrom s.size 1 fun j => makesM l n (stepGet l i).f2.toNat (s.extract 0 j) && makesM l n (stepGet l i).f3.toNat (s.extract j s.size)
    else if (stepGet l i).f0 = 5 then anyFrom s.size 1 fun j => anyFrom s.size (j + 1) fun m => makesM l n (stepGet l i).f3.toNat (s.extract j m) && makesM l n (stepGet l i).f2.toNat (s.extract 0 j ++ s.extract m s.size)
    else if (stepGet l i).f0 = 6 then decide (headM (stepGet l (stepGet l i).f2.toNat).f1 = s)
    else if (stepGet l i).f0 = 7 then decide (noHeadM (stepGet l (stepGet l i).f2.toNat).f1 = s)
    else if (stepGet l i).f0 = 8 then decide (noTailM (stepGet l (stepGet l i).f2.toNat).f1 = s)
    else insideM s (stepGet l (stepGet l i).f2.toNat).f1
structure StepFacts (i : Nat) (x : IStep) : Prop where
  k : 1 ≤ x.f0 ∧ x.f0 ≤ 9
  a : 0 ≤ x.f2 ∧ (x.f2 < i ∨ x.f2 = 0)
  a2 : ¬ x.f0 = 1 → x.f2 < i
  b : x.f0 = 4 ∨ x.f0 = 5 → 0 ≤ x.f3 ∧ x.f3 < i
theorem stepOk_facts {l : List IStep} {i : Nat} {x : IStep} (h : stepOk l i x = true) : StepFacts i x := by
  unfold stepOk at h
  by_cases hk : 1 ≤ x.f0 ∧ x.f0 ≤ 9
  · rw [if_pos hk] at h
    by_cases h1 : x.f0 = 1
    · rw [if_pos h1] at h
      simp only [Bool.and_eq_true, decide_eq_true_eq] at h
      exact ⟨hk, ⟨by omega, by omega⟩, fun c => absurd h1 c, fun c => by omega⟩
    · rw [if_neg h1] at h
      simp only [Bool.and_eq_true, decide_eq_true_eq] at h
      refine ⟨hk, ⟨h.2.1.1, Or.inl h.2.1.2⟩, fun _ => h.2.1.2, fun c => ?_⟩
      have := h.2.2.2
      rw [if_pos c] at this
      simpa using this
  · rw [if_neg hk] at h
    exact absurd h (by simp)
theorem stepsFrom_all {l : List IStep} : ∀ (r : List IStep) (i : Nat), stepsFrom l r i = true → ∀ (j : Nat) (h : j < r.length), stepOk l (i + j) r[j] = true
  | [], _, _, j, h => absurd h (by simp)
  | x :: r, i, hs, j, h => by
    unfold stepsFrom at hs
    rw [Bool.and_eq_true] at hs
    cases j with
    | zero => exact hs.1
    | succ j =>
      have := stepsFrom_all r (i + 1) hs.2 j (by simpa using h)
      rw [show i + (j + 1) = i + 1 + j by omega]
      simpa using this
theorem play_facts {l : List IStep} (h : isPlayM l = true) : (1 ≤ l.length ∧ l.length ≤ 9) ∧ ∀ (i : Nat) (hi : i < l.length), StepFacts i l[i] := by
  unfold isPlayM at h
  rw [Bool.and_eq_true, decide_eq_true_eq] at h
  refine ⟨h.1, fun i hi => stepOk_facts (l := l) ?_⟩
  have := stepsFrom_all l 0 h.2 i hi
  rwa [Nat.zero_add] at this
theorem toList_beq (a b : ByteArray) : (a.toList == b.toList) = decide (a = b) := by
  rw [Bool.eq_iff_iff]
  simp [toList_inj]
theorem toList_beq' (a b : ByteArray) : (b.toList == a.toList) = decide (a = b) := by
  rw [Bool.eq_iff_iff]
  simp [toList_inj]
  exact ⟨fun h => h.symm, fun h => h.symm⟩
theorem backM_size {s : ByteArray} (h : s.size ≤ 8) : (backM s).size = s.size := by
  unfold backM
  rw [if_neg (by omega)]
  show s.data.reverse.size = s.data.size
  simp

theorem spec_join_ev (l : List IStep) (s : ByteArray) (hs : s.size ≤ 8) (f0 : Int) (f1 : ByteArray) (a b : Int) (p q : Nat → Bool)
    (hp : ∀ j, 1 ≤ j → j < s.size → Ev (fun k => spec_l15Makes.f k l a (s.extract 0 j)) (p j)) (hq : ∀ j, 1 ≤ j → j < s.size → Ev (fun k => spec_l15Makes.f k l b (s.extract j s.size)) (q j)) :
    ∀ i : Nat, 1 ≤ i → i ≤ 9 → Ev (fun k => spec_l15Join.l0 k l s i f0 f1 a b) (anyFrom s.size i fun j => p j && q j) := by
  refine down s.size ?_ ?_
  · intro i h h1 h9
    apply ev_succ
    simp only [spec_l15Join.l0]
    refine ev_neg (by omega) (ev_now ?_)
    unfold anyFrom
    rw [range_nil h]
    rfl
  · intro i h ih h1 h9
    apply ev_succ
    simp only [spec_l15Join.l0]
    rw [wrap64_id (n := (i : Int) + 1) (by omega) (by omega), succ_cast, show (i : Int).toNat = i by omega]
    unfold anyFrom at ih ⊢
    rw [range_cons h, List.any_cons]
    refine ev_pos (by omega) (ev_pos (by omega) (ev_pos (by omega) (ev_bind (hp i h1 h) ?_)))
    cases hpi : p i with
    | false => exact ev_neg (by simp) (ev_eq (ih (by omega) (by omega)) (by simp))
    | true =>
      refine ev_pos rfl (ev_bind (hq i h1 h) ?_)
      cases hqi : q i with
      | false => exact ev_neg (by simp) (ev_eq (ih (by omega) (by omega)) (by simp))
      | true => exact ev_pos rfl (ev_now (by simp))
theorem spec_in_ev (l : List IStep) (s : ByteArray) (hs : s.size ≤ 8) (f0 : Int) (f1 : ByteArray) (a b : Int) (p q : Nat → Nat → Bool)
    (hp : ∀ j m, 1 ≤ j → j < m → m < s.size → Ev (fun k => spec_l15Makes.f k l b (s.extract j m)) (p j m)) (hq : ∀ j m, 1 ≤ j → j < m → m < s.size → Ev (fun k => spec_l15Makes.f k l a (s.extract 0 j ++ s.extract m s.size)) (q j m)) :
    ∀ i : Nat, 1 ≤ i → i ≤ 9 → Ev (fun k => spec_l15In.l0 k l s i f0 f1 a b) (anyFrom s.size i fun j => anyFrom s.size (j + 1) fun m => p j m && q j m) := by
  refine down s.size ?_ ?_
  · intro i h h1 h9
    apply ev_succ
    simp only [spec_l15In.l0]
    refine ev_neg (by omega) (ev_now ?_)
    unfold anyFrom
    rw [range_nil h]
    rfl
  · intro i h ih h1 h9
    apply ev_succ
    simp only [spec_l15In.l0]
    rw [wrap64_id (n := (i : Int) + 1) (by omega) (by omega), succ_cast]
    refine ev_pos (by omega) ?_
    have inner : ∀ m : Nat, i < m → m ≤ 9 → Ev (fun k => spec_l15In.l1 k l s i m f0 f1 a b) (anyFrom s.size m (fun m => p i m && q i m) || anyFrom s.size (i + 1) fun j => anyFrom s.size (j + 1) fun m => p j m && q j m) := by
      refine down s.size ?_ ?_
      · intro m hm him h9
        apply ev_succ
        simp only [spec_l15In.l1]
        rw [wrap64_id (n := (i : Int) + 1) (by omega) (by omega), succ_cast]
        refine ev_neg (by omega) (ev_eq (ih (by omega) (by omega)) ?_)
        have : anyFrom s.size m (fun m => p i m && q i m) = false := by
          unfold anyFrom
          rw [range_nil hm]
          rfl
        rw [this, Bool.false_or]
      · intro m hm ihm him h9
        apply ev_succ
        simp only [spec_l15In.l1]
        have e : anyFrom s.size m (fun m => p i m && q i m) = ((p i m && q i m) || anyFrom s.size (m + 1) (fun m => p i m && q i m)) := by
          unfold anyFrom
          rw [range_cons hm, List.any_cons]
        rw [wrap64_id (n := (m : Int) + 1) (by omega) (by omega), succ_cast m, show (i : Int).toNat = i by omega, show (m : Int).toNat = m by omega, e]
        refine ev_pos (by omega) (ev_pos (by omega) (ev_pos (by omega) (ev_pos (by omega) (ev_bind (hp i m h1 him hm) ?_))))
        cases hpi : p i m with
        | false => exact ev_neg (by simp) (ev_eq (ihm (by omega) (by omega)) (by simp))
        | true =>
          refine ev_pos rfl (ev_pos (by omega) (ev_pos (by omega) (ev_pos ?_ (ev_bind (hq i m h1 him hm) ?_))))
          · rw [ByteArray.size_extract, ByteArray.size_extract]
            omega
          · cases hqi : q i m with
            | false => exact ev_neg (by simp) (ev_eq (ihm (by omega) (by omega)) (by simp))
            | true => exact ev_pos rfl (ev_now (by simp))
    refine ev_eq (inner (i + 1) (by omega) (by omega)) ?_
    have e : (anyFrom s.size i fun j => anyFrom s.size (j + 1) fun m => p j m && q j m) = (anyFrom s.size (i + 1) (fun m => p i m && q i m) || anyFrom s.size (i + 1) fun j => anyFrom s.size (j + 1) fun m => p j m && q j m) := by
      conv => lhs; unfold anyFrom
      rw [range_cons h, List.any_cons]
      rfl
    exact e.symm

theorem spec_makes_ev (l : List IStep) (hl : l.length ≤ 9) (hok : ∀ (i : Nat) (hi : i < l.length), StepFacts i l[i]) (hw : ∀ (i : Nat) (hi : i < l.length), l[i].f1.size ≤ 1048576) :
    ∀ (n i : Nat) (s : ByteArray), i < n → i < l.length → 1 ≤ s.size → s.size ≤ 8 → Ev (fun k => spec_l15Makes.f k l i s) (makesM l n i s) := by
  intro n
  induction n with
  | zero => intro i s h; omega
  | succ n ih =>
    intro i s hin hil h1 h8
    apply ev_succ
    simp only [spec_l15Makes.f]
    unfold makesM
    rw [rd_I_get hil, stepGet_get hil]
    have hx := hok i hil
    generalize l[i] = x at hx ⊢
    obtain ⟨a, ha⟩ := Int.eq_ofNat_of_zero_le hx.a.1
    have ha2 := hx.a.2
    have ha3 := hx.a2
    rw [ha] at ha2 ha3 ⊢
    have hal : a < l.length := by omega
    rw [Int.toNat_natCast, rd_I_get hal, stepGet_get hal]
    have hwa := hw a hal
    refine ev_pos (by omega) (ev_pos (by omega) ?_)
    by_cases c1 : x.f0 = 1
    · rw [if_pos c1]
      exact ev_pos c1 (ev_now (toList_beq _ _))
    rw [if_neg c1]
    refine ev_neg c1 ?_
    have hai : a < i := by have := ha3 c1; omega
    by_cases c2 : x.f0 = 2
    · rw [if_pos c2]
      exact ev_pos c2 (ev_bind (spec_Backwards_ev s) (ev_bind (ih a (backM s) (by omega) hal (by rw [backM_size h8]; omega) (by rw [backM_size h8]; omega)) (ev_now rfl)))
    rw [if_neg c2]
    refine ev_neg c2 ?_
    by_cases c3 : x.f0 = 3
    · rw [if_pos c3]
      exact ev_pos c3 (ev_pos (by omega) (ev_pos (by omega) (ev_bind (spec_IsRearranged_ev _ s (by omega) (by omega)) (ev_now rfl))))
    rw [if_neg c3]
    refine ev_neg c3 ?_
    by_cases c4 : x.f0 = 4
    · rw [if_pos c4]
      obtain ⟨hb0, hbi⟩ := hx.b (Or.inl c4)
      obtain ⟨b, hb⟩ := Int.eq_ofNat_of_zero_le hb0
      rw [hb] at hbi ⊢
      rw [Int.toNat_natCast]
      refine ev_pos c4 (ev_bind (spec_join_ev l s h8 _ _ _ _ _ _ (fun j hj1 hj2 => ih a (s.extract 0 j) (by omega) hal ?_ ?_) (fun j hj1 hj2 => ih b (s.extract j s.size) (by omega) (by omega) ?_ ?_) 1 (by omega) (by omega)) (ev_now rfl)) <;> (rw [ByteArray.size_extract]; omega)
    rw [if_neg c4]
    refine ev_neg c4 ?_
    by_cases c5 : x.f0 = 5
    · rw [if_pos c5]
      obtain ⟨hb0, hbi⟩ := hx.b (Or.inr c5)
      obtain ⟨b, hb⟩ := Int.eq_ofNat_of_zero_le hb0
      rw [hb] at hbi ⊢
      rw [Int.toNat_natCast]
      refine ev_pos c5 (ev_bind (spec_in_ev l s h8 _ _ _ _ (fun j m => makesM l n b (s.extract j m)) (fun j m => makesM l n a (s.extract 0 j ++ s.extract m s.size)) (fun j m hj1 hj2 hj3 => ih b (s.extract j m) (by omega) (by omega) ?_ ?_) (fun j m hj1 hj2 hj3 => ih a (s.extract 0 j ++ s.extract m s.size) (by omega) hal ?_ ?_) 1 (by omega) (by omega)) (ev_now rfl)) <;> (simp only [ByteArray.size_append, ByteArray.size_extract]; omega)
    rw [if_neg c5]
    refine ev_neg c5 ?_
    by_cases c6 : x.f0 = 6
    · rw [if_pos c6]
      exact ev_pos c6 (ev_pos (by omega) (ev_pos (by omega) (ev_bind (spec_HeadOf_ev _ (by omega)) (ev_now (toList_beq _ _)))))
    rw [if_neg c6]
    refine ev_neg c6 ?_
    by_cases c7 : x.f0 = 7
    · rw [if_pos c7]
      exact ev_pos c7 (ev_pos (by omega) (ev_pos (by omega) (ev_bind (spec_WithoutHead_ev _ (by omega)) (ev_now (toList_beq _ _)))))
    rw [if_neg c7]
    refine ev_neg c7 ?_
    by_cases c8 : x.f0 = 8
    · rw [if_pos c8]
      exact ev_pos c8 (ev_pos (by omega) (ev_pos (by omega) (ev_bind (spec_WithoutTail_ev _ (by omega)) (ev_now (toList_beq _ _)))))
    rw [if_neg c8]
    refine ev_neg c8 ?_
    exact ev_pos (by omega) (ev_pos (by omega) (ev_bind (spec_IsInside_ev s _ (by omega) (by omega)) (ev_now rfl)))

theorem impl_join_ev (l : List IStep) (s : ByteArray) (hs : s.size ≤ 8) (f0 : Int) (f1 : ByteArray) (a b : Int) (p q : Nat → Bool)
    (hp : ∀ j, 1 ≤ j → j < s.size → Ev (fun k => impl_makes.f k l a (s.extract 0 j)) (p j)) (hq : ∀ j, 1 ≤ j → j < s.size → Ev (fun k => impl_makes.f k l b (s.extract j s.size)) (q j)) :
    ∀ i : Nat, 1 ≤ i → i ≤ 9 → Ev (fun k => impl_makes.l0 k l s i f0 f1 a b) (anyFrom s.size i fun j => p j && q j) := by
  refine down s.size ?_ ?_
  · intro i h h1 h9
    apply ev_succ
    simp only [impl_makes.l0]
    refine ev_neg (by omega) (ev_now ?_)
    unfold anyFrom
    rw [range_nil h]
    rfl
  · intro i h ih h1 h9
    apply ev_succ
    simp only [impl_makes.l0]
    rw [wrap64_id (n := (i : Int) + 1) (by omega) (by omega), succ_cast, show (i : Int).toNat = i by omega]
    unfold anyFrom at ih ⊢
    rw [range_cons h, List.any_cons]
    refine ev_pos (by omega) (ev_pos (by omega) (ev_pos (by omega) (ev_bind (hp i h1 h) ?_)))
    cases hpi : p i with
    | false => exact ev_neg (by simp) (ev_eq (ih (by omega) (by omega)) (by simp))
    | true =>
      refine ev_pos rfl (ev_bind (hq i h1 h) ?_)
      cases hqi : q i with
      | false => exact ev_neg (by simp) (ev_eq (ih (by omega) (by omega)) (by simp))
      | true => exact ev_pos rfl (ev_now (by simp))
theorem impl_in_ev (l : List IStep) (s : ByteArray) (hs : s.size ≤ 8) (f0 : Int) (f1 : ByteArray) (a b : Int) (p q : Nat → Nat → Bool)
    (hp : ∀ j m, 1 ≤ j → j < m → m < s.size → Ev (fun k => impl_makes.f k l b (s.extract j m)) (p j m)) (hq : ∀ j m, 1 ≤ j → j < m → m < s.size → Ev (fun k => impl_makes.f k l a (s.extract 0 j ++ s.extract m s.size)) (q j m)) :
    ∀ i : Nat, 1 ≤ i → i ≤ 9 → Ev (fun k => impl_makes.l1 k l s i f0 f1 a b) (anyFrom s.size i fun j => anyFrom s.size (j + 1) fun m => p j m && q j m) := by
  refine down s.size ?_ ?_
  · intro i h h1 h9
    apply ev_succ
    simp only [impl_makes.l1]
    refine ev_neg (by omega) (ev_now ?_)
    unfold anyFrom
    rw [range_nil h]
    rfl
  · intro i h ih h1 h9
    apply ev_succ
    simp only [impl_makes.l1]
    rw [wrap64_id (n := (i : Int) + 1) (by omega) (by omega), succ_cast]
    refine ev_pos (by omega) ?_
    have inner : ∀ m : Nat, i < m → m ≤ 9 → Ev (fun k => impl_makes.l2 k l s i m f0 f1 a b) (anyFrom s.size m (fun m => p i m && q i m) || anyFrom s.size (i + 1) fun j => anyFrom s.size (j + 1) fun m => p j m && q j m) := by
      refine down s.size ?_ ?_
      · intro m hm him h9
        apply ev_succ
        simp only [impl_makes.l2]
        rw [wrap64_id (n := (i : Int) + 1) (by omega) (by omega), succ_cast]
        refine ev_neg (by omega) (ev_eq (ih (by omega) (by omega)) ?_)
        have : anyFrom s.size m (fun m => p i m && q i m) = false := by
          unfold anyFrom
          rw [range_nil hm]
          rfl
        rw [this, Bool.false_or]
      · intro m hm ihm him h9
        apply ev_succ
        simp only [impl_makes.l2]
        have e : anyFrom s.size m (fun m => p i m && q i m) = ((p i m && q i m) || anyFrom s.size (m + 1) (fun m => p i m && q i m)) := by
          unfold anyFrom
          rw [range_cons hm, List.any_cons]
        rw [wrap64_id (n := (m : Int) + 1) (by omega) (by omega), succ_cast m, show (i : Int).toNat = i by omega, show (m : Int).toNat = m by omega, e]
        refine ev_pos (by omega) (ev_pos (by omega) (ev_pos (by omega) (ev_pos (by omega) (ev_bind (hp i m h1 him hm) ?_))))
        cases hpi : p i m with
        | false => exact ev_neg (by simp) (ev_eq (ihm (by omega) (by omega)) (by simp))
        | true =>
          refine ev_pos rfl (ev_pos (by omega) (ev_pos (by omega) (ev_pos ?_ (ev_bind (hq i m h1 him hm) ?_))))
          · rw [ByteArray.size_extract, ByteArray.size_extract]
            omega
          · cases hqi : q i m with
            | false => exact ev_neg (by simp) (ev_eq (ihm (by omega) (by omega)) (by simp))
            | true => exact ev_pos rfl (ev_now (by simp))
    refine ev_eq (inner (i + 1) (by omega) (by omega)) ?_
    have e : (anyFrom s.size i fun j => anyFrom s.size (j + 1) fun m => p j m && q j m) = (anyFrom s.size (i + 1) (fun m => p i m && q i m) || anyFrom s.size (i + 1) fun j => anyFrom s.size (j + 1) fun m => p j m && q j m) := by
      conv => lhs; unfold anyFrom
      rw [range_cons h, List.any_cons]
      rfl
    exact e.symm

theorem impl_makes_ev (l : List IStep) (hl : l.length ≤ 9) (hok : ∀ (i : Nat) (hi : i < l.length), StepFacts i l[i]) (hw : ∀ (i : Nat) (hi : i < l.length), l[i].f1.size ≤ 1048576) :
    ∀ (n i : Nat) (s : ByteArray), i < n → i < l.length → 1 ≤ s.size → s.size ≤ 8 → Ev (fun k => impl_makes.f k l i s) (makesM l n i s) := by
  intro n
  induction n with
  | zero => intro i s h; omega
  | succ n ih =>
    intro i s hin hil h1 h8
    apply ev_succ
    simp only [impl_makes.f]
    unfold makesM
    rw [rd_I_get hil, stepGet_get hil]
    have hx := hok i hil
    generalize l[i] = x at hx ⊢
    obtain ⟨a, ha⟩ := Int.eq_ofNat_of_zero_le hx.a.1
    have ha2 := hx.a.2
    have ha3 := hx.a2
    rw [ha] at ha2 ha3 ⊢
    have hal : a < l.length := by omega
    rw [Int.toNat_natCast, rd_I_get hal, stepGet_get hal]
    have hwa := hw a hal
    refine ev_pos (by omega) (ev_pos (by omega) (ev_neg ?_ (ev_pos (by omega) (ev_pos (by omega) ?_))))
    · intro e
      rw [empty_iff] at e
      rw [e] at h1
      simp [ByteArray.size] at h1
    by_cases c1 : x.f0 = 1
    · rw [if_pos c1]
      exact ev_pos c1 (ev_now (toList_beq' _ _))
    rw [if_neg c1]
    refine ev_neg c1 ?_
    have hai : a < i := by have := ha3 c1; omega
    by_cases c2 : x.f0 = 2
    · rw [if_pos c2]
      exact ev_pos c2 (ev_let (impl_Backwards_eq s) (ev_bind (ih a (backM s) (by omega) hal (by rw [backM_size h8]; omega) (by rw [backM_size h8]; omega)) (ev_now rfl)))
    rw [if_neg c2]
    refine ev_neg c2 ?_
    by_cases c3 : x.f0 = 3
    · rw [if_pos c3]
      exact ev_pos c3 ((ev_bind (impl_IsRearranged_ev _ s (by omega) (by omega)) (ev_now rfl)))
    rw [if_neg c3]
    refine ev_neg c3 ?_
    by_cases c4 : x.f0 = 4
    · rw [if_pos c4]
      obtain ⟨hb0, hbi⟩ := hx.b (Or.inl c4)
      obtain ⟨b, hb⟩ := Int.eq_ofNat_of_zero_le hb0
      rw [hb] at hbi ⊢
      rw [Int.toNat_natCast]
      refine ev_pos c4 (impl_join_ev l s h8 _ _ _ _ _ _ (fun j hj1 hj2 => ih a (s.extract 0 j) (by omega) hal ?_ ?_) (fun j hj1 hj2 => ih b (s.extract j s.size) (by omega) (by omega) ?_ ?_) 1 (by omega) (by omega)) <;> (rw [ByteArray.size_extract]; omega)
    rw [if_neg c4]
    refine ev_neg c4 ?_
    by_cases c5 : x.f0 = 5
    · rw [if_pos c5]
      obtain ⟨hb0, hbi⟩ := hx.b (Or.inr c5)
      obtain ⟨b, hb⟩ := Int.eq_ofNat_of_zero_le hb0
      rw [hb] at hbi ⊢
      rw [Int.toNat_natCast]
      refine ev_pos c5 (impl_in_ev l s h8 _ _ _ _ (fun j m => makesM l n b (s.extract j m)) (fun j m => makesM l n a (s.extract 0 j ++ s.extract m s.size)) (fun j m hj1 hj2 hj3 => ih b (s.extract j m) (by omega) (by omega) ?_ ?_) (fun j m hj1 hj2 hj3 => ih a (s.extract 0 j ++ s.extract m s.size) (by omega) hal ?_ ?_) 1 (by omega) (by omega)) <;> (simp only [ByteArray.size_append, ByteArray.size_extract]; omega)
    rw [if_neg c5]
    refine ev_neg c5 ?_
    by_cases c6 : x.f0 = 6
    · rw [if_pos c6]
      exact ev_pos c6 ((ev_bind (impl_HeadOf_ev _ (by omega)) (ev_now (toList_beq' _ _))))
    rw [if_neg c6]
    refine ev_neg c6 ?_
    by_cases c7 : x.f0 = 7
    · rw [if_pos c7]
      exact ev_pos c7 ((ev_bind (impl_WithoutHead_ev _ (by omega)) (ev_now (toList_beq' _ _))))
    rw [if_neg c7]
    refine ev_neg c7 ?_
    by_cases c8 : x.f0 = 8
    · rw [if_pos c8]
      exact ev_pos c8 ((ev_bind (impl_WithoutTail_ev _ (by omega)) (ev_now (toList_beq' _ _))))
    rw [if_neg c8]
    refine ev_neg c8 ?_
    exact ev_pos (by have := hx.k; omega) (ev_bind (impl_IsInside_ev s _ (by omega) (by omega)) (ev_now rfl))

def makesTop (l : List IStep) (s : ByteArray) : Bool := isPlayM l && (wordM s && makesM l l.length (l.length - 1) s)

theorem spec_Makes_ev (l : List IStep) (hw : ∀ x ∈ l, x.f1.size ≤ 1048576) (s : ByteArray) (hs : s.size ≤ 1048576) : Ev (fun k => spec_Makes.f k l s) (makesTop l s) := by
  unfold spec_Makes.f makesTop
  refine ev_bind (spec_IsPlay_ev l hw) ?_
  cases hp : isPlayM l with
  | false => exact ev_neg (by simp) (ev_now (by simp))
  | true =>
    refine ev_pos rfl (ev_bind (spec_IsWord_ev s (by omega)) ?_)
    cases hwd : wordM s with
    | false => exact ev_neg (by simp) (ev_now (by simp))
    | true =>
      have hf := play_facts hp
      have hz := wordM_size hwd
      rw [wrap64_id (n := (l.length : Int) - 1) (by omega) (by omega), show ((l.length : Int) - 1) = ((l.length - 1 : Nat) : Int) by omega]
      exact ev_pos rfl (ev_bind (spec_makes_ev l hf.1.2 hf.2 (fun i hi => hw _ (List.getElem_mem hi)) l.length (l.length - 1) s (by omega) (by omega) hz.1 hz.2) (ev_now (by simp)))

theorem impl_Makes_ev (l : List IStep) (hw : ∀ x ∈ l, x.f1.size ≤ 1048576) (s : ByteArray) (hs : s.size ≤ 1048576) : Ev (fun k => impl_Makes.f k l s) (makesTop l s) := by
  unfold impl_Makes.f makesTop
  refine ev_bind (impl_IsPlay_ev l hw) ?_
  cases hp : isPlayM l with
  | false => exact ev_neg (by simp) (ev_now (by simp))
  | true =>
    refine ev_pos rfl (ev_bind (impl_IsWord_ev s (by omega)) ?_)
    cases hwd : wordM s with
    | false => exact ev_neg (by simp) (ev_now (by simp))
    | true =>
      have hf := play_facts hp
      have hz := wordM_size hwd
      rw [wrap64_id (n := (l.length : Int) - 1) (by omega) (by omega), show ((l.length : Int) - 1) = ((l.length - 1 : Nat) : Int) by omega]
      exact ev_pos rfl (ev_bind (impl_makes_ev l hf.1.2 hf.2 (fun i hi => hw _ (List.getElem_mem hi)) l.length (l.length - 1) s (by omega) (by omega) hz.1 hz.2) (ev_now (by simp)))

/-! ### wordsmade -/
def wordsMadeM (l : List IStep) (ws : List ByteArray) : List ByteArray := ws.filter (makesTop l)
theorem wordsMadeM_length (l : List IStep) (ws : List ByteArray) : (wordsMadeM l ws).length ≤ ws.length := List.length_filter_le _ _
theorem spec_WordsMade_l0_ev (l : List IStep) (hw : ∀ x ∈ l, x.f1.size ≤ 1048576) (ws : List ByteArray) (hl : ws.length ≤ 1048576) (hs : ∀ s ∈ ws, s.size ≤ 1048576) : ∀ i : Nat, i ≤ ws.length → ∀ acc : List ByteArray, acc.length ≤ i →
    Ev (fun k => spec_WordsMade.l0 k l ws acc i) (acc ++ (ws.drop i).filter (makesTop l)) := by
  refine down ws.length ?_ ?_
  · intro i h hi acc ha
    apply ev_succ
    simp only [spec_WordsMade.l0]
    exact ev_neg (by omega) (ev_now (by rw [List.drop_eq_nil_of_le h]; simp))
  · intro i h ih hi acc ha
    apply ev_succ
    simp only [spec_WordsMade.l0]
    rw [rdOf_get h, wrap64_id (n := (i : Int) + 1) (by omega) (by omega), succ_cast, List.drop_eq_getElem_cons h, List.filter_cons]
    refine ev_pos (by omega) (ev_pos (by omega) (ev_bind (spec_Makes_ev l hw ws[i] (hs _ (List.getElem_mem h))) ?_))
    cases makesTop l ws[i] with
    | true => exact ev_pos rfl (ev_pos (by omega) (ev_eq (ih (by omega) _ (by simp; omega)) (by simp)))
    | false => exact ev_neg (by simp) (ev_eq (ih (by omega) _ (by omega)) (by simp))
theorem spec_WordsMade_ev (l : List IStep) (hw : ∀ x ∈ l, x.f1.size ≤ 1048576) (ws : List ByteArray) (hl : ws.length ≤ 1048576) (hs : ∀ s ∈ ws, s.size ≤ 1048576) : Ev (fun k => spec_WordsMade.f k l ws) (wordsMadeM l ws) := by
  unfold spec_WordsMade.f wordsMadeM
  exact ev_eq (spec_WordsMade_l0_ev l hw ws hl hs 0 (by omega) [] (by simp)) (by simp)
theorem madeGo_ev (l : List IStep) (hw : ∀ x ∈ l, x.f1.size ≤ 1048576) : ∀ ws : List ByteArray, (∀ s ∈ ws, s.size ≤ 1048576) → Ev (fun k => madeGo k l ws) (ws.filter (makesTop l))
  | [], _ => ev_now rfl
  | w :: ws, hs => by
    simp only [madeGo]
    refine ev_bind (impl_Makes_ev l hw w (hs w (by simp))) (ev_bind (madeGo_ev l hw ws (fun s h => hs s (by simp [h]))) (ev_now ?_))
    rw [List.filter_cons]
theorem impl_WordsMade_ev (l : List IStep) (hw : ∀ x ∈ l, x.f1.size ≤ 1048576) (ws : List ByteArray) (hl : ws.length ≤ 1048576) (hs : ∀ s ∈ ws, s.size ≤ 1048576) : Ev (fun k => impl_WordsMade.f k l ws) (wordsMadeM l ws) := by
  unfold impl_WordsMade.f
  exact ev_pos hl (madeGo_ev l hw ws hs)

/-! ### the law -/
theorem FnExactWordsMade (l : List LStep) (ws : List ByteArray) (hl : l.length ≤ 9223372036854775807) (hs : ∀ x ∈ l, (Lit.int .i64 x.f0).wf = true ∧ x.f1.size ≤ maxLen ∧ (Lit.int .i64 x.f2).wf = true ∧ (Lit.int .i64 x.f3).wf = true)
    (hl1 : ws.length ≤ 9223372036854775807) (hs1 : ∀ s ∈ ws, s.size ≤ maxLen) : ∃ k, laws_FnExactWordsMade.f k l ws = some true := by
  unfold maxLen at hs hs1
  apply Ev.rounds
  unfold laws_FnExactWordsMade.f
  obtain ⟨r, hr, h1⟩ := laws_szStepS_ev l hl (fun x h => (hs x h).2.1) 1048576 (by omega) (by omega)
  refine ev_bind hr ?_
  rcases h1 with h1 | h1
  · exact ev_pos h1 (ev_now rfl)
  · refine ev_neg (by omega) ?_
    obtain ⟨r2, hr2, h2⟩ := laws_szStringS_ev ws hl1 hs1 r (by omega) (by omega)
    refine ev_bind hr2 ?_
    rcases h2 with h2 | h2
    · exact ev_pos h2 (ev_now rfl)
    · have hl : l.length ≤ 1048576 := by omega
      have hwl : ws.length ≤ 1048576 := by omega
      have hws : ∀ s ∈ ws, s.size ≤ 1048576 := fun s hm => by have := mem_total hm; omega
      have ht := laws_toStepS_ev l hl
      have hts := laws_toStringS_ev ws hwl
      have hz := toI_sizes (l := l) (by omega)
      generalize hm : l.map toI = m at ht hz
      have hml : m.length ≤ 1048576 := by rw [← hm]; simpa using hl
      have hsp := spec_WordsMade_ev m hz ws hwl hws
      have hi := impl_WordsMade_ev m hz ws hwl hws
      have hlen := wordsMadeM_length m ws
      have he : Ev (fun k => laws_eqStringS.f k (wordsMadeM m ws) (wordsMadeM m ws)) true := ev_eq (laws_eqStringS_ev _ _ (by omega)) (by simp)
      have hew : Ev (fun k => laws_eqStringS.f k ws ws) true := ev_eq (laws_eqStringS_ev _ _ (by omega)) (by simp)
      obtain ⟨y1, hy1⟩ := laws_markStepS_ev m 1 hml (by omega) (by omega)
      obtain ⟨y2, _, hy2, _⟩ := laws_markStringS_ev ws (1 + 4 * (m.length : Int)) hwl (by omega) (by omega)
      obtain ⟨z, _, hz1, hz2⟩ := laws_markStringS_ev (wordsMadeM m ws) 1 (by omega) (by omega) (by omega)
      refine ev_neg (by omega) (ev_bind ht (ev_bind hts (ev_bind hsp (ev_bind ht (ev_bind hts (ev_bind hi (ev_bind he (ev_pos rfl (ev_bind ht (ev_bind (laws_eqStepS_ev m (by omega)) (ev_pos rfl (ev_bind hts (ev_bind hew (ev_pos rfl (ev_bind hy1 (ev_bind hy2 (ev_neg (by show ¬ (_ : Int) < 0; omega) (ev_bind he (ev_succ ?_)))))))))))))))))))
      simp only [laws_FnExactWordsMade.j0]
      exact ev_neg (by simp) (ev_bind hz1 (ev_bind hz2 (ev_neg (by omega) (ev_pos rfl (ev_bind ht (ev_bind hts (ev_bind hi (ev_bind he (ev_pos rfl (ev_bind hz2 (ev_neg (by omega) (ev_pos rfl (ev_now rfl)))))))))))))

end Go.Proofs.Ytgmhjinlpikpjab.Pure
