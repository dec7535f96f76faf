/-
  The law FnExactPrune over numbers and lists: the program's Prune and the reference's answer alike for every grid and domains, and what is written into the answer's rows is held there.
  Conditions: none.
-/
import Derived.Test.YtachbhggeibciaaQFnExactPrunex
namespace Go.Proofs.Ytachbhggeibciaa.Pure
open Go.RowKit Go.Proofs.Ytachbhggeibciaa.QFnExactPrune Go.Proofs.YtachbhggeibciaaW.PrintWords Go.Proofs.YtachbhggeibciaaW.PrintLast Go.Proofs.YtachbhggeibciaaW.PrintMore
set_option linter.unusedVariables false
set_option linter.unusedSimpArgs false

/-! ### base -/
theorem wrap64_id {n : Int} (h : -9223372036854775808 ≤ n) (h' : n ≤ 9223372036854775807) : wrap64 n = n := by
  unfold wrap64
  omega
section
variable {α β : Type}
theorem ev_succ {g : Nat → Option α} {r : α} (h : Ev (fun k => g (k + 1)) r) : Ev g r := Ev.step (fun _ => rfl) h
theorem ev_pos {c : Prop} [Decidable c] {g f : Nat → Option α} {r : α} (h : c) (k : Ev g r) : Ev (fun n => if c then g n else f n) r := by
  simpa only [if_pos h] using k
theorem ev_neg {c : Prop} [Decidable c] {g f : Nat → Option α} {r : α} (h : ¬ c) (k : Ev f r) : Ev (fun n => if c then g n else f n) r := by
  simpa only [if_neg h] using k
theorem ev_now {a r : α} (h : a = r) : Ev (fun _ => some a) r := h ▸ Ev.now a
theorem ev_let {o : Option β} {a : β} {f : Nat → β → Option α} {r : α} (h : o = some a) (k : Ev (fun n => f n a) r) : Ev (fun n => o.bind (f n)) r := by
  subst h
  exact k
theorem ev_bind {g : Nat → Option β} {f : Nat → β → Option α} {a : β} {r : α} (h : Ev g a) (k : Ev (fun n => f n a) r) : Ev (fun n => (g n).bind (f n)) r := Ev.bind h k
theorem ev_eq {g : Nat → Option α} {a r : α} (h : Ev g a) (e : a = r) : Ev g r := e ▸ h
end
/-- From the end of a loop back to a round: P holds from n on, and a round below n may use the next. -/
theorem down {P : Nat → Prop} (n : Nat) (hend : ∀ i, n ≤ i → P i) (hstep : ∀ i, i < n → P (i + 1) → P i) : ∀ i, P i := by
  intro i
  rcases Nat.lt_or_ge i n with h | h
  · obtain ⟨d, hd⟩ : ∃ d, n = i + d := ⟨n - i, by omega⟩
    induction d generalizing i with
    | zero => omega
    | succ d ih =>
      refine hstep i h ?_
      rcases Nat.lt_or_ge (i + 1) n with h1 | h1
      · exact ih (i + 1) h1 (by omega)
      · exact hend _ h1
  · exact hend i h
theorem range_cons {i n : Nat} (h : i < n) : List.range' i (n - i) = i :: List.range' (i + 1) (n - (i + 1)) := by
  obtain ⟨d, hd⟩ : ∃ d, n - i = d + 1 := ⟨n - i - 1, by omega⟩
  rw [hd, List.range'_succ, show n - (i + 1) = d by omega]
theorem range_nil {i n : Nat} (h : n ≤ i) : List.range' i (n - i) = [] := by
  rw [show n - i = 0 by omega]
  rfl
theorem succ_cast (i : Nat) : ((i : Int) + 1) = ((i + 1 : Nat) : Int) := by omega

/-! ### lists -/
theorem rdOf_get {α : Type} {d : α} {l : List α} {i : Nat} (h : i < l.length) : rdOf d l (i : Int) = l[i] := by
  unfold rdOf
  simp [h]
theorem rd_get {l : List Int} {i : Nat} (h : i < l.length) : rd l (i : Int) = l[i] := by
  unfold rd
  simp [h]
theorem toList_eq (s : ByteArray) : s.toList = s.data.toList := Go.ByteArray.toList_eq s
instance lawfulBA : LawfulBEq ByteArray where
  eq_of_beq {a b} h := ByteArray.ext (eq_of_beq (α := Array UInt8) h)
  rfl {a} := by
    show (a.data == a.data) = true
    simp
theorem toList_inj {a b : ByteArray} : a.toList = b.toList ↔ a = b := by
  constructor
  · intro h
    rw [toList_eq, toList_eq] at h
    cases a
    cases b
    simp only [ByteArray.mk.injEq]
    exact Array.toList_inj.1 h
  · intro h
    rw [h]
theorem set_known {α : Type} {l x : List α} {i : Nat} {a : α} (hi : i < l.length) (hx : x.length = l.length) (ha : a = l[i]) (h : ∀ j, j < i → x[j]? = l[j]?) : ∀ j, j < i + 1 → (x.set i a)[j]? = l[j]? := by
  intro j hj
  by_cases e : j = i
  · subst e
    rw [List.getElem?_set_self (by omega), ha, List.getElem?_eq_getElem hi]
  · rw [List.getElem?_set_ne (Ne.symm e)]
    exact h j (by omega)
theorem all_known {α : Type} {l x : List α} (hx : x.length = l.length) (h : ∀ j, j < l.length → x[j]? = l[j]?) : x = l := by
  apply List.ext_getElem?
  intro j
  by_cases hj : j < l.length
  · exact h j hj
  · rw [List.getElem?_eq_none (by omega), List.getElem?_eq_none (by omega)]

/-! ### word -/
/-- A byte is a small letter. -/
def isL (c : Int) : Bool := decide (97 ≤ c ∧ c ≤ 122)
/-- A word: one to eight small letters. -/
def wordM (s : ByteArray) : Bool := decide (1 ≤ s.size ∧ s.size ≤ 8) && (List.range' 0 (s.size - 0)).all fun j => isL (bt s j)
theorem spec_l1In_eq (a b c : Int) : spec_l1In.f a b c = some (decide (b ≤ a ∧ a ≤ c)) := by
  unfold spec_l1In.f
  by_cases h : b ≤ a
  · rw [if_pos h]; simp [h]
  · rw [if_neg h]; simp [h]
theorem impl_InRange_eq (a b c : Int) : impl_InRange.f a b c = some (decide (b ≤ a ∧ a ≤ c)) := by
  unfold impl_InRange.f
  by_cases h : b ≤ a
  · rw [if_pos h]; simp [h]
  · rw [if_neg h]; simp [h]
theorem impl_isLetter_eq (c : Int) : impl_isLetter.f c = some (isL c) := by
  unfold impl_isLetter.f isL
  by_cases h : c ≥ 97
  · rw [if_pos h]; congr 1; simp; omega
  · rw [if_neg h]; congr 1; simp; omega
theorem spec_IsWord_l0_ev (s : ByteArray) (hs : s.size ≤ 140737488351232) : ∀ i : Nat, i ≤ s.size → Ev (fun k => spec_IsWord.l0 k s i) ((List.range' i (s.size - i)).all fun j => isL (bt s j)) := by
  refine down s.size ?_ ?_
  · intro i h hi
    apply ev_succ
    simp only [spec_IsWord.l0]
    refine ev_neg (by omega) (ev_now ?_)
    rw [range_nil h]; rfl
  · intro i h ih hi
    apply ev_succ
    simp only [spec_IsWord.l0]
    rw [range_cons h, List.all_cons, wrap64_id (by omega) (by omega), succ_cast]
    refine ev_pos (by omega) (ev_pos (by omega) ?_)
    by_cases h1 : bt s i < 97
    · exact ev_pos h1 (ev_now (by simp [isL]; omega))
    · refine ev_neg h1 ?_
      by_cases h2 : bt s i > 122
      · exact ev_pos h2 (ev_now (by simp [isL]; omega))
      · refine ev_neg h2 (ev_eq (ih (by omega)) ?_)
        rw [show isL (bt s i) = true by simp [isL]; omega, Bool.true_and]
theorem impl_IsWord_l0_ev (s : ByteArray) (hs : s.size ≤ 140737488351232) : ∀ i : Nat, i ≤ s.size → Ev (fun k => impl_IsWord.l0 k s s.size i) ((List.range' i (s.size - i)).all fun j => isL (bt s j)) := by
  refine down s.size ?_ ?_
  · intro i h hi
    apply ev_succ
    simp only [impl_IsWord.l0]
    refine ev_neg (by omega) (ev_now ?_)
    rw [range_nil h]; rfl
  · intro i h ih hi
    apply ev_succ
    simp only [impl_IsWord.l0]
    rw [range_cons h, List.all_cons, wrap64_id (by omega) (by omega), succ_cast]
    refine ev_pos (by omega) (ev_pos (by omega) (ev_pos (by omega) (ev_let (impl_isLetter_eq _) ?_)))
    cases isL (bt s i)
    · exact ev_neg (by simp) (ev_now (by simp))
    · exact ev_pos rfl (ev_eq (ih (by omega)) (by simp))
theorem spec_IsWord_ev (s : ByteArray) (hs : s.size ≤ 140737488351232) : Ev (fun k => spec_IsWord.f k s) (wordM s) := by
  simp only [spec_IsWord.f]
  refine ev_let (spec_l1In_eq _ _ _) ?_
  by_cases h : 1 ≤ s.size ∧ s.size ≤ 8
  · refine ev_pos (by simp; omega) (ev_eq (spec_IsWord_l0_ev s hs 0 (by omega)) ?_)
    simp [wordM, h]
  · refine ev_neg (by simp; omega) (ev_now ?_)
    simp [wordM, h]
theorem impl_IsWord_ev (s : ByteArray) (hs : s.size ≤ 140737488351232) : Ev (fun k => impl_IsWord.f k s) (wordM s) := by
  simp only [impl_IsWord.f]
  refine ev_let (impl_InRange_eq _ _ _) ?_
  by_cases h : 1 ≤ s.size ∧ s.size ≤ 8
  · refine ev_pos (by simp; omega) (ev_eq (impl_IsWord_l0_ev s hs 0 (by omega)) ?_)
    simp [wordM, h]
  · refine ev_neg (by simp; omega) (ev_now ?_)
    simp [wordM, h]
theorem wordM_size {s : ByteArray} (h : wordM s = true) : 1 ≤ s.size ∧ s.size ≤ 8 := by
  simp only [wordM, Bool.and_eq_true, decide_eq_true_eq] at h
  exact h.1

/-! ### grid -/
/-- A cell's sign. -/
def isC (c : Int) : Bool := decide (c = 35) || decide (c = 46)
/-- A grid: 2 to 6 rows and columns, its cells black or white. -/
def gridM (r c : Int) (s : ByteArray) : Bool := decide (2 ≤ r ∧ r ≤ 6) && decide (2 ≤ c ∧ c ≤ 6) && decide ((s.size : Int) = r * c) && (List.range' 0 (s.size - 0)).all fun j => isC (bt s j)
theorem gridM_nat {r c : Int} {s : ByteArray} (h : gridM r c s = true) : ∃ R C : Nat, r = R ∧ c = C ∧ 2 ≤ R ∧ R ≤ 6 ∧ 2 ≤ C ∧ C ≤ 6 ∧ s.size = R * C := by
  simp only [gridM, Bool.and_eq_true, decide_eq_true_eq] at h
  obtain ⟨⟨⟨hr, hc⟩, hs⟩, _⟩ := h
  obtain ⟨R, rfl⟩ := Int.eq_ofNat_of_zero_le (show 0 ≤ r by omega)
  obtain ⟨C, rfl⟩ := Int.eq_ofNat_of_zero_le (show 0 ≤ c by omega)
  exact ⟨R, C, rfl, rfl, by omega, by omega, by omega, by omega, by exact_mod_cast hs⟩
theorem bounds36 {R C : Nat} (hR : R ≤ 6) (hC : C ≤ 6) : R * C ≤ 36 := Nat.mul_le_mul hR hC
theorem spec_IsGrid_l0_ev (r c : Int) (s : ByteArray) (hs : s.size ≤ 140737488351232) : ∀ i : Nat, i ≤ s.size → Ev (fun k => spec_IsGrid.l0 k i r c s) ((List.range' i (s.size - i)).all fun j => isC (bt s j)) := by
  refine down s.size ?_ ?_
  · intro i h hi
    apply ev_succ
    simp only [spec_IsGrid.l0]
    refine ev_neg (by omega) (ev_now ?_)
    rw [range_nil h]; rfl
  · intro i h ih hi
    apply ev_succ
    simp only [spec_IsGrid.l0]
    rw [range_cons h, List.all_cons, wrap64_id (by omega) (by omega), succ_cast]
    refine ev_pos (by omega) (ev_pos (by omega) ?_)
    by_cases h1 : bt s i = 35
    · exact ev_pos h1 (ev_eq (ih (by omega)) (by simp [isC, h1]))
    · refine ev_neg h1 ?_
      by_cases h2 : bt s i = 46
      · exact ev_pos h2 (ev_eq (ih (by omega)) (by simp [isC, h2]))
      · exact ev_neg h2 (ev_now (by simp [isC, h1, h2]))
theorem impl_IsGrid_l0_ev (r c : Int) (s : ByteArray) (hs : s.size ≤ 140737488351232) : ∀ i : Nat, i ≤ s.size → Ev (fun k => impl_IsGrid.l0 k s.size i r c s) ((List.range' i (s.size - i)).all fun j => isC (bt s j)) := by
  refine down s.size ?_ ?_
  · intro i h hi
    apply ev_succ
    simp only [impl_IsGrid.l0]
    refine ev_neg (by omega) (ev_now ?_)
    rw [range_nil h]; rfl
  · intro i h ih hi
    apply ev_succ
    simp only [impl_IsGrid.l0]
    rw [range_cons h, List.all_cons, wrap64_id (by omega) (by omega), succ_cast]
    refine ev_pos (by omega) (ev_pos (by omega) (ev_pos (by omega) ?_))
    by_cases h1 : bt s i = 35
    · exact ev_pos h1 (ev_eq (ih (by omega)) (by simp [isC, h1]))
    · refine ev_neg h1 ?_
      by_cases h2 : bt s i = 46
      · exact ev_pos h2 (ev_eq (ih (by omega)) (by simp [isC, h2]))
      · exact ev_neg h2 (ev_now (by simp [isC, h1, h2]))
theorem wrap_mul {r c : Int} (hr : 2 ≤ r ∧ r ≤ 6) (hc : 2 ≤ c ∧ c ≤ 6) : wrap64 (r * c) = r * c := by
  have h1 : 0 ≤ r * c := Int.mul_nonneg (by omega) (by omega)
  have h2 : r * c ≤ 6 * 6 := Int.mul_le_mul hr.2 hc.2 (by omega) (by omega)
  exact wrap64_id (by omega) (by omega)
theorem spec_IsGrid_ev (r c : Int) (s : ByteArray) (hs : s.size ≤ 140737488351232) : Ev (fun k => spec_IsGrid.f k r c s) (gridM r c s) := by
  unfold spec_IsGrid.f
  refine ev_let (spec_l1In_eq _ _ _) ?_
  by_cases hr : 2 ≤ r ∧ r ≤ 6
  · refine ev_pos (by simpa using hr) (ev_let (spec_l1In_eq _ _ _) ?_)
    by_cases hc : 2 ≤ c ∧ c ≤ 6
    · refine ev_pos (by simpa using hc) ?_
      rw [wrap_mul hr hc]
      apply ev_succ
      simp only [spec_IsGrid.j0]
      by_cases hn : (s.size : Int) = r * c
      · refine ev_neg (by simp [hn]) (ev_eq (spec_IsGrid_l0_ev r c s hs 0 (by omega)) ?_)
        simp [gridM, hr, hc, hn]
      · exact ev_pos (by simp [hn]) (ev_now (by simp [gridM, hn]))
    · refine ev_neg (by simpa using hc) (ev_succ ?_)
      simp only [spec_IsGrid.j0]
      exact ev_pos (by simp) (ev_now (by simp [gridM, hc]))
  · refine ev_neg (by simpa using hr) (ev_succ ?_)
    simp only [spec_IsGrid.j0]
    exact ev_pos (by simp) (ev_now (by simp [gridM, hr]))
theorem impl_IsGrid_ev (r c : Int) (s : ByteArray) (hs : s.size ≤ 140737488351232) : Ev (fun k => impl_IsGrid.f k r c s) (gridM r c s) := by
  unfold impl_IsGrid.f
  refine ev_let (impl_InRange_eq _ _ _) ?_
  by_cases hr : 2 ≤ r ∧ r ≤ 6
  · refine ev_pos (by simpa using hr) (ev_let (impl_InRange_eq _ _ _) ?_)
    by_cases hc : 2 ≤ c ∧ c ≤ 6
    · refine ev_pos (by simpa using hc) ?_
      rw [wrap_mul hr hc]
      apply ev_succ
      simp only [impl_IsGrid.j0]
      by_cases hn : (s.size : Int) = r * c
      · refine ev_neg (by simp [hn]) (ev_eq (impl_IsGrid_l0_ev r c s hs 0 (by omega)) ?_)
        simp [gridM, hr, hc, hn]
      · exact ev_pos (by simp [hn]) (ev_now (by simp [gridM, hn]))
    · refine ev_neg (by simpa using hc) (ev_succ ?_)
      simp only [impl_IsGrid.j0]
      exact ev_pos (by simp) (ev_now (by simp [gridM, hc]))
  · refine ev_neg (by simpa using hr) (ev_succ ?_)
    simp only [impl_IsGrid.j0]
    exact ev_pos (by simp) (ev_now (by simp [gridM, hr]))

/-! ### slots -/
/-- How many cells follow one another from a cell on, white ones, at most m. -/
def runLen (s : ByteArray) (step : Nat) : Nat → Nat → Nat
  | _, 0 => 0
  | i, m + 1 => if bt s i = 46 then 1 + runLen s step (i + step) m else 0
def stepM (C : Nat) (dn : Bool) : Nat := if dn then C else 1
def atM (C : Nat) (dn : Bool) (i : Nat) : Nat := if dn then i / C else i % C
def mostM (R C : Nat) (dn : Bool) : Nat := if dn then R else C
/-- The length of the part of white cells that begins at a cell; 0 if none begins there. -/
def runM (R C : Nat) (s : ByteArray) (i : Nat) (dn : Bool) : Nat :=
  if bt s i = 46 ∧ ¬ (0 < atM C dn i ∧ bt s (i - stepM C dn : Nat) = 46) then runLen s (stepM C dn) i (mostM R C dn - atM C dn i) else 0
theorem runLen_le (s : ByteArray) (step : Nat) : ∀ m i, runLen s step i m ≤ m
  | 0, _ => Nat.le_refl _
  | m + 1, i => by
    unfold runLen
    split
    · have := runLen_le s step m (i + step)
      omega
    · omega
theorem cell_lt {R C : Nat} {i j : Nat} {dn : Bool} (hC : 0 < C) (hi : i < R * C) (hj : atM C dn i + j < mostM R C dn) : i + j * stepM C dn < R * C := by
  cases dn with
  | true =>
    simp only [atM, mostM, stepM, if_true] at hj ⊢
    have h1 := Nat.div_add_mod i C
    have h2 := Nat.mod_lt i hC
    have h3 : C * (i / C + j + 1) ≤ C * R := Nat.mul_le_mul_left _ (by omega)
    rw [Nat.mul_comm R C]
    rw [Nat.mul_add, Nat.mul_add, Nat.mul_one] at h3
    rw [Nat.mul_comm j C]
    omega
  | false =>
    simp only [atM, mostM, stepM, Bool.false_eq_true, if_false] at hj ⊢
    have h1 := Nat.div_add_mod i C
    have h4 : i / C < R := (Nat.div_lt_iff_lt_mul hC).2 hi
    have h3 : C * (i / C + 1) ≤ C * R := Nat.mul_le_mul_left _ h4
    rw [Nat.mul_comm R C]
    rw [Nat.mul_add, Nat.mul_one] at h3
    omega
theorem mul_bound {j C : Nat} (hj : j ≤ 6) (hC : C ≤ 6) : j * C ≤ 36 := Nat.mul_le_mul hj hC
theorem stepM_le {C : Nat} (hC : C ≤ 6) (h0 : 0 < C) (dn : Bool) : 1 ≤ stepM C dn ∧ stepM C dn ≤ 6 := by
  unfold stepM
  split <;> omega
theorem mostM_le {R C : Nat} (hR : R ≤ 6) (hC : C ≤ 6) (dn : Bool) : mostM R C dn ≤ 6 := by
  unfold mostM
  split <;> omega
theorem spec_l8From_l0_ev (R C : Nat) (s : ByteArray) (r c : Int) (hR : R ≤ 6) (hC : C ≤ 6) (h0 : 0 < C) (hs : s.size = R * C) (i : Nat) (dn : Bool) (hi : i < R * C) : ∀ n : Nat, atM C dn i + n ≤ mostM R C dn →
    Ev (fun k => spec_l8From.l0 k i (stepM C dn) (atM C dn i) (mostM R C dn) n r c s) (n + runLen s (stepM C dn) (i + n * stepM C dn) (mostM R C dn - atM C dn i - n) : Nat) := by
  have hm := mostM_le hR hC dn
  have hst := stepM_le hC h0 dn
  have h36 := bounds36 hR hC
  refine down (mostM R C dn - atM C dn i) ?_ ?_
  · intro n h hn
    apply ev_succ
    simp only [spec_l8From.l0]
    rw [wrap64_id (n := (atM C dn i : Int) + n) (by omega) (by omega)]
    refine ev_neg (by omega) (ev_now ?_)
    rw [show mostM R C dn - atM C dn i - n = 0 by omega]
    rfl
  · intro n h ih hn
    have hlt := cell_lt h0 hi (show atM C dn i + n < mostM R C dn by omega)
    have hb := mul_bound (show n ≤ 6 by omega) (show stepM C dn ≤ 6 by omega)
    have hcast : ((n : Int) * (stepM C dn : Int)) = ((n * stepM C dn : Nat) : Int) := by rw [Int.natCast_mul]
    apply ev_succ
    simp only [spec_l8From.l0]
    rw [wrap64_id (n := (atM C dn i : Int) + n) (by omega) (by omega), hcast, wrap64_id (n := ((n * stepM C dn : Nat) : Int)) (by omega) (by omega), wrap64_id (n := (i : Int) + _) (by omega) (by omega), wrap64_id (n := (n : Int) + 1) (by omega) (by omega), succ_cast]
    rw [show mostM R C dn - atM C dn i - n = (mostM R C dn - atM C dn i - (n + 1)) + 1 by omega]
    unfold runLen
    rw [show ((i : Int) + ((n * stepM C dn : Nat) : Int)) = ((i + n * stepM C dn : Nat) : Int) by omega]
    refine ev_pos (by omega) (ev_pos (by omega) (ev_pos (by omega) ?_))
    by_cases hw : bt s (i + n * stepM C dn : Nat) = 46
    · rw [if_pos hw]
      refine ev_pos hw (ev_eq (ih (by omega)) ?_)
      rw [show i + (n + 1) * stepM C dn = i + n * stepM C dn + stepM C dn by rw [Nat.add_mul, Nat.one_mul, Nat.add_assoc]]
      omega
    · rw [if_neg hw]
      exact ev_neg hw (ev_now (by simp))
theorem spec_l8From_ev (R C : Nat) (s : ByteArray) (hR : R ≤ 6) (hC : C ≤ 6) (h0 : 0 < C) (hs : s.size = R * C) (i : Nat) (dn : Bool) (hi : i < R * C) :
    Ev (fun k => spec_l8From.f k R C s i dn) (runM R C s i dn : Nat) := by
  have hst := stepM_le hC h0 dn
  have h36 := bounds36 hR hC
  have hl0 := spec_l8From_l0_ev R C s R C hR hC h0 hs i dn hi 0
  have key : Ev (fun k => spec_l8From.j0 k i (stepM C dn) (atM C dn i) (mostM R C dn) R C s) (runM R C s i dn : Nat) := by
    have hat : atM C dn i ≤ i ∧ (0 < atM C dn i → stepM C dn ≤ i) ∧ atM C dn i ≤ mostM R C dn := by
      cases dn with
      | true =>
        simp only [atM, stepM, mostM, if_true]
        refine ⟨Nat.div_le_self _ _, fun h => ?_, ?_⟩
        · exact (Nat.div_pos_iff.1 h).2
        · exact Nat.le_of_lt ((Nat.div_lt_iff_lt_mul h0).2 hi)
      | false =>
        simp only [atM, stepM, mostM, Bool.false_eq_true, if_false]
        have := Nat.mod_le i C
        have := Nat.mod_lt i h0
        omega
    have hj1 : ∀ b : Bool, (b = true → Ev (fun k => spec_l8From.j1 k i (stepM C dn) (atM C dn i) (mostM R C dn) b R C s) 0) ∧
        (b = false → Ev (fun k => spec_l8From.j1 k i (stepM C dn) (atM C dn i) (mostM R C dn) b R C s) (runLen s (stepM C dn) i (mostM R C dn - atM C dn i) : Nat)) := by
      intro b
      refine ⟨fun hb => ?_, fun hb => ?_⟩
      · apply ev_succ
        simp only [spec_l8From.j1]
        exact ev_pos hb (ev_now rfl)
      · apply ev_succ
        simp only [spec_l8From.j1]
        exact ev_neg (by simp [hb]) (by simpa using hl0 (by omega))
    apply ev_succ
    simp only [spec_l8From.j0]
    refine ev_pos (by omega) (ev_pos (by omega) ?_)
    unfold runM
    by_cases hw : bt s i = 46
    · refine ev_pos hw ?_
      by_cases ha : 0 < atM C dn i
      · have h2 := hat.2.1 ha
        rw [wrap64_id (n := (i : Int) - _) (by omega) (by omega), show ((i : Int) - (stepM C dn : Nat)) = ((i - stepM C dn : Nat) : Int) by omega]
        refine ev_pos (by omega) (ev_pos (by omega) (ev_pos (by omega) ?_))
        by_cases hp : bt s (i - stepM C dn : Nat) = 46
        · rw [if_neg (by simp [ha, hp])]
          exact (hj1 _).1 (by simp [hp])
        · rw [if_pos ⟨hw, fun x => hp x.2⟩]
          exact (hj1 _).2 (by simp [hp])
      · rw [if_pos ⟨hw, fun x => ha x.1⟩]
        exact ev_neg (by omega) ((hj1 false).2 rfl)
    · rw [if_neg (fun x => hw x.1)]
      exact ev_neg hw ((hj1 true).1 rfl)
  unfold spec_l8From.f
  refine ev_neg (by omega) ?_
  cases dn with
  | true =>
    refine ev_pos rfl ?_
    have e : Int.tdiv (i : Int) (C : Int) = ((i / C : Nat) : Int) := Int.ofNat_tdiv i C |>.symm
    have hd := Nat.div_le_self i C
    have hq := Int.natCast_nonneg (i / C)
    rw [e, wrap64_id (by omega) (by omega)]
    simpa only [stepM, atM, mostM, if_true] using key
  | false =>
    refine ev_neg (by simp) ?_
    have e : Int.tmod (i : Int) (C : Int) = ((i % C : Nat) : Int) := Int.ofNat_tmod i C |>.symm
    rw [e]
    simpa [stepM, atM, mostM] using key

theorem impl_run_l0_ev (R C : Nat) (s : ByteArray) (r c : Int) (hR : R ≤ 6) (hC : C ≤ 6) (h0 : 0 < C) (hs : s.size = R * C) (i : Nat) (dn : Bool) (hi : i < R * C) : ∀ n : Nat, atM C dn i + n ≤ mostM R C dn →
    Ev (fun k => impl_run.l0 k i (stepM C dn) (atM C dn i) (mostM R C dn) n r c s) (n + runLen s (stepM C dn) (i + n * stepM C dn) (mostM R C dn - atM C dn i - n) : Nat) := by
  have hm := mostM_le hR hC dn
  have hst := stepM_le hC h0 dn
  have h36 := bounds36 hR hC
  refine down (mostM R C dn - atM C dn i) ?_ ?_
  · intro n h hn
    apply ev_succ
    simp only [impl_run.l0]
    rw [wrap64_id (n := (atM C dn i : Int) + n) (by omega) (by omega)]
    refine ev_neg (by omega) (ev_now ?_)
    rw [show mostM R C dn - atM C dn i - n = 0 by omega]
    rfl
  · intro n h ih hn
    have hlt := cell_lt h0 hi (show atM C dn i + n < mostM R C dn by omega)
    have hb := mul_bound (show n ≤ 6 by omega) (show stepM C dn ≤ 6 by omega)
    have hcast : ((n : Int) * (stepM C dn : Int)) = ((n * stepM C dn : Nat) : Int) := by rw [Int.natCast_mul]
    apply ev_succ
    simp only [impl_run.l0]
    rw [wrap64_id (n := (atM C dn i : Int) + n) (by omega) (by omega), hcast, wrap64_id (n := ((n * stepM C dn : Nat) : Int)) (by omega) (by omega), wrap64_id (n := (i : Int) + _) (by omega) (by omega), wrap64_id (n := (n : Int) + 1) (by omega) (by omega), succ_cast]
    rw [show mostM R C dn - atM C dn i - n = (mostM R C dn - atM C dn i - (n + 1)) + 1 by omega]
    unfold runLen
    rw [show ((i : Int) + ((n * stepM C dn : Nat) : Int)) = ((i + n * stepM C dn : Nat) : Int) by omega]
    refine ev_pos (by omega) (ev_pos (by omega) (ev_pos (by omega) ?_))
    by_cases hw : bt s (i + n * stepM C dn : Nat) = 46
    · rw [if_pos hw]
      refine ev_pos hw (ev_eq (ih (by omega)) ?_)
      rw [show i + (n + 1) * stepM C dn = i + n * stepM C dn + stepM C dn by rw [Nat.add_mul, Nat.one_mul, Nat.add_assoc]]
      omega
    · rw [if_neg hw]
      exact ev_neg hw (ev_now (by simp))
theorem impl_run_ev (R C : Nat) (s : ByteArray) (hR : R ≤ 6) (hC : C ≤ 6) (h0 : 0 < C) (hs : s.size = R * C) (i : Nat) (dn : Bool) (hi : i < R * C) :
    Ev (fun k => impl_run.f k R C s i dn) (runM R C s i dn : Nat) := by
  have hst := stepM_le hC h0 dn
  have h36 := bounds36 hR hC
  have hl0 := impl_run_l0_ev R C s R C hR hC h0 hs i dn hi 0
  have key : Ev (fun k => impl_run.j0 k i (stepM C dn) (atM C dn i) (mostM R C dn) R C s) (runM R C s i dn : Nat) := by
    have hat : atM C dn i ≤ i ∧ (0 < atM C dn i → stepM C dn ≤ i) ∧ atM C dn i ≤ mostM R C dn := by
      cases dn with
      | true =>
        simp only [atM, stepM, mostM, if_true]
        refine ⟨Nat.div_le_self _ _, fun h => ?_, ?_⟩
        · exact (Nat.div_pos_iff.1 h).2
        · exact Nat.le_of_lt ((Nat.div_lt_iff_lt_mul h0).2 hi)
      | false =>
        simp only [atM, stepM, mostM, Bool.false_eq_true, if_false]
        have := Nat.mod_le i C
        have := Nat.mod_lt i h0
        omega
    have hj1 : ∀ b : Bool, (b = true → Ev (fun k => impl_run.j1 k i (stepM C dn) (atM C dn i) (mostM R C dn) b R C s) 0) ∧
        (b = false → Ev (fun k => impl_run.j1 k i (stepM C dn) (atM C dn i) (mostM R C dn) b R C s) (runLen s (stepM C dn) i (mostM R C dn - atM C dn i) : Nat)) := by
      intro b
      refine ⟨fun hb => ?_, fun hb => ?_⟩
      · apply ev_succ
        simp only [impl_run.j1]
        exact ev_pos hb (ev_now rfl)
      · apply ev_succ
        simp only [impl_run.j1]
        exact ev_neg (by simp [hb]) (by simpa using hl0 (by omega))
    apply ev_succ
    simp only [impl_run.j0]
    refine ev_pos (by omega) (ev_pos (by omega) ?_)
    unfold runM
    by_cases hw : bt s i = 46
    · refine ev_pos hw ?_
      by_cases ha : 0 < atM C dn i
      · have h2 := hat.2.1 ha
        rw [wrap64_id (n := (i : Int) - _) (by omega) (by omega), show ((i : Int) - (stepM C dn : Nat)) = ((i - stepM C dn : Nat) : Int) by omega]
        refine ev_pos (by omega) (ev_pos (by omega) (ev_pos (by omega) ?_))
        by_cases hp : bt s (i - stepM C dn : Nat) = 46
        · rw [if_neg (by simp [ha, hp])]
          exact (hj1 _).1 (by simp [hp])
        · rw [if_pos ⟨hw, fun x => hp x.2⟩]
          exact (hj1 _).2 (by simp [hp])
      · rw [if_pos ⟨hw, fun x => ha x.1⟩]
        exact ev_neg (by omega) ((hj1 false).2 rfl)
    · rw [if_neg (fun x => hw x.1)]
      exact ev_neg hw ((hj1 true).1 rfl)
  unfold impl_run.f
  refine ev_neg (by omega) ?_
  cases dn with
  | true =>
    refine ev_pos rfl ?_
    have e : Int.tdiv (i : Int) (C : Int) = ((i / C : Nat) : Int) := Int.ofNat_tdiv i C |>.symm
    have hd := Nat.div_le_self i C
    have hq := Int.natCast_nonneg (i / C)
    rw [e, wrap64_id (by omega) (by omega)]
    simpa only [stepM, atM, mostM, if_true] using key
  | false =>
    refine ev_neg (by simp) ?_
    have e : Int.tmod (i : Int) (C : Int) = ((i % C : Nat) : Int) := Int.ofNat_tmod i C |>.symm
    rw [e]
    simpa [stepM, atM, mostM] using key

/-! ### slotsof -/
abbrev ISlot := S68
theorem rd_Slot_get {l : List ISlot} {i : Nat} (h : i < l.length) : rd_T68 l (i : Int) = l[i] := by
  unfold rd_T68
  simp [h]
/-- The slots that begin at a cell, under a number. -/
def slotsOne (R C : Nat) (s : ByteArray) (i : Nat) (n : Int) : List ISlot :=
  (if 2 ≤ runM R C s i false then [⟨n, false, i, runM R C s i false⟩] else []) ++ (if 2 ≤ runM R C s i true then [⟨n, true, i, runM R C s i true⟩] else [])
def numOne (R C : Nat) (s : ByteArray) (i : Nat) (n : Int) : Int := if 2 ≤ runM R C s i false ∨ 2 ≤ runM R C s i true then n + 1 else n
def slotsGo (R C : Nat) (s : ByteArray) : List Nat → Int → List ISlot
  | [], _ => []
  | i :: l, n => slotsOne R C s i (numOne R C s i n) ++ slotsGo R C s l (numOne R C s i n)
/-- The slots of a grid; none of what is no grid. -/
def slotsM (r c : Int) (s : ByteArray) : List ISlot := if gridM r c s then slotsGo r.toNat c.toNat s (List.range' 0 (s.size - 0)) 0 else []
theorem slotsOne_length (R C : Nat) (s : ByteArray) (i : Nat) (n : Int) : (slotsOne R C s i n).length ≤ 2 := by
  unfold slotsOne
  split <;> split <;> simp
theorem slotsGo_length (R C : Nat) (s : ByteArray) : ∀ (l : List Nat) (n : Int), (slotsGo R C s l n).length ≤ 2 * l.length
  | [], _ => by simp [slotsGo]
  | i :: l, n => by
    unfold slotsGo
    have h1 := slotsOne_length R C s i (numOne R C s i n)
    have h2 := slotsGo_length R C s l (numOne R C s i n)
    simp only [List.length_append, List.length_cons]
    omega
theorem slotsM_length (r c : Int) (s : ByteArray) : (slotsM r c s).length ≤ 72 := by
  unfold slotsM
  split
  · rename_i h
    obtain ⟨R, C, rfl, rfl, _, hR, _, hC, hs⟩ := gridM_nat h
    have := slotsGo_length R C s (List.range' 0 (s.size - 0)) 0
    have h36 := bounds36 hR hC
    rw [List.length_range'] at this
    simp only [Int.toNat_natCast]
    omega
  · simp
theorem spec_SlotsOf_j3_ev {acc : List ISlot} {n : Int} {i a d : Nat} {r c : Int} {s : ByteArray} {ρ : List ISlot} (ha : acc.length ≤ 72) (hi : i ≤ 100)
    (h : Ev (fun k => spec_SlotsOf.l0 k (acc ++ ((if 2 ≤ a then [⟨n, false, i, a⟩] else []) ++ (if 2 ≤ d then [⟨n, true, i, d⟩] else []))) n (i + 1 : Nat) r c s) ρ) : Ev (fun k => spec_SlotsOf.j3 k acc n i a d r c s) ρ := by
  apply ev_succ
  simp only [spec_SlotsOf.j3]
  rw [wrap64_id (n := (i : Int) + 1) (by omega) (by omega), succ_cast]
  by_cases h1 : 2 ≤ a
  · rw [if_pos h1] at h
    refine ev_pos (by omega) (ev_pos (by omega) (ev_let rfl ?_))
    by_cases h2 : 2 ≤ d
    · rw [if_pos h2] at h
      exact ev_pos (by omega) (ev_pos (by simp; omega) (by simpa using h))
    · rw [if_neg h2] at h
      exact ev_neg (by omega) (by simpa using h)
  · rw [if_neg h1] at h
    refine ev_neg (by omega) ?_
    by_cases h2 : 2 ≤ d
    · rw [if_pos h2] at h
      exact ev_pos (by omega) (ev_pos (by omega) (by simpa using h))
    · rw [if_neg h2] at h
      exact ev_neg (by omega) (by simpa using h)
theorem spec_SlotsOf_l0_ev (R C : Nat) (s : ByteArray) (hR : 2 ≤ R ∧ R ≤ 6) (hC : 2 ≤ C ∧ C ≤ 6) (hg : gridM R C s = true) (hs : s.size = R * C) : ∀ i : Nat, i ≤ s.size → ∀ (acc : List ISlot) (n : Int), acc.length ≤ 2 * i → 0 ≤ n → n ≤ i →
    Ev (fun k => spec_SlotsOf.l0 k acc n i R C s) (acc ++ slotsGo R C s (List.range' i (s.size - i)) n) := by
  have h36 := bounds36 hR.2 hC.2
  refine down s.size ?_ ?_
  · intro i h hi acc n ha h0 hn
    apply ev_succ
    simp only [spec_SlotsOf.l0]
    refine ev_neg (by omega) (ev_succ ?_)
    simp only [spec_SlotsOf.j1]
    rw [range_nil h]
    exact ev_neg (by simp) (ev_now (by simp [slotsGo]))
  · intro i h ih hi acc n ha h0 hn
    apply ev_succ
    simp only [spec_SlotsOf.l0]
    refine ev_pos (by omega) (ev_bind (spec_IsGrid_ev R C s (by omega)) (ev_succ ?_))
    simp only [spec_SlotsOf.j1]
    refine ev_pos hg (ev_bind (spec_l8From_ev R C s hR.2 hC.2 (by omega) hs i false (by omega)) (ev_bind (spec_l8From_ev R C s hR.2 hC.2 (by omega) hs i true (by omega)) ?_))
    rw [range_cons h]
    unfold slotsGo
    have hnum : numOne R C s i n ≤ i + 1 ∧ 0 ≤ numOne R C s i n := by
      unfold numOne
      split <;> omega
    have hl := slotsOne_length R C s i (numOne R C s i n)
    have hnext := ih (by omega) (acc ++ slotsOne R C s i (numOne R C s i n)) (numOne R C s i n) (by simp; omega) hnum.2 (by omega)
    rw [List.append_assoc] at hnext
    have key : ∀ b : Bool, b = decide (2 ≤ runM R C s i false ∨ 2 ≤ runM R C s i true) → Ev (fun k => spec_SlotsOf.j2 k acc n i (runM R C s i false : Nat) (runM R C s i true : Nat) b R C s) (acc ++ (slotsOne R C s i (numOne R C s i n) ++ slotsGo R C s (List.range' (i + 1) (s.size - (i + 1))) (numOne R C s i n))) := by
      intro b hb
      apply ev_succ
      simp only [spec_SlotsOf.j2]
      rw [wrap64_id (n := n + 1) (by omega) (by omega)]
      by_cases hc : 2 ≤ runM R C s i false ∨ 2 ≤ runM R C s i true
      · have e : numOne R C s i n = n + 1 := if_pos hc
        rw [e] at hnext ⊢
        exact ev_pos (by rw [hb]; simpa using hc) (spec_SlotsOf_j3_ev (by omega) (by omega) hnext)
      · have e : numOne R C s i n = n := if_neg hc
        rw [e] at hnext ⊢
        exact ev_neg (by rw [hb]; simpa using hc) (spec_SlotsOf_j3_ev (by omega) (by omega) hnext)
    by_cases h1 : 2 ≤ runM R C s i false
    · exact ev_pos (by omega) (key true (decide_eq_true (.inl h1)).symm)
    · exact ev_neg (by omega) (key _ (decide_eq_decide.2 (by omega)))
theorem spec_SlotsOf_ev (r c : Int) (s : ByteArray) (hs : s.size ≤ 1048576) : Ev (fun k => spec_SlotsOf.f k r c s) (slotsM r c s) := by
  unfold spec_SlotsOf.f slotsM
  by_cases hg : gridM r c s = true
  · rw [if_pos hg]
    obtain ⟨R, C, rfl, rfl, h1, h2, h3, h4, h5⟩ := gridM_nat hg
    simpa using spec_SlotsOf_l0_ev R C s ⟨h1, h2⟩ ⟨h3, h4⟩ hg h5 0 (by omega) [] 0 (by simp) (by omega) (by omega)
  · rw [if_neg hg]
    have hj : Ev (fun k => spec_SlotsOf.j1 k [] 0 0 false r c s) [] := by
      apply ev_succ
      simp only [spec_SlotsOf.j1]
      exact ev_neg (by simp) (ev_now rfl)
    apply ev_succ
    simp only [spec_SlotsOf.l0]
    by_cases h : (0 : Int) < (s.size : Int)
    · refine ev_pos h (ev_bind (spec_IsGrid_ev r c s (by omega)) ?_)
      rw [Bool.not_eq_true] at hg
      rw [hg]
      exact hj
    · exact ev_neg h hj
theorem impl_SlotsOf_j2_ev {acc : List ISlot} {n : Int} {i a d m : Nat} {r c : Int} {s : ByteArray} {ρ : List ISlot} (ha : acc.length ≤ 72) (hi : i ≤ 100)
    (h : Ev (fun k => impl_SlotsOf.l0 k (acc ++ ((if 2 ≤ a then [⟨n, false, i, a⟩] else []) ++ (if 2 ≤ d then [⟨n, true, i, d⟩] else []))) n m (i + 1 : Nat) r c s) ρ) : Ev (fun k => impl_SlotsOf.j2 k acc n i a d m i r c s) ρ := by
  apply ev_succ
  simp only [impl_SlotsOf.j2]
  rw [wrap64_id (n := (i : Int) + 1) (by omega) (by omega), succ_cast]
  by_cases h1 : 2 ≤ a
  · rw [if_pos h1] at h
    refine ev_pos (by omega) (ev_pos (by omega) (ev_let rfl ?_))
    by_cases h2 : 2 ≤ d
    · rw [if_pos h2] at h
      exact ev_pos (by omega) (ev_pos (by simp; omega) (by simpa using h))
    · rw [if_neg h2] at h
      exact ev_neg (by omega) (by simpa using h)
  · rw [if_neg h1] at h
    refine ev_neg (by omega) ?_
    by_cases h2 : 2 ≤ d
    · rw [if_pos h2] at h
      exact ev_pos (by omega) (ev_pos (by omega) (by simpa using h))
    · rw [if_neg h2] at h
      exact ev_neg (by omega) (by simpa using h)
theorem impl_SlotsOf_l0_ev (R C : Nat) (s : ByteArray) (hR : 2 ≤ R ∧ R ≤ 6) (hC : 2 ≤ C ∧ C ≤ 6) (hs : s.size = R * C) : ∀ i : Nat, i ≤ s.size → ∀ (acc : List ISlot) (n : Int), acc.length ≤ 2 * i → 0 ≤ n → n ≤ i →
    Ev (fun k => impl_SlotsOf.l0 k acc n s.size i R C s) (acc ++ slotsGo R C s (List.range' i (s.size - i)) n) := by
  have h36 := bounds36 hR.2 hC.2
  refine down s.size ?_ ?_
  · intro i h hi acc n ha h0 hn
    apply ev_succ
    simp only [impl_SlotsOf.l0]
    rw [range_nil h]
    exact ev_neg (by omega) (ev_now (by simp [slotsGo]))
  · intro i h ih hi acc n ha h0 hn
    apply ev_succ
    simp only [impl_SlotsOf.l0]
    refine ev_pos (by omega) (ev_bind (impl_run_ev R C s hR.2 hC.2 (by omega) hs i false (by omega)) (ev_bind (impl_run_ev R C s hR.2 hC.2 (by omega) hs i true (by omega)) ?_))
    rw [range_cons h]
    unfold slotsGo
    have hnum : numOne R C s i n ≤ i + 1 ∧ 0 ≤ numOne R C s i n := by
      unfold numOne
      split <;> omega
    have hl := slotsOne_length R C s i (numOne R C s i n)
    have hnext := ih (by omega) (acc ++ slotsOne R C s i (numOne R C s i n)) (numOne R C s i n) (by simp; omega) hnum.2 (by omega)
    rw [List.append_assoc] at hnext
    have key : ∀ b : Bool, b = decide (2 ≤ runM R C s i false ∨ 2 ≤ runM R C s i true) → Ev (fun k => impl_SlotsOf.j1 k acc n i (runM R C s i false : Nat) (runM R C s i true : Nat) s.size i b R C s) (acc ++ (slotsOne R C s i (numOne R C s i n) ++ slotsGo R C s (List.range' (i + 1) (s.size - (i + 1))) (numOne R C s i n))) := by
      intro b hb
      apply ev_succ
      simp only [impl_SlotsOf.j1]
      rw [wrap64_id (n := n + 1) (by omega) (by omega)]
      by_cases hc : 2 ≤ runM R C s i false ∨ 2 ≤ runM R C s i true
      · have e : numOne R C s i n = n + 1 := if_pos hc
        rw [e] at hnext ⊢
        exact ev_pos (by rw [hb]; simpa using hc) (impl_SlotsOf_j2_ev (by omega) (by omega) hnext)
      · have e : numOne R C s i n = n := if_neg hc
        rw [e] at hnext ⊢
        exact ev_neg (by rw [hb]; simpa using hc) (impl_SlotsOf_j2_ev (by omega) (by omega) hnext)
    by_cases h1 : 2 ≤ runM R C s i false
    · exact ev_pos (by omega) (key true (decide_eq_true (.inl h1)).symm)
    · exact ev_neg (by omega) (key _ (decide_eq_decide.2 (by omega)))
theorem impl_SlotsOf_ev (r c : Int) (s : ByteArray) (hs : s.size ≤ 1048576) : Ev (fun k => impl_SlotsOf.f k r c s) (slotsM r c s) := by
  unfold impl_SlotsOf.f slotsM
  refine ev_bind (impl_IsGrid_ev r c s (by omega)) ?_
  by_cases hg : gridM r c s = true
  · rw [if_pos hg]
    obtain ⟨R, C, rfl, rfl, h1, h2, h3, h4, h5⟩ := gridM_nat hg
    exact ev_pos hg (by simpa using impl_SlotsOf_l0_ev R C s ⟨h1, h2⟩ ⟨h3, h4⟩ h5 0 (by omega) [] 0 (by simp) (by omega) (by omega))
  · rw [if_neg hg]
    exact ev_neg hg (ev_now rfl)

/-! ### cells -/
theorem slot_ext_iff {a b : ISlot} : (a.f0 = b.f0 ∧ a.f1 = b.f1 ∧ a.f2 = b.f2 ∧ a.f3 = b.f3) ↔ a = b := by
  cases a
  cases b
  simp
instance decSlot : DecidableEq ISlot := fun a b => decidable_of_iff _ slot_ext_iff
/-- The cells of a slot. -/
def cellsM (C : Nat) (x : ISlot) : List Int := (List.range' 0 (x.f3.toNat - 0)).map fun k : Nat => x.f2 + (k : Int) * (stepM C x.f1 : Int)
def okSlot (R C : Nat) (s : ByteArray) (x : ISlot) : Prop := ∃ i : Nat, i < R * C ∧ x.f2 = i ∧ x.f3 = runM R C s i x.f1 ∧ 2 ≤ runM R C s i x.f1
theorem slotsOne_mem {R C : Nat} {s : ByteArray} {i : Nat} {n : Int} {x : ISlot} (h : x ∈ slotsOne R C s i n) : x.f0 = n ∧ x.f2 = i ∧ x.f3 = runM R C s i x.f1 ∧ 2 ≤ runM R C s i x.f1 := by
  unfold slotsOne at h
  rcases List.mem_append.1 h with h | h
  · split at h
    · rename_i h2
      rw [List.mem_singleton] at h
      subst h
      exact ⟨rfl, rfl, rfl, h2⟩
    · cases h
  · split at h
    · rename_i h2
      rw [List.mem_singleton] at h
      subst h
      exact ⟨rfl, rfl, rfl, h2⟩
    · cases h
theorem slotsGo_mem {R C : Nat} {s : ByteArray} {x : ISlot} : ∀ {l : List Nat} {n : Int}, x ∈ slotsGo R C s l n → ∃ i ∈ l, x.f2 = i ∧ x.f3 = runM R C s i x.f1 ∧ 2 ≤ runM R C s i x.f1
  | [], _, h => by cases h
  | i :: l, n, h => by
    unfold slotsGo at h
    rcases List.mem_append.1 h with h | h
    · exact ⟨i, List.mem_cons_self, (slotsOne_mem h).2⟩
    · obtain ⟨j, hj, h2⟩ := slotsGo_mem h
      exact ⟨j, List.mem_cons_of_mem _ hj, h2⟩
theorem slotsM_ok {r c : Int} {s : ByteArray} {x : ISlot} (h : x ∈ slotsM r c s) : ∃ R C : Nat, r = R ∧ c = C ∧ 2 ≤ R ∧ R ≤ 6 ∧ 2 ≤ C ∧ C ≤ 6 ∧ s.size = R * C ∧ gridM r c s = true ∧ okSlot R C s x := by
  unfold slotsM at h
  split at h
  · rename_i hg
    obtain ⟨R, C, rfl, rfl, h1, h2, h3, h4, h5⟩ := gridM_nat hg
    obtain ⟨i, hi, h6⟩ := slotsGo_mem h
    rw [List.mem_range'] at hi
    obtain ⟨j, hj, rfl⟩ := hi
    refine ⟨R, C, rfl, rfl, h1, h2, h3, h4, h5, hg, _, ?_, h6⟩
    omega
  · cases h
def slotLt (a b : ISlot) : Prop := a.f2 < b.f2 ∨ (a.f2 = b.f2 ∧ a.f1 = false ∧ b.f1 = true)
theorem slotLt_ne {a b : ISlot} (h : slotLt a b) : a ≠ b := by
  rintro rfl
  rcases h with h | ⟨_, h1, h2⟩
  · omega
  · rw [h1] at h2
    cases h2
theorem slotsGo_pairwise {R C : Nat} {s : ByteArray} : ∀ {l : List Nat} {n : Int}, l.Pairwise (· < ·) → (slotsGo R C s l n).Pairwise slotLt
  | [], _, _ => by simp [slotsGo]
  | i :: l, n, h => by
    unfold slotsGo
    rw [List.pairwise_append]
    refine ⟨?_, slotsGo_pairwise (List.pairwise_cons.1 h).2, ?_⟩
    · unfold slotsOne
      rw [List.pairwise_append]
      refine ⟨by split <;> simp, by split <;> simp, ?_⟩
      intro a ha b hb
      split at ha
      · split at hb
        · rw [List.mem_singleton] at ha hb
          subst ha hb
          exact .inr ⟨rfl, rfl, rfl⟩
        · cases hb
      · cases ha
    · intro a ha b hb
      have h1 := (slotsOne_mem ha).2.1
      obtain ⟨j, hj, h2, _⟩ := slotsGo_mem hb
      have := (List.pairwise_cons.1 h).1 j hj
      exact .inl (by omega)
theorem slotsM_pairwise (r c : Int) (s : ByteArray) : (slotsM r c s).Pairwise slotLt := by
  unfold slotsM
  split
  · exact slotsGo_pairwise (List.pairwise_lt_range' (step := 1) (by omega))
  · simp
theorem slotsM_nodup (r c : Int) (s : ByteArray) : (slotsM r c s).Nodup := (slotsM_pairwise r c s).imp slotLt_ne
theorem okSlot_bounds {R C : Nat} {s : ByteArray} {x : ISlot} (hR : R ≤ 6) (hC : C ≤ 6) (h : okSlot R C s x) : 0 ≤ x.f2 ∧ x.f2 < 36 ∧ 2 ≤ x.f3 ∧ x.f3 ≤ 6 ∧ x.f3.toNat ≤ 6 := by
  obtain ⟨i, hi, h2, h3, h4⟩ := h
  have h36 := bounds36 hR hC
  have h5 : runM R C s i x.f1 ≤ 6 := by
    unfold runM
    split
    · have := runLen_le s (stepM C x.f1) (mostM R C x.f1 - atM C x.f1 i) i
      have := mostM_le hR hC x.f1
      omega
    · omega
  omega
/-- What CellsOf answers. -/
def cellsOfM (r c : Int) (s : ByteArray) (x : ISlot) : List Int := if x ∈ slotsM r c s then cellsM c.toNat x else []
theorem cellsM_length (C : Nat) (x : ISlot) : (cellsM C x).length = x.f3.toNat := by simp [cellsM]
theorem cellsOfM_length (r c : Int) (s : ByteArray) (x : ISlot) : (cellsOfM r c s x).length ≤ 6 := by
  unfold cellsOfM
  split
  · rename_i h
    obtain ⟨R, C, rfl, rfl, _, h2, _, h4, _, _, hk⟩ := slotsM_ok h
    have := okSlot_bounds h2 h4 hk
    rw [cellsM_length]
    omega
  · simp
theorem cell_wrap {C : Nat} {x : ISlot} {k : Nat} (hC : C ≤ 6) (_ : 0 < C) (hk : k ≤ 6) (h1 : 0 ≤ x.f2) (h2 : x.f2 < 36) : wrap64 ((k : Int) * (C : Int)) = (k : Int) * (C : Int) ∧ wrap64 (x.f2 + (k : Int) * (C : Int)) = x.f2 + (k : Int) * (C : Int) := by
  have hb := mul_bound hk hC
  have hcast : ((k : Int) * (C : Int)) = ((k * C : Nat) : Int) := by rw [Int.natCast_mul]
  rw [hcast]
  exact ⟨wrap64_id (by omega) (by omega), wrap64_id (by omega) (by omega)⟩
theorem spec_CellsOf_l1_ev {l : List ISlot} {j : Nat} {R C : Nat} {s : ByteArray} {x : ISlot} {ρ : List Int} (hl : l.length ≤ 1048576) (hj : j < l.length) (hC : C ≤ 6) (h0 : 0 < C) (hx : 0 ≤ x.f2 ∧ x.f2 < 36 ∧ 0 ≤ x.f3 ∧ x.f3.toNat ≤ 6) : ∀ n : Nat, n ≤ x.f3.toNat → ∀ acc : List Int, acc.length ≤ 1000000 + n →
    Ev (fun k => spec_CellsOf.l0 k (acc ++ (List.range' n (x.f3.toNat - n)).map fun k : Nat => x.f2 + (k : Int) * (stepM C x.f1 : Int)) l (j + 1 : Nat) R C s x.f0 x.f1 x.f2 x.f3) ρ → Ev (fun k => spec_CellsOf.l1 k acc l j n R C s x.f0 x.f1 x.f2 x.f3) ρ := by
  refine down x.f3.toNat ?_ ?_
  · intro n h hn acc ha hρ
    apply ev_succ
    simp only [spec_CellsOf.l1]
    rw [wrap64_id (n := (j : Int) + 1) (by omega) (by omega), succ_cast]
    rw [range_nil h] at hρ
    exact ev_neg (by omega) (by simpa using hρ)
  · intro n h ih hn acc ha hρ
    apply ev_succ
    simp only [spec_CellsOf.l1]
    rw [wrap64_id (n := (n : Int) + 1) (by omega) (by omega), succ_cast]
    rw [range_cons h, List.map_cons] at hρ
    have hw := cell_wrap (x := x) hC h0 (show n ≤ 6 by omega) hx.1 hx.2.1
    refine ev_pos (by omega) ?_
    cases hd : x.f1 with
    | true =>
      refine ev_pos rfl (ev_pos (by omega) ?_)
      rw [hw.1, hw.2]
      have := ih (by omega) (acc ++ [x.f2 + (n : Int) * (C : Int)]) (by simp; omega)
      rw [hd] at this hρ
      exact this (by simpa [stepM] using hρ)
    | false =>
      refine ev_neg (by simp) (ev_pos (by omega) ?_)
      rw [wrap64_id (n := x.f2 + n) (by omega) (by omega)]
      have := ih (by omega) (acc ++ [x.f2 + (n : Int)]) (by simp; omega)
      rw [hd] at this hρ
      exact this (by simpa [stepM] using hρ)
theorem spec_CellsOf_l0_ev (R C : Nat) (s : ByteArray) (x : ISlot) (l : List ISlot) (hl : l.length ≤ 1000) (hC : C ≤ 6) (h0 : 0 < C) (hx : x ∈ l → 0 ≤ x.f2 ∧ x.f2 < 36 ∧ 0 ≤ x.f3 ∧ x.f3.toNat ≤ 6) : ∀ i : Nat, i ≤ l.length → ∀ acc : List Int, acc.length ≤ 6 * i →
    Ev (fun k => spec_CellsOf.l0 k acc l i R C s x.f0 x.f1 x.f2 x.f3) (acc ++ (l.drop i).flatMap fun y => if y = x then cellsM C x else []) := by
  refine down l.length ?_ ?_
  · intro i h hi acc ha
    apply ev_succ
    simp only [spec_CellsOf.l0]
    exact ev_neg (by omega) (ev_now (by rw [List.drop_eq_nil_of_le h]; simp))
  · intro i h ih hi acc ha
    apply ev_succ
    simp only [spec_CellsOf.l0]
    rw [rd_Slot_get h, wrap64_id (n := (i : Int) + 1) (by omega) (by omega), succ_cast, List.drop_eq_getElem_cons h, List.flatMap_cons]
    refine ev_pos (by omega) (ev_pos (by omega) ?_)
    by_cases he : l[i] = x
    · have hm : x ∈ l := he ▸ List.getElem_mem h
      have hb := hx hm
      rw [if_pos he]
      refine ev_neg (by rw [he]; simp) ?_
      have := ih (by omega) (acc ++ cellsM C x) (by rw [List.length_append, cellsM_length]; omega)
      exact spec_CellsOf_l1_ev (by omega) h hC h0 hb 0 (by omega) acc (by omega) (by simpa [cellsM] using this)
    · rw [if_neg he]
      refine ev_pos ?_ (by simpa using ih (by omega) acc (by omega))
      rw [← slot_ext_iff] at he
      simp only [Bool.or_eq_true, Bool.not_eq_true', beq_eq_false_iff_ne, ne_eq]
      by_cases a : l[i].f0 = x.f0 <;> by_cases b : l[i].f1 = x.f1 <;> by_cases c : l[i].f2 = x.f2 <;> simp_all
theorem flatMap_one {l : List ISlot} {x : ISlot} {v : List Int} (h : l.Nodup) : (l.flatMap fun y => if y = x then v else []) = if x ∈ l then v else [] := by
  induction l with
  | nil => simp
  | cons a l ih =>
    rw [List.nodup_cons] at h
    rw [List.flatMap_cons, ih h.2]
    by_cases e : a = x
    · subst e
      simp [h.1]
    · simp [e, show ¬ x = a from fun h => e h.symm]
theorem spec_CellsOf_ev (r c : Int) (s : ByteArray) (x : ISlot) (hs : s.size ≤ 1048576) : Ev (fun k => spec_CellsOf.f k r c s x.f0 x.f1 x.f2 x.f3) (cellsOfM r c s x) := by
  unfold spec_CellsOf.f
  refine ev_bind (spec_SlotsOf_ev r c s hs) ?_
  by_cases hg : gridM r c s = true
  · obtain ⟨R, C, rfl, rfl, h1, h2, h3, h4, h5⟩ := gridM_nat hg
    have hl := slotsM_length R C s
    refine ev_eq (spec_CellsOf_l0_ev R C s x (slotsM R C s) (by omega) h4 (by omega) ?_ 0 (by omega) [] (by simp)) ?_
    · intro hm
      obtain ⟨R', C', e1, e2, _, h7, _, h9, _, _, hk⟩ := slotsM_ok hm
      have := okSlot_bounds h7 h9 hk
      omega
    · rw [List.drop_zero, flatMap_one (slotsM_nodup _ _ _)]
      simp [cellsOfM]
  · have e : slotsM r c s = [] := by
      unfold slotsM
      rw [if_neg hg]
    unfold cellsOfM
    rw [e]
    apply ev_succ
    simp only [spec_CellsOf.l0]
    exact ev_neg (by simp) (ev_now (by simp))
theorem impl_cells_l0_ev (C : Nat) (x : ISlot) (hC : C ≤ 6) (h0 : 0 < C) (hx : 0 ≤ x.f2 ∧ x.f2 < 36 ∧ 0 ≤ x.f3 ∧ x.f3.toNat ≤ 6) : ∀ n : Nat, n ≤ x.f3.toNat → ∀ acc : List Int, acc.length ≤ n →
    Ev (fun k => impl_cells.l0 k (stepM C x.f1) acc x.f3 n x.f0 x.f1 x.f2 x.f3) (acc ++ (List.range' n (x.f3.toNat - n)).map fun k : Nat => x.f2 + (k : Int) * (stepM C x.f1 : Int)) := by
  refine down x.f3.toNat ?_ ?_
  · intro n h hn acc ha
    apply ev_succ
    simp only [impl_cells.l0]
    rw [range_nil h]
    exact ev_neg (by omega) (ev_now (by simp))
  · intro n h ih hn acc ha
    have hst := stepM_le hC h0 x.f1
    have hw := cell_wrap (C := stepM C x.f1) (x := x) hst.2 (by omega) (show n ≤ 6 by omega) hx.1 hx.2.1
    apply ev_succ
    simp only [impl_cells.l0]
    rw [wrap64_id (n := (n : Int) + 1) (by omega) (by omega), succ_cast, hw.1, hw.2, range_cons h, List.map_cons]
    exact ev_pos (by omega) (ev_pos (by omega) (ev_eq (ih (by omega) _ (by simp; omega)) (by simp)))
theorem impl_cells_ev (R : Int) (C : Nat) (s : ByteArray) (x : ISlot) (hC : C ≤ 6) (h0 : 0 < C) (hx : 0 ≤ x.f2 ∧ x.f2 < 36 ∧ 0 ≤ x.f3 ∧ x.f3.toNat ≤ 6) : Ev (fun k => impl_cells.f k R C s x.f0 x.f1 x.f2 x.f3) (cellsM C x) := by
  have key : Ev (fun k => impl_cells.j0 k (stepM C x.f1) x.f0 x.f1 x.f2 x.f3) (cellsM C x) := by
    apply ev_succ
    simp only [impl_cells.j0]
    simpa [cellsM] using impl_cells_l0_ev C x hC h0 hx 0 (by omega) [] (by simp)
  unfold impl_cells.f
  cases hd : x.f1 with
  | true =>
    rw [hd] at key
    exact ev_pos rfl (by simpa [stepM] using key)
  | false =>
    rw [hd] at key
    exact ev_neg (by simp) (by simpa [stepM] using key)

/-! ### ints -/
theorem spec_l8Has_l0_ev (l : List Int) (n : Int) (hl : l.length ≤ 9223372036854775806) : ∀ i : Nat, i ≤ l.length → Ev (fun k => spec_l8Has.l0 k l n i) (decide (n ∈ l.drop i)) := by
  refine down l.length ?_ ?_
  · intro i h hi
    apply ev_succ
    simp only [spec_l8Has.l0]
    exact ev_neg (by omega) (ev_now (by rw [List.drop_eq_nil_of_le h]; simp))
  · intro i h ih hi
    apply ev_succ
    simp only [spec_l8Has.l0]
    rw [rd_get h, wrap64_id (n := (i : Int) + 1) (by omega) (by omega), succ_cast, List.drop_eq_getElem_cons h]
    refine ev_pos (by omega) (ev_pos (by omega) ?_)
    by_cases he : l[i] = n
    · exact ev_pos he (ev_now (by simp [-List.getElem_cons_drop, he]))
    · exact ev_neg he (ev_eq (ih (by omega)) (by simp [-List.getElem_cons_drop, show ¬ n = l[i] from fun e => he e.symm]))
theorem spec_l8Has_ev (l : List Int) (n : Int) (hl : l.length ≤ 9223372036854775806) : Ev (fun k => spec_l8Has.f k l n) (decide (n ∈ l)) := by
  unfold spec_l8Has.f
  exact ev_eq (spec_l8Has_l0_ev l n hl 0 (by omega)) (by simp)
/-- Where a number stands first; -1 where it does not. -/
def placeM (n : Int) : List Int → Nat → Int
  | [], _ => -1
  | a :: l, i => if a = n then i else placeM n l (i + 1)
theorem placeM_nonneg {n : Int} : ∀ {l : List Int} {i : Nat}, (0 ≤ placeM n l i ↔ n ∈ l)
  | [], i => by simp [placeM]
  | a :: l, i => by
    unfold placeM
    by_cases h : a = n
    · simp [h]
    · rw [if_neg h, placeM_nonneg]
      simp [show ¬ n = a from fun e => h e.symm]
theorem slices_Index_int_int_l0_ev (l : List Int) (n : Int) (hl : l.length ≤ 9223372036854775806) : ∀ i : Nat, i ≤ l.length → Ev (fun k => slices_Index_int_int.l0 k l n l.length i) (placeM n (l.drop i) i) := by
  refine down l.length ?_ ?_
  · intro i h hi
    apply ev_succ
    simp only [slices_Index_int_int.l0]
    exact ev_neg (by omega) (ev_now (by rw [List.drop_eq_nil_of_le h]; rfl))
  · intro i h ih hi
    apply ev_succ
    simp only [slices_Index_int_int.l0]
    rw [rd_get h, wrap64_id (n := (i : Int) + 1) (by omega) (by omega), succ_cast, List.drop_eq_getElem_cons h]
    unfold placeM
    refine ev_pos (by omega) (ev_pos (by omega) (ev_pos (by omega) ?_))
    by_cases he : n = l[i]
    · exact ev_pos he (ev_now (by rw [if_pos he.symm]))
    · exact ev_neg he (ev_eq (ih (by omega)) (by rw [if_neg (fun e => he e.symm)]))
theorem slices_Index_int_int_ev (l : List Int) (n : Int) (hl : l.length ≤ 9223372036854775806) : Ev (fun k => slices_Index_int_int.f k l n) (placeM n l 0) := by
  unfold slices_Index_int_int.f
  exact ev_eq (slices_Index_int_int_l0_ev l n hl 0 (by omega)) (by simp)

/-! ### slotsat -/
theorem rd_ints_get {l : List (List Int)} {i : Nat} (h : i < l.length) : rd_L6 l (i : Int) = l[i] := by
  unfold rd_L6
  simp [h]
/-- The places, from i on, of the slots that hold a cell. -/
def atGo (C : Nat) (cell : Int) : List ISlot → Nat → List Int
  | [], _ => []
  | x :: l, i => if cell ∈ cellsM C x then (i : Int) :: atGo C cell l (i + 1) else atGo C cell l (i + 1)
def slotsAtM (r c : Int) (s : ByteArray) (cell : Int) : List Int := atGo c.toNat cell (slotsM r c s) 0
def checkedM (r c : Int) (s : ByteArray) (cell : Int) : Bool := decide ((slotsAtM r c s cell).length = 2)
theorem atGo_length (C : Nat) (cell : Int) : ∀ (l : List ISlot) (i : Nat), (atGo C cell l i).length ≤ l.length
  | [], _ => by simp [atGo]
  | x :: l, i => by
    unfold atGo
    have := atGo_length C cell l (i + 1)
    split <;> simp only [List.length_cons] <;> omega
theorem slotsAtM_length (r c : Int) (s : ByteArray) (cell : Int) : (slotsAtM r c s cell).length ≤ 72 := by
  have := atGo_length c.toNat cell (slotsM r c s) 0
  have := slotsM_length r c s
  unfold slotsAtM
  omega
theorem slotsM_elem {r c : Int} {s : ByteArray} {i : Nat} (h : i < (slotsM r c s).length) : ∃ R C : Nat, r = R ∧ c = C ∧ C ≤ 6 ∧ 0 < C ∧ 0 ≤ (slotsM r c s)[i].f2 ∧ (slotsM r c s)[i].f2 < 36 ∧ 0 ≤ (slotsM r c s)[i].f3 ∧ (slotsM r c s)[i].f3.toNat ≤ 6 := by
  obtain ⟨R, C, h1, h2, h3, h4, h5, h6, _, _, hk⟩ := slotsM_ok (List.getElem_mem h)
  have := okSlot_bounds h4 h6 hk
  exact ⟨R, C, h1, h2, h6, by omega, by omega, by omega, by omega, by omega⟩
theorem cellsOfM_elem {r c : Int} {s : ByteArray} {i : Nat} (h : i < (slotsM r c s).length) : cellsOfM r c s (slotsM r c s)[i] = cellsM c.toNat (slotsM r c s)[i] := by
  unfold cellsOfM
  rw [if_pos (List.getElem_mem h)]
theorem cellsM_length_elem {r c : Int} {s : ByteArray} {i : Nat} (h : i < (slotsM r c s).length) : (cellsM c.toNat (slotsM r c s)[i]).length ≤ 6 := by
  rw [← cellsOfM_elem h]
  exact cellsOfM_length _ _ _ _
theorem spec_SlotsAt_l0_ev (r c : Int) (s : ByteArray) (cell : Int) (hs : s.size ≤ 1048576) : ∀ i : Nat, i ≤ (slotsM r c s).length → ∀ acc : List Int, acc.length ≤ i →
    Ev (fun k => spec_SlotsAt.l0 k cell acc (slotsM r c s) i r c s) (acc ++ atGo c.toNat cell ((slotsM r c s).drop i) i) := by
  have hl := slotsM_length r c s
  refine down (slotsM r c s).length ?_ ?_
  · intro i h hi acc ha
    apply ev_succ
    simp only [spec_SlotsAt.l0]
    exact ev_neg (by omega) (ev_now (by rw [List.drop_eq_nil_of_le h]; simp [atGo]))
  · intro i h ih hi acc ha
    have h6 := cellsM_length_elem h
    apply ev_succ
    simp only [spec_SlotsAt.l0]
    rw [rd_Slot_get h, wrap64_id (n := (i : Int) + 1) (by omega) (by omega), succ_cast, List.drop_eq_getElem_cons h]
    unfold atGo
    refine ev_pos (by omega) (ev_pos (by omega) (ev_bind (spec_CellsOf_ev r c s _ hs) ?_))
    rw [cellsOfM_elem h]
    refine ev_bind (spec_l8Has_ev _ cell (by omega)) ?_
    by_cases hm : cell ∈ cellsM c.toNat (slotsM r c s)[i]
    · rw [if_pos hm]
      exact ev_pos (by simpa using hm) (ev_pos (by omega) (ev_eq (ih (by omega) _ (by simp; omega)) (by simp)))
    · rw [if_neg hm]
      exact ev_neg (by simpa using hm) (ih (by omega) _ (by omega))
theorem spec_SlotsAt_ev (r c : Int) (s : ByteArray) (cell : Int) (hs : s.size ≤ 1048576) : Ev (fun k => spec_SlotsAt.f k r c s cell) (slotsAtM r c s cell) := by
  unfold spec_SlotsAt.f slotsAtM
  exact ev_bind (spec_SlotsOf_ev r c s hs) (ev_eq (spec_SlotsAt_l0_ev r c s cell hs 0 (by omega) [] (by simp)) (by simp))
theorem impl_layout_l0_ev (r c : Int) (s : ByteArray) : ∀ i : Nat, i ≤ (slotsM r c s).length → ∀ acc : List (List Int), acc.length ≤ i →
    Ev (fun k => impl_layout.l0 k acc (slotsM r c s) (slotsM r c s).length i r c s) (acc ++ ((slotsM r c s).drop i).map (cellsM c.toNat)) := by
  have hl := slotsM_length r c s
  refine down (slotsM r c s).length ?_ ?_
  · intro i h hi acc ha
    apply ev_succ
    simp only [impl_layout.l0]
    exact ev_neg (by omega) (ev_now (by rw [List.drop_eq_nil_of_le h]; simp))
  · intro i h ih hi acc ha
    obtain ⟨R, C, h1, h2, h3, h4, h5, h6, h7, h8⟩ := slotsM_elem h
    have e : c.toNat = C := by omega
    have hcells := impl_cells_ev r C s (slotsM r c s)[i] h3 h4 ⟨h5, h6, h7, h8⟩
    apply ev_succ
    simp only [impl_layout.l0]
    rw [rd_Slot_get h, wrap64_id (n := (i : Int) + 1) (by omega) (by omega), succ_cast, List.drop_eq_getElem_cons h, List.map_cons]
    refine ev_pos (by omega) (ev_pos (by omega) (ev_pos (by omega) (ev_bind (a := cellsM C (slotsM r c s)[i]) ?_ (ev_pos (by omega) ?_))))
    · rw [← h2] at hcells
      exact hcells
    · exact ev_eq (ih (by omega) _ (by simp; omega)) (by rw [e]; simp)
def layoutM (r c : Int) (s : ByteArray) : List (List Int) := (slotsM r c s).map (cellsM c.toNat)
theorem layoutM_length (r c : Int) (s : ByteArray) : (layoutM r c s).length = (slotsM r c s).length := by simp [layoutM]
theorem layoutM_get {r c : Int} {s : ByteArray} {i : Nat} (h : i < (slotsM r c s).length) : (layoutM r c s)[i]'(by rw [layoutM_length]; exact h) = cellsM c.toNat (slotsM r c s)[i] := by simp [layoutM]
theorem impl_layout_ev (r c : Int) (s : ByteArray) (hs : s.size ≤ 1048576) : Ev (fun k => impl_layout.f k r c s) (layoutM r c s) := by
  unfold impl_layout.f
  exact ev_bind (impl_SlotsOf_ev r c s hs) (ev_eq (impl_layout_l0_ev r c s 0 (by omega) [] (by simp)) (by simp [layoutM]))

/-! ### slotfacts -/
theorem runLen_white {s : ByteArray} {step : Nat} : ∀ {m i k : Nat}, k < runLen s step i m → bt s (i + k * step : Nat) = 46
  | 0, i, k, h => by simp [runLen] at h
  | m + 1, i, k, h => by
    unfold runLen at h
    split at h
    · rename_i hw
      cases k with
      | zero => simpa using hw
      | succ k =>
        have := runLen_white (s := s) (step := step) (m := m) (i := i + step) (k := k) (by omega)
        rw [show i + (k + 1) * step = i + step + k * step by rw [Nat.add_mul, Nat.one_mul]; omega]
        exact this
    · omega
theorem cellsM_mem {C : Nat} {x : ISlot} {c : Int} : c ∈ cellsM C x ↔ ∃ k : Nat, k < x.f3.toNat ∧ c = x.f2 + (k : Int) * (stepM C x.f1 : Int) := by
  unfold cellsM
  rw [List.mem_map]
  constructor
  · rintro ⟨k, hk, rfl⟩
    rw [List.mem_range'] at hk
    obtain ⟨j, hj, rfl⟩ := hk
    exact ⟨_, by omega, rfl⟩
  · rintro ⟨k, hk, rfl⟩
    exact ⟨k, by rw [List.mem_range']; exact ⟨k, by omega, by omega⟩, rfl⟩
/-- A slot's cell: its place, that it lies in the grid, that it is white. -/
theorem okSlot_cell {R C : Nat} {s : ByteArray} {x : ISlot} {c : Int} (h0 : 0 < C) (h : okSlot R C s x) (hc : c ∈ cellsM C x) :
    ∃ i k : Nat, x.f2 = i ∧ x.f3 = runM R C s i x.f1 ∧ i < R * C ∧ c = ((i + k * stepM C x.f1 : Nat) : Int) ∧ k < runM R C s i x.f1 ∧ atM C x.f1 i + k < mostM R C x.f1 ∧ i + k * stepM C x.f1 < R * C ∧ bt s c = 46 ∧ ¬ (0 < atM C x.f1 i ∧ bt s (i - stepM C x.f1 : Nat) = 46) := by
  obtain ⟨i, hi, h2, h3, h4⟩ := h
  obtain ⟨k, hk, rfl⟩ := cellsM_mem.1 hc
  have hk' : k < runM R C s i x.f1 := by omega
  have hk0 := hk'
  unfold runM at hk'
  split at hk'
  · rename_i hs
    have hle := runLen_le s (stepM C x.f1) (mostM R C x.f1 - atM C x.f1 i) i
    have hw := runLen_white hk'
    have hat : atM C x.f1 i + k < mostM R C x.f1 := by omega
    have hcast : x.f2 + (k : Int) * (stepM C x.f1 : Int) = ((i + k * stepM C x.f1 : Nat) : Int) := by
      rw [h2, Int.natCast_add, Int.natCast_mul]
    refine ⟨i, k, h2, h3, hi, hcast, hk0, hat, cell_lt h0 hi hat, ?_, hs.2⟩
    rw [hcast]
    exact hw
  · omega
theorem atM_add {C : Nat} {dn : Bool} {i d : Nat} {R : Nat} (h0 : 0 < C) (h : atM C dn i + d < mostM R C dn) : atM C dn (i + d * stepM C dn) = atM C dn i + d := by
  cases dn with
  | true =>
    simp only [atM, stepM, if_true]
    rw [Nat.add_mul_div_right _ _ h0]
  | false =>
    simp only [atM, stepM, mostM, Bool.false_eq_true, if_false, Nat.mul_one] at h ⊢
    rw [Nat.add_mod, Nat.mod_eq_of_lt (show d < C by omega), Nat.mod_eq_of_lt h]
/-- Two slots of one direction that share a cell begin at one cell. -/
theorem slot_one {R C : Nat} {s : ByteArray} {x y : ISlot} {c : Int} (h0 : 0 < C) (hx : okSlot R C s x) (hy : okSlot R C s y) (hd : x.f1 = y.f1) (h1 : c ∈ cellsM C x) (h2 : c ∈ cellsM C y) : x.f2 = y.f2 := by
  have aux : ∀ x y : ISlot, okSlot R C s x → okSlot R C s y → x.f1 = y.f1 → c ∈ cellsM C x → c ∈ cellsM C y → ¬ x.f2 < y.f2 := by
    intro x y hx hy hd h1 h2 hlt
    obtain ⟨i, a, e1, _, _, e2, ha, hat, _, _, _⟩ := okSlot_cell h0 hx h1
    obtain ⟨j, b, e3, _, _, e4, hb, hat2, _, _, hst⟩ := okSlot_cell h0 hy h2
    rw [← hd] at e4 hb hat2 hst
    have hij : i < j := by omega
    have hst' : 0 < stepM C x.f1 := by
      unfold stepM
      split <;> omega
    have e5 : i + a * stepM C x.f1 = j + b * stepM C x.f1 := by omega
    have hab : b < a := by
      apply Classical.byContradiction
      intro hn
      have := Nat.mul_le_mul_right (stepM C x.f1) (show a ≤ b by omega)
      omega
    obtain ⟨d, rfl⟩ : ∃ d, a = b + (d + 1) := ⟨a - b - 1, by omega⟩
    have e6 : j = i + (d + 1) * stepM C x.f1 := by
      rw [Nat.add_mul] at e5
      omega
    have e7 : atM C x.f1 j = atM C x.f1 i + (d + 1) := by
      rw [e6]
      exact atM_add (R := R) h0 (by omega)
    have hr : d < runM R C s i x.f1 := by omega
    have hw : bt s (i + d * stepM C x.f1 : Nat) = 46 := by
      unfold runM at hr
      split at hr
      · exact runLen_white hr
      · omega
    refine hst ⟨by omega, ?_⟩
    rw [show j - stepM C x.f1 = i + d * stepM C x.f1 by rw [e6, Nat.add_mul, Nat.one_mul]; omega]
    exact hw
  have := aux x y hx hy hd h1 h2
  have := aux y x hy hx hd.symm h2 h1
  omega
/-- The slots that hold a cell. -/
def holdersM (r c : Int) (s : ByteArray) (cell : Int) : List ISlot := (slotsM r c s).filter fun x => decide (cell ∈ cellsM c.toNat x)
theorem holders_dirs (r c : Int) (s : ByteArray) (cell : Int) : (holdersM r c s cell).Pairwise fun a b => a.f1 ≠ b.f1 := by
  unfold holdersM
  have hp := (slotsM_pairwise r c s).filter fun x => decide (cell ∈ cellsM c.toNat x)
  refine List.Pairwise.imp_of_mem ?_ hp
  intro a b ha hb hlt he
  rw [List.mem_filter, decide_eq_true_eq] at ha hb
  obtain ⟨R, C, rfl, rfl, _, _, h3, _, _, _, hka⟩ := slotsM_ok ha.1
  obtain ⟨R', C', e1, e2, _, _, _, _, _, _, hkb⟩ := slotsM_ok hb.1
  have e1' : R' = R := by omega
  have e2' : C' = C := by omega
  subst e1' e2'
  have := slot_one (by omega) hka hkb he ha.2 hb.2
  rcases hlt with h | ⟨_, h1, h2⟩
  · omega
  · rw [h1, h2] at he
    cases he
theorem holders_two (r c : Int) (s : ByteArray) (cell : Int) : (holdersM r c s cell).length ≤ 2 := by
  have h := holders_dirs r c s cell
  match holdersM r c s cell, h with
  | [], _ => simp
  | [_], _ => simp
  | [_, _], _ => simp
  | a :: b :: d :: l, h =>
    simp only [List.pairwise_cons] at h
    have h1 := h.1 b (by simp)
    have h2 := h.1 d (by simp)
    have h3 := h.2.1 d (by simp)
    cases ha : a.f1 <;> cases hb : b.f1 <;> cases hd : d.f1 <;> simp_all
theorem atGo_holders (C : Nat) (cell : Int) : ∀ (l : List ISlot) (i : Nat), (atGo C cell l i).length = (l.filter fun x => decide (cell ∈ cellsM C x)).length
  | [], _ => rfl
  | x :: l, i => by
    unfold atGo
    by_cases h : cell ∈ cellsM C x
    · simp [h, atGo_holders C cell l (i + 1)]
    · simp [h, atGo_holders C cell l (i + 1)]
theorem slotsAtM_two (r c : Int) (s : ByteArray) (cell : Int) : (slotsAtM r c s cell).length ≤ 2 := by
  have := holders_two r c s cell
  unfold slotsAtM
  rw [atGo_holders]
  exact this
theorem slotsAtM_white {r c : Int} {s : ByteArray} {cell : Int} (h : 0 < (slotsAtM r c s cell).length) : bt s cell = 46 := by
  unfold slotsAtM at h
  rw [atGo_holders] at h
  obtain ⟨x, hx⟩ := List.exists_mem_of_length_pos h
  rw [List.mem_filter, decide_eq_true_eq] at hx
  obtain ⟨R, C, rfl, rfl, _, _, h3, _, _, _, hk⟩ := slotsM_ok hx.1
  obtain ⟨_, _, _, _, _, _, _, _, _, hw, _⟩ := okSlot_cell (by omega) hk hx.2
  exact hw
theorem slotsM_nil {r c : Int} {s : ByteArray} (h : ¬ gridM r c s = true) : slotsM r c s = [] := by
  unfold slotsM
  rw [if_neg h]

/-! ### crossings -/
abbrev ICross := S102
theorem rd_Cross_get {l : List ICross} {i : Nat} (h : i < l.length) : rd_T102 l (i : Int) = l[i] := by
  unfold rd_T102
  simp [h]
/-- The slots, from place i on, that hold a cell: each with its place and the cell's place in it. -/
def holdGo (C : Nat) (cell : Int) : List ISlot → Nat → List (Int × Int)
  | [], _ => []
  | x :: l, i => if cell ∈ cellsM C x then ((i : Int), placeM cell (cellsM C x) 0) :: holdGo C cell l (i + 1) else holdGo C cell l (i + 1)
theorem holdGo_at (C : Nat) (cell : Int) : ∀ (l : List ISlot) (i : Nat), atGo C cell l i = (holdGo C cell l i).map (·.1)
  | [], _ => rfl
  | x :: l, i => by
    unfold atGo holdGo
    by_cases h : cell ∈ cellsM C x
    · simp [h, holdGo_at C cell l (i + 1)]
    · simp [h, holdGo_at C cell l (i + 1)]
theorem holdGo_mem (C : Nat) (cell : Int) : ∀ (l : List ISlot) (i : Nat) (h : Int × Int), h ∈ holdGo C cell l i → ∃ j : Nat, ∃ hj : j < l.length, h.1 = ((i + j : Nat) : Int) ∧ cell ∈ cellsM C l[j] ∧ h.2 = placeM cell (cellsM C l[j]) 0
  | [], _, h, hm => by cases hm
  | x :: l, i, h, hm => by
    unfold holdGo at hm
    have rest : h ∈ holdGo C cell l (i + 1) → ∃ j : Nat, ∃ hj : j < (x :: l).length, h.1 = ((i + j : Nat) : Int) ∧ cell ∈ cellsM C (x :: l)[j] ∧ h.2 = placeM cell (cellsM C (x :: l)[j]) 0 := by
      intro hr
      obtain ⟨j, hj, h1, h2, h3⟩ := holdGo_mem C cell l (i + 1) h hr
      exact ⟨j + 1, by simpa using hj, by rw [h1]; omega, by simpa using h2, by simpa using h3⟩
    split at hm
    · rename_i hc
      rcases List.mem_cons.1 hm with rfl | hm
      · exact ⟨0, by simp, by simp, by simpa using hc, by simp⟩
      · exact rest hm
    · exact rest hm
def holdM (r c : Int) (s : ByteArray) (cell : Int) : List (Int × Int) := holdGo c.toNat cell (slotsM r c s) 0
theorem holdM_at (r c : Int) (s : ByteArray) (cell : Int) : slotsAtM r c s cell = (holdM r c s cell).map (·.1) := holdGo_at _ _ _ _
theorem holdM_two (r c : Int) (s : ByteArray) (cell : Int) : (holdM r c s cell).length ≤ 2 := by
  have := slotsAtM_two r c s cell
  rw [holdM_at, List.length_map] at this
  exact this
def crossOne (cell : Int) : List (Int × Int) → List ICross
  | [a, b] => [⟨a.1, b.1, a.2, b.2, cell⟩]
  | _ => []
def crossGo (r c : Int) (s : ByteArray) : List Nat → List ICross
  | [] => []
  | i :: l => crossOne i (holdM r c s i) ++ crossGo r c s l
/-- What CrossingsOf answers. -/
def crossM (r c : Int) (s : ByteArray) : List ICross := if gridM r c s then crossGo r c s (List.range' 0 (s.size - 0)) else []
theorem crossOne_length (cell : Int) (h : List (Int × Int)) : (crossOne cell h).length ≤ 1 := by
  unfold crossOne
  split <;> simp
theorem crossGo_length (r c : Int) (s : ByteArray) : ∀ l : List Nat, (crossGo r c s l).length ≤ l.length
  | [] => by simp [crossGo]
  | i :: l => by
    unfold crossGo
    have := crossOne_length i (holdM r c s i)
    have := crossGo_length r c s l
    simp only [List.length_append, List.length_cons]
    omega
theorem grid36 {r c : Int} {s : ByteArray} (h : gridM r c s = true) : s.size ≤ 36 := by
  obtain ⟨R, C, _, _, _, h2, _, h4, h5⟩ := gridM_nat h
  have := bounds36 h2 h4
  omega
theorem crossM_length (r c : Int) (s : ByteArray) : (crossM r c s).length ≤ 36 := by
  unfold crossM
  split
  · rename_i h
    have := grid36 h
    have := crossGo_length r c s (List.range' 0 (s.size - 0))
    rw [List.length_range'] at this
    omega
  · simp
theorem spec_l9Place_l0_ev (l : List Int) (n : Int) (hl : l.length ≤ 9223372036854775806) : ∀ i : Nat, i ≤ l.length → Ev (fun k => spec_l9Place.l0 k l n i) (placeM n (l.drop i) i) := by
  refine down l.length ?_ ?_
  · intro i h hi
    apply ev_succ
    simp only [spec_l9Place.l0]
    exact ev_neg (by omega) (ev_now (by rw [List.drop_eq_nil_of_le h]; rfl))
  · intro i h ih hi
    apply ev_succ
    simp only [spec_l9Place.l0]
    rw [rd_get h, wrap64_id (n := (i : Int) + 1) (by omega) (by omega), succ_cast, List.drop_eq_getElem_cons h]
    unfold placeM
    refine ev_pos (by omega) (ev_pos (by omega) ?_)
    by_cases he : l[i] = n
    · exact ev_pos he (ev_now (by rw [if_pos he]))
    · exact ev_neg he (ev_eq (ih (by omega)) (by rw [if_neg he]))
theorem spec_l9Place_ev (l : List Int) (n : Int) (hl : l.length ≤ 9223372036854775806) : Ev (fun k => spec_l9Place.f k l n) (placeM n l 0) := by
  unfold spec_l9Place.f
  exact ev_eq (spec_l9Place_l0_ev l n hl 0 (by omega)) (by simp)
theorem spec_CrossingsOf_l0_ev (r c : Int) (s : ByteArray) (hs : s.size ≤ 1048576) (hg : gridM r c s = true) : ∀ i : Nat, i ≤ s.size → ∀ acc : List ICross, acc.length ≤ i →
    Ev (fun k => spec_CrossingsOf.l0 k acc (slotsM r c s) i r c s) (acc ++ crossGo r c s (List.range' i (s.size - i))) := by
  have hL := slotsM_length r c s
  refine down s.size ?_ ?_
  · intro i h hi acc ha
    apply ev_succ
    simp only [spec_CrossingsOf.l0]
    refine ev_neg (by omega) (ev_succ ?_)
    simp only [spec_CrossingsOf.j1]
    rw [range_nil h]
    exact ev_neg (by simp) (ev_now (by simp [crossGo]))
  · intro i h ih hi acc ha
    have h36 := grid36 hg
    apply ev_succ
    simp only [spec_CrossingsOf.l0]
    refine ev_pos (by omega) (ev_bind (spec_IsGrid_ev r c s (by omega)) (ev_succ ?_))
    simp only [spec_CrossingsOf.j1]
    rw [range_cons h, wrap64_id (n := (i : Int) + 1) (by omega) (by omega), succ_cast]
    unfold crossGo
    refine ev_pos hg (ev_bind (spec_SlotsAt_ev r c s i hs) ?_)
    have h2 := holdM_two r c s i
    have hnext := fun acc' ha' => ih (by omega) acc' ha'
    rw [holdM_at]
    have hmem := holdGo_mem c.toNat (i : Int) (slotsM r c s) 0
    have hfold : holdGo c.toNat (i : Int) (slotsM r c s) 0 = holdM r c s i := rfl
    rw [hfold] at hmem
    match hh : holdM r c s (i : Int), h2, hmem with
    | [], _, _ => exact ev_neg (by simp) (ev_eq (hnext acc (by omega)) (by simp [crossOne]))
    | [a], _, _ => exact ev_neg (by simp) (ev_eq (hnext acc (by omega)) (by simp [crossOne]))
    | [a, b], _, hmem =>
      obtain ⟨p, hp, e1, c1, e2⟩ := hmem a (by simp)
      obtain ⟨q, hq, e3, c2, e4⟩ := hmem b (by simp)
      rw [Nat.zero_add] at e1 e3
      have k1 := spec_CellsOf_ev r c s (slotsM r c s)[p] hs
      have k2 := spec_CellsOf_ev r c s (slotsM r c s)[q] hs
      rw [cellsOfM_elem hp] at k1
      rw [cellsOfM_elem hq] at k2
      have l1 := cellsM_length_elem hp
      have l2 := cellsM_length_elem hq
      have r1 : rd (List.map (·.1) [a, b]) 0 = a.1 := rfl
      have r2 : rd (List.map (·.1) [a, b]) 1 = b.1 := rfl
      rw [r1, r2, e1, e3, rd_Slot_get hp, rd_Slot_get hq]
      refine ev_pos (by simp) (ev_pos (by simp) (ev_pos (by simp) (ev_pos (by omega) (ev_pos (by omega) (ev_bind k1 (ev_bind (spec_l9Place_ev _ _ (by omega)) (ev_pos (by omega) (ev_pos (by omega) (ev_bind k2 (ev_bind (spec_l9Place_ev _ _ (by omega)) (ev_pos (by omega) ?_)))))))))))
      refine ev_eq (hnext _ (by simp; omega)) ?_
      simp [crossOne, e1, e2, e3, e4]
theorem spec_CrossingsOf_ev (r c : Int) (s : ByteArray) (hs : s.size ≤ 1048576) : Ev (fun k => spec_CrossingsOf.f k r c s) (crossM r c s) := by
  unfold spec_CrossingsOf.f crossM
  refine ev_bind (spec_SlotsOf_ev r c s hs) ?_
  by_cases hg : gridM r c s = true
  · rw [if_pos hg]
    exact ev_eq (spec_CrossingsOf_l0_ev r c s hs hg 0 (by omega) [] (by simp)) (by simp)
  · rw [if_neg hg]
    have hj : Ev (fun k => spec_CrossingsOf.j1 k [] (slotsM r c s) 0 false r c s) [] := by
      apply ev_succ
      simp only [spec_CrossingsOf.j1]
      exact ev_neg (by simp) (ev_now rfl)
    apply ev_succ
    simp only [spec_CrossingsOf.l0]
    by_cases h : (0 : Int) < (s.size : Int)
    · refine ev_pos h (ev_bind (spec_IsGrid_ev r c s (by omega)) ?_)
      rw [Bool.not_eq_true] at hg
      rw [hg]
      exact hj
    · exact ev_neg h hj
def crossStep (cell : Int) : Int → Int → List ICross → List (Int × Int) → List ICross
  | _, _, acc, [] => acc
  | first, place, acc, h :: r => if first < 0 then crossStep cell h.1 h.2 acc r else crossStep cell first place (acc ++ [⟨first, h.1, place, h.2, cell⟩]) r
theorem crossStep_one (cell : Int) (acc : List ICross) (H : List (Int × Int)) (h2 : H.length ≤ 2) (h0 : ∀ h ∈ H, 0 ≤ h.1) : crossStep cell (-1) 0 acc H = acc ++ crossOne cell H := by
  match H, h2, h0 with
  | [], _, _ => simp [crossStep, crossOne]
  | [a], _, _ => simp [crossStep, crossOne]
  | [a, b], _, h0 =>
    have := h0 a (by simp)
    simp only [crossStep, crossOne]
    rw [if_pos (by omega), if_neg (by omega)]
theorem impl_CrossingsOf_l1_ev (r c : Int) (s : ByteArray) (cell : Nat) (m : Int) (ρ : List ICross) : ∀ i : Nat, i ≤ (slotsM r c s).length → ∀ (acc : List ICross) (first place : Int), acc.length ≤ 100000 + i → cell ≤ 1000 →
    Ev (fun k => impl_CrossingsOf.l0 k (layoutM r c s) (crossStep cell first place acc (holdGo c.toNat cell ((slotsM r c s).drop i) i)) m (cell + 1 : Nat)) ρ →
    Ev (fun k => impl_CrossingsOf.l1 k (layoutM r c s) acc cell first place m cell (layoutM r c s) (layoutM r c s).length i) ρ := by
  have hl := slotsM_length r c s
  have hL := layoutM_length r c s
  refine down (slotsM r c s).length ?_ ?_
  · intro i h hi acc first place ha hc hρ
    apply ev_succ
    simp only [impl_CrossingsOf.l1]
    rw [wrap64_id (n := (cell : Int) + 1) (by omega) (by omega), succ_cast]
    rw [List.drop_eq_nil_of_le h] at hρ
    exact ev_neg (by omega) hρ
  · intro i h ih hi acc first place ha hc hρ
    have h6 := cellsM_length_elem h
    apply ev_succ
    simp only [impl_CrossingsOf.l1]
    rw [rd_ints_get (show i < (layoutM r c s).length by omega), layoutM_get h, wrap64_id (n := (i : Int) + 1) (by omega) (by omega), succ_cast]
    rw [List.drop_eq_getElem_cons h] at hρ
    unfold holdGo at hρ
    refine ev_pos (by omega) (ev_pos (by omega) (ev_pos (by omega) (ev_bind (slices_Index_int_int_ev _ cell (by omega)) ?_)))
    have hn := placeM_nonneg (n := (cell : Int)) (l := cellsM c.toNat (slotsM r c s)[i]) (i := 0)
    by_cases hm : (cell : Int) ∈ cellsM c.toNat (slotsM r c s)[i]
    · rw [if_pos hm] at hρ
      unfold crossStep at hρ
      have := hn.2 hm
      refine ev_neg (by omega) ?_
      by_cases hf : first < 0
      · rw [if_pos hf] at hρ
        exact ev_pos hf (ih (by omega) acc _ _ (by omega) hc hρ)
      · rw [if_neg hf] at hρ
        exact ev_neg hf (ev_pos (by omega) (ih (by omega) _ _ _ (by simp; omega) hc hρ))
    · rw [if_neg hm] at hρ
      have : ¬ 0 ≤ placeM (cell : Int) (cellsM c.toNat (slotsM r c s)[i]) 0 := fun x => hm (hn.1 x)
      exact ev_pos (by omega) (ih (by omega) acc _ _ (by omega) hc hρ)
theorem impl_CrossingsOf_l0_ev (r c : Int) (s : ByteArray) (h36 : s.size ≤ 36) : ∀ i : Nat, i ≤ s.size → ∀ acc : List ICross, acc.length ≤ i →
    Ev (fun k => impl_CrossingsOf.l0 k (layoutM r c s) acc s.size i) (acc ++ crossGo r c s (List.range' i (s.size - i))) := by
  refine down s.size ?_ ?_
  · intro i h hi acc ha
    apply ev_succ
    simp only [impl_CrossingsOf.l0]
    rw [range_nil h]
    exact ev_neg (by omega) (ev_now (by simp [crossGo]))
  · intro i h ih hi acc ha
    apply ev_succ
    simp only [impl_CrossingsOf.l0]
    rw [range_cons h]
    unfold crossGo
    have h1 := crossOne_length i (holdM r c s i)
    have hmem := holdGo_mem c.toNat (i : Int) (slotsM r c s) 0
    refine ev_pos (by omega) (impl_CrossingsOf_l1_ev r c s i s.size _ 0 (by omega) acc (-1) 0 (by omega) (by omega) ?_)
    rw [List.drop_zero, show holdGo c.toNat (i : Int) (slotsM r c s) 0 = holdM r c s i from rfl, crossStep_one _ _ _ (holdM_two r c s i) (fun h hh => by obtain ⟨j, _, e, _⟩ := hmem h hh; omega)]
    exact ev_eq (ih (by omega) _ (by rw [List.length_append]; have : (crossOne (i : Int) (holdGo c.toNat (i : Int) (slotsM r c s) 0)).length ≤ 1 := h1; omega)) (by simp [holdM])
theorem impl_CrossingsOf_l0_no (r c : Int) (s : ByteArray) (hs : s.size ≤ 1048576) (hg : ¬ gridM r c s = true) : ∀ i : Nat, i ≤ s.size → Ev (fun k => impl_CrossingsOf.l0 k (layoutM r c s) [] s.size i) [] := by
  have hn : layoutM r c s = [] := by
    unfold layoutM
    rw [slotsM_nil hg]
    rfl
  rw [hn]
  refine down s.size ?_ ?_
  · intro i h hi
    apply ev_succ
    simp only [impl_CrossingsOf.l0]
    exact ev_neg (by omega) (ev_now rfl)
  · intro i h ih hi
    apply ev_succ
    simp only [impl_CrossingsOf.l0]
    refine ev_pos (by omega) (ev_succ ?_)
    simp only [impl_CrossingsOf.l1]
    rw [wrap64_id (n := (i : Int) + 1) (by omega) (by omega), succ_cast]
    exact ev_neg (by simp) (ih (by omega))
theorem impl_CrossingsOf_ev (r c : Int) (s : ByteArray) (hs : s.size ≤ 1048576) : Ev (fun k => impl_CrossingsOf.f k r c s) (crossM r c s) := by
  unfold impl_CrossingsOf.f crossM
  refine ev_bind (impl_layout_ev r c s hs) ?_
  by_cases hg : gridM r c s = true
  · rw [if_pos hg]
    exact ev_eq (impl_CrossingsOf_l0_ev r c s (grid36 hg) 0 (by omega) [] (by simp)) (by simp)
  · rw [if_neg hg]
    exact impl_CrossingsOf_l0_no r c s hs hg 0 (by omega)

/-! ### strs -/
def total (l : List ByteArray) : Nat := (l.map ByteArray.size).sum
theorem mem_total {l : List ByteArray} {x : ByteArray} (h : x ∈ l) : x.size ≤ total l := by
  induction l with
  | nil => cases h
  | cons a r ih =>
    have e : total (a :: r) = a.size + total r := rfl
    rcases List.mem_cons.1 h with rfl | h
    · omega
    · have := ih h
      omega
theorem total_drop {l : List ByteArray} {i : Nat} (h : i < l.length) : total (l.drop i) = l[i].size + total (l.drop (i + 1)) := by
  rw [List.drop_eq_getElem_cons h]
  rfl
theorem laws_szStringS_l0_ev (l : List ByteArray) (hl : l.length ≤ 9223372036854775806) (hs : ∀ s ∈ l, s.size ≤ 9223372036854775807) : ∀ i : Nat, i ≤ l.length → ∀ n : Int, 0 ≤ n → n ≤ 1048576 →
    ∃ r : Int, Ev (fun k => laws_szStringS.l0 k l n i) r ∧ (r < 0 ∨ 0 ≤ r ∧ r + total (l.drop i) = n) := by
  refine down l.length ?_ ?_
  · intro i h hi n h0 hn
    refine ⟨n, ?_, .inr ⟨h0, ?_⟩⟩
    · apply ev_succ
      simp only [laws_szStringS.l0]
      exact ev_neg (by omega) (ev_now rfl)
    · rw [List.drop_eq_nil_of_le h]
      simp [total]
  · intro i h ih hi n h0 hn
    have hb := hs l[i] (List.getElem_mem h)
    have ht := total_drop h
    by_cases hneg : n - (l[i].size : Int) < 0
    · refine ⟨-1, ?_, .inl (by omega)⟩
      apply ev_succ
      simp only [laws_szStringS.l0]
      rw [rdOf_get h, wrap64_id (n := n - _) (by omega) (by omega)]
      exact ev_pos (by omega) (ev_pos (by omega) (ev_pos hneg (ev_now rfl)))
    · obtain ⟨r, hr, h1⟩ := ih (by omega) (n - (l[i].size : Int)) (by omega) (by omega)
      refine ⟨r, ?_, ?_⟩
      · apply ev_succ
        simp only [laws_szStringS.l0]
        rw [rdOf_get h, wrap64_id (n := n - _) (by omega) (by omega), wrap64_id (n := (i : Int) + 1) (by omega) (by omega), succ_cast]
        exact ev_pos (by omega) (ev_pos (by omega) (ev_neg hneg hr))
      · rcases h1 with h1 | h1
        · exact .inl h1
        · exact .inr ⟨h1.1, by omega⟩
theorem laws_szStringS_ev (l : List ByteArray) (hl : l.length ≤ 9223372036854775807) (hs : ∀ s ∈ l, s.size ≤ 9223372036854775807) (n : Int) (h0 : 0 ≤ n) (hn : n ≤ 1048576) :
    ∃ r : Int, Ev (fun k => laws_szStringS.f k l n) r ∧ (r < 0 ∨ 0 ≤ r ∧ r + l.length + total l = n) := by
  unfold laws_szStringS.f
  rw [wrap64_id (n := n - _) (by omega) (by omega)]
  by_cases hneg : n - (l.length : Int) < 0
  · exact ⟨-1, ev_pos hneg (ev_now rfl), .inl (by omega)⟩
  · obtain ⟨r, hr, h1⟩ := laws_szStringS_l0_ev l (by omega) hs 0 (by omega) (n - (l.length : Int)) (by omega) (by omega)
    refine ⟨r, ev_neg hneg hr, ?_⟩
    rcases h1 with h1 | h1
    · exact .inl h1
    · exact .inr ⟨h1.1, by have := h1.2; simp at this; omega⟩
theorem laws_toStringS_l0_ev (l : List ByteArray) (hl : l.length ≤ 1048576) : ∀ i : Nat, i ≤ l.length → ∀ x : List ByteArray, x.length = l.length → (∀ j, j < i → x[j]? = l[j]?) → Ev (fun k => laws_toStringS.l0 k l x i) l := by
  refine down l.length ?_ ?_
  · intro i h hi x hx hj
    apply ev_succ
    simp only [laws_toStringS.l0]
    exact ev_neg (by omega) (ev_now (all_known hx (fun j h' => hj j (by omega))))
  · intro i h ih hi x hx hj
    apply ev_succ
    simp only [laws_toStringS.l0]
    rw [rdOf_get h, wrap64_id (n := (i : Int) + 1) (by omega) (by omega), succ_cast, show (i : Int).toNat = i by omega]
    exact ev_pos (by omega) (ev_pos (by omega) (ev_pos (by omega) (ih (by omega) _ (by simpa using hx) (set_known h hx rfl hj))))
theorem laws_toStringS_ev (l : List ByteArray) (hl : l.length ≤ 1048576) : Ev (fun k => laws_toStringS.f k l) l := by
  unfold laws_toStringS.f
  exact ev_pos (by omega) (ev_pos (by omega) (laws_toStringS_l0_ev l hl 0 (by omega) _ (by simp) (by intro j hj; omega)))
theorem laws_eqStringS_l0_ev (a b : List ByteArray) (hl : a.length = b.length) (hb : a.length ≤ 9223372036854775806) : ∀ i : Nat, i ≤ a.length → Ev (fun k => laws_eqStringS.l0 k a b i) (decide (a.drop i = b.drop i)) := by
  refine down a.length ?_ ?_
  · intro i h hi
    apply ev_succ
    simp only [laws_eqStringS.l0]
    refine ev_neg (by omega) (ev_now ?_)
    rw [List.drop_eq_nil_of_le h, List.drop_eq_nil_of_le (by omega)]
    simp
  · intro i h ih hi
    have h' : i < b.length := by omega
    apply ev_succ
    simp only [laws_eqStringS.l0]
    rw [rdOf_get h, rdOf_get h', wrap64_id (n := (i : Int) + 1) (by omega) (by omega), succ_cast, List.drop_eq_getElem_cons h, List.drop_eq_getElem_cons h']
    refine ev_pos (by omega) (ev_pos (by omega) (ev_pos (by omega) ?_))
    by_cases he : a[i].toList = b[i].toList
    · refine ev_pos he (ev_eq (ih (by omega)) ?_)
      rw [toList_inj] at he
      rw [he]
      simp [-List.getElem_cons_drop]
    · refine ev_neg he (ev_now ?_)
      rw [toList_inj] at he
      symm
      simp only [decide_eq_false_iff_not, List.cons.injEq]
      exact fun h => he h.1
theorem laws_eqStringS_ev (a b : List ByteArray) (hb : a.length ≤ 9223372036854775806) : Ev (fun k => laws_eqStringS.f k a b) (decide (a = b)) := by
  unfold laws_eqStringS.f
  by_cases h : a.length = b.length
  · exact ev_pos (by omega) (ev_eq (laws_eqStringS_l0_ev a b h hb 0 (by omega)) (by simp))
  · exact ev_neg (by omega) (ev_now (by symm; simp; intro e; exact h (by rw [e])))

/-! ### choices -/
theorem rd_rows_get {l : List (List ByteArray)} {i : Nat} (h : i < l.length) : rd_L1 l (i : Int) = l[i] := by
  unfold rd_L1
  simp [h]
def totals (l : List (List ByteArray)) : Nat := (l.map fun x => x.length + total x).sum
theorem totals_drop {l : List (List ByteArray)} {i : Nat} (h : i < l.length) : totals (l.drop i) = l[i].length + total l[i] + totals (l.drop (i + 1)) := by
  rw [List.drop_eq_getElem_cons h]
  rfl
theorem mem_totals {l : List (List ByteArray)} {x : List ByteArray} (h : x ∈ l) : x.length + total x ≤ totals l := by
  induction l with
  | nil => cases h
  | cons a r ih =>
    have e : totals (a :: r) = a.length + total a + totals r := rfl
    rcases List.mem_cons.1 h with rfl | h
    · omega
    · have := ih h
      omega
theorem laws_szStringSS_l0_ev (l : List (List ByteArray)) (hl : l.length ≤ 9223372036854775806) (hs : ∀ x ∈ l, (∀ s ∈ x, s.size ≤ 9223372036854775807) ∧ x.length ≤ 9223372036854775807) : ∀ i : Nat, i ≤ l.length → ∀ n : Int, 0 ≤ n → n ≤ 1048576 →
    ∃ r : Int, Ev (fun k => laws_szStringSS.l0 k l n i) r ∧ (r < 0 ∨ 0 ≤ r ∧ r + totals (l.drop i) = n) := by
  refine down l.length ?_ ?_
  · intro i h hi n h0 hn
    refine ⟨n, ?_, .inr ⟨h0, ?_⟩⟩
    · apply ev_succ
      simp only [laws_szStringSS.l0]
      exact ev_neg (by omega) (ev_now rfl)
    · rw [List.drop_eq_nil_of_le h]
      simp [totals]
  · intro i h ih hi n h0 hn
    have hb := hs l[i] (List.getElem_mem h)
    have ht := totals_drop h
    obtain ⟨r, hr, h1⟩ := laws_szStringS_ev l[i] hb.2 hb.1 n h0 hn
    by_cases hneg : r < 0
    · refine ⟨-1, ?_, .inl (by omega)⟩
      apply ev_succ
      simp only [laws_szStringSS.l0]
      rw [rd_rows_get h]
      exact ev_pos (by omega) (ev_pos (by omega) (ev_bind hr (ev_pos hneg (ev_now rfl))))
    · obtain ⟨r2, hr2, h2⟩ := ih (by omega) r (by omega) (by omega)
      refine ⟨r2, ?_, ?_⟩
      · apply ev_succ
        simp only [laws_szStringSS.l0]
        rw [rd_rows_get h, wrap64_id (n := (i : Int) + 1) (by omega) (by omega), succ_cast]
        exact ev_pos (by omega) (ev_pos (by omega) (ev_bind hr (ev_neg hneg hr2)))
      · rcases h2 with h2 | h2
        · exact .inl h2
        · exact .inr ⟨h2.1, by omega⟩
theorem laws_szStringSS_ev (l : List (List ByteArray)) (hl : l.length ≤ 9223372036854775807) (hs : ∀ x ∈ l, (∀ s ∈ x, s.size ≤ 9223372036854775807) ∧ x.length ≤ 9223372036854775807) (n : Int) (h0 : 0 ≤ n) (hn : n ≤ 1048576) :
    ∃ r : Int, Ev (fun k => laws_szStringSS.f k l n) r ∧ (r < 0 ∨ 0 ≤ r ∧ r + l.length + totals l = n) := by
  unfold laws_szStringSS.f
  rw [wrap64_id (n := n - _) (by omega) (by omega)]
  by_cases hneg : n - (l.length : Int) < 0
  · exact ⟨-1, ev_pos hneg (ev_now rfl), .inl (by omega)⟩
  · obtain ⟨r, hr, h1⟩ := laws_szStringSS_l0_ev l (by omega) hs 0 (by omega) (n - (l.length : Int)) (by omega) (by omega)
    refine ⟨r, ev_neg hneg hr, ?_⟩
    rcases h1 with h1 | h1
    · exact .inl h1
    · exact .inr ⟨h1.1, by have := h1.2; simp at this; omega⟩
theorem laws_toStringSS_l0_ev (l : List (List ByteArray)) (hl : l.length ≤ 1048576) (hs : ∀ x ∈ l, x.length ≤ 1048576) : ∀ i : Nat, i ≤ l.length → ∀ x : List (List ByteArray), x.length = l.length → (∀ j, j < i → x[j]? = l[j]?) → Ev (fun k => laws_toStringSS.l0 k l x i) l := by
  refine down l.length ?_ ?_
  · intro i h hi x hx hj
    apply ev_succ
    simp only [laws_toStringSS.l0]
    exact ev_neg (by omega) (ev_now (all_known hx (fun j h' => hj j (by omega))))
  · intro i h ih hi x hx hj
    have hb := hs l[i] (List.getElem_mem h)
    apply ev_succ
    simp only [laws_toStringSS.l0]
    rw [rd_rows_get h, wrap64_id (n := (i : Int) + 1) (by omega) (by omega), succ_cast, show (i : Int).toNat = i by omega]
    exact ev_pos (by omega) (ev_pos (by omega) (ev_bind (laws_toStringS_ev l[i] hb) (ev_pos (by omega) (ih (by omega) _ (by simpa using hx) (set_known h hx rfl hj)))))
theorem laws_toStringSS_ev (l : List (List ByteArray)) (hl : l.length ≤ 1048576) (hs : ∀ x ∈ l, x.length ≤ 1048576) : Ev (fun k => laws_toStringSS.f k l) l := by
  unfold laws_toStringSS.f
  exact ev_pos (by omega) (ev_pos (by omega) (laws_toStringSS_l0_ev l hl hs 0 (by omega) _ (by simp) (by intro j hj; omega)))
theorem laws_eqStringSS_l0_ev (a b : List (List ByteArray)) (hl : a.length = b.length) (hb : a.length ≤ 9223372036854775806) (hs : ∀ x ∈ a, x.length ≤ 9223372036854775806) : ∀ i : Nat, i ≤ a.length → Ev (fun k => laws_eqStringSS.l0 k a b i) (decide (a.drop i = b.drop i)) := by
  refine down a.length ?_ ?_
  · intro i h hi
    apply ev_succ
    simp only [laws_eqStringSS.l0]
    refine ev_neg (by omega) (ev_now ?_)
    rw [List.drop_eq_nil_of_le h, List.drop_eq_nil_of_le (by omega)]
    simp
  · intro i h ih hi
    have h' : i < b.length := by omega
    have hb1 := hs a[i] (List.getElem_mem h)
    apply ev_succ
    simp only [laws_eqStringSS.l0]
    rw [rd_rows_get h, rd_rows_get h', wrap64_id (n := (i : Int) + 1) (by omega) (by omega), succ_cast, List.drop_eq_getElem_cons h, List.drop_eq_getElem_cons h']
    refine ev_pos (by omega) (ev_pos (by omega) (ev_pos (by omega) (ev_bind (laws_eqStringS_ev a[i] b[i] hb1) ?_)))
    by_cases he : a[i] = b[i]
    · refine ev_pos (by simpa using he) (ev_eq (ih (by omega)) ?_)
      rw [he]
      simp [-List.getElem_cons_drop]
    · refine ev_neg (by simpa using he) (ev_now ?_)
      symm
      simp only [decide_eq_false_iff_not, List.cons.injEq]
      exact fun h => he h.1
theorem laws_eqStringSS_ev (a b : List (List ByteArray)) (hb : a.length ≤ 9223372036854775806) (hs : ∀ x ∈ a, x.length ≤ 9223372036854775806) : Ev (fun k => laws_eqStringSS.f k a b) (decide (a = b)) := by
  unfold laws_eqStringSS.f
  by_cases h : a.length = b.length
  · exact ev_pos (by omega) (ev_eq (laws_eqStringSS_l0_ev a b h hb hs 0 (by omega)) (by simp))
  · exact ev_neg (by omega) (ev_now (by symm; simp; intro e; exact h (by rw [e])))

/-! ### unchecked -/
def countU (r c : Int) (s : ByteArray) : List Int → Nat
  | [] => 0
  | x :: l => (if checkedM r c s x = true then 0 else 1) + countU r c s l
theorem countU_drop {r c : Int} {s : ByteArray} {l : List Int} {i : Nat} (h : i < l.length) : countU r c s (l.drop i) = (if checkedM r c s l[i] = true then 0 else 1) + countU r c s (l.drop (i + 1)) := by
  rw [List.drop_eq_getElem_cons h]
  rfl
def uncheckedM (r c : Int) (s : ByteArray) (slot : Int) : Int := if 0 ≤ slot ∧ slot < (slotsM r c s).length then countU r c s (cellsM c.toNat ((slotsM r c s).getD slot.toNat ⟨0, false, 0, 0⟩)) else -1

/-! ### support -/
theorem placeM_lt {n : Int} : ∀ {l : List Int} {i : Nat}, n ∈ l → (i : Int) ≤ placeM n l i ∧ placeM n l i < i + l.length
  | [], _, h => by cases h
  | a :: l, i, h => by
    unfold placeM
    by_cases e : a = n
    · rw [if_pos e]
      simp
      omega
    · rw [if_neg e]
      have := placeM_lt (l := l) (i := i + 1) (by
        rcases List.mem_cons.1 h with h | h
        · exact absurd h.symm e
        · exact h)
      rw [List.length_cons]
      omega
theorem holdGo_asc (C : Nat) (cell : Int) : ∀ (l : List ISlot) (i : Nat), (holdGo C cell l i).Pairwise fun a b => a.1 < b.1
  | [], _ => by simp [holdGo]
  | x :: l, i => by
    unfold holdGo
    have ih := holdGo_asc C cell l (i + 1)
    split
    · rw [List.pairwise_cons]
      refine ⟨fun b hb => ?_, ih⟩
      obtain ⟨j, _, e, _⟩ := holdGo_mem C cell l (i + 1) b hb
      rw [e]
      show (i : Int) < _
      omega
    · exact ih
/-- What a crossing tells: two slots, and two places in them. -/
def crossOk (sl : List ISlot) (x : ICross) : Prop := ∃ p q : Nat, ∃ (hp : p < sl.length) (hq : q < sl.length), x.f0 = p ∧ x.f1 = q ∧ p < q ∧ (0 ≤ x.f2 ∧ x.f2 < sl[p].f3) ∧ (0 ≤ x.f3 ∧ x.f3 < sl[q].f3)
theorem crossOne_ok (r c : Int) (s : ByteArray) (cell : Int) (x : ICross) (h : x ∈ crossOne cell (holdM r c s cell)) : crossOk (slotsM r c s) x ∧ x.f4 = cell := by
  have hm := holdGo_mem c.toNat cell (slotsM r c s) 0
  have ha := holdGo_asc c.toNat cell (slotsM r c s) 0
  rw [show holdGo c.toNat cell (slotsM r c s) 0 = holdM r c s cell from rfl] at hm ha
  match hh : holdM r c s cell, h, hm, ha with
  | [], h, _, _ => cases h
  | [a], h, _, _ => cases h
  | [a, b], h, hm, ha =>
    simp only [crossOne, List.mem_singleton] at h
    obtain ⟨p, hp, e1, c1, e2⟩ := hm a (by simp)
    obtain ⟨q, hq, e3, c2, e4⟩ := hm b (by simp)
    have hlt : a.1 < b.1 := by simpa using ha
    have l1 := placeM_lt (i := 0) c1
    have l2 := placeM_lt (i := 0) c2
    rw [cellsM_length] at l1 l2
    have b1 := (slotsM_elem hp).choose_spec.choose_spec
    have b2 := (slotsM_elem hq).choose_spec.choose_spec
    subst h
    refine ⟨⟨p, q, hp, hq, by rw [e1]; simp, by rw [e3]; simp, by omega, ?_, ?_⟩, rfl⟩
    · show 0 ≤ a.2 ∧ a.2 < _
      rw [e2]
      omega
    · show 0 ≤ b.2 ∧ b.2 < _
      rw [e4]
      omega
  | a :: b :: d :: l, h, _, _ => cases h
theorem crossGo_ok (r c : Int) (s : ByteArray) : ∀ (l : List Nat) (x : ICross), x ∈ crossGo r c s l → crossOk (slotsM r c s) x
  | [], _, h => by cases h
  | i :: l, x, h => by
    unfold crossGo at h
    rcases List.mem_append.1 h with h | h
    · exact (crossOne_ok r c s i x h).1
    · exact crossGo_ok r c s l x h
theorem crossM_ok {r c : Int} {s : ByteArray} {x : ICross} (h : x ∈ crossM r c s) : crossOk (slotsM r c s) x := by
  unfold crossM at h
  split at h
  · exact crossGo_ok r c s _ x h
  · cases h
/-- A word has support: each crossing's other slot has a word with its letter. -/
def supM (X : List ICross) (D : List (List ByteArray)) (slot : Int) (word : ByteArray) : Bool := X.all fun x => if slot = x.f0 then (D.getD x.f1.toNat []).any (supAt x.f3 x.f2 word) else if slot = x.f1 then (D.getD x.f0.toNat []).any (supAt x.f2 x.f3 word) else true
theorem slot_f3_le {r c : Int} {s : ByteArray} {i : Nat} (h : i < (slotsM r c s).length) : 0 ≤ (slotsM r c s)[i].f3 ∧ (slotsM r c s)[i].f3 ≤ 6 := by
  obtain ⟨_, _, _, _, _, _, _, _, h7, h8⟩ := slotsM_elem h
  omega
theorem supGo_eq (sl : List ISlot) (D : List (List ByteArray)) (slot : Int) (word : ByteArray) (hD : D.length = sl.length) (hrow : ∀ d ∈ D, d.length ≤ 1048576) (hf : ∀ i (h : i < sl.length), sl[i].f3 ≤ 6) (hw : ∀ i (h : i < sl.length), slot = i → (word.size : Int) = sl[i].f3) :
    ∀ X : List ICross, (∀ x ∈ X, crossOk sl x) → supGo D slot word X = some (supM X D slot word)
  | [], _ => rfl
  | x :: X, h => by
    have ih := supGo_eq sl D slot word hD hrow hf hw X (fun y hy => h y (by simp [hy]))
    obtain ⟨p, q, hp, hq, e0, e1, hpq, h2, h3⟩ := h x (by simp)
    have fp := hf p hp
    have fq := hf q hq
    have rw_ : ∀ j : Nat, j < sl.length → (D.getD j []).length ≤ 1048576 := fun j hj => by
      have hj' : j < D.length := by omega
      rw [List.getD_eq_getElem?_getD, List.getElem?_eq_getElem hj']
      exact hrow _ (List.getElem_mem hj')
    unfold supM
    rw [List.all_cons, supGo_cons]
    by_cases hA : slot = x.f0
    · have hs := hw p hp (by omega)
      have r1 := rw_ q hq
      rw [if_pos hA, if_pos hA]
      unfold supLet
      rw [if_pos ⟨⟨⟨by omega, by omega⟩, ⟨h2.1, by omega⟩⟩, ⟨⟨h3.1, by omega⟩, by rw [e1, Int.toNat_natCast]; exact r1⟩⟩, Option.bind_some]
      cases (D.getD x.f1.toNat []).any (supAt x.f3 x.f2 word)
      · rw [if_neg (by simp)]
        rfl
      · rw [if_pos rfl, ih]
        rfl
    · rw [if_neg hA, if_neg hA]
      by_cases hB : slot = x.f1
      · have hs := hw q hq (by omega)
        have r1 := rw_ p hp
        rw [if_pos hB, if_pos hB]
        unfold supLet
        rw [if_pos ⟨⟨⟨by omega, by omega⟩, ⟨h3.1, by omega⟩⟩, ⟨⟨h2.1, by omega⟩, by rw [e0, Int.toNat_natCast]; exact r1⟩⟩, Option.bind_some]
        cases (D.getD x.f0.toNat []).any (supAt x.f2 x.f3 word)
        · rw [if_neg (by simp)]
          rfl
        · rw [if_pos rfl, ih]
          rfl
      · rw [if_neg hB, if_neg hB, ih]
        rfl
theorem impl_supported_eq (r c : Int) (s : ByteArray) (D : List (List ByteArray)) (slot : Int) (word : ByteArray) (hD : D.length = (slotsM r c s).length) (hrow : ∀ d ∈ D, d.length ≤ 1048576) (hw : ∀ i (h : i < (slotsM r c s).length), slot = i → (word.size : Int) = (slotsM r c s)[i].f3) :
    impl_supported.f (crossM r c s) D slot word = some (supM (crossM r c s) D slot word) := by
  have := crossM_length r c s
  unfold impl_supported.f
  rw [if_pos (by omega)]
  exact supGo_eq (slotsM r c s) D slot word hD hrow (fun i h => (slot_f3_le h).2) hw _ (fun x hx => crossM_ok hx)
theorem spec_l12Letter_l0_ev (d : List ByteArray) (at_ letter : Int) (h0 : 0 ≤ at_) (hl : d.length ≤ 1048576) : ∀ i : Nat, i ≤ d.length → Ev (fun k => spec_l12Letter.l0 k d at_ letter i) ((d.drop i).any fun w => decide (at_ < (w.size : Int)) && (bt w at_ == letter)) := by
  refine down d.length ?_ ?_
  · intro i h hi
    apply ev_succ
    simp only [spec_l12Letter.l0]
    exact ev_neg (by omega) (ev_now (by rw [List.drop_eq_nil_of_le h]; rfl))
  · intro i h ih hi
    apply ev_succ
    simp only [spec_l12Letter.l0]
    rw [rdOf_get h, wrap64_id (n := (i : Int) + 1) (by omega) (by omega), succ_cast, List.drop_eq_getElem_cons h, List.any_cons]
    refine ev_pos (by omega) (ev_pos (by omega) ?_)
    by_cases h1 : at_ < (d[i].size : Int)
    · refine ev_pos h1 (ev_pos h0 ?_)
      by_cases h2 : bt d[i] at_ = letter
      · exact ev_pos h2 (ev_now (by rw [decide_eq_true h1, beq_iff_eq.2 h2]; rfl))
      · exact ev_neg h2 (ev_eq (ih (by omega)) (by rw [decide_eq_true h1, beq_eq_false_iff_ne.2 h2]; rfl))
    · exact ev_neg h1 (ev_eq (ih (by omega)) (by rw [decide_eq_false h1]; rfl))
theorem spec_l12Letter_ev (d : List ByteArray) (at_ own : Int) (word : ByteArray) (h0 : 0 ≤ at_) (hl : d.length ≤ 1048576) : Ev (fun k => spec_l12Letter.f k d at_ (bt word own)) (d.any (supAt at_ own word)) := by
  unfold spec_l12Letter.f
  exact ev_eq (spec_l12Letter_l0_ev d at_ _ h0 hl 0 (by omega)) (by rw [List.drop_zero]; rfl)
theorem supM_drop {X : List ICross} {i : Nat} (h : i < X.length) (D : List (List ByteArray)) (slot : Int) (word : ByteArray) : supM (X.drop i) D slot word = ((if slot = X[i].f0 then (D.getD X[i].f1.toNat []).any (supAt X[i].f3 X[i].f2 word) else if slot = X[i].f1 then (D.getD X[i].f0.toNat []).any (supAt X[i].f2 X[i].f3 word) else true) && supM (X.drop (i + 1)) D slot word) := by
  rw [List.drop_eq_getElem_cons h]
  rfl
theorem spec_l12Support_l0_ev (sl : List ISlot) (X : List ICross) (D : List (List ByteArray)) (slot : Int) (word : ByteArray) (hX : ∀ x ∈ X, crossOk sl x) (hl : X.length ≤ 1000) (hD : D.length = sl.length) (hrow : ∀ d ∈ D, d.length ≤ 1048576) (hf : ∀ i (h : i < sl.length), sl[i].f3 ≤ 6) (hw : ∀ i (h : i < sl.length), slot = i → (word.size : Int) = sl[i].f3) :
    ∀ i : Nat, i ≤ X.length → Ev (fun k => spec_l12Support.l0 k X D slot word i) (supM (X.drop i) D slot word) := by
  refine down X.length ?_ ?_
  · intro i h hi
    apply ev_succ
    simp only [spec_l12Support.l0]
    exact ev_neg (by omega) (ev_now (by rw [List.drop_eq_nil_of_le h]; rfl))
  · intro i h ih hi
    obtain ⟨p, q, hp, hq, e0, e1, hpq, h2, h3⟩ := hX X[i] (List.getElem_mem h)
    have fp := hf p hp
    have fq := hf q hq
    have row : ∀ j : Nat, ∀ hj : j < D.length, Ev (fun k => spec_l12Letter.f k D[j] X[i].f3 (bt word X[i].f2)) (D[j].any (supAt X[i].f3 X[i].f2 word)) ∧ Ev (fun k => spec_l12Letter.f k D[j] X[i].f2 (bt word X[i].f3)) (D[j].any (supAt X[i].f2 X[i].f3 word)) := fun j hj => ⟨spec_l12Letter_ev _ _ _ _ h3.1 (hrow _ (List.getElem_mem hj)), spec_l12Letter_ev _ _ _ _ h2.1 (hrow _ (List.getElem_mem hj))⟩
    have gd : ∀ j : Nat, ∀ hj : j < D.length, D.getD j [] = D[j] := fun j hj => by rw [List.getD_eq_getElem?_getD, List.getElem?_eq_getElem hj]; rfl
    rw [supM_drop h]
    apply ev_succ
    simp only [spec_l12Support.l0]
    rw [rd_Cross_get h]
    refine ev_pos (by omega) (ev_pos (by omega) ?_)
    by_cases hA : X[i].f0 = slot
    · have hs := hw p hp (by omega)
      have hqD : q < D.length := by omega
      rw [if_pos hA.symm]
      refine ev_pos hA (ev_pos (by omega) (ev_pos (by omega) (ev_pos h2.1 (ev_pos (by omega) ?_))))
      rw [e1, rd_rows_get hqD, Int.toNat_natCast, gd q hqD]
      refine ev_bind (row q hqD).1 (ev_succ ?_)
      simp only [spec_l12Support.j1]
      cases D[q].any (supAt X[i].f3 X[i].f2 word)
      · exact ev_pos (by simp) (ev_now (by simp))
      · rw [rd_Cross_get h, wrap64_id (n := (i : Int) + 1) (by omega) (by omega), succ_cast]
        exact ev_neg (by simp) (ev_pos (by omega) (ev_pos (by omega) (ev_neg (by omega) (ev_eq (ih (by omega)) (by simp)))))
    · rw [if_neg (fun e => hA e.symm)]
      refine ev_neg hA (ev_succ ?_)
      simp only [spec_l12Support.j1]
      rw [rd_Cross_get h, wrap64_id (n := (i : Int) + 1) (by omega) (by omega), succ_cast]
      refine ev_neg (by simp) (ev_pos (by omega) (ev_pos (by omega) ?_))
      by_cases hB : X[i].f1 = slot
      · have hs := hw q hq (by omega)
        have hpD : p < D.length := by omega
        rw [if_pos hB.symm]
        refine ev_pos hB (ev_pos (by omega) (ev_pos (by omega) (ev_pos h3.1 (ev_pos (by omega) ?_))))
        rw [e0, rd_rows_get hpD, Int.toNat_natCast, gd p hpD]
        refine ev_bind (row p hpD).2 ?_
        cases D[p].any (supAt X[i].f2 X[i].f3 word)
        · exact ev_neg (by simp) (ev_now (by simp))
        · exact ev_pos (by simp) (ev_eq (ih (by omega)) (by simp))
      · rw [if_neg (fun e => hB e.symm)]
        exact ev_neg hB (ev_eq (ih (by omega)) (by simp))
theorem spec_l12Support_ev (r c : Int) (s : ByteArray) (D : List (List ByteArray)) (slot : Int) (word : ByteArray) (hD : D.length = (slotsM r c s).length) (hrow : ∀ d ∈ D, d.length ≤ 1048576) (hw : ∀ i (h : i < (slotsM r c s).length), slot = i → (word.size : Int) = (slotsM r c s)[i].f3) :
    Ev (fun k => spec_l12Support.f k (crossM r c s) D slot word) (supM (crossM r c s) D slot word) := by
  have := crossM_length r c s
  unfold spec_l12Support.f
  exact ev_eq (spec_l12Support_l0_ev (slotsM r c s) (crossM r c s) D slot word (fun x hx => crossM_ok hx) (by omega) hD hrow (fun i h => (slot_f3_le h).2) hw 0 (by omega)) (by simp)
/-- What Support answers. -/
def supportM (r c : Int) (s : ByteArray) (D : List (List ByteArray)) (slot : Int) (word : ByteArray) : Bool := if (D.length = (slotsM r c s).length ∧ (0 ≤ slot ∧ slot < (slotsM r c s).length)) ∧ (wordM word = true ∧ (word.size : Int) = ((slotsM r c s).getD slot.toNat ⟨0, false, 0, 0⟩).f3) then supM (crossM r c s) D slot word else false

/-! ### marks -/
theorem strOfNums_one (n : Int) : (strOfNums [n]).size = 1 := by
  simp [strOfNums, ByteArray.size]
theorem laws_markText_l0_some : ∀ (d : Nat) (n : Int) (x : ByteArray), 0 ≤ n → n < 10 ^ d → x.size + d ≤ 1000 → d ≤ 19 → ∃ r, Ev (fun k => laws_markText.l0 k n x) r := by
  intro d
  induction d with
  | zero =>
    intro n x h0 h1 hx hd
    refine ⟨⟨#[109]⟩ ++ x, ev_succ ?_⟩
    simp only [laws_markText.l0]
    exact ev_neg (by omega) (ev_pos (by omega) (ev_now rfl))
  | succ d ih =>
    intro n x h0 h1 hx hd
    by_cases hn : n > 0
    · have hq : Int.tdiv n 10 = n / 10 := Int.tdiv_eq_ediv_of_nonneg (by omega)
      have h10 : (10 : Int) ^ (d + 1) = 10 ^ d * 10 := by rw [Int.pow_succ]
      have h2 : n / 10 < 10 ^ d := Int.ediv_lt_of_lt_mul (by omega) (by omega)
      have h3 : (10 : Int) ^ (d + 1) ≤ 10 ^ 19 := by
        have := Nat.pow_le_pow_right (n := 10) (by omega) hd
        exact_mod_cast this
      obtain ⟨r, hr⟩ := ih (n / 10) (strOfNums [(wrap64 (48 + Int.tmod n 10)) % 256] ++ x) (by omega) h2 (by rw [ByteArray.size_append, strOfNums_one]; omega) (by omega)
      refine ⟨r, ev_succ ?_⟩
      simp only [laws_markText.l0]
      rw [hq, wrap64_id (n := n / 10) (by omega) (by omega)]
      refine ev_pos hn (ev_let rfl (ev_pos ?_ hr))
      rw [strOfNums_one]
      omega
    · refine ⟨⟨#[109]⟩ ++ x, ev_succ ?_⟩
      simp only [laws_markText.l0]
      exact ev_neg hn (ev_pos (by omega) (ev_now rfl))
theorem laws_markText_some (n : Int) (h0 : 0 ≤ n) (h1 : n ≤ 9223372036854775807) : ∃ r, Ev (fun k => laws_markText.f k n) r := by
  unfold laws_markText.f
  by_cases h : n ≤ 0
  · exact ⟨_, ev_pos h (ev_now rfl)⟩
  · obtain ⟨r, hr⟩ := laws_markText_l0_some 19 n ⟨#[]⟩ h0 (by omega) (by decide) (by omega)
    exact ⟨r, ev_neg h hr⟩
theorem laws_markStringS_l0_ev (L : Nat) (hL : L ≤ 1048576) : ∀ i : Nat, i ≤ L → ∀ (x : List ByteArray) (n : Int), x.length = L → 0 ≤ n → n + (L - i : Nat) ≤ 1000000000000 →
    ∃ y : List ByteArray, y.length = L ∧ (∀ j, j < i → y[j]? = x[j]?) ∧ Ev (fun k => laws_markStringS.l0 k x n i) (n + (L - i : Nat), y) ∧ Ev (fun k => laws_heldStringS.l0 k y n i) (n + (L - i : Nat)) := by
  refine down L ?_ ?_
  · intro i h hi x n hx h0 hn
    refine ⟨x, hx, fun _ _ => rfl, ?_, ?_⟩
    · apply ev_succ
      simp only [laws_markStringS.l0]
      exact ev_neg (by omega) (ev_now (by rw [show L - i = 0 by omega]; simp))
    · apply ev_succ
      simp only [laws_heldStringS.l0]
      exact ev_neg (by omega) (ev_now (by rw [show L - i = 0 by omega]; simp))
  · intro i h ih hi x n hx h0 hn
    obtain ⟨r, hr⟩ := laws_markText_some n h0 (by omega)
    obtain ⟨y, hy, hj, hm, hh⟩ := ih (by omega) (x.set i r) (n + 1) (by simpa using hx) (by omega) (by omega)
    have hyi : y[i]? = some r := by
      rw [hj i (by omega), List.getElem?_set_self (by omega)]
    have hyi' : y[i]'(by omega) = r := by
      rw [List.getElem?_eq_getElem (by omega)] at hyi
      exact Option.some.inj hyi
    refine ⟨y, hy, fun j h' => ?_, ?_, ?_⟩
    · rw [hj j (by omega), List.getElem?_set_ne (by omega)]
    · apply ev_succ
      simp only [laws_markStringS.l0]
      rw [wrap64_id (n := (i : Int) + 1) (by omega) (by omega), wrap64_id (n := n + 1) (by omega) (by omega), succ_cast, show (i : Int).toNat = i by omega]
      exact ev_pos (by omega) (ev_bind hr (ev_pos (by omega) (ev_eq hm (by rw [show L - i = (L - (i + 1)) + 1 by omega]; simp; omega))))
    · apply ev_succ
      simp only [laws_heldStringS.l0]
      rw [wrap64_id (n := (i : Int) + 1) (by omega) (by omega), wrap64_id (n := n + 1) (by omega) (by omega), succ_cast, rdOf_get (by omega), hyi']
      exact ev_pos (by omega) (ev_pos (by omega) (ev_bind hr (ev_pos rfl (ev_eq hh (by rw [show L - i = (L - (i + 1)) + 1 by omega]; simp; omega)))))
/-- What is marked is held. -/
theorem laws_markStringS_ev (x : List ByteArray) (n : Int) (hx : x.length ≤ 1048576) (h0 : 0 ≤ n) (hn : n ≤ 100000000000) :
    ∃ y : List ByteArray, y.length = x.length ∧ Ev (fun k => laws_markStringS.f k x n) (n + x.length, y) ∧ Ev (fun k => laws_heldStringS.f k y n) (n + x.length) := by
  unfold laws_markStringS.f laws_heldStringS.f
  obtain ⟨y, hy, _, hm, hh⟩ := laws_markStringS_l0_ev x.length hx 0 (by omega) x n rfl h0 (by omega)
  exact ⟨y, hy, by simpa using hm, by simpa using hh⟩

/-! ### marksss -/
theorem sum_le {l : List (List ByteArray)} {b : Nat} (h : ∀ y ∈ l, y.length ≤ b) : (l.map List.length).sum ≤ l.length * b := by
  induction l with
  | nil => simp
  | cons a l ih =>
    have := ih (fun y hy => h y (by simp [hy]))
    have := h a (by simp)
    rw [List.map_cons, List.sum_cons, List.length_cons, Nat.add_mul]
    omega
theorem marks_getD {l : List (List ByteArray)} {i : Nat} (h : i < l.length) : l.getD i [] = l[i] := by simp [h]
theorem laws_markStringSS_l0_ev (L : Nat) (hL : L ≤ 1048576) : ∀ i : Nat, i ≤ L → ∀ (x : List (List ByteArray)) (n : Int), x.length = L → (∀ y ∈ x, y.length ≤ 1048576) → 0 ≤ n → n + (((x.drop i).map List.length).sum : Nat) ≤ 100000000000 →
    ∃ (y : List (List ByteArray)) (q : Int), 0 ≤ q ∧ y.length = L ∧ (∀ j, j < i → y[j]? = x[j]?) ∧ Ev (fun k => laws_markStringSS.l0 k x n i) (q, y) ∧ Ev (fun k => laws_heldStringSS.l0 k y n i) q := by
  refine down L ?_ ?_
  · intro i h hi x n hx _ h0 hn
    refine ⟨x, n, h0, hx, fun _ _ => rfl, ?_, ?_⟩
    · apply ev_succ
      simp only [laws_markStringSS.l0]
      exact ev_neg (by omega) (ev_now rfl)
    · apply ev_succ
      simp only [laws_heldStringSS.l0]
      exact ev_neg (by omega) (ev_now rfl)
  · intro i h ih hi x n hx hs h0 hn
    rw [List.drop_eq_getElem_cons (show i < x.length by omega), List.map_cons, List.sum_cons] at hn
    have hxi : x[i].length ≤ 1048576 := hs _ (List.getElem_mem (by omega))
    obtain ⟨z, hz, hm, hh⟩ := laws_markStringS_ev x[i] n hxi h0 (by omega)
    obtain ⟨y, q, hq, hy, hj, hm2, hh2⟩ := ih (by omega) (x.set i z) (n + x[i].length) (by simpa using hx) (fun y hy => by
      rcases List.mem_or_eq_of_mem_set hy with h1 | h1
      · exact hs y h1
      · rw [h1, hz]; exact hxi) (by omega) (by rw [List.drop_set_of_lt (by omega)]; omega)
    have hyi : y[i]? = some z := by
      rw [hj i (by omega), List.getElem?_set_self (by omega)]
    have hyi' : y[i]'(by omega) = z := by
      rw [List.getElem?_eq_getElem (by omega)] at hyi
      exact Option.some.inj hyi
    refine ⟨y, q, hq, hy, fun j h' => ?_, ?_, ?_⟩
    · rw [hj j (by omega), List.getElem?_set_ne (by omega)]
    · apply ev_succ
      simp only [laws_markStringSS.l0]
      rw [marks_getD (by omega)]
      exact ev_pos (by omega) (ev_bind hm hm2)
    · apply ev_succ
      simp only [laws_heldStringSS.l0]
      rw [wrap64_id (n := (i : Int) + 1) (by omega) (by omega), succ_cast, rd_rows_get (by omega), hyi']
      exact ev_pos (by omega) (ev_pos (by omega) (ev_bind hh (ev_neg (by omega) hh2)))
/-- What is marked, row by row, is held. -/
theorem laws_markStringSS_ev (x : List (List ByteArray)) (hx : x.length ≤ 1048576) (hs : ∀ y ∈ x, y.length ≤ 1048576) (ht : (x.map List.length).sum ≤ 10000000000) :
    ∃ (y : List (List ByteArray)) (q : Int), 0 ≤ q ∧ Ev (fun k => laws_markStringSS.f k x 1) (q, y) ∧ Ev (fun k => laws_heldStringSS.f k y 1) q := by
  unfold laws_markStringSS.f laws_heldStringSS.f
  obtain ⟨y, q, hq, _, _, hm, hh⟩ := laws_markStringSS_l0_ev x.length hx 0 (by omega) x 1 rfl hs (by omega) (by rw [List.drop_zero]; omega)
  exact ⟨y, q, hq, ev_pos hx (by simpa using hm), by simpa using hh⟩

/-! ### prune -/
def tM (X : List ICross) (D : List (List ByteArray)) (i : Nat) (len : Int) (w : ByteArray) : Bool := wordM w && (decide ((w.size : Int) = len) && supM X D i w)
def keepM (X : List ICross) (D : List (List ByteArray)) (i : Nat) (len : Int) (row : List ByteArray) : List ByteArray := row.filter (tM X D i len)
/-- One round of pruning, from slot i on. -/
def inM (X : List ICross) : List ISlot → Nat → List (List ByteArray) → Bool → List (List ByteArray) × Bool
  | [], _, D, b => (D, b)
  | s :: l, i, D, b => if (keepM X D i s.f3 (D.getD i [])).length < (D.getD i []).length then inM X l (i + 1) (D.set i (keepM X D i s.f3 (D.getD i []))) true else inM X l (i + 1) D b
theorem inM_nil (X : List ICross) (i : Nat) (D : List (List ByteArray)) (b : Bool) : inM X [] i D b = (D, b) := rfl
theorem inM_cons (X : List ICross) (s : ISlot) (l : List ISlot) (i : Nat) (D : List (List ByteArray)) (b : Bool) : inM X (s :: l) i D b = if (keepM X D i s.f3 (D.getD i [])).length < (D.getD i []).length then inM X l (i + 1) (D.set i (keepM X D i s.f3 (D.getD i []))) true else inM X l (i + 1) D b := rfl
def outM (X : List ICross) (sl : List ISlot) : Nat → List (List ByteArray) → List (List ByteArray)
  | 0, D => D
  | n + 1, D => if (inM X sl 0 D false).2 = true then outM X sl n (inM X sl 0 D false).1 else (inM X sl 0 D false).1
theorem outM_succ (X : List ICross) (sl : List ISlot) (n : Nat) (D : List (List ByteArray)) : outM X sl (n + 1) D = if (inM X sl 0 D false).2 = true then outM X sl n (inM X sl 0 D false).1 else (inM X sl 0 D false).1 := rfl
def sumL (D : List (List ByteArray)) : Nat := (D.map List.length).sum
theorem sumL_le (l : List (List ByteArray)) : sumL l ≤ totals l := by
  induction l with
  | nil => exact Nat.le_refl _
  | cons a r ih =>
    have e : totals (a :: r) = a.length + total a + totals r := rfl
    have e2 : sumL (a :: r) = a.length + sumL r := rfl
    omega
theorem sumL_set : ∀ (D : List (List ByteArray)) (i : Nat) (q : List ByteArray), i < D.length → sumL (D.set i q) + (D.getD i []).length = sumL D + q.length
  | [], i, q, h => by simp at h
  | d :: D, 0, q, h => by simp [sumL]; omega
  | d :: D, i + 1, q, h => by
    have := sumL_set D i q (by simpa using h)
    simp only [sumL, List.set_cons_succ, List.map_cons, List.sum_cons, List.getD_cons_succ] at this ⊢
    omega
/-- Rows, and words, of bounded size. -/
def Dom (n : Nat) (D : List (List ByteArray)) : Prop := D.length = n ∧ ∀ d ∈ D, d.length ≤ 1048576 ∧ ∀ w ∈ d, w.size ≤ 1048576
theorem Dom.row {n : Nat} {D : List (List ByteArray)} (h : Dom n D) (i : Nat) : (D.getD i []).length ≤ 1048576 ∧ ∀ w ∈ D.getD i [], w.size ≤ 1048576 := by
  by_cases hi : i < D.length
  · rw [List.getD_eq_getElem?_getD, List.getElem?_eq_getElem hi]
    exact h.2 _ (List.getElem_mem hi)
  · rw [List.getD_eq_getElem?_getD, List.getElem?_eq_none (by omega)]
    simp
theorem Dom.set {n : Nat} {D : List (List ByteArray)} (h : Dom n D) (X : List ICross) (i : Nat) (len : Int) : Dom n (D.set i (keepM X D i len (D.getD i []))) := by
  refine ⟨by rw [List.length_set]; exact h.1, fun d hd => ?_⟩
  rcases List.mem_or_eq_of_mem_set hd with hd | rfl
  · exact h.2 d hd
  · obtain ⟨h1, h2⟩ := h.row i
    exact ⟨Nat.le_trans (List.length_filter_le _ _) h1, fun w hw => h2 w (List.mem_filter.1 hw).1⟩
theorem inM_facts {n : Nat} (X : List ICross) : ∀ (l : List ISlot) (i : Nat) (D : List (List ByteArray)) (b : Bool), Dom n D → i + l.length ≤ n → Dom n (inM X l i D b).1 ∧ sumL (inM X l i D b).1 ≤ sumL D ∧ ((inM X l i D b).2 = true → b = true ∨ sumL (inM X l i D b).1 < sumL D)
  | [], i, D, b, h, _ => ⟨h, Nat.le_refl _, fun e => .inl e⟩
  | s :: l, i, D, b, h, hi => by
    rw [List.length_cons] at hi
    rw [inM_cons]
    have hl := h.1
    split
    · rename_i hlt
      have hs := sumL_set D i (keepM X D i s.f3 (D.getD i [])) (by omega)
      obtain ⟨h1, h2, h3⟩ := inM_facts X l (i + 1) _ true (h.set X i s.f3) (by omega)
      exact ⟨h1, by omega, fun _ => .inr (by omega)⟩
    · exact inM_facts X l (i + 1) D b h (by omega)
theorem outM_facts {n0 : Nat} (X : List ICross) (sl : List ISlot) (hsl : sl.length ≤ n0) : ∀ (n : Nat) (D : List (List ByteArray)), Dom n0 D → Dom n0 (outM X sl n D) ∧ sumL (outM X sl n D) ≤ sumL D
  | 0, D, h => ⟨h, Nat.le_refl _⟩
  | n + 1, D, h => by
    rw [outM_succ]
    obtain ⟨h1, h2, _⟩ := inM_facts X sl 0 D false h (by omega)
    split
    · obtain ⟨h3, h4⟩ := outM_facts X sl hsl n _ h1
      exact ⟨h3, by omega⟩
    · exact ⟨h1, h2⟩
def pruneM (r c : Int) (s : ByteArray) (D : List (List ByteArray)) : List (List ByteArray) := if D.length = (slotsM r c s).length then outM (crossM r c s) (slotsM r c s) (sumL D + 1) D else D
theorem pruneM_facts {r c : Int} {s : ByteArray} {D : List (List ByteArray)} (h : Dom D.length D) : Dom D.length (pruneM r c s D) ∧ sumL (pruneM r c s D) ≤ sumL D := by
  unfold pruneM
  split
  · rename_i he
    exact outM_facts _ _ (by omega) _ _ h
  · exact ⟨h, Nat.le_refl _⟩
theorem prTest_ev (r c : Int) (s : ByteArray) (D : List (List ByteArray)) (i : Nat) (x : ByteArray) (hD : Dom (slotsM r c s).length D) (hi : i < (slotsM r c s).length) (hx : x.size ≤ 1048576) : Ev (fun k => prTest k (crossM r c s) D i (slotsM r c s)[i].f3 x) (tM (crossM r c s) D i (slotsM r c s)[i].f3 x) := by
  unfold prTest tM
  refine ev_bind (impl_IsWord_ev x (by omega)) ?_
  by_cases h1 : wordM x = true
  · by_cases h2 : (x.size : Int) = (slotsM r c s)[i].f3
    · refine ev_pos h1 (ev_pos h2 ?_)
      rw [h1, decide_eq_true h2, Bool.true_and, Bool.true_and, impl_supported_eq r c s D i x hD.1 (fun d hd => (hD.2 d hd).1) (fun j hj e => by obtain rfl : j = i := (by omega); exact h2)]
      exact ev_now rfl
    · exact ev_pos h1 (ev_neg h2 (ev_now (by rw [h1, decide_eq_false h2]; rfl)))
  · exact ev_neg h1 (ev_now (by rw [Bool.not_eq_true] at h1; rw [h1]; rfl))
theorem prKeep_ev (r c : Int) (s : ByteArray) (D : List (List ByteArray)) (i : Nat) (hD : Dom (slotsM r c s).length D) (hi : i < (slotsM r c s).length) : ∀ row : List ByteArray, (∀ w ∈ row, w.size ≤ 1048576) → Ev (fun k => prKeep k (crossM r c s) D i (slotsM r c s)[i].f3 row) (keepM (crossM r c s) D i (slotsM r c s)[i].f3 row)
  | [], _ => by
    simp only [prKeep_nil]
    exact ev_now rfl
  | x :: row, h => by
    simp only [prKeep_cons]
    refine ev_bind (prTest_ev r c s D i x hD hi (h x (by simp))) (ev_bind (prKeep_ev r c s D i hD hi row (fun w hw => h w (by simp [hw]))) (ev_now ?_))
    unfold keepM
    rw [List.filter_cons]
theorem prIn_ev (r c : Int) (s : ByteArray) : ∀ i : Nat, i ≤ (slotsM r c s).length → ∀ (D : List (List ByteArray)) (b : Bool), Dom (slotsM r c s).length D → Ev (fun k => prIn k (crossM r c s) ((slotsM r c s).drop i) i D b) (inM (crossM r c s) ((slotsM r c s).drop i) i D b) := by
  refine down (slotsM r c s).length ?_ ?_
  · intro i h hi D b hD
    rw [List.drop_eq_nil_of_le h]
    simp only [prIn_nil]
    exact ev_now rfl
  · intro i h ih hi D b hD
    obtain ⟨h1, h2⟩ := hD.row i
    rw [List.drop_eq_getElem_cons h]
    simp only [prIn_cons, inM_cons]
    refine ev_pos ⟨by rw [hD.1]; exact h, h1⟩ (ev_bind (prKeep_ev r c s D i hD h _ h2) ?_)
    by_cases hc : (keepM (crossM r c s) D i (slotsM r c s)[i].f3 (D.getD i [])).length < (D.getD i []).length
    · rw [if_pos hc]
      exact ev_pos hc (ih (by omega) _ _ (hD.set _ _ _))
    · rw [if_neg hc]
      exact ev_neg hc (ih (by omega) _ _ hD)
theorem prOut_ev (r c : Int) (s : ByteArray) : ∀ (n : Nat) (D : List (List ByteArray)), sumL D < n → Dom (slotsM r c s).length D → Ev (fun k => prOut (crossM r c s) (slotsM r c s) k D) (outM (crossM r c s) (slotsM r c s) n D)
  | 0, D, h, _ => by omega
  | n + 1, D, h, hD => by
    apply ev_succ
    simp only [prOut_succ, outM_succ]
    have hin := prIn_ev r c s 0 (by omega) D false hD
    rw [List.drop_zero] at hin
    obtain ⟨h1, h2, h3⟩ := inM_facts (crossM r c s) (slotsM r c s) 0 D false hD (by omega)
    refine ev_bind hin ?_
    by_cases hb : (inM (crossM r c s) (slotsM r c s) 0 D false).2 = true
    · rw [if_pos hb]
      refine ev_pos hb (prOut_ev r c s n _ ?_ h1)
      rcases h3 hb with h4 | h4
      · cases h4
      · omega
    · rw [if_neg hb]
      exact ev_neg hb (ev_now rfl)
theorem impl_copyDomains_l0_ev (l : List (List ByteArray)) (hl : l.length ≤ 1048576) (hr : ∀ d ∈ l, d.length ≤ 1048576) : ∀ i : Nat, i ≤ l.length → ∀ acc : List (List ByteArray), acc.length ≤ i → Ev (fun k => impl_copyDomains.l0 k acc l l.length i) (acc ++ l.drop i) := by
  refine down l.length ?_ ?_
  · intro i h hi acc ha
    apply ev_succ
    simp only [impl_copyDomains.l0]
    exact ev_neg (by omega) (ev_now (by rw [List.drop_eq_nil_of_le h]; simp))
  · intro i h ih hi acc ha
    have hrow := hr _ (List.getElem_mem h)
    apply ev_succ
    simp only [impl_copyDomains.l0]
    rw [rd_rows_get h, wrap64_id (n := (i : Int) + 1) (by omega) (by omega), succ_cast]
    refine ev_pos (by omega) (ev_pos (by omega) (ev_pos (by omega) (ev_let (a := l[i]) ?_ (ev_pos (by omega) (ev_eq (ih (by omega) _ (by simp; omega)) (by simp))))))
    unfold slices_Clone_string_string.f
    rw [if_pos (by omega)]
theorem impl_copyDomains_ev (l : List (List ByteArray)) (hl : l.length ≤ 1048576) (hr : ∀ d ∈ l, d.length ≤ 1048576) : Ev (fun k => impl_copyDomains.f k l) l := by
  unfold impl_copyDomains.f
  exact ev_eq (impl_copyDomains_l0_ev l hl hr 0 (by omega) [] (by simp)) (by simp)
theorem impl_Prune_ev (r c : Int) (s : ByteArray) (D : List (List ByteArray)) (hs : s.size ≤ 1048576) (hl : D.length ≤ 1048576) (hD : Dom D.length D) : Ev (fun k => impl_Prune.f k r c s D) (pruneM r c s D) := by
  unfold impl_Prune.f pruneM
  refine ev_bind (impl_copyDomains_ev D hl (fun d hd => (hD.2 d hd).1)) (ev_bind (impl_SlotsOf_ev r c s hs) ?_)
  by_cases h : D.length = (slotsM r c s).length
  · rw [if_pos h]
    exact ev_pos h (ev_bind (impl_CrossingsOf_ev r c s hs) (prOut_ev r c s _ D (by omega) (h ▸ hD)))
  · rw [if_neg h]
    exact ev_neg h (ev_now rfl)
theorem spec_l12Copy_l0_ev (l : List (List ByteArray)) (hl : l.length ≤ 1048576) (hr : ∀ d ∈ l, d.length ≤ 1048576) : ∀ i : Nat, i ≤ l.length → ∀ acc : List (List ByteArray), acc.length ≤ i → Ev (fun k => spec_l12Copy.l0 k l acc i) (acc ++ l.drop i) := by
  refine down l.length ?_ ?_
  · intro i h hi acc ha
    apply ev_succ
    simp only [spec_l12Copy.l0]
    exact ev_neg (by omega) (ev_now (by rw [List.drop_eq_nil_of_le h]; simp))
  · intro i h ih hi acc ha
    have hrow := hr _ (List.getElem_mem h)
    apply ev_succ
    simp only [spec_l12Copy.l0]
    rw [rd_rows_get h, wrap64_id (n := (i : Int) + 1) (by omega) (by omega), succ_cast]
    exact ev_pos (by omega) (ev_let rfl (ev_pos (by omega) (ev_pos (by simp; omega) (ev_pos (by omega) (ev_eq (ih (by omega) _ (by simp; omega)) (by simp))))))
theorem spec_l12Copy_ev (l : List (List ByteArray)) (hl : l.length ≤ 1048576) (hr : ∀ d ∈ l, d.length ≤ 1048576) : Ev (fun k => spec_l12Copy.f k l) l := by
  unfold spec_l12Copy.f
  exact ev_eq (spec_l12Copy_l0_ev l hl hr 0 (by omega) [] (by simp)) (by simp)
theorem spec_Prune_l2_ev (r c : Int) (s : ByteArray) (D : List (List ByteArray)) (b : Bool) (i : Nat) (ρ : List (List ByteArray)) (hD : Dom (slotsM r c s).length D) (hi : i < (slotsM r c s).length) (row : List ByteArray) (hrow : D.getD i [] = row)
    (hρ : Ev (fun k => if (keepM (crossM r c s) D i (slotsM r c s)[i].f3 row).length < row.length then spec_Prune.l1 k (D.set i (keepM (crossM r c s) D i (slotsM r c s)[i].f3 row)) (slotsM r c s) (crossM r c s) true (i + 1 : Nat) else spec_Prune.l1 k D (slotsM r c s) (crossM r c s) b (i + 1 : Nat)) ρ) :
    ∀ j : Nat, j ≤ row.length → ∀ acc : List ByteArray, acc.length ≤ j → acc ++ keepM (crossM r c s) D i (slotsM r c s)[i].f3 (row.drop j) = keepM (crossM r c s) D i (slotsM r c s)[i].f3 row → Ev (fun k => spec_Prune.l2 k D (slotsM r c s) (crossM r c s) b i acc j) ρ := by
  obtain ⟨h1, h2⟩ := hD.row i
  rw [hrow] at h1 h2
  have hiD : i < D.length := by rw [hD.1]; exact hi
  have hsl := slotsM_length r c s
  have hget : D[i] = row := by
    rw [List.getD_eq_getElem?_getD, List.getElem?_eq_getElem hiD] at hrow
    exact hrow
  refine down row.length ?_ ?_
  · intro j h hj acc ha he
    have he' : acc = keepM (crossM r c s) D i (slotsM r c s)[i].f3 row := by
      rw [← he, List.drop_eq_nil_of_le h]
      simp [keepM]
    apply ev_succ
    simp only [spec_Prune.l2]
    rw [rd_rows_get hiD, hget, wrap64_id (n := (i : Int) + 1) (by omega) (by omega), succ_cast, Int.toNat_natCast]
    refine ev_pos (by omega) (ev_pos (by omega) (ev_neg (by omega) ?_))
    subst he'
    by_cases hc : (keepM (crossM r c s) D i (slotsM r c s)[i].f3 row).length < row.length
    · refine ev_pos (by omega) (ev_eq ?_ rfl)
      simp only [if_pos hc] at hρ
      exact hρ
    · refine ev_neg (by omega) (ev_eq ?_ rfl)
      simp only [if_neg hc] at hρ
      exact hρ
  · intro j h ih hj acc ha he
    have hwj := h2 _ (List.getElem_mem h)
    apply ev_succ
    simp only [spec_Prune.l2]
    rw [rd_rows_get hiD, hget, rdOf_get h, wrap64_id (n := (j : Int) + 1) (by omega) (by omega), succ_cast, rd_Slot_get hi]
    refine ev_pos (by omega) (ev_pos (by omega) (ev_pos (by omega) (ev_pos (by omega) (ev_bind (spec_IsWord_ev row[j] (by omega)) ?_))))
    rw [List.drop_eq_getElem_cons h] at he
    unfold keepM at he
    rw [List.filter_cons] at he
    have next0 : tM (crossM r c s) D i (slotsM r c s)[i].f3 row[j] = false → Ev (fun k => spec_Prune.l2 k D (slotsM r c s) (crossM r c s) b i acc (j + 1 : Nat)) ρ := fun ht => by
      rw [ht, if_neg (by simp)] at he
      exact ih (by omega) acc (by omega) he
    by_cases e1 : wordM row[j] = true
    · refine ev_pos e1 (ev_pos (by omega) ?_)
      by_cases e2 : (row[j].size : Int) = (slotsM r c s)[i].f3
      · refine ev_pos e2 (ev_bind (spec_l12Support_ev r c s D i row[j] hD.1 (fun d hd => (hD.2 d hd).1) (fun q hq e => by obtain rfl : q = i := (by omega); exact e2)) ?_)
        by_cases e3 : supM (crossM r c s) D i row[j] = true
        · have ht : tM (crossM r c s) D i (slotsM r c s)[i].f3 row[j] = true := by unfold tM; rw [e1, decide_eq_true e2, e3]; rfl
          rw [if_pos ht] at he
          exact ev_pos e3 (ev_pos (by omega) (ih (by omega) _ (by simp; omega) (by unfold keepM; rw [← he]; simp)))
        · exact ev_neg e3 (next0 (by unfold tM; rw [Bool.not_eq_true] at e3; rw [e3]; simp))
      · exact ev_neg e2 (next0 (by unfold tM; rw [decide_eq_false e2]; simp))
    · exact ev_neg e1 (next0 (by unfold tM; rw [Bool.not_eq_true] at e1; rw [e1]; rfl))
theorem spec_Prune_l1_ev (r c : Int) (s : ByteArray) (ρ : List (List ByteArray)) : ∀ i : Nat, i ≤ (slotsM r c s).length → ∀ (D : List (List ByteArray)) (b : Bool), Dom (slotsM r c s).length D →
    Ev (fun k => spec_Prune.l0 k (inM (crossM r c s) ((slotsM r c s).drop i) i D b).1 (slotsM r c s) (crossM r c s) (inM (crossM r c s) ((slotsM r c s).drop i) i D b).2) ρ → Ev (fun k => spec_Prune.l1 k D (slotsM r c s) (crossM r c s) b i) ρ := by
  have hsl := slotsM_length r c s
  refine down (slotsM r c s).length ?_ ?_
  · intro i h hi D b hD hρ
    rw [List.drop_eq_nil_of_le h] at hρ
    apply ev_succ
    simp only [spec_Prune.l1]
    exact ev_neg (by rw [hD.1]; omega) hρ
  · intro i h ih hi D b hD hρ
    rw [List.drop_eq_getElem_cons h, inM_cons] at hρ
    apply ev_succ
    simp only [spec_Prune.l1]
    refine ev_pos (by rw [hD.1]; omega) (spec_Prune_l2_ev r c s D b i ρ hD h _ rfl ?_ 0 (by omega) [] (by simp) (by simp))
    by_cases hc : (keepM (crossM r c s) D i (slotsM r c s)[i].f3 (D.getD i [])).length < (D.getD i []).length
    · rw [if_pos hc] at hρ
      exact ev_pos hc (ih (by omega) _ _ (hD.set _ _ _) hρ)
    · rw [if_neg hc] at hρ
      exact ev_neg hc (ih (by omega) _ _ hD hρ)
theorem spec_Prune_l0_ev (r c : Int) (s : ByteArray) : ∀ (n : Nat) (D : List (List ByteArray)), sumL D < n → Dom (slotsM r c s).length D → Ev (fun k => spec_Prune.l0 k D (slotsM r c s) (crossM r c s) true) (outM (crossM r c s) (slotsM r c s) n D)
  | 0, D, h, _ => by omega
  | n + 1, D, h, hD => by
    obtain ⟨h1, h2, h3⟩ := inM_facts (crossM r c s) (slotsM r c s) 0 D false hD (by omega)
    apply ev_succ
    simp only [spec_Prune.l0, outM_succ]
    refine ev_pos (by simp) (spec_Prune_l1_ev r c s _ 0 (by omega) D false hD ?_)
    rw [List.drop_zero]
    by_cases hb : (inM (crossM r c s) (slotsM r c s) 0 D false).2 = true
    · rw [if_pos hb, hb]
      refine spec_Prune_l0_ev r c s n _ ?_ h1
      rcases h3 hb with h4 | h4
      · cases h4
      · omega
    · rw [if_neg hb]
      rw [Bool.not_eq_true] at hb
      rw [hb]
      apply ev_succ
      simp only [spec_Prune.l0]
      exact ev_neg (by simp) (ev_now rfl)
theorem spec_Prune_ev (r c : Int) (s : ByteArray) (D : List (List ByteArray)) (hs : s.size ≤ 1048576) (hl : D.length ≤ 1048576) (hD : Dom D.length D) : Ev (fun k => spec_Prune.f k r c s D) (pruneM r c s D) := by
  unfold spec_Prune.f pruneM
  refine ev_bind (spec_l12Copy_ev D hl (fun d hd => (hD.2 d hd).1)) (ev_bind (spec_SlotsOf_ev r c s hs) ?_)
  by_cases h : D.length = (slotsM r c s).length
  · rw [if_pos h]
    exact ev_pos (by omega) (ev_bind (spec_CrossingsOf_ev r c s hs) (spec_Prune_l0_ev r c s _ D (by omega) (h ▸ hD)))
  · rw [if_neg h]
    exact ev_neg (by omega) (ev_now rfl)

/-! ### sz -/
def szM (s : ByteArray) : Int := if s.size ≤ 1048576 then 1048576 - s.size else -1
theorem laws_szGrid_eq (r c : Int) (s : ByteArray) (hs : s.size ≤ 9223372036854775807) : laws_szGrid.f r c s 1048576 = some (szM s) := by
  unfold laws_szGrid.f szM
  rw [wrap64_id (by omega) (by omega)]
  by_cases h : s.size ≤ 1048576
  · rw [if_neg (by omega), if_pos h]
  · rw [if_pos (by omega), if_neg h]

/-! ### the law -/
theorem FnExactPrune (r c : Int) (s : ByteArray) (l : List (List ByteArray)) (_ : -9223372036854775808 ≤ r ∧ r ≤ 9223372036854775807) (_ : -9223372036854775808 ≤ c ∧ c ≤ 9223372036854775807) (hs : s.size ≤ 9223372036854775807) (hl : l.length ≤ 9223372036854775807) (hx : ∀ x ∈ l, (∀ s ∈ x, s.size ≤ maxLen) ∧ x.length ≤ maxLen) : ∃ k, laws_FnExactPrune.f k r c s l = some true := by
  unfold maxLen at hx
  apply Ev.rounds
  unfold laws_FnExactPrune.f
  refine ev_let (laws_szGrid_eq r c s hs) ?_
  by_cases hc : s.size ≤ 1048576
  · have hz : szM s = 1048576 - (s.size : Int) := by simp [szM, hc]
    obtain ⟨y, hy, h1⟩ := laws_szStringSS_ev l hl hx (szM s) (by omega) (by omega)
    refine ev_neg (by omega) (ev_bind hy ?_)
    rcases h1 with h1 | h1
    · exact ev_pos h1 (ev_now rfl)
    · have hl : l.length ≤ 1048576 := by omega
      have hD : Dom l.length l := ⟨rfl, fun d hd => ⟨by have := mem_totals hd; omega, fun w hw => by have := mem_totals hd; have := mem_total hw; omega⟩⟩
      have hxl : ∀ x ∈ l, x.length ≤ 1048576 := fun x h => (hD.2 x h).1
      obtain ⟨hP, hsum⟩ := pruneM_facts (r := r) (c := c) (s := s) hD
      have hPl : (pruneM r c s l).length ≤ 1048576 := by rw [hP.1]; exact hl
      have hPr : ∀ x ∈ pruneM r c s l, x.length ≤ 1048576 := fun x h => (hP.2 x h).1
      have hcm : sumL l ≤ 1048576 := by have := sumL_le l; omega
      have ht := laws_toStringSS_ev l hl hxl
      obtain ⟨y1, q1, hq1, hm1, hh1⟩ := laws_markStringSS_ev (pruneM r c s l) hPl hPr (by unfold sumL at *; omega)
      obtain ⟨y2, q2, hq2, hm2, hh2⟩ := laws_markStringSS_ev l hl hxl (by unfold sumL at *; omega)
      refine ev_neg (by omega) ?_
      unfold laws_FnExactPrune.g
      exact ev_let rfl (ev_bind ht (ev_bind (spec_Prune_ev r c s l hc hl hD) (ev_bind (impl_Prune_ev r c s l hc hl hD) (ev_bind (laws_eqStringSS_ev _ _ (by omega) (fun x h => by have := hPr x h; omega)) (ev_bind (laws_eqStringSS_ev l l (by omega) (fun x h => by have := hxl x h; omega)) (ev_bind hm2 (ev_bind hm1 (ev_bind hh1 (ev_pos (by simp; omega) (ev_now rfl))))))))))
  · exact ev_pos (by simp [szM, hc]) (ev_now rfl)

end Go.Proofs.Ytachbhggeibciaa.Pure
