
/-
  The law FnPruned over numbers and lists: for every code, pruning strikes only what is in no solution, and leaves only what all crossings support.
  Conditions: none.
-/
import Derived.Test.YtodcckiphdnjeaaQFnPrunedx
import Derived.Lib.Join
import Derived.Lib.SplitLaws
namespace Go.Proofs.Ytodcckiphdnjeaa.Pure
open Go.RowKit Go.Proofs.Ytodcckiphdnjeaa.QFnPruned Go.Proofs.YtodcckiphdnjeaaW.PrintWords Go.Proofs.YtodcckiphdnjeaaW.PrintLast Go.Proofs.YtodcckiphdnjeaaW.PrintMore
set_option linter.unusedVariables false
set_option linter.unusedSimpArgs false

/-! ### base -/
theorem wrap64_id {n : Int} (h : -9223372036854775808 ≤ n) (h' : n ≤ 9223372036854775807) : wrap64 n = n := by
  unfold wrap64
  omega
section
variable {α β : Type}
theorem ev_succ {g : Nat → Option α} {r : α} (h : Ev (fun k => g (k + 1)) r) : Ev g r := Ev.step (fun _ => rfl) h
theorem ev_pos {c : Prop} [Decidable c] {g f : Nat → Option α} {r : α} (h : c) (k : Ev g r) : Ev (fun n => if c then g n else f n) r := by
  simpa only [if_pos h] using k
theorem ev_neg {c : Prop} [Decidable c] {g f : Nat → Option α} {r : α} (h : ¬ c) (k : Ev f r) : Ev (fun n => if c then g n else f n) r := by
  simpa only [if_neg h] using k
theorem ev_now {a r : α} (h : a = r) : Ev (fun _ => some a) r := h ▸ Ev.now a
theorem ev_let {o : Option β} {a : β} {f : Nat → β → Option α} {r : α} (h : o = some a) (k : Ev (fun n => f n a) r) : Ev (fun n => o.bind (f n)) r := by
  subst h
  exact k
theorem ev_bind {g : Nat → Option β} {f : Nat → β → Option α} {a : β} {r : α} (h : Ev g a) (k : Ev (fun n => f n a) r) : Ev (fun n => (g n).bind (f n)) r := Ev.bind h k
theorem ev_eq {g : Nat → Option α} {a r : α} (h : Ev g a) (e : a = r) : Ev g r := e ▸ h
end
/-- From the end of a loop back to a round: P holds from n on, and a round below n may use the next. -/
theorem down {P : Nat → Prop} (n : Nat) (hend : ∀ i, n ≤ i → P i) (hstep : ∀ i, i < n → P (i + 1) → P i) : ∀ i, P i := by
  intro i
  rcases Nat.lt_or_ge i n with h | h
  · obtain ⟨d, hd⟩ : ∃ d, n = i + d := ⟨n - i, by omega⟩
    induction d generalizing i with
    | zero => omega
    | succ d ih =>
      refine hstep i h ?_
      rcases Nat.lt_or_ge (i + 1) n with h1 | h1
      · exact ih (i + 1) h1 (by omega)
      · exact hend _ h1
  · exact hend i h
theorem range_cons {i n : Nat} (h : i < n) : List.range' i (n - i) = i :: List.range' (i + 1) (n - (i + 1)) := by
  obtain ⟨d, hd⟩ : ∃ d, n - i = d + 1 := ⟨n - i - 1, by omega⟩
  rw [hd, List.range'_succ, show n - (i + 1) = d by omega]
theorem range_nil {i n : Nat} (h : n ≤ i) : List.range' i (n - i) = [] := by
  rw [show n - i = 0 by omega]
  rfl
theorem succ_cast (i : Nat) : ((i : Int) + 1) = ((i + 1 : Nat) : Int) := by omega

/-! ### lists -/
theorem rdOf_get {α : Type} {d : α} {l : List α} {i : Nat} (h : i < l.length) : rdOf d l (i : Int) = l[i] := by
  unfold rdOf
  simp [h]
theorem rd_get {l : List Int} {i : Nat} (h : i < l.length) : rd l (i : Int) = l[i] := by
  unfold rd
  simp [h]
theorem toList_eq (s : ByteArray) : s.toList = s.data.toList := Go.ByteArray.toList_eq s
instance lawfulBA : LawfulBEq ByteArray where
  eq_of_beq {a b} h := ByteArray.ext (eq_of_beq (α := Array UInt8) h)
  rfl {a} := by
    show (a.data == a.data) = true
    simp
theorem toList_inj {a b : ByteArray} : a.toList = b.toList ↔ a = b := by
  constructor
  · intro h
    rw [toList_eq, toList_eq] at h
    cases a
    cases b
    simp only [ByteArray.mk.injEq]
    exact Array.toList_inj.1 h
  · intro h
    rw [h]
/-! ### word -/
/-- A byte is a small letter. -/
def isL (c : Int) : Bool := decide (97 ≤ c ∧ c ≤ 122)
/-- A word: one to eight small letters. -/
def wordM (s : ByteArray) : Bool := decide (1 ≤ s.size ∧ s.size ≤ 8) && (List.range' 0 (s.size - 0)).all fun j => isL (bt s j)
theorem spec_l1In_eq (a b c : Int) : spec_l1In.f a b c = some (decide (b ≤ a ∧ a ≤ c)) := by
  unfold spec_l1In.f
  by_cases h : b ≤ a
  · rw [if_pos h]; simp [h]
  · rw [if_neg h]; simp [h]
theorem impl_InRange_eq (a b c : Int) : impl_InRange.f a b c = some (decide (b ≤ a ∧ a ≤ c)) := by
  unfold impl_InRange.f
  by_cases h : b ≤ a
  · rw [if_pos h]; simp [h]
  · rw [if_neg h]; simp [h]
theorem impl_isLetter_eq (c : Int) : impl_isLetter.f c = some (isL c) := by
  unfold impl_isLetter.f isL
  by_cases h : c ≥ 97
  · rw [if_pos h]; congr 1; simp; omega
  · rw [if_neg h]; congr 1; simp; omega
theorem spec_IsWord_l0_ev (s : ByteArray) (hs : s.size ≤ 140737488351232) : ∀ i : Nat, i ≤ s.size → Ev (fun k => spec_IsWord.l0 k s i) ((List.range' i (s.size - i)).all fun j => isL (bt s j)) := by
  refine down s.size ?_ ?_
  · intro i h hi
    apply ev_succ
    simp only [spec_IsWord.l0]
    refine ev_neg (by omega) (ev_now ?_)
    rw [range_nil h]; rfl
  · intro i h ih hi
    apply ev_succ
    simp only [spec_IsWord.l0]
    rw [range_cons h, List.all_cons, wrap64_id (by omega) (by omega), succ_cast]
    refine ev_pos (by omega) (ev_pos (by omega) ?_)
    by_cases h1 : bt s i < 97
    · exact ev_pos h1 (ev_now (by simp [isL]; omega))
    · refine ev_neg h1 ?_
      by_cases h2 : bt s i > 122
      · exact ev_pos h2 (ev_now (by simp [isL]; omega))
      · refine ev_neg h2 (ev_eq (ih (by omega)) ?_)
        rw [show isL (bt s i) = true by simp [isL]; omega, Bool.true_and]
theorem impl_IsWord_l0_ev (s : ByteArray) (hs : s.size ≤ 140737488351232) : ∀ i : Nat, i ≤ s.size → Ev (fun k => impl_IsWord.l0 k s s.size i) ((List.range' i (s.size - i)).all fun j => isL (bt s j)) := by
  refine down s.size ?_ ?_
  · intro i h hi
    apply ev_succ
    simp only [impl_IsWord.l0]
    refine ev_neg (by omega) (ev_now ?_)
    rw [range_nil h]; rfl
  · intro i h ih hi
    apply ev_succ
    simp only [impl_IsWord.l0]
    rw [range_cons h, List.all_cons, wrap64_id (by omega) (by omega), succ_cast]
    refine ev_pos (by omega) (ev_pos (by omega) (ev_pos (by omega) (ev_let (impl_isLetter_eq _) ?_)))
    cases isL (bt s i)
    · exact ev_neg (by simp) (ev_now (by simp))
    · exact ev_pos rfl (ev_eq (ih (by omega)) (by simp))
theorem spec_IsWord_ev (s : ByteArray) (hs : s.size ≤ 140737488351232) : Ev (fun k => spec_IsWord.f k s) (wordM s) := by
  simp only [spec_IsWord.f]
  refine ev_let (spec_l1In_eq _ _ _) ?_
  by_cases h : 1 ≤ s.size ∧ s.size ≤ 8
  · refine ev_pos (by simp; omega) (ev_eq (spec_IsWord_l0_ev s hs 0 (by omega)) ?_)
    simp [wordM, h]
  · refine ev_neg (by simp; omega) (ev_now ?_)
    simp [wordM, h]
theorem impl_IsWord_ev (s : ByteArray) (hs : s.size ≤ 140737488351232) : Ev (fun k => impl_IsWord.f k s) (wordM s) := by
  simp only [impl_IsWord.f]
  refine ev_let (impl_InRange_eq _ _ _) ?_
  by_cases h : 1 ≤ s.size ∧ s.size ≤ 8
  · refine ev_pos (by simp; omega) (ev_eq (impl_IsWord_l0_ev s hs 0 (by omega)) ?_)
    simp [wordM, h]
  · refine ev_neg (by simp; omega) (ev_now ?_)
    simp [wordM, h]
/-! ### grid -/
/-- A cell's sign. -/
def isC (c : Int) : Bool := decide (c = 35) || decide (c = 46)
/-- A grid: 2 to 6 rows and columns, its cells black or white. -/
def gridM (r c : Int) (s : ByteArray) : Bool := decide (2 ≤ r ∧ r ≤ 6) && decide (2 ≤ c ∧ c ≤ 6) && decide ((s.size : Int) = r * c) && (List.range' 0 (s.size - 0)).all fun j => isC (bt s j)
theorem gridM_nat {r c : Int} {s : ByteArray} (h : gridM r c s = true) : ∃ R C : Nat, r = R ∧ c = C ∧ 2 ≤ R ∧ R ≤ 6 ∧ 2 ≤ C ∧ C ≤ 6 ∧ s.size = R * C := by
  simp only [gridM, Bool.and_eq_true, decide_eq_true_eq] at h
  obtain ⟨⟨⟨hr, hc⟩, hs⟩, _⟩ := h
  obtain ⟨R, rfl⟩ := Int.eq_ofNat_of_zero_le (show 0 ≤ r by omega)
  obtain ⟨C, rfl⟩ := Int.eq_ofNat_of_zero_le (show 0 ≤ c by omega)
  exact ⟨R, C, rfl, rfl, by omega, by omega, by omega, by omega, by exact_mod_cast hs⟩
theorem bounds36 {R C : Nat} (hR : R ≤ 6) (hC : C ≤ 6) : R * C ≤ 36 := Nat.mul_le_mul hR hC
theorem spec_IsGrid_l0_ev (r c : Int) (s : ByteArray) (hs : s.size ≤ 140737488351232) : ∀ i : Nat, i ≤ s.size → Ev (fun k => spec_IsGrid.l0 k i r c s) ((List.range' i (s.size - i)).all fun j => isC (bt s j)) := by
  refine down s.size ?_ ?_
  · intro i h hi
    apply ev_succ
    simp only [spec_IsGrid.l0]
    refine ev_neg (by omega) (ev_now ?_)
    rw [range_nil h]; rfl
  · intro i h ih hi
    apply ev_succ
    simp only [spec_IsGrid.l0]
    rw [range_cons h, List.all_cons, wrap64_id (by omega) (by omega), succ_cast]
    refine ev_pos (by omega) (ev_pos (by omega) ?_)
    by_cases h1 : bt s i = 35
    · exact ev_pos h1 (ev_eq (ih (by omega)) (by simp [isC, h1]))
    · refine ev_neg h1 ?_
      by_cases h2 : bt s i = 46
      · exact ev_pos h2 (ev_eq (ih (by omega)) (by simp [isC, h2]))
      · exact ev_neg h2 (ev_now (by simp [isC, h1, h2]))
theorem impl_IsGrid_l0_ev (r c : Int) (s : ByteArray) (hs : s.size ≤ 140737488351232) : ∀ i : Nat, i ≤ s.size → Ev (fun k => impl_IsGrid.l0 k s.size i r c s) ((List.range' i (s.size - i)).all fun j => isC (bt s j)) := by
  refine down s.size ?_ ?_
  · intro i h hi
    apply ev_succ
    simp only [impl_IsGrid.l0]
    refine ev_neg (by omega) (ev_now ?_)
    rw [range_nil h]; rfl
  · intro i h ih hi
    apply ev_succ
    simp only [impl_IsGrid.l0]
    rw [range_cons h, List.all_cons, wrap64_id (by omega) (by omega), succ_cast]
    refine ev_pos (by omega) (ev_pos (by omega) (ev_pos (by omega) ?_))
    by_cases h1 : bt s i = 35
    · exact ev_pos h1 (ev_eq (ih (by omega)) (by simp [isC, h1]))
    · refine ev_neg h1 ?_
      by_cases h2 : bt s i = 46
      · exact ev_pos h2 (ev_eq (ih (by omega)) (by simp [isC, h2]))
      · exact ev_neg h2 (ev_now (by simp [isC, h1, h2]))
theorem wrap_mul {r c : Int} (hr : 2 ≤ r ∧ r ≤ 6) (hc : 2 ≤ c ∧ c ≤ 6) : wrap64 (r * c) = r * c := by
  have h1 : 0 ≤ r * c := Int.mul_nonneg (by omega) (by omega)
  have h2 : r * c ≤ 6 * 6 := Int.mul_le_mul hr.2 hc.2 (by omega) (by omega)
  exact wrap64_id (by omega) (by omega)
theorem spec_IsGrid_ev (r c : Int) (s : ByteArray) (hs : s.size ≤ 140737488351232) : Ev (fun k => spec_IsGrid.f k r c s) (gridM r c s) := by
  unfold spec_IsGrid.f
  refine ev_let (spec_l1In_eq _ _ _) ?_
  by_cases hr : 2 ≤ r ∧ r ≤ 6
  · refine ev_pos (by simpa using hr) (ev_let (spec_l1In_eq _ _ _) ?_)
    by_cases hc : 2 ≤ c ∧ c ≤ 6
    · refine ev_pos (by simpa using hc) ?_
      rw [wrap_mul hr hc]
      apply ev_succ
      simp only [spec_IsGrid.j0]
      by_cases hn : (s.size : Int) = r * c
      · refine ev_neg (by simp [hn]) (ev_eq (spec_IsGrid_l0_ev r c s hs 0 (by omega)) ?_)
        simp [gridM, hr, hc, hn]
      · exact ev_pos (by simp [hn]) (ev_now (by simp [gridM, hn]))
    · refine ev_neg (by simpa using hc) (ev_succ ?_)
      simp only [spec_IsGrid.j0]
      exact ev_pos (by simp) (ev_now (by simp [gridM, hc]))
  · refine ev_neg (by simpa using hr) (ev_succ ?_)
    simp only [spec_IsGrid.j0]
    exact ev_pos (by simp) (ev_now (by simp [gridM, hr]))
theorem impl_IsGrid_ev (r c : Int) (s : ByteArray) (hs : s.size ≤ 140737488351232) : Ev (fun k => impl_IsGrid.f k r c s) (gridM r c s) := by
  unfold impl_IsGrid.f
  refine ev_let (impl_InRange_eq _ _ _) ?_
  by_cases hr : 2 ≤ r ∧ r ≤ 6
  · refine ev_pos (by simpa using hr) (ev_let (impl_InRange_eq _ _ _) ?_)
    by_cases hc : 2 ≤ c ∧ c ≤ 6
    · refine ev_pos (by simpa using hc) ?_
      rw [wrap_mul hr hc]
      apply ev_succ
      simp only [impl_IsGrid.j0]
      by_cases hn : (s.size : Int) = r * c
      · refine ev_neg (by simp [hn]) (ev_eq (impl_IsGrid_l0_ev r c s hs 0 (by omega)) ?_)
        simp [gridM, hr, hc, hn]
      · exact ev_pos (by simp [hn]) (ev_now (by simp [gridM, hn]))
    · refine ev_neg (by simpa using hc) (ev_succ ?_)
      simp only [impl_IsGrid.j0]
      exact ev_pos (by simp) (ev_now (by simp [gridM, hc]))
  · refine ev_neg (by simpa using hr) (ev_succ ?_)
    simp only [impl_IsGrid.j0]
    exact ev_pos (by simp) (ev_now (by simp [gridM, hr]))

/-! ### slots -/
/-- How many cells follow one another from a cell on, white ones, at most m. -/
def runLen (s : ByteArray) (step : Nat) : Nat → Nat → Nat
  | _, 0 => 0
  | i, m + 1 => if bt s i = 46 then 1 + runLen s step (i + step) m else 0
def stepM (C : Nat) (dn : Bool) : Nat := if dn then C else 1
def atM (C : Nat) (dn : Bool) (i : Nat) : Nat := if dn then i / C else i % C
def mostM (R C : Nat) (dn : Bool) : Nat := if dn then R else C
/-- The length of the part of white cells that begins at a cell; 0 if none begins there. -/
def runM (R C : Nat) (s : ByteArray) (i : Nat) (dn : Bool) : Nat :=
  if bt s i = 46 ∧ ¬ (0 < atM C dn i ∧ bt s (i - stepM C dn : Nat) = 46) then runLen s (stepM C dn) i (mostM R C dn - atM C dn i) else 0
theorem runLen_le (s : ByteArray) (step : Nat) : ∀ m i, runLen s step i m ≤ m
  | 0, _ => Nat.le_refl _
  | m + 1, i => by
    unfold runLen
    split
    · have := runLen_le s step m (i + step)
      omega
    · omega
theorem cell_lt {R C : Nat} {i j : Nat} {dn : Bool} (hC : 0 < C) (hi : i < R * C) (hj : atM C dn i + j < mostM R C dn) : i + j * stepM C dn < R * C := by
  cases dn with
  | true =>
    simp only [atM, mostM, stepM, if_true] at hj ⊢
    have h1 := Nat.div_add_mod i C
    have h2 := Nat.mod_lt i hC
    have h3 : C * (i / C + j + 1) ≤ C * R := Nat.mul_le_mul_left _ (by omega)
    rw [Nat.mul_comm R C]
    rw [Nat.mul_add, Nat.mul_add, Nat.mul_one] at h3
    rw [Nat.mul_comm j C]
    omega
  | false =>
    simp only [atM, mostM, stepM, Bool.false_eq_true, if_false] at hj ⊢
    have h1 := Nat.div_add_mod i C
    have h4 : i / C < R := (Nat.div_lt_iff_lt_mul hC).2 hi
    have h3 : C * (i / C + 1) ≤ C * R := Nat.mul_le_mul_left _ h4
    rw [Nat.mul_comm R C]
    rw [Nat.mul_add, Nat.mul_one] at h3
    omega
theorem mul_bound {j C : Nat} (hj : j ≤ 6) (hC : C ≤ 6) : j * C ≤ 36 := Nat.mul_le_mul hj hC
theorem stepM_le {C : Nat} (hC : C ≤ 6) (h0 : 0 < C) (dn : Bool) : 1 ≤ stepM C dn ∧ stepM C dn ≤ 6 := by
  unfold stepM
  split <;> omega
theorem mostM_le {R C : Nat} (hR : R ≤ 6) (hC : C ≤ 6) (dn : Bool) : mostM R C dn ≤ 6 := by
  unfold mostM
  split <;> omega
theorem spec_l8From_l0_ev (R C : Nat) (s : ByteArray) (r c : Int) (hR : R ≤ 6) (hC : C ≤ 6) (h0 : 0 < C) (hs : s.size = R * C) (i : Nat) (dn : Bool) (hi : i < R * C) : ∀ n : Nat, atM C dn i + n ≤ mostM R C dn →
    Ev (fun k => spec_l8From.l0 k i (stepM C dn) (atM C dn i) (mostM R C dn) n r c s) (n + runLen s (stepM C dn) (i + n * stepM C dn) (mostM R C dn - atM C dn i - n) : Nat) := by
  have hm := mostM_le hR hC dn
  have hst := stepM_le hC h0 dn
  have h36 := bounds36 hR hC
  refine down (mostM R C dn - atM C dn i) ?_ ?_
  · intro n h hn
    apply ev_succ
    simp only [spec_l8From.l0]
    rw [wrap64_id (n := (atM C dn i : Int) + n) (by omega) (by omega)]
    refine ev_neg (by omega) (ev_now ?_)
    rw [show mostM R C dn - atM C dn i - n = 0 by omega]
    rfl
  · intro n h ih hn
    have hlt := cell_lt h0 hi (show atM C dn i + n < mostM R C dn by omega)
    have hb := mul_bound (show n ≤ 6 by omega) (show stepM C dn ≤ 6 by omega)
    have hcast : ((n : Int) * (stepM C dn : Int)) = ((n * stepM C dn : Nat) : Int) := by rw [Int.natCast_mul]
    apply ev_succ
    simp only [spec_l8From.l0]
    rw [wrap64_id (n := (atM C dn i : Int) + n) (by omega) (by omega), hcast, wrap64_id (n := ((n * stepM C dn : Nat) : Int)) (by omega) (by omega), wrap64_id (n := (i : Int) + _) (by omega) (by omega), wrap64_id (n := (n : Int) + 1) (by omega) (by omega), succ_cast]
    rw [show mostM R C dn - atM C dn i - n = (mostM R C dn - atM C dn i - (n + 1)) + 1 by omega]
    unfold runLen
    rw [show ((i : Int) + ((n * stepM C dn : Nat) : Int)) = ((i + n * stepM C dn : Nat) : Int) by omega]
    refine ev_pos (by omega) (ev_pos (by omega) (ev_pos (by omega) ?_))
    by_cases hw : bt s (i + n * stepM C dn : Nat) = 46
    · rw [if_pos hw]
      refine ev_pos hw (ev_eq (ih (by omega)) ?_)
      rw [show i + (n + 1) * stepM C dn = i + n * stepM C dn + stepM C dn by rw [Nat.add_mul, Nat.one_mul, Nat.add_assoc]]
      omega
    · rw [if_neg hw]
      exact ev_neg hw (ev_now (by simp))
theorem spec_l8From_ev (R C : Nat) (s : ByteArray) (hR : R ≤ 6) (hC : C ≤ 6) (h0 : 0 < C) (hs : s.size = R * C) (i : Nat) (dn : Bool) (hi : i < R * C) :
    Ev (fun k => spec_l8From.f k R C s i dn) (runM R C s i dn : Nat) := by
  have hst := stepM_le hC h0 dn
  have h36 := bounds36 hR hC
  have hl0 := spec_l8From_l0_ev R C s R C hR hC h0 hs i dn hi 0
  have key : Ev (fun k => spec_l8From.j0 k i (stepM C dn) (atM C dn i) (mostM R C dn) R C s) (runM R C s i dn : Nat) := by
    have hat : atM C dn i ≤ i ∧ (0 < atM C dn i → stepM C dn ≤ i) ∧ atM C dn i ≤ mostM R C dn := by
      cases dn with
      | true =>
        simp only [atM, stepM, mostM, if_true]
        refine ⟨Nat.div_le_self _ _, fun h => ?_, ?_⟩
        · exact (Nat.div_pos_iff.1 h).2
        · exact Nat.le_of_lt ((Nat.div_lt_iff_lt_mul h0).2 hi)
      | false =>
        simp only [atM, stepM, mostM, Bool.false_eq_true, if_false]
        have := Nat.mod_le i C
        have := Nat.mod_lt i h0
        omega
    have hj1 : ∀ b : Bool, (b = true → Ev (fun k => spec_l8From.j1 k i (stepM C dn) (atM C dn i) (mostM R C dn) b R C s) 0) ∧
        (b = false → Ev (fun k => spec_l8From.j1 k i (stepM C dn) (atM C dn i) (mostM R C dn) b R C s) (runLen s (stepM C dn) i (mostM R C dn - atM C dn i) : Nat)) := by
      intro b
      refine ⟨fun hb => ?_, fun hb => ?_⟩
      · apply ev_succ
        simp only [spec_l8From.j1]
        exact ev_pos hb (ev_now rfl)
      · apply ev_succ
        simp only [spec_l8From.j1]
        exact ev_neg (by simp [hb]) (by simpa using hl0 (by omega))
    apply ev_succ
    simp only [spec_l8From.j0]
    refine ev_pos (by omega) (ev_pos (by omega) ?_)
    unfold runM
    by_cases hw : bt s i = 46
    · refine ev_pos hw ?_
      by_cases ha : 0 < atM C dn i
      · have h2 := hat.2.1 ha
        rw [wrap64_id (n := (i : Int) - _) (by omega) (by omega), show ((i : Int) - (stepM C dn : Nat)) = ((i - stepM C dn : Nat) : Int) by omega]
        refine ev_pos (by omega) (ev_pos (by omega) (ev_pos (by omega) ?_))
        by_cases hp : bt s (i - stepM C dn : Nat) = 46
        · rw [if_neg (by simp [ha, hp])]
          exact (hj1 _).1 (by simp [hp])
        · rw [if_pos ⟨hw, fun x => hp x.2⟩]
          exact (hj1 _).2 (by simp [hp])
      · rw [if_pos ⟨hw, fun x => ha x.1⟩]
        exact ev_neg (by omega) ((hj1 false).2 rfl)
    · rw [if_neg (fun x => hw x.1)]
      exact ev_neg hw ((hj1 true).1 rfl)
  unfold spec_l8From.f
  refine ev_neg (by omega) ?_
  cases dn with
  | true =>
    refine ev_pos rfl ?_
    have e : Int.tdiv (i : Int) (C : Int) = ((i / C : Nat) : Int) := Int.ofNat_tdiv i C |>.symm
    have hd := Nat.div_le_self i C
    have hq := Int.natCast_nonneg (i / C)
    rw [e, wrap64_id (by omega) (by omega)]
    simpa only [stepM, atM, mostM, if_true] using key
  | false =>
    refine ev_neg (by simp) ?_
    have e : Int.tmod (i : Int) (C : Int) = ((i % C : Nat) : Int) := Int.ofNat_tmod i C |>.symm
    rw [e]
    simpa [stepM, atM, mostM] using key

theorem impl_run_l0_ev (R C : Nat) (s : ByteArray) (r c : Int) (hR : R ≤ 6) (hC : C ≤ 6) (h0 : 0 < C) (hs : s.size = R * C) (i : Nat) (dn : Bool) (hi : i < R * C) : ∀ n : Nat, atM C dn i + n ≤ mostM R C dn →
    Ev (fun k => impl_run.l0 k i (stepM C dn) (atM C dn i) (mostM R C dn) n r c s) (n + runLen s (stepM C dn) (i + n * stepM C dn) (mostM R C dn - atM C dn i - n) : Nat) := by
  have hm := mostM_le hR hC dn
  have hst := stepM_le hC h0 dn
  have h36 := bounds36 hR hC
  refine down (mostM R C dn - atM C dn i) ?_ ?_
  · intro n h hn
    apply ev_succ
    simp only [impl_run.l0]
    rw [wrap64_id (n := (atM C dn i : Int) + n) (by omega) (by omega)]
    refine ev_neg (by omega) (ev_now ?_)
    rw [show mostM R C dn - atM C dn i - n = 0 by omega]
    rfl
  · intro n h ih hn
    have hlt := cell_lt h0 hi (show atM C dn i + n < mostM R C dn by omega)
    have hb := mul_bound (show n ≤ 6 by omega) (show stepM C dn ≤ 6 by omega)
    have hcast : ((n : Int) * (stepM C dn : Int)) = ((n * stepM C dn : Nat) : Int) := by rw [Int.natCast_mul]
    apply ev_succ
    simp only [impl_run.l0]
    rw [wrap64_id (n := (atM C dn i : Int) + n) (by omega) (by omega), hcast, wrap64_id (n := ((n * stepM C dn : Nat) : Int)) (by omega) (by omega), wrap64_id (n := (i : Int) + _) (by omega) (by omega), wrap64_id (n := (n : Int) + 1) (by omega) (by omega), succ_cast]
    rw [show mostM R C dn - atM C dn i - n = (mostM R C dn - atM C dn i - (n + 1)) + 1 by omega]
    unfold runLen
    rw [show ((i : Int) + ((n * stepM C dn : Nat) : Int)) = ((i + n * stepM C dn : Nat) : Int) by omega]
    refine ev_pos (by omega) (ev_pos (by omega) (ev_pos (by omega) ?_))
    by_cases hw : bt s (i + n * stepM C dn : Nat) = 46
    · rw [if_pos hw]
      refine ev_pos hw (ev_eq (ih (by omega)) ?_)
      rw [show i + (n + 1) * stepM C dn = i + n * stepM C dn + stepM C dn by rw [Nat.add_mul, Nat.one_mul, Nat.add_assoc]]
      omega
    · rw [if_neg hw]
      exact ev_neg hw (ev_now (by simp))
theorem impl_run_ev (R C : Nat) (s : ByteArray) (hR : R ≤ 6) (hC : C ≤ 6) (h0 : 0 < C) (hs : s.size = R * C) (i : Nat) (dn : Bool) (hi : i < R * C) :
    Ev (fun k => impl_run.f k R C s i dn) (runM R C s i dn : Nat) := by
  have hst := stepM_le hC h0 dn
  have h36 := bounds36 hR hC
  have hl0 := impl_run_l0_ev R C s R C hR hC h0 hs i dn hi 0
  have key : Ev (fun k => impl_run.j0 k i (stepM C dn) (atM C dn i) (mostM R C dn) R C s) (runM R C s i dn : Nat) := by
    have hat : atM C dn i ≤ i ∧ (0 < atM C dn i → stepM C dn ≤ i) ∧ atM C dn i ≤ mostM R C dn := by
      cases dn with
      | true =>
        simp only [atM, stepM, mostM, if_true]
        refine ⟨Nat.div_le_self _ _, fun h => ?_, ?_⟩
        · exact (Nat.div_pos_iff.1 h).2
        · exact Nat.le_of_lt ((Nat.div_lt_iff_lt_mul h0).2 hi)
      | false =>
        simp only [atM, stepM, mostM, Bool.false_eq_true, if_false]
        have := Nat.mod_le i C
        have := Nat.mod_lt i h0
        omega
    have hj1 : ∀ b : Bool, (b = true → Ev (fun k => impl_run.j1 k i (stepM C dn) (atM C dn i) (mostM R C dn) b R C s) 0) ∧
        (b = false → Ev (fun k => impl_run.j1 k i (stepM C dn) (atM C dn i) (mostM R C dn) b R C s) (runLen s (stepM C dn) i (mostM R C dn - atM C dn i) : Nat)) := by
      intro b
      refine ⟨fun hb => ?_, fun hb => ?_⟩
      · apply ev_succ
        simp only [impl_run.j1]
        exact ev_pos hb (ev_now rfl)
      · apply ev_succ
        simp only [impl_run.j1]
        exact ev_neg (by simp [hb]) (by simpa using hl0 (by omega))
    apply ev_succ
    simp only [impl_run.j0]
    refine ev_pos (by omega) (ev_pos (by omega) ?_)
    unfold runM
    by_cases hw : bt s i = 46
    · refine ev_pos hw ?_
      by_cases ha : 0 < atM C dn i
      · have h2 := hat.2.1 ha
        rw [wrap64_id (n := (i : Int) - _) (by omega) (by omega), show ((i : Int) - (stepM C dn : Nat)) = ((i - stepM C dn : Nat) : Int) by omega]
        refine ev_pos (by omega) (ev_pos (by omega) (ev_pos (by omega) ?_))
        by_cases hp : bt s (i - stepM C dn : Nat) = 46
        · rw [if_neg (by simp [ha, hp])]
          exact (hj1 _).1 (by simp [hp])
        · rw [if_pos ⟨hw, fun x => hp x.2⟩]
          exact (hj1 _).2 (by simp [hp])
      · rw [if_pos ⟨hw, fun x => ha x.1⟩]
        exact ev_neg (by omega) ((hj1 false).2 rfl)
    · rw [if_neg (fun x => hw x.1)]
      exact ev_neg hw ((hj1 true).1 rfl)
  unfold impl_run.f
  refine ev_neg (by omega) ?_
  cases dn with
  | true =>
    refine ev_pos rfl ?_
    have e : Int.tdiv (i : Int) (C : Int) = ((i / C : Nat) : Int) := Int.ofNat_tdiv i C |>.symm
    have hd := Nat.div_le_self i C
    have hq := Int.natCast_nonneg (i / C)
    rw [e, wrap64_id (by omega) (by omega)]
    simpa only [stepM, atM, mostM, if_true] using key
  | false =>
    refine ev_neg (by simp) ?_
    have e : Int.tmod (i : Int) (C : Int) = ((i % C : Nat) : Int) := Int.ofNat_tmod i C |>.symm
    rw [e]
    simpa [stepM, atM, mostM] using key

/-! ### slotsof -/
abbrev ISlot := S65
theorem rd_Slot_get {l : List ISlot} {i : Nat} (h : i < l.length) : rd_T65 l (i : Int) = l[i] := by
  unfold rd_T65
  simp [h]
/-- The slots that begin at a cell, under a number. -/
def slotsOne (R C : Nat) (s : ByteArray) (i : Nat) (n : Int) : List ISlot :=
  (if 2 ≤ runM R C s i false then [⟨n, false, i, runM R C s i false⟩] else []) ++ (if 2 ≤ runM R C s i true then [⟨n, true, i, runM R C s i true⟩] else [])
def numOne (R C : Nat) (s : ByteArray) (i : Nat) (n : Int) : Int := if 2 ≤ runM R C s i false ∨ 2 ≤ runM R C s i true then n + 1 else n
def slotsGo (R C : Nat) (s : ByteArray) : List Nat → Int → List ISlot
  | [], _ => []
  | i :: l, n => slotsOne R C s i (numOne R C s i n) ++ slotsGo R C s l (numOne R C s i n)
/-- The slots of a grid; none of what is no grid. -/
def slotsM (r c : Int) (s : ByteArray) : List ISlot := if gridM r c s then slotsGo r.toNat c.toNat s (List.range' 0 (s.size - 0)) 0 else []
theorem slotsOne_length (R C : Nat) (s : ByteArray) (i : Nat) (n : Int) : (slotsOne R C s i n).length ≤ 2 := by
  unfold slotsOne
  split <;> split <;> simp
theorem slotsGo_length (R C : Nat) (s : ByteArray) : ∀ (l : List Nat) (n : Int), (slotsGo R C s l n).length ≤ 2 * l.length
  | [], _ => by simp [slotsGo]
  | i :: l, n => by
    unfold slotsGo
    have h1 := slotsOne_length R C s i (numOne R C s i n)
    have h2 := slotsGo_length R C s l (numOne R C s i n)
    simp only [List.length_append, List.length_cons]
    omega
theorem slotsM_length (r c : Int) (s : ByteArray) : (slotsM r c s).length ≤ 72 := by
  unfold slotsM
  split
  · rename_i h
    obtain ⟨R, C, rfl, rfl, _, hR, _, hC, hs⟩ := gridM_nat h
    have := slotsGo_length R C s (List.range' 0 (s.size - 0)) 0
    have h36 := bounds36 hR hC
    rw [List.length_range'] at this
    simp only [Int.toNat_natCast]
    omega
  · simp
theorem spec_SlotsOf_j3_ev {acc : List ISlot} {n : Int} {i a d : Nat} {r c : Int} {s : ByteArray} {ρ : List ISlot} (ha : acc.length ≤ 72) (hi : i ≤ 100)
    (h : Ev (fun k => spec_SlotsOf.l0 k (acc ++ ((if 2 ≤ a then [⟨n, false, i, a⟩] else []) ++ (if 2 ≤ d then [⟨n, true, i, d⟩] else []))) n (i + 1 : Nat) r c s) ρ) : Ev (fun k => spec_SlotsOf.j3 k acc n i a d r c s) ρ := by
  apply ev_succ
  simp only [spec_SlotsOf.j3]
  rw [wrap64_id (n := (i : Int) + 1) (by omega) (by omega), succ_cast]
  by_cases h1 : 2 ≤ a
  · rw [if_pos h1] at h
    refine ev_pos (by omega) (ev_pos (by omega) (ev_let rfl ?_))
    by_cases h2 : 2 ≤ d
    · rw [if_pos h2] at h
      exact ev_pos (by omega) (ev_pos (by simp; omega) (by simpa using h))
    · rw [if_neg h2] at h
      exact ev_neg (by omega) (by simpa using h)
  · rw [if_neg h1] at h
    refine ev_neg (by omega) ?_
    by_cases h2 : 2 ≤ d
    · rw [if_pos h2] at h
      exact ev_pos (by omega) (ev_pos (by omega) (by simpa using h))
    · rw [if_neg h2] at h
      exact ev_neg (by omega) (by simpa using h)
theorem spec_SlotsOf_l0_ev (R C : Nat) (s : ByteArray) (hR : 2 ≤ R ∧ R ≤ 6) (hC : 2 ≤ C ∧ C ≤ 6) (hg : gridM R C s = true) (hs : s.size = R * C) : ∀ i : Nat, i ≤ s.size → ∀ (acc : List ISlot) (n : Int), acc.length ≤ 2 * i → 0 ≤ n → n ≤ i →
    Ev (fun k => spec_SlotsOf.l0 k acc n i R C s) (acc ++ slotsGo R C s (List.range' i (s.size - i)) n) := by
  have h36 := bounds36 hR.2 hC.2
  refine down s.size ?_ ?_
  · intro i h hi acc n ha h0 hn
    apply ev_succ
    simp only [spec_SlotsOf.l0]
    refine ev_neg (by omega) (ev_succ ?_)
    simp only [spec_SlotsOf.j1]
    rw [range_nil h]
    exact ev_neg (by simp) (ev_now (by simp [slotsGo]))
  · intro i h ih hi acc n ha h0 hn
    apply ev_succ
    simp only [spec_SlotsOf.l0]
    refine ev_pos (by omega) (ev_bind (spec_IsGrid_ev R C s (by omega)) (ev_succ ?_))
    simp only [spec_SlotsOf.j1]
    refine ev_pos hg (ev_bind (spec_l8From_ev R C s hR.2 hC.2 (by omega) hs i false (by omega)) (ev_bind (spec_l8From_ev R C s hR.2 hC.2 (by omega) hs i true (by omega)) ?_))
    rw [range_cons h]
    unfold slotsGo
    have hnum : numOne R C s i n ≤ i + 1 ∧ 0 ≤ numOne R C s i n := by
      unfold numOne
      split <;> omega
    have hl := slotsOne_length R C s i (numOne R C s i n)
    have hnext := ih (by omega) (acc ++ slotsOne R C s i (numOne R C s i n)) (numOne R C s i n) (by simp; omega) hnum.2 (by omega)
    rw [List.append_assoc] at hnext
    have key : ∀ b : Bool, b = decide (2 ≤ runM R C s i false ∨ 2 ≤ runM R C s i true) → Ev (fun k => spec_SlotsOf.j2 k acc n i (runM R C s i false : Nat) (runM R C s i true : Nat) b R C s) (acc ++ (slotsOne R C s i (numOne R C s i n) ++ slotsGo R C s (List.range' (i + 1) (s.size - (i + 1))) (numOne R C s i n))) := by
      intro b hb
      apply ev_succ
      simp only [spec_SlotsOf.j2]
      rw [wrap64_id (n := n + 1) (by omega) (by omega)]
      by_cases hc : 2 ≤ runM R C s i false ∨ 2 ≤ runM R C s i true
      · have e : numOne R C s i n = n + 1 := if_pos hc
        rw [e] at hnext ⊢
        exact ev_pos (by rw [hb]; simpa using hc) (spec_SlotsOf_j3_ev (by omega) (by omega) hnext)
      · have e : numOne R C s i n = n := if_neg hc
        rw [e] at hnext ⊢
        exact ev_neg (by rw [hb]; simpa using hc) (spec_SlotsOf_j3_ev (by omega) (by omega) hnext)
    by_cases h1 : 2 ≤ runM R C s i false
    · exact ev_pos (by omega) (key true (decide_eq_true (.inl h1)).symm)
    · exact ev_neg (by omega) (key _ (decide_eq_decide.2 (by omega)))
theorem spec_SlotsOf_ev (r c : Int) (s : ByteArray) (hs : s.size ≤ 1048576) : Ev (fun k => spec_SlotsOf.f k r c s) (slotsM r c s) := by
  unfold spec_SlotsOf.f slotsM
  by_cases hg : gridM r c s = true
  · rw [if_pos hg]
    obtain ⟨R, C, rfl, rfl, h1, h2, h3, h4, h5⟩ := gridM_nat hg
    simpa using spec_SlotsOf_l0_ev R C s ⟨h1, h2⟩ ⟨h3, h4⟩ hg h5 0 (by omega) [] 0 (by simp) (by omega) (by omega)
  · rw [if_neg hg]
    have hj : Ev (fun k => spec_SlotsOf.j1 k [] 0 0 false r c s) [] := by
      apply ev_succ
      simp only [spec_SlotsOf.j1]
      exact ev_neg (by simp) (ev_now rfl)
    apply ev_succ
    simp only [spec_SlotsOf.l0]
    by_cases h : (0 : Int) < (s.size : Int)
    · refine ev_pos h (ev_bind (spec_IsGrid_ev r c s (by omega)) ?_)
      rw [Bool.not_eq_true] at hg
      rw [hg]
      exact hj
    · exact ev_neg h hj
theorem impl_SlotsOf_j2_ev {acc : List ISlot} {n : Int} {i a d m : Nat} {r c : Int} {s : ByteArray} {ρ : List ISlot} (ha : acc.length ≤ 72) (hi : i ≤ 100)
    (h : Ev (fun k => impl_SlotsOf.l0 k (acc ++ ((if 2 ≤ a then [⟨n, false, i, a⟩] else []) ++ (if 2 ≤ d then [⟨n, true, i, d⟩] else []))) n m (i + 1 : Nat) r c s) ρ) : Ev (fun k => impl_SlotsOf.j2 k acc n i a d m i r c s) ρ := by
  apply ev_succ
  simp only [impl_SlotsOf.j2]
  rw [wrap64_id (n := (i : Int) + 1) (by omega) (by omega), succ_cast]
  by_cases h1 : 2 ≤ a
  · rw [if_pos h1] at h
    refine ev_pos (by omega) (ev_pos (by omega) (ev_let rfl ?_))
    by_cases h2 : 2 ≤ d
    · rw [if_pos h2] at h
      exact ev_pos (by omega) (ev_pos (by simp; omega) (by simpa using h))
    · rw [if_neg h2] at h
      exact ev_neg (by omega) (by simpa using h)
  · rw [if_neg h1] at h
    refine ev_neg (by omega) ?_
    by_cases h2 : 2 ≤ d
    · rw [if_pos h2] at h
      exact ev_pos (by omega) (ev_pos (by omega) (by simpa using h))
    · rw [if_neg h2] at h
      exact ev_neg (by omega) (by simpa using h)
theorem impl_SlotsOf_l0_ev (R C : Nat) (s : ByteArray) (hR : 2 ≤ R ∧ R ≤ 6) (hC : 2 ≤ C ∧ C ≤ 6) (hs : s.size = R * C) : ∀ i : Nat, i ≤ s.size → ∀ (acc : List ISlot) (n : Int), acc.length ≤ 2 * i → 0 ≤ n → n ≤ i →
    Ev (fun k => impl_SlotsOf.l0 k acc n s.size i R C s) (acc ++ slotsGo R C s (List.range' i (s.size - i)) n) := by
  have h36 := bounds36 hR.2 hC.2
  refine down s.size ?_ ?_
  · intro i h hi acc n ha h0 hn
    apply ev_succ
    simp only [impl_SlotsOf.l0]
    rw [range_nil h]
    exact ev_neg (by omega) (ev_now (by simp [slotsGo]))
  · intro i h ih hi acc n ha h0 hn
    apply ev_succ
    simp only [impl_SlotsOf.l0]
    refine ev_pos (by omega) (ev_bind (impl_run_ev R C s hR.2 hC.2 (by omega) hs i false (by omega)) (ev_bind (impl_run_ev R C s hR.2 hC.2 (by omega) hs i true (by omega)) ?_))
    rw [range_cons h]
    unfold slotsGo
    have hnum : numOne R C s i n ≤ i + 1 ∧ 0 ≤ numOne R C s i n := by
      unfold numOne
      split <;> omega
    have hl := slotsOne_length R C s i (numOne R C s i n)
    have hnext := ih (by omega) (acc ++ slotsOne R C s i (numOne R C s i n)) (numOne R C s i n) (by simp; omega) hnum.2 (by omega)
    rw [List.append_assoc] at hnext
    have key : ∀ b : Bool, b = decide (2 ≤ runM R C s i false ∨ 2 ≤ runM R C s i true) → Ev (fun k => impl_SlotsOf.j1 k acc n i (runM R C s i false : Nat) (runM R C s i true : Nat) s.size i b R C s) (acc ++ (slotsOne R C s i (numOne R C s i n) ++ slotsGo R C s (List.range' (i + 1) (s.size - (i + 1))) (numOne R C s i n))) := by
      intro b hb
      apply ev_succ
      simp only [impl_SlotsOf.j1]
      rw [wrap64_id (n := n + 1) (by omega) (by omega)]
      by_cases hc : 2 ≤ runM R C s i false ∨ 2 ≤ runM R C s i true
      · have e : numOne R C s i n = n + 1 := if_pos hc
        rw [e] at hnext ⊢
        exact ev_pos (by rw [hb]; simpa using hc) (impl_SlotsOf_j2_ev (by omega) (by omega) hnext)
      · have e : numOne R C s i n = n := if_neg hc
        rw [e] at hnext ⊢
        exact ev_neg (by rw [hb]; simpa using hc) (impl_SlotsOf_j2_ev (by omega) (by omega) hnext)
    by_cases h1 : 2 ≤ runM R C s i false
    · exact ev_pos (by omega) (key true (decide_eq_true (.inl h1)).symm)
    · exact ev_neg (by omega) (key _ (decide_eq_decide.2 (by omega)))
theorem impl_SlotsOf_ev (r c : Int) (s : ByteArray) (hs : s.size ≤ 1048576) : Ev (fun k => impl_SlotsOf.f k r c s) (slotsM r c s) := by
  unfold impl_SlotsOf.f slotsM
  refine ev_bind (impl_IsGrid_ev r c s (by omega)) ?_
  by_cases hg : gridM r c s = true
  · rw [if_pos hg]
    obtain ⟨R, C, rfl, rfl, h1, h2, h3, h4, h5⟩ := gridM_nat hg
    exact ev_pos hg (by simpa using impl_SlotsOf_l0_ev R C s ⟨h1, h2⟩ ⟨h3, h4⟩ h5 0 (by omega) [] 0 (by simp) (by omega) (by omega))
  · rw [if_neg hg]
    exact ev_neg hg (ev_now rfl)

/-! ### cells -/
theorem slot_ext_iff {a b : ISlot} : (a.f0 = b.f0 ∧ a.f1 = b.f1 ∧ a.f2 = b.f2 ∧ a.f3 = b.f3) ↔ a = b := by
  cases a
  cases b
  simp
instance decSlot : DecidableEq ISlot := fun a b => decidable_of_iff _ slot_ext_iff
/-- The cells of a slot. -/
def cellsM (C : Nat) (x : ISlot) : List Int := (List.range' 0 (x.f3.toNat - 0)).map fun k : Nat => x.f2 + (k : Int) * (stepM C x.f1 : Int)
def okSlot (R C : Nat) (s : ByteArray) (x : ISlot) : Prop := ∃ i : Nat, i < R * C ∧ x.f2 = i ∧ x.f3 = runM R C s i x.f1 ∧ 2 ≤ runM R C s i x.f1
theorem slotsOne_mem {R C : Nat} {s : ByteArray} {i : Nat} {n : Int} {x : ISlot} (h : x ∈ slotsOne R C s i n) : x.f0 = n ∧ x.f2 = i ∧ x.f3 = runM R C s i x.f1 ∧ 2 ≤ runM R C s i x.f1 := by
  unfold slotsOne at h
  rcases List.mem_append.1 h with h | h
  · split at h
    · rename_i h2
      rw [List.mem_singleton] at h
      subst h
      exact ⟨rfl, rfl, rfl, h2⟩
    · cases h
  · split at h
    · rename_i h2
      rw [List.mem_singleton] at h
      subst h
      exact ⟨rfl, rfl, rfl, h2⟩
    · cases h
theorem slotsGo_mem {R C : Nat} {s : ByteArray} {x : ISlot} : ∀ {l : List Nat} {n : Int}, x ∈ slotsGo R C s l n → ∃ i ∈ l, x.f2 = i ∧ x.f3 = runM R C s i x.f1 ∧ 2 ≤ runM R C s i x.f1
  | [], _, h => by cases h
  | i :: l, n, h => by
    unfold slotsGo at h
    rcases List.mem_append.1 h with h | h
    · exact ⟨i, List.mem_cons_self, (slotsOne_mem h).2⟩
    · obtain ⟨j, hj, h2⟩ := slotsGo_mem h
      exact ⟨j, List.mem_cons_of_mem _ hj, h2⟩
theorem slotsM_ok {r c : Int} {s : ByteArray} {x : ISlot} (h : x ∈ slotsM r c s) : ∃ R C : Nat, r = R ∧ c = C ∧ 2 ≤ R ∧ R ≤ 6 ∧ 2 ≤ C ∧ C ≤ 6 ∧ s.size = R * C ∧ gridM r c s = true ∧ okSlot R C s x := by
  unfold slotsM at h
  split at h
  · rename_i hg
    obtain ⟨R, C, rfl, rfl, h1, h2, h3, h4, h5⟩ := gridM_nat hg
    obtain ⟨i, hi, h6⟩ := slotsGo_mem h
    rw [List.mem_range'] at hi
    obtain ⟨j, hj, rfl⟩ := hi
    refine ⟨R, C, rfl, rfl, h1, h2, h3, h4, h5, hg, _, ?_, h6⟩
    omega
  · cases h
def slotLt (a b : ISlot) : Prop := a.f2 < b.f2 ∨ (a.f2 = b.f2 ∧ a.f1 = false ∧ b.f1 = true)
theorem slotLt_ne {a b : ISlot} (h : slotLt a b) : a ≠ b := by
  rintro rfl
  rcases h with h | ⟨_, h1, h2⟩
  · omega
  · rw [h1] at h2
    cases h2
theorem slotsGo_pairwise {R C : Nat} {s : ByteArray} : ∀ {l : List Nat} {n : Int}, l.Pairwise (· < ·) → (slotsGo R C s l n).Pairwise slotLt
  | [], _, _ => by simp [slotsGo]
  | i :: l, n, h => by
    unfold slotsGo
    rw [List.pairwise_append]
    refine ⟨?_, slotsGo_pairwise (List.pairwise_cons.1 h).2, ?_⟩
    · unfold slotsOne
      rw [List.pairwise_append]
      refine ⟨by split <;> simp, by split <;> simp, ?_⟩
      intro a ha b hb
      split at ha
      · split at hb
        · rw [List.mem_singleton] at ha hb
          subst ha hb
          exact .inr ⟨rfl, rfl, rfl⟩
        · cases hb
      · cases ha
    · intro a ha b hb
      have h1 := (slotsOne_mem ha).2.1
      obtain ⟨j, hj, h2, _⟩ := slotsGo_mem hb
      have := (List.pairwise_cons.1 h).1 j hj
      exact .inl (by omega)
theorem slotsM_pairwise (r c : Int) (s : ByteArray) : (slotsM r c s).Pairwise slotLt := by
  unfold slotsM
  split
  · exact slotsGo_pairwise (List.pairwise_lt_range' (step := 1) (by omega))
  · simp
theorem slotsM_nodup (r c : Int) (s : ByteArray) : (slotsM r c s).Nodup := (slotsM_pairwise r c s).imp slotLt_ne
theorem okSlot_bounds {R C : Nat} {s : ByteArray} {x : ISlot} (hR : R ≤ 6) (hC : C ≤ 6) (h : okSlot R C s x) : 0 ≤ x.f2 ∧ x.f2 < 36 ∧ 2 ≤ x.f3 ∧ x.f3 ≤ 6 ∧ x.f3.toNat ≤ 6 := by
  obtain ⟨i, hi, h2, h3, h4⟩ := h
  have h36 := bounds36 hR hC
  have h5 : runM R C s i x.f1 ≤ 6 := by
    unfold runM
    split
    · have := runLen_le s (stepM C x.f1) (mostM R C x.f1 - atM C x.f1 i) i
      have := mostM_le hR hC x.f1
      omega
    · omega
  omega
/-- What CellsOf answers. -/
def cellsOfM (r c : Int) (s : ByteArray) (x : ISlot) : List Int := if x ∈ slotsM r c s then cellsM c.toNat x else []
theorem cellsM_length (C : Nat) (x : ISlot) : (cellsM C x).length = x.f3.toNat := by simp [cellsM]
theorem cellsOfM_length (r c : Int) (s : ByteArray) (x : ISlot) : (cellsOfM r c s x).length ≤ 6 := by
  unfold cellsOfM
  split
  · rename_i h
    obtain ⟨R, C, rfl, rfl, _, h2, _, h4, _, _, hk⟩ := slotsM_ok h
    have := okSlot_bounds h2 h4 hk
    rw [cellsM_length]
    omega
  · simp
theorem cell_wrap {C : Nat} {x : ISlot} {k : Nat} (hC : C ≤ 6) (_ : 0 < C) (hk : k ≤ 6) (h1 : 0 ≤ x.f2) (h2 : x.f2 < 36) : wrap64 ((k : Int) * (C : Int)) = (k : Int) * (C : Int) ∧ wrap64 (x.f2 + (k : Int) * (C : Int)) = x.f2 + (k : Int) * (C : Int) := by
  have hb := mul_bound hk hC
  have hcast : ((k : Int) * (C : Int)) = ((k * C : Nat) : Int) := by rw [Int.natCast_mul]
  rw [hcast]
  exact ⟨wrap64_id (by omega) (by omega), wrap64_id (by omega) (by omega)⟩
theorem spec_CellsOf_l1_ev {l : List ISlot} {j : Nat} {R C : Nat} {s : ByteArray} {x : ISlot} {ρ : List Int} (hl : l.length ≤ 1048576) (hj : j < l.length) (hC : C ≤ 6) (h0 : 0 < C) (hx : 0 ≤ x.f2 ∧ x.f2 < 36 ∧ 0 ≤ x.f3 ∧ x.f3.toNat ≤ 6) : ∀ n : Nat, n ≤ x.f3.toNat → ∀ acc : List Int, acc.length ≤ 1000000 + n →
    Ev (fun k => spec_CellsOf.l0 k (acc ++ (List.range' n (x.f3.toNat - n)).map fun k : Nat => x.f2 + (k : Int) * (stepM C x.f1 : Int)) l (j + 1 : Nat) R C s x.f0 x.f1 x.f2 x.f3) ρ → Ev (fun k => spec_CellsOf.l1 k acc l j n R C s x.f0 x.f1 x.f2 x.f3) ρ := by
  refine down x.f3.toNat ?_ ?_
  · intro n h hn acc ha hρ
    apply ev_succ
    simp only [spec_CellsOf.l1]
    rw [wrap64_id (n := (j : Int) + 1) (by omega) (by omega), succ_cast]
    rw [range_nil h] at hρ
    exact ev_neg (by omega) (by simpa using hρ)
  · intro n h ih hn acc ha hρ
    apply ev_succ
    simp only [spec_CellsOf.l1]
    rw [wrap64_id (n := (n : Int) + 1) (by omega) (by omega), succ_cast]
    rw [range_cons h, List.map_cons] at hρ
    have hw := cell_wrap (x := x) hC h0 (show n ≤ 6 by omega) hx.1 hx.2.1
    refine ev_pos (by omega) ?_
    cases hd : x.f1 with
    | true =>
      refine ev_pos rfl (ev_pos (by omega) ?_)
      rw [hw.1, hw.2]
      have := ih (by omega) (acc ++ [x.f2 + (n : Int) * (C : Int)]) (by simp; omega)
      rw [hd] at this hρ
      exact this (by simpa [stepM] using hρ)
    | false =>
      refine ev_neg (by simp) (ev_pos (by omega) ?_)
      rw [wrap64_id (n := x.f2 + n) (by omega) (by omega)]
      have := ih (by omega) (acc ++ [x.f2 + (n : Int)]) (by simp; omega)
      rw [hd] at this hρ
      exact this (by simpa [stepM] using hρ)
theorem spec_CellsOf_l0_ev (R C : Nat) (s : ByteArray) (x : ISlot) (l : List ISlot) (hl : l.length ≤ 1000) (hC : C ≤ 6) (h0 : 0 < C) (hx : x ∈ l → 0 ≤ x.f2 ∧ x.f2 < 36 ∧ 0 ≤ x.f3 ∧ x.f3.toNat ≤ 6) : ∀ i : Nat, i ≤ l.length → ∀ acc : List Int, acc.length ≤ 6 * i →
    Ev (fun k => spec_CellsOf.l0 k acc l i R C s x.f0 x.f1 x.f2 x.f3) (acc ++ (l.drop i).flatMap fun y => if y = x then cellsM C x else []) := by
  refine down l.length ?_ ?_
  · intro i h hi acc ha
    apply ev_succ
    simp only [spec_CellsOf.l0]
    exact ev_neg (by omega) (ev_now (by rw [List.drop_eq_nil_of_le h]; simp))
  · intro i h ih hi acc ha
    apply ev_succ
    simp only [spec_CellsOf.l0]
    rw [rd_Slot_get h, wrap64_id (n := (i : Int) + 1) (by omega) (by omega), succ_cast, List.drop_eq_getElem_cons h, List.flatMap_cons]
    refine ev_pos (by omega) (ev_pos (by omega) ?_)
    by_cases he : l[i] = x
    · have hm : x ∈ l := he ▸ List.getElem_mem h
      have hb := hx hm
      rw [if_pos he]
      refine ev_neg (by rw [he]; simp) ?_
      have := ih (by omega) (acc ++ cellsM C x) (by rw [List.length_append, cellsM_length]; omega)
      exact spec_CellsOf_l1_ev (by omega) h hC h0 hb 0 (by omega) acc (by omega) (by simpa [cellsM] using this)
    · rw [if_neg he]
      refine ev_pos ?_ (by simpa using ih (by omega) acc (by omega))
      rw [← slot_ext_iff] at he
      simp only [Bool.or_eq_true, Bool.not_eq_true', beq_eq_false_iff_ne, ne_eq]
      by_cases a : l[i].f0 = x.f0 <;> by_cases b : l[i].f1 = x.f1 <;> by_cases c : l[i].f2 = x.f2 <;> simp_all
theorem flatMap_one {l : List ISlot} {x : ISlot} {v : List Int} (h : l.Nodup) : (l.flatMap fun y => if y = x then v else []) = if x ∈ l then v else [] := by
  induction l with
  | nil => simp
  | cons a l ih =>
    rw [List.nodup_cons] at h
    rw [List.flatMap_cons, ih h.2]
    by_cases e : a = x
    · subst e
      simp [h.1]
    · simp [e, show ¬ x = a from fun h => e h.symm]
theorem spec_CellsOf_ev (r c : Int) (s : ByteArray) (x : ISlot) (hs : s.size ≤ 1048576) : Ev (fun k => spec_CellsOf.f k r c s x.f0 x.f1 x.f2 x.f3) (cellsOfM r c s x) := by
  unfold spec_CellsOf.f
  refine ev_bind (spec_SlotsOf_ev r c s hs) ?_
  by_cases hg : gridM r c s = true
  · obtain ⟨R, C, rfl, rfl, h1, h2, h3, h4, h5⟩ := gridM_nat hg
    have hl := slotsM_length R C s
    refine ev_eq (spec_CellsOf_l0_ev R C s x (slotsM R C s) (by omega) h4 (by omega) ?_ 0 (by omega) [] (by simp)) ?_
    · intro hm
      obtain ⟨R', C', e1, e2, _, h7, _, h9, _, _, hk⟩ := slotsM_ok hm
      have := okSlot_bounds h7 h9 hk
      omega
    · rw [List.drop_zero, flatMap_one (slotsM_nodup _ _ _)]
      simp [cellsOfM]
  · have e : slotsM r c s = [] := by
      unfold slotsM
      rw [if_neg hg]
    unfold cellsOfM
    rw [e]
    apply ev_succ
    simp only [spec_CellsOf.l0]
    exact ev_neg (by simp) (ev_now (by simp))
theorem impl_cells_l0_ev (C : Nat) (x : ISlot) (hC : C ≤ 6) (h0 : 0 < C) (hx : 0 ≤ x.f2 ∧ x.f2 < 36 ∧ 0 ≤ x.f3 ∧ x.f3.toNat ≤ 6) : ∀ n : Nat, n ≤ x.f3.toNat → ∀ acc : List Int, acc.length ≤ n →
    Ev (fun k => impl_cells.l0 k (stepM C x.f1) acc x.f3 n x.f0 x.f1 x.f2 x.f3) (acc ++ (List.range' n (x.f3.toNat - n)).map fun k : Nat => x.f2 + (k : Int) * (stepM C x.f1 : Int)) := by
  refine down x.f3.toNat ?_ ?_
  · intro n h hn acc ha
    apply ev_succ
    simp only [impl_cells.l0]
    rw [range_nil h]
    exact ev_neg (by omega) (ev_now (by simp))
  · intro n h ih hn acc ha
    have hst := stepM_le hC h0 x.f1
    have hw := cell_wrap (C := stepM C x.f1) (x := x) hst.2 (by omega) (show n ≤ 6 by omega) hx.1 hx.2.1
    apply ev_succ
    simp only [impl_cells.l0]
    rw [wrap64_id (n := (n : Int) + 1) (by omega) (by omega), succ_cast, hw.1, hw.2, range_cons h, List.map_cons]
    exact ev_pos (by omega) (ev_pos (by omega) (ev_eq (ih (by omega) _ (by simp; omega)) (by simp)))
theorem impl_cells_ev (R : Int) (C : Nat) (s : ByteArray) (x : ISlot) (hC : C ≤ 6) (h0 : 0 < C) (hx : 0 ≤ x.f2 ∧ x.f2 < 36 ∧ 0 ≤ x.f3 ∧ x.f3.toNat ≤ 6) : Ev (fun k => impl_cells.f k R C s x.f0 x.f1 x.f2 x.f3) (cellsM C x) := by
  have key : Ev (fun k => impl_cells.j0 k (stepM C x.f1) x.f0 x.f1 x.f2 x.f3) (cellsM C x) := by
    apply ev_succ
    simp only [impl_cells.j0]
    simpa [cellsM] using impl_cells_l0_ev C x hC h0 hx 0 (by omega) [] (by simp)
  unfold impl_cells.f
  cases hd : x.f1 with
  | true =>
    rw [hd] at key
    exact ev_pos rfl (by simpa [stepM] using key)
  | false =>
    rw [hd] at key
    exact ev_neg (by simp) (by simpa [stepM] using key)

/-! ### ints -/
theorem spec_l8Has_l0_ev (l : List Int) (n : Int) (hl : l.length ≤ 9223372036854775806) : ∀ i : Nat, i ≤ l.length → Ev (fun k => spec_l8Has.l0 k l n i) (decide (n ∈ l.drop i)) := by
  refine down l.length ?_ ?_
  · intro i h hi
    apply ev_succ
    simp only [spec_l8Has.l0]
    exact ev_neg (by omega) (ev_now (by rw [List.drop_eq_nil_of_le h]; simp))
  · intro i h ih hi
    apply ev_succ
    simp only [spec_l8Has.l0]
    rw [rd_get h, wrap64_id (n := (i : Int) + 1) (by omega) (by omega), succ_cast, List.drop_eq_getElem_cons h]
    refine ev_pos (by omega) (ev_pos (by omega) ?_)
    by_cases he : l[i] = n
    · exact ev_pos he (ev_now (by simp [-List.getElem_cons_drop, he]))
    · exact ev_neg he (ev_eq (ih (by omega)) (by simp [-List.getElem_cons_drop, show ¬ n = l[i] from fun e => he e.symm]))
theorem spec_l8Has_ev (l : List Int) (n : Int) (hl : l.length ≤ 9223372036854775806) : Ev (fun k => spec_l8Has.f k l n) (decide (n ∈ l)) := by
  unfold spec_l8Has.f
  exact ev_eq (spec_l8Has_l0_ev l n hl 0 (by omega)) (by simp)
/-- Where a number stands first; -1 where it does not. -/
def placeM (n : Int) : List Int → Nat → Int
  | [], _ => -1
  | a :: l, i => if a = n then i else placeM n l (i + 1)
theorem placeM_nonneg {n : Int} : ∀ {l : List Int} {i : Nat}, (0 ≤ placeM n l i ↔ n ∈ l)
  | [], i => by simp [placeM]
  | a :: l, i => by
    unfold placeM
    by_cases h : a = n
    · simp [h]
    · rw [if_neg h, placeM_nonneg]
      simp [show ¬ n = a from fun e => h e.symm]
theorem slices_Index_int_int_l0_ev (l : List Int) (n : Int) (hl : l.length ≤ 9223372036854775806) : ∀ i : Nat, i ≤ l.length → Ev (fun k => slices_Index_int_int.l0 k l n l.length i) (placeM n (l.drop i) i) := by
  refine down l.length ?_ ?_
  · intro i h hi
    apply ev_succ
    simp only [slices_Index_int_int.l0]
    exact ev_neg (by omega) (ev_now (by rw [List.drop_eq_nil_of_le h]; rfl))
  · intro i h ih hi
    apply ev_succ
    simp only [slices_Index_int_int.l0]
    rw [rd_get h, wrap64_id (n := (i : Int) + 1) (by omega) (by omega), succ_cast, List.drop_eq_getElem_cons h]
    unfold placeM
    refine ev_pos (by omega) (ev_pos (by omega) (ev_pos (by omega) ?_))
    by_cases he : n = l[i]
    · exact ev_pos he (ev_now (by rw [if_pos he.symm]))
    · exact ev_neg he (ev_eq (ih (by omega)) (by rw [if_neg (fun e => he e.symm)]))
theorem slices_Index_int_int_ev (l : List Int) (n : Int) (hl : l.length ≤ 9223372036854775806) : Ev (fun k => slices_Index_int_int.f k l n) (placeM n l 0) := by
  unfold slices_Index_int_int.f
  exact ev_eq (slices_Index_int_int_l0_ev l n hl 0 (by omega)) (by simp)

/-! ### slotsat -/
theorem rd_ints_get {l : List (List Int)} {i : Nat} (h : i < l.length) : rd_L6 l (i : Int) = l[i] := by
  unfold rd_L6
  simp [h]
/-- The places, from i on, of the slots that hold a cell. -/
def atGo (C : Nat) (cell : Int) : List ISlot → Nat → List Int
  | [], _ => []
  | x :: l, i => if cell ∈ cellsM C x then (i : Int) :: atGo C cell l (i + 1) else atGo C cell l (i + 1)
def slotsAtM (r c : Int) (s : ByteArray) (cell : Int) : List Int := atGo c.toNat cell (slotsM r c s) 0
theorem slotsM_elem {r c : Int} {s : ByteArray} {i : Nat} (h : i < (slotsM r c s).length) : ∃ R C : Nat, r = R ∧ c = C ∧ C ≤ 6 ∧ 0 < C ∧ 0 ≤ (slotsM r c s)[i].f2 ∧ (slotsM r c s)[i].f2 < 36 ∧ 0 ≤ (slotsM r c s)[i].f3 ∧ (slotsM r c s)[i].f3.toNat ≤ 6 := by
  obtain ⟨R, C, h1, h2, h3, h4, h5, h6, _, _, hk⟩ := slotsM_ok (List.getElem_mem h)
  have := okSlot_bounds h4 h6 hk
  exact ⟨R, C, h1, h2, h6, by omega, by omega, by omega, by omega, by omega⟩
theorem cellsOfM_elem {r c : Int} {s : ByteArray} {i : Nat} (h : i < (slotsM r c s).length) : cellsOfM r c s (slotsM r c s)[i] = cellsM c.toNat (slotsM r c s)[i] := by
  unfold cellsOfM
  rw [if_pos (List.getElem_mem h)]
theorem cellsM_length_elem {r c : Int} {s : ByteArray} {i : Nat} (h : i < (slotsM r c s).length) : (cellsM c.toNat (slotsM r c s)[i]).length ≤ 6 := by
  rw [← cellsOfM_elem h]
  exact cellsOfM_length _ _ _ _
theorem spec_SlotsAt_l0_ev (r c : Int) (s : ByteArray) (cell : Int) (hs : s.size ≤ 1048576) : ∀ i : Nat, i ≤ (slotsM r c s).length → ∀ acc : List Int, acc.length ≤ i →
    Ev (fun k => spec_SlotsAt.l0 k cell acc (slotsM r c s) i r c s) (acc ++ atGo c.toNat cell ((slotsM r c s).drop i) i) := by
  have hl := slotsM_length r c s
  refine down (slotsM r c s).length ?_ ?_
  · intro i h hi acc ha
    apply ev_succ
    simp only [spec_SlotsAt.l0]
    exact ev_neg (by omega) (ev_now (by rw [List.drop_eq_nil_of_le h]; simp [atGo]))
  · intro i h ih hi acc ha
    have h6 := cellsM_length_elem h
    apply ev_succ
    simp only [spec_SlotsAt.l0]
    rw [rd_Slot_get h, wrap64_id (n := (i : Int) + 1) (by omega) (by omega), succ_cast, List.drop_eq_getElem_cons h]
    unfold atGo
    refine ev_pos (by omega) (ev_pos (by omega) (ev_bind (spec_CellsOf_ev r c s _ hs) ?_))
    rw [cellsOfM_elem h]
    refine ev_bind (spec_l8Has_ev _ cell (by omega)) ?_
    by_cases hm : cell ∈ cellsM c.toNat (slotsM r c s)[i]
    · rw [if_pos hm]
      exact ev_pos (by simpa using hm) (ev_pos (by omega) (ev_eq (ih (by omega) _ (by simp; omega)) (by simp)))
    · rw [if_neg hm]
      exact ev_neg (by simpa using hm) (ih (by omega) _ (by omega))
theorem spec_SlotsAt_ev (r c : Int) (s : ByteArray) (cell : Int) (hs : s.size ≤ 1048576) : Ev (fun k => spec_SlotsAt.f k r c s cell) (slotsAtM r c s cell) := by
  unfold spec_SlotsAt.f slotsAtM
  exact ev_bind (spec_SlotsOf_ev r c s hs) (ev_eq (spec_SlotsAt_l0_ev r c s cell hs 0 (by omega) [] (by simp)) (by simp))
theorem impl_layout_l0_ev (r c : Int) (s : ByteArray) : ∀ i : Nat, i ≤ (slotsM r c s).length → ∀ acc : List (List Int), acc.length ≤ i →
    Ev (fun k => impl_layout.l0 k acc (slotsM r c s) (slotsM r c s).length i r c s) (acc ++ ((slotsM r c s).drop i).map (cellsM c.toNat)) := by
  have hl := slotsM_length r c s
  refine down (slotsM r c s).length ?_ ?_
  · intro i h hi acc ha
    apply ev_succ
    simp only [impl_layout.l0]
    exact ev_neg (by omega) (ev_now (by rw [List.drop_eq_nil_of_le h]; simp))
  · intro i h ih hi acc ha
    obtain ⟨R, C, h1, h2, h3, h4, h5, h6, h7, h8⟩ := slotsM_elem h
    have e : c.toNat = C := by omega
    have hcells := impl_cells_ev r C s (slotsM r c s)[i] h3 h4 ⟨h5, h6, h7, h8⟩
    apply ev_succ
    simp only [impl_layout.l0]
    rw [rd_Slot_get h, wrap64_id (n := (i : Int) + 1) (by omega) (by omega), succ_cast, List.drop_eq_getElem_cons h, List.map_cons]
    refine ev_pos (by omega) (ev_pos (by omega) (ev_pos (by omega) (ev_bind (a := cellsM C (slotsM r c s)[i]) ?_ (ev_pos (by omega) ?_))))
    · rw [← h2] at hcells
      exact hcells
    · exact ev_eq (ih (by omega) _ (by simp; omega)) (by rw [e]; simp)
def layoutM (r c : Int) (s : ByteArray) : List (List Int) := (slotsM r c s).map (cellsM c.toNat)
theorem layoutM_length (r c : Int) (s : ByteArray) : (layoutM r c s).length = (slotsM r c s).length := by simp [layoutM]
theorem layoutM_get {r c : Int} {s : ByteArray} {i : Nat} (h : i < (slotsM r c s).length) : (layoutM r c s)[i]'(by rw [layoutM_length]; exact h) = cellsM c.toNat (slotsM r c s)[i] := by simp [layoutM]
theorem impl_layout_ev (r c : Int) (s : ByteArray) (hs : s.size ≤ 1048576) : Ev (fun k => impl_layout.f k r c s) (layoutM r c s) := by
  unfold impl_layout.f
  exact ev_bind (impl_SlotsOf_ev r c s hs) (ev_eq (impl_layout_l0_ev r c s 0 (by omega) [] (by simp)) (by simp [layoutM]))
/-! ### slotfacts -/
theorem runLen_white {s : ByteArray} {step : Nat} : ∀ {m i k : Nat}, k < runLen s step i m → bt s (i + k * step : Nat) = 46
  | 0, i, k, h => by simp [runLen] at h
  | m + 1, i, k, h => by
    unfold runLen at h
    split at h
    · rename_i hw
      cases k with
      | zero => simpa using hw
      | succ k =>
        have := runLen_white (s := s) (step := step) (m := m) (i := i + step) (k := k) (by omega)
        rw [show i + (k + 1) * step = i + step + k * step by rw [Nat.add_mul, Nat.one_mul]; omega]
        exact this
    · omega
theorem cellsM_mem {C : Nat} {x : ISlot} {c : Int} : c ∈ cellsM C x ↔ ∃ k : Nat, k < x.f3.toNat ∧ c = x.f2 + (k : Int) * (stepM C x.f1 : Int) := by
  unfold cellsM
  rw [List.mem_map]
  constructor
  · rintro ⟨k, hk, rfl⟩
    rw [List.mem_range'] at hk
    obtain ⟨j, hj, rfl⟩ := hk
    exact ⟨_, by omega, rfl⟩
  · rintro ⟨k, hk, rfl⟩
    exact ⟨k, by rw [List.mem_range']; exact ⟨k, by omega, by omega⟩, rfl⟩
/-- A slot's cell: its place, that it lies in the grid, that it is white. -/
theorem okSlot_cell {R C : Nat} {s : ByteArray} {x : ISlot} {c : Int} (h0 : 0 < C) (h : okSlot R C s x) (hc : c ∈ cellsM C x) :
    ∃ i k : Nat, x.f2 = i ∧ x.f3 = runM R C s i x.f1 ∧ i < R * C ∧ c = ((i + k * stepM C x.f1 : Nat) : Int) ∧ k < runM R C s i x.f1 ∧ atM C x.f1 i + k < mostM R C x.f1 ∧ i + k * stepM C x.f1 < R * C ∧ bt s c = 46 ∧ ¬ (0 < atM C x.f1 i ∧ bt s (i - stepM C x.f1 : Nat) = 46) := by
  obtain ⟨i, hi, h2, h3, h4⟩ := h
  obtain ⟨k, hk, rfl⟩ := cellsM_mem.1 hc
  have hk' : k < runM R C s i x.f1 := by omega
  have hk0 := hk'
  unfold runM at hk'
  split at hk'
  · rename_i hs
    have hle := runLen_le s (stepM C x.f1) (mostM R C x.f1 - atM C x.f1 i) i
    have hw := runLen_white hk'
    have hat : atM C x.f1 i + k < mostM R C x.f1 := by omega
    have hcast : x.f2 + (k : Int) * (stepM C x.f1 : Int) = ((i + k * stepM C x.f1 : Nat) : Int) := by
      rw [h2, Int.natCast_add, Int.natCast_mul]
    refine ⟨i, k, h2, h3, hi, hcast, hk0, hat, cell_lt h0 hi hat, ?_, hs.2⟩
    rw [hcast]
    exact hw
  · omega
theorem atM_add {C : Nat} {dn : Bool} {i d : Nat} {R : Nat} (h0 : 0 < C) (h : atM C dn i + d < mostM R C dn) : atM C dn (i + d * stepM C dn) = atM C dn i + d := by
  cases dn with
  | true =>
    simp only [atM, stepM, if_true]
    rw [Nat.add_mul_div_right _ _ h0]
  | false =>
    simp only [atM, stepM, mostM, Bool.false_eq_true, if_false, Nat.mul_one] at h ⊢
    rw [Nat.add_mod, Nat.mod_eq_of_lt (show d < C by omega), Nat.mod_eq_of_lt h]
/-- Two slots of one direction that share a cell begin at one cell. -/
theorem slot_one {R C : Nat} {s : ByteArray} {x y : ISlot} {c : Int} (h0 : 0 < C) (hx : okSlot R C s x) (hy : okSlot R C s y) (hd : x.f1 = y.f1) (h1 : c ∈ cellsM C x) (h2 : c ∈ cellsM C y) : x.f2 = y.f2 := by
  have aux : ∀ x y : ISlot, okSlot R C s x → okSlot R C s y → x.f1 = y.f1 → c ∈ cellsM C x → c ∈ cellsM C y → ¬ x.f2 < y.f2 := by
    intro x y hx hy hd h1 h2 hlt
    obtain ⟨i, a, e1, _, _, e2, ha, hat, _, _, _⟩ := okSlot_cell h0 hx h1
    obtain ⟨j, b, e3, _, _, e4, hb, hat2, _, _, hst⟩ := okSlot_cell h0 hy h2
    rw [← hd] at e4 hb hat2 hst
    have hij : i < j := by omega
    have hst' : 0 < stepM C x.f1 := by
      unfold stepM
      split <;> omega
    have e5 : i + a * stepM C x.f1 = j + b * stepM C x.f1 := by omega
    have hab : b < a := by
      apply Classical.byContradiction
      intro hn
      have := Nat.mul_le_mul_right (stepM C x.f1) (show a ≤ b by omega)
      omega
    obtain ⟨d, rfl⟩ : ∃ d, a = b + (d + 1) := ⟨a - b - 1, by omega⟩
    have e6 : j = i + (d + 1) * stepM C x.f1 := by
      rw [Nat.add_mul] at e5
      omega
    have e7 : atM C x.f1 j = atM C x.f1 i + (d + 1) := by
      rw [e6]
      exact atM_add (R := R) h0 (by omega)
    have hr : d < runM R C s i x.f1 := by omega
    have hw : bt s (i + d * stepM C x.f1 : Nat) = 46 := by
      unfold runM at hr
      split at hr
      · exact runLen_white hr
      · omega
    refine hst ⟨by omega, ?_⟩
    rw [show j - stepM C x.f1 = i + d * stepM C x.f1 by rw [e6, Nat.add_mul, Nat.one_mul]; omega]
    exact hw
  have := aux x y hx hy hd h1 h2
  have := aux y x hy hx hd.symm h2 h1
  omega
/-- The slots that hold a cell. -/
def holdersM (r c : Int) (s : ByteArray) (cell : Int) : List ISlot := (slotsM r c s).filter fun x => decide (cell ∈ cellsM c.toNat x)
theorem holders_dirs (r c : Int) (s : ByteArray) (cell : Int) : (holdersM r c s cell).Pairwise fun a b => a.f1 ≠ b.f1 := by
  unfold holdersM
  have hp := (slotsM_pairwise r c s).filter fun x => decide (cell ∈ cellsM c.toNat x)
  refine List.Pairwise.imp_of_mem ?_ hp
  intro a b ha hb hlt he
  rw [List.mem_filter, decide_eq_true_eq] at ha hb
  obtain ⟨R, C, rfl, rfl, _, _, h3, _, _, _, hka⟩ := slotsM_ok ha.1
  obtain ⟨R', C', e1, e2, _, _, _, _, _, _, hkb⟩ := slotsM_ok hb.1
  have e1' : R' = R := by omega
  have e2' : C' = C := by omega
  subst e1' e2'
  have := slot_one (by omega) hka hkb he ha.2 hb.2
  rcases hlt with h | ⟨_, h1, h2⟩
  · omega
  · rw [h1, h2] at he
    cases he
theorem holders_two (r c : Int) (s : ByteArray) (cell : Int) : (holdersM r c s cell).length ≤ 2 := by
  have h := holders_dirs r c s cell
  match holdersM r c s cell, h with
  | [], _ => simp
  | [_], _ => simp
  | [_, _], _ => simp
  | a :: b :: d :: l, h =>
    simp only [List.pairwise_cons] at h
    have h1 := h.1 b (by simp)
    have h2 := h.1 d (by simp)
    have h3 := h.2.1 d (by simp)
    cases ha : a.f1 <;> cases hb : b.f1 <;> cases hd : d.f1 <;> simp_all
theorem atGo_holders (C : Nat) (cell : Int) : ∀ (l : List ISlot) (i : Nat), (atGo C cell l i).length = (l.filter fun x => decide (cell ∈ cellsM C x)).length
  | [], _ => rfl
  | x :: l, i => by
    unfold atGo
    by_cases h : cell ∈ cellsM C x
    · simp [h, atGo_holders C cell l (i + 1)]
    · simp [h, atGo_holders C cell l (i + 1)]
theorem slotsAtM_two (r c : Int) (s : ByteArray) (cell : Int) : (slotsAtM r c s cell).length ≤ 2 := by
  have := holders_two r c s cell
  unfold slotsAtM
  rw [atGo_holders]
  exact this
theorem slotsAtM_white {r c : Int} {s : ByteArray} {cell : Int} (h : 0 < (slotsAtM r c s cell).length) : bt s cell = 46 := by
  unfold slotsAtM at h
  rw [atGo_holders] at h
  obtain ⟨x, hx⟩ := List.exists_mem_of_length_pos h
  rw [List.mem_filter, decide_eq_true_eq] at hx
  obtain ⟨R, C, rfl, rfl, _, _, h3, _, _, _, hk⟩ := slotsM_ok hx.1
  obtain ⟨_, _, _, _, _, _, _, _, _, hw, _⟩ := okSlot_cell (by omega) hk hx.2
  exact hw
theorem slotsM_nil {r c : Int} {s : ByteArray} (h : ¬ gridM r c s = true) : slotsM r c s = [] := by
  unfold slotsM
  rw [if_neg h]

/-! ### crossings -/
abbrev ICross := S114
theorem rd_Cross_get {l : List ICross} {i : Nat} (h : i < l.length) : rd_T114 l (i : Int) = l[i] := by
  unfold rd_T114
  simp [h]
/-- The slots, from place i on, that hold a cell: each with its place and the cell's place in it. -/
def holdGo (C : Nat) (cell : Int) : List ISlot → Nat → List (Int × Int)
  | [], _ => []
  | x :: l, i => if cell ∈ cellsM C x then ((i : Int), placeM cell (cellsM C x) 0) :: holdGo C cell l (i + 1) else holdGo C cell l (i + 1)
theorem holdGo_at (C : Nat) (cell : Int) : ∀ (l : List ISlot) (i : Nat), atGo C cell l i = (holdGo C cell l i).map (·.1)
  | [], _ => rfl
  | x :: l, i => by
    unfold atGo holdGo
    by_cases h : cell ∈ cellsM C x
    · simp [h, holdGo_at C cell l (i + 1)]
    · simp [h, holdGo_at C cell l (i + 1)]
theorem holdGo_mem (C : Nat) (cell : Int) : ∀ (l : List ISlot) (i : Nat) (h : Int × Int), h ∈ holdGo C cell l i → ∃ j : Nat, ∃ hj : j < l.length, h.1 = ((i + j : Nat) : Int) ∧ cell ∈ cellsM C l[j] ∧ h.2 = placeM cell (cellsM C l[j]) 0
  | [], _, h, hm => by cases hm
  | x :: l, i, h, hm => by
    unfold holdGo at hm
    have rest : h ∈ holdGo C cell l (i + 1) → ∃ j : Nat, ∃ hj : j < (x :: l).length, h.1 = ((i + j : Nat) : Int) ∧ cell ∈ cellsM C (x :: l)[j] ∧ h.2 = placeM cell (cellsM C (x :: l)[j]) 0 := by
      intro hr
      obtain ⟨j, hj, h1, h2, h3⟩ := holdGo_mem C cell l (i + 1) h hr
      exact ⟨j + 1, by simpa using hj, by rw [h1]; omega, by simpa using h2, by simpa using h3⟩
    split at hm
    · rename_i hc
      rcases List.mem_cons.1 hm with rfl | hm
      · exact ⟨0, by simp, by simp, by simpa using hc, by simp⟩
      · exact rest hm
    · exact rest hm
def holdM (r c : Int) (s : ByteArray) (cell : Int) : List (Int × Int) := holdGo c.toNat cell (slotsM r c s) 0
theorem holdM_at (r c : Int) (s : ByteArray) (cell : Int) : slotsAtM r c s cell = (holdM r c s cell).map (·.1) := holdGo_at _ _ _ _
theorem holdM_two (r c : Int) (s : ByteArray) (cell : Int) : (holdM r c s cell).length ≤ 2 := by
  have := slotsAtM_two r c s cell
  rw [holdM_at, List.length_map] at this
  exact this
def crossOne (cell : Int) : List (Int × Int) → List ICross
  | [a, b] => [⟨a.1, b.1, a.2, b.2, cell⟩]
  | _ => []
def crossGo (r c : Int) (s : ByteArray) : List Nat → List ICross
  | [] => []
  | i :: l => crossOne i (holdM r c s i) ++ crossGo r c s l
/-- What CrossingsOf answers. -/
def crossM (r c : Int) (s : ByteArray) : List ICross := if gridM r c s then crossGo r c s (List.range' 0 (s.size - 0)) else []
theorem crossOne_length (cell : Int) (h : List (Int × Int)) : (crossOne cell h).length ≤ 1 := by
  unfold crossOne
  split <;> simp
theorem crossGo_length (r c : Int) (s : ByteArray) : ∀ l : List Nat, (crossGo r c s l).length ≤ l.length
  | [] => by simp [crossGo]
  | i :: l => by
    unfold crossGo
    have := crossOne_length i (holdM r c s i)
    have := crossGo_length r c s l
    simp only [List.length_append, List.length_cons]
    omega
theorem grid36 {r c : Int} {s : ByteArray} (h : gridM r c s = true) : s.size ≤ 36 := by
  obtain ⟨R, C, _, _, _, h2, _, h4, h5⟩ := gridM_nat h
  have := bounds36 h2 h4
  omega
theorem crossM_length (r c : Int) (s : ByteArray) : (crossM r c s).length ≤ 36 := by
  unfold crossM
  split
  · rename_i h
    have := grid36 h
    have := crossGo_length r c s (List.range' 0 (s.size - 0))
    rw [List.length_range'] at this
    omega
  · simp
theorem spec_l9Place_l0_ev (l : List Int) (n : Int) (hl : l.length ≤ 9223372036854775806) : ∀ i : Nat, i ≤ l.length → Ev (fun k => spec_l9Place.l0 k l n i) (placeM n (l.drop i) i) := by
  refine down l.length ?_ ?_
  · intro i h hi
    apply ev_succ
    simp only [spec_l9Place.l0]
    exact ev_neg (by omega) (ev_now (by rw [List.drop_eq_nil_of_le h]; rfl))
  · intro i h ih hi
    apply ev_succ
    simp only [spec_l9Place.l0]
    rw [rd_get h, wrap64_id (n := (i : Int) + 1) (by omega) (by omega), succ_cast, List.drop_eq_getElem_cons h]
    unfold placeM
    refine ev_pos (by omega) (ev_pos (by omega) ?_)
    by_cases he : l[i] = n
    · exact ev_pos he (ev_now (by rw [if_pos he]))
    · exact ev_neg he (ev_eq (ih (by omega)) (by rw [if_neg he]))
theorem spec_l9Place_ev (l : List Int) (n : Int) (hl : l.length ≤ 9223372036854775806) : Ev (fun k => spec_l9Place.f k l n) (placeM n l 0) := by
  unfold spec_l9Place.f
  exact ev_eq (spec_l9Place_l0_ev l n hl 0 (by omega)) (by simp)
theorem spec_CrossingsOf_l0_ev (r c : Int) (s : ByteArray) (hs : s.size ≤ 1048576) (hg : gridM r c s = true) : ∀ i : Nat, i ≤ s.size → ∀ acc : List ICross, acc.length ≤ i →
    Ev (fun k => spec_CrossingsOf.l0 k acc (slotsM r c s) i r c s) (acc ++ crossGo r c s (List.range' i (s.size - i))) := by
  have hL := slotsM_length r c s
  refine down s.size ?_ ?_
  · intro i h hi acc ha
    apply ev_succ
    simp only [spec_CrossingsOf.l0]
    refine ev_neg (by omega) (ev_succ ?_)
    simp only [spec_CrossingsOf.j1]
    rw [range_nil h]
    exact ev_neg (by simp) (ev_now (by simp [crossGo]))
  · intro i h ih hi acc ha
    have h36 := grid36 hg
    apply ev_succ
    simp only [spec_CrossingsOf.l0]
    refine ev_pos (by omega) (ev_bind (spec_IsGrid_ev r c s (by omega)) (ev_succ ?_))
    simp only [spec_CrossingsOf.j1]
    rw [range_cons h, wrap64_id (n := (i : Int) + 1) (by omega) (by omega), succ_cast]
    unfold crossGo
    refine ev_pos hg (ev_bind (spec_SlotsAt_ev r c s i hs) ?_)
    have h2 := holdM_two r c s i
    have hnext := fun acc' ha' => ih (by omega) acc' ha'
    rw [holdM_at]
    have hmem := holdGo_mem c.toNat (i : Int) (slotsM r c s) 0
    have hfold : holdGo c.toNat (i : Int) (slotsM r c s) 0 = holdM r c s i := rfl
    rw [hfold] at hmem
    match hh : holdM r c s (i : Int), h2, hmem with
    | [], _, _ => exact ev_neg (by simp) (ev_eq (hnext acc (by omega)) (by simp [crossOne]))
    | [a], _, _ => exact ev_neg (by simp) (ev_eq (hnext acc (by omega)) (by simp [crossOne]))
    | [a, b], _, hmem =>
      obtain ⟨p, hp, e1, c1, e2⟩ := hmem a (by simp)
      obtain ⟨q, hq, e3, c2, e4⟩ := hmem b (by simp)
      rw [Nat.zero_add] at e1 e3
      have k1 := spec_CellsOf_ev r c s (slotsM r c s)[p] hs
      have k2 := spec_CellsOf_ev r c s (slotsM r c s)[q] hs
      rw [cellsOfM_elem hp] at k1
      rw [cellsOfM_elem hq] at k2
      have l1 := cellsM_length_elem hp
      have l2 := cellsM_length_elem hq
      have r1 : rd (List.map (·.1) [a, b]) 0 = a.1 := rfl
      have r2 : rd (List.map (·.1) [a, b]) 1 = b.1 := rfl
      rw [r1, r2, e1, e3, rd_Slot_get hp, rd_Slot_get hq]
      refine ev_pos (by simp) (ev_pos (by simp) (ev_pos (by simp) (ev_pos (by omega) (ev_pos (by omega) (ev_bind k1 (ev_bind (spec_l9Place_ev _ _ (by omega)) (ev_pos (by omega) (ev_pos (by omega) (ev_bind k2 (ev_bind (spec_l9Place_ev _ _ (by omega)) (ev_pos (by omega) ?_)))))))))))
      refine ev_eq (hnext _ (by simp; omega)) ?_
      simp [crossOne, e1, e2, e3, e4]
theorem spec_CrossingsOf_ev (r c : Int) (s : ByteArray) (hs : s.size ≤ 1048576) : Ev (fun k => spec_CrossingsOf.f k r c s) (crossM r c s) := by
  unfold spec_CrossingsOf.f crossM
  refine ev_bind (spec_SlotsOf_ev r c s hs) ?_
  by_cases hg : gridM r c s = true
  · rw [if_pos hg]
    exact ev_eq (spec_CrossingsOf_l0_ev r c s hs hg 0 (by omega) [] (by simp)) (by simp)
  · rw [if_neg hg]
    have hj : Ev (fun k => spec_CrossingsOf.j1 k [] (slotsM r c s) 0 false r c s) [] := by
      apply ev_succ
      simp only [spec_CrossingsOf.j1]
      exact ev_neg (by simp) (ev_now rfl)
    apply ev_succ
    simp only [spec_CrossingsOf.l0]
    by_cases h : (0 : Int) < (s.size : Int)
    · refine ev_pos h (ev_bind (spec_IsGrid_ev r c s (by omega)) ?_)
      rw [Bool.not_eq_true] at hg
      rw [hg]
      exact hj
    · exact ev_neg h hj
def crossStep (cell : Int) : Int → Int → List ICross → List (Int × Int) → List ICross
  | _, _, acc, [] => acc
  | first, place, acc, h :: r => if first < 0 then crossStep cell h.1 h.2 acc r else crossStep cell first place (acc ++ [⟨first, h.1, place, h.2, cell⟩]) r
theorem crossStep_one (cell : Int) (acc : List ICross) (H : List (Int × Int)) (h2 : H.length ≤ 2) (h0 : ∀ h ∈ H, 0 ≤ h.1) : crossStep cell (-1) 0 acc H = acc ++ crossOne cell H := by
  match H, h2, h0 with
  | [], _, _ => simp [crossStep, crossOne]
  | [a], _, _ => simp [crossStep, crossOne]
  | [a, b], _, h0 =>
    have := h0 a (by simp)
    simp only [crossStep, crossOne]
    rw [if_pos (by omega), if_neg (by omega)]
theorem impl_CrossingsOf_l1_ev (r c : Int) (s : ByteArray) (cell : Nat) (m : Int) (ρ : List ICross) : ∀ i : Nat, i ≤ (slotsM r c s).length → ∀ (acc : List ICross) (first place : Int), acc.length ≤ 100000 + i → cell ≤ 1000 →
    Ev (fun k => impl_CrossingsOf.l0 k (layoutM r c s) (crossStep cell first place acc (holdGo c.toNat cell ((slotsM r c s).drop i) i)) m (cell + 1 : Nat)) ρ →
    Ev (fun k => impl_CrossingsOf.l1 k (layoutM r c s) acc cell first place m cell (layoutM r c s) (layoutM r c s).length i) ρ := by
  have hl := slotsM_length r c s
  have hL := layoutM_length r c s
  refine down (slotsM r c s).length ?_ ?_
  · intro i h hi acc first place ha hc hρ
    apply ev_succ
    simp only [impl_CrossingsOf.l1]
    rw [wrap64_id (n := (cell : Int) + 1) (by omega) (by omega), succ_cast]
    rw [List.drop_eq_nil_of_le h] at hρ
    exact ev_neg (by omega) hρ
  · intro i h ih hi acc first place ha hc hρ
    have h6 := cellsM_length_elem h
    apply ev_succ
    simp only [impl_CrossingsOf.l1]
    rw [rd_ints_get (show i < (layoutM r c s).length by omega), layoutM_get h, wrap64_id (n := (i : Int) + 1) (by omega) (by omega), succ_cast]
    rw [List.drop_eq_getElem_cons h] at hρ
    unfold holdGo at hρ
    refine ev_pos (by omega) (ev_pos (by omega) (ev_pos (by omega) (ev_bind (slices_Index_int_int_ev _ cell (by omega)) ?_)))
    have hn := placeM_nonneg (n := (cell : Int)) (l := cellsM c.toNat (slotsM r c s)[i]) (i := 0)
    by_cases hm : (cell : Int) ∈ cellsM c.toNat (slotsM r c s)[i]
    · rw [if_pos hm] at hρ
      unfold crossStep at hρ
      have := hn.2 hm
      refine ev_neg (by omega) ?_
      by_cases hf : first < 0
      · rw [if_pos hf] at hρ
        exact ev_pos hf (ih (by omega) acc _ _ (by omega) hc hρ)
      · rw [if_neg hf] at hρ
        exact ev_neg hf (ev_pos (by omega) (ih (by omega) _ _ _ (by simp; omega) hc hρ))
    · rw [if_neg hm] at hρ
      have : ¬ 0 ≤ placeM (cell : Int) (cellsM c.toNat (slotsM r c s)[i]) 0 := fun x => hm (hn.1 x)
      exact ev_pos (by omega) (ih (by omega) acc _ _ (by omega) hc hρ)
theorem impl_CrossingsOf_l0_ev (r c : Int) (s : ByteArray) (h36 : s.size ≤ 36) : ∀ i : Nat, i ≤ s.size → ∀ acc : List ICross, acc.length ≤ i →
    Ev (fun k => impl_CrossingsOf.l0 k (layoutM r c s) acc s.size i) (acc ++ crossGo r c s (List.range' i (s.size - i))) := by
  refine down s.size ?_ ?_
  · intro i h hi acc ha
    apply ev_succ
    simp only [impl_CrossingsOf.l0]
    rw [range_nil h]
    exact ev_neg (by omega) (ev_now (by simp [crossGo]))
  · intro i h ih hi acc ha
    apply ev_succ
    simp only [impl_CrossingsOf.l0]
    rw [range_cons h]
    unfold crossGo
    have h1 := crossOne_length i (holdM r c s i)
    have hmem := holdGo_mem c.toNat (i : Int) (slotsM r c s) 0
    refine ev_pos (by omega) (impl_CrossingsOf_l1_ev r c s i s.size _ 0 (by omega) acc (-1) 0 (by omega) (by omega) ?_)
    rw [List.drop_zero, show holdGo c.toNat (i : Int) (slotsM r c s) 0 = holdM r c s i from rfl, crossStep_one _ _ _ (holdM_two r c s i) (fun h hh => by obtain ⟨j, _, e, _⟩ := hmem h hh; omega)]
    exact ev_eq (ih (by omega) _ (by rw [List.length_append]; have : (crossOne (i : Int) (holdGo c.toNat (i : Int) (slotsM r c s) 0)).length ≤ 1 := h1; omega)) (by simp [holdM])
theorem impl_CrossingsOf_l0_no (r c : Int) (s : ByteArray) (hs : s.size ≤ 1048576) (hg : ¬ gridM r c s = true) : ∀ i : Nat, i ≤ s.size → Ev (fun k => impl_CrossingsOf.l0 k (layoutM r c s) [] s.size i) [] := by
  have hn : layoutM r c s = [] := by
    unfold layoutM
    rw [slotsM_nil hg]
    rfl
  rw [hn]
  refine down s.size ?_ ?_
  · intro i h hi
    apply ev_succ
    simp only [impl_CrossingsOf.l0]
    exact ev_neg (by omega) (ev_now rfl)
  · intro i h ih hi
    apply ev_succ
    simp only [impl_CrossingsOf.l0]
    refine ev_pos (by omega) (ev_succ ?_)
    simp only [impl_CrossingsOf.l1]
    rw [wrap64_id (n := (i : Int) + 1) (by omega) (by omega), succ_cast]
    exact ev_neg (by simp) (ih (by omega))
theorem impl_CrossingsOf_ev (r c : Int) (s : ByteArray) (hs : s.size ≤ 1048576) : Ev (fun k => impl_CrossingsOf.f k r c s) (crossM r c s) := by
  unfold impl_CrossingsOf.f crossM
  refine ev_bind (impl_layout_ev r c s hs) ?_
  by_cases hg : gridM r c s = true
  · rw [if_pos hg]
    exact ev_eq (impl_CrossingsOf_l0_ev r c s (grid36 hg) 0 (by omega) [] (by simp)) (by simp)
  · rw [if_neg hg]
    exact impl_CrossingsOf_l0_no r c s hs hg 0 (by omega)

/-! ### strs -/
/-! ### choices -/
theorem rd_rows_get {l : List (List ByteArray)} {i : Nat} (h : i < l.length) : rd_L5 l (i : Int) = l[i] := by
  unfold rd_L5
  simp [h]
def countM (l : List (List ByteArray)) : Nat := (l.map List.length).sum
theorem countM_drop {l : List (List ByteArray)} {i : Nat} (h : i < l.length) : countM (l.drop i) = l[i].length + countM (l.drop (i + 1)) := by
  rw [List.drop_eq_getElem_cons h]
  rfl
theorem impl_CountChoices_l0_ev (l : List (List ByteArray)) (hl : l.length ≤ 1048576) : ∀ i : Nat, i ≤ l.length → ∀ n : Int, 0 ≤ n → n + countM (l.drop i) ≤ 1048576 → Ev (fun k => impl_CountChoices.l0 k n l l.length i) (n + countM (l.drop i)) := by
  refine down l.length ?_ ?_
  · intro i h hi n h0 hn
    apply ev_succ
    simp only [impl_CountChoices.l0]
    exact ev_neg (by omega) (ev_now (by rw [List.drop_eq_nil_of_le h]; simp [countM]))
  · intro i h ih hi n h0 hn
    have ht := countM_drop h
    apply ev_succ
    simp only [impl_CountChoices.l0]
    rw [rd_rows_get h, wrap64_id (n := (i : Int) + 1) (by omega) (by omega), wrap64_id (n := n + _) (by omega) (by omega), succ_cast]
    exact ev_pos (by omega) (ev_pos (by omega) (ev_pos (by omega) (ev_eq (ih (by omega) _ (by omega) (by omega)) (by omega))))
theorem impl_CountChoices_ev (l : List (List ByteArray)) (hl : l.length ≤ 1048576) (h : countM l ≤ 1048576) : Ev (fun k => impl_CountChoices.f k l) (countM l : Int) := by
  unfold impl_CountChoices.f
  exact ev_eq (impl_CountChoices_l0_ev l hl 0 (by omega) 0 (by omega) (by simp; omega)) (by simp)

/-! ### unchecked -/
theorem impl_at_eq (i n : Int) : impl_at.f i n = some (decide (0 ≤ i ∧ i < n)) := by
  unfold impl_at.f
  by_cases h : i ≥ 0
  · rw [if_pos h]
    simp [h]
  · rw [if_neg h]
    simp [h]

/-! ### support -/
theorem placeM_lt {n : Int} : ∀ {l : List Int} {i : Nat}, n ∈ l → (i : Int) ≤ placeM n l i ∧ placeM n l i < i + l.length
  | [], _, h => by cases h
  | a :: l, i, h => by
    unfold placeM
    by_cases e : a = n
    · rw [if_pos e]
      simp
      omega
    · rw [if_neg e]
      have := placeM_lt (l := l) (i := i + 1) (by
        rcases List.mem_cons.1 h with h | h
        · exact absurd h.symm e
        · exact h)
      rw [List.length_cons]
      omega
theorem holdGo_asc (C : Nat) (cell : Int) : ∀ (l : List ISlot) (i : Nat), (holdGo C cell l i).Pairwise fun a b => a.1 < b.1
  | [], _ => by simp [holdGo]
  | x :: l, i => by
    unfold holdGo
    have ih := holdGo_asc C cell l (i + 1)
    split
    · rw [List.pairwise_cons]
      refine ⟨fun b hb => ?_, ih⟩
      obtain ⟨j, _, e, _⟩ := holdGo_mem C cell l (i + 1) b hb
      rw [e]
      show (i : Int) < _
      omega
    · exact ih
/-- What a crossing tells: two slots, and two places in them. -/
def crossOk (sl : List ISlot) (x : ICross) : Prop := ∃ p q : Nat, ∃ (hp : p < sl.length) (hq : q < sl.length), x.f0 = p ∧ x.f1 = q ∧ p < q ∧ (0 ≤ x.f2 ∧ x.f2 < sl[p].f3) ∧ (0 ≤ x.f3 ∧ x.f3 < sl[q].f3)
theorem crossOne_ok (r c : Int) (s : ByteArray) (cell : Int) (x : ICross) (h : x ∈ crossOne cell (holdM r c s cell)) : crossOk (slotsM r c s) x ∧ x.f4 = cell := by
  have hm := holdGo_mem c.toNat cell (slotsM r c s) 0
  have ha := holdGo_asc c.toNat cell (slotsM r c s) 0
  rw [show holdGo c.toNat cell (slotsM r c s) 0 = holdM r c s cell from rfl] at hm ha
  match hh : holdM r c s cell, h, hm, ha with
  | [], h, _, _ => cases h
  | [a], h, _, _ => cases h
  | [a, b], h, hm, ha =>
    simp only [crossOne, List.mem_singleton] at h
    obtain ⟨p, hp, e1, c1, e2⟩ := hm a (by simp)
    obtain ⟨q, hq, e3, c2, e4⟩ := hm b (by simp)
    have hlt : a.1 < b.1 := by simpa using ha
    have l1 := placeM_lt (i := 0) c1
    have l2 := placeM_lt (i := 0) c2
    rw [cellsM_length] at l1 l2
    have b1 := (slotsM_elem hp).choose_spec.choose_spec
    have b2 := (slotsM_elem hq).choose_spec.choose_spec
    subst h
    refine ⟨⟨p, q, hp, hq, by rw [e1]; simp, by rw [e3]; simp, by omega, ?_, ?_⟩, rfl⟩
    · show 0 ≤ a.2 ∧ a.2 < _
      rw [e2]
      omega
    · show 0 ≤ b.2 ∧ b.2 < _
      rw [e4]
      omega
  | a :: b :: d :: l, h, _, _ => cases h
theorem crossGo_ok (r c : Int) (s : ByteArray) : ∀ (l : List Nat) (x : ICross), x ∈ crossGo r c s l → crossOk (slotsM r c s) x
  | [], _, h => by cases h
  | i :: l, x, h => by
    unfold crossGo at h
    rcases List.mem_append.1 h with h | h
    · exact (crossOne_ok r c s i x h).1
    · exact crossGo_ok r c s l x h
theorem crossM_ok {r c : Int} {s : ByteArray} {x : ICross} (h : x ∈ crossM r c s) : crossOk (slotsM r c s) x := by
  unfold crossM at h
  split at h
  · exact crossGo_ok r c s _ x h
  · cases h
/-- A word has support: each crossing's other slot has a word with its letter. -/
def supM (X : List ICross) (D : List (List ByteArray)) (slot : Int) (word : ByteArray) : Bool := X.all fun x => if slot = x.f0 then (D.getD x.f1.toNat []).any (supAt x.f3 x.f2 word) else if slot = x.f1 then (D.getD x.f0.toNat []).any (supAt x.f2 x.f3 word) else true
theorem slot_f3_le {r c : Int} {s : ByteArray} {i : Nat} (h : i < (slotsM r c s).length) : 0 ≤ (slotsM r c s)[i].f3 ∧ (slotsM r c s)[i].f3 ≤ 6 := by
  obtain ⟨_, _, _, _, _, _, _, _, h7, h8⟩ := slotsM_elem h
  omega
theorem supGo_eq (sl : List ISlot) (D : List (List ByteArray)) (slot : Int) (word : ByteArray) (hD : D.length = sl.length) (hrow : ∀ d ∈ D, d.length ≤ 1048576) (hf : ∀ i (h : i < sl.length), sl[i].f3 ≤ 6) (hw : ∀ i (h : i < sl.length), slot = i → (word.size : Int) = sl[i].f3) :
    ∀ X : List ICross, (∀ x ∈ X, crossOk sl x) → supGo D slot word X = some (supM X D slot word)
  | [], _ => rfl
  | x :: X, h => by
    have ih := supGo_eq sl D slot word hD hrow hf hw X (fun y hy => h y (by simp [hy]))
    obtain ⟨p, q, hp, hq, e0, e1, hpq, h2, h3⟩ := h x (by simp)
    have fp := hf p hp
    have fq := hf q hq
    have rw_ : ∀ j : Nat, j < sl.length → (D.getD j []).length ≤ 1048576 := fun j hj => by
      have hj' : j < D.length := by omega
      rw [List.getD_eq_getElem?_getD, List.getElem?_eq_getElem hj']
      exact hrow _ (List.getElem_mem hj')
    unfold supM
    rw [List.all_cons, supGo_cons]
    by_cases hA : slot = x.f0
    · have hs := hw p hp (by omega)
      have r1 := rw_ q hq
      rw [if_pos hA, if_pos hA]
      unfold supLet
      rw [if_pos ⟨⟨⟨by omega, by omega⟩, ⟨h2.1, by omega⟩⟩, ⟨⟨h3.1, by omega⟩, by rw [e1, Int.toNat_natCast]; exact r1⟩⟩, Option.bind_some]
      cases (D.getD x.f1.toNat []).any (supAt x.f3 x.f2 word)
      · rw [if_neg (by simp)]
        rfl
      · rw [if_pos rfl, ih]
        rfl
    · rw [if_neg hA, if_neg hA]
      by_cases hB : slot = x.f1
      · have hs := hw q hq (by omega)
        have r1 := rw_ p hp
        rw [if_pos hB, if_pos hB]
        unfold supLet
        rw [if_pos ⟨⟨⟨by omega, by omega⟩, ⟨h3.1, by omega⟩⟩, ⟨⟨h2.1, by omega⟩, by rw [e0, Int.toNat_natCast]; exact r1⟩⟩, Option.bind_some]
        cases (D.getD x.f0.toNat []).any (supAt x.f2 x.f3 word)
        · rw [if_neg (by simp)]
          rfl
        · rw [if_pos rfl, ih]
          rfl
      · rw [if_neg hB, if_neg hB, ih]
        rfl
theorem impl_supported_eq (r c : Int) (s : ByteArray) (D : List (List ByteArray)) (slot : Int) (word : ByteArray) (hD : D.length = (slotsM r c s).length) (hrow : ∀ d ∈ D, d.length ≤ 1048576) (hw : ∀ i (h : i < (slotsM r c s).length), slot = i → (word.size : Int) = (slotsM r c s)[i].f3) :
    impl_supported.f (crossM r c s) D slot word = some (supM (crossM r c s) D slot word) := by
  have := crossM_length r c s
  unfold impl_supported.f
  rw [if_pos (by omega)]
  exact supGo_eq (slotsM r c s) D slot word hD hrow (fun i h => (slot_f3_le h).2) hw _ (fun x hx => crossM_ok hx)
theorem spec_l12Letter_l0_ev (d : List ByteArray) (at_ letter : Int) (h0 : 0 ≤ at_) (hl : d.length ≤ 1048576) : ∀ i : Nat, i ≤ d.length → Ev (fun k => spec_l12Letter.l0 k d at_ letter i) ((d.drop i).any fun w => decide (at_ < (w.size : Int)) && (bt w at_ == letter)) := by
  refine down d.length ?_ ?_
  · intro i h hi
    apply ev_succ
    simp only [spec_l12Letter.l0]
    exact ev_neg (by omega) (ev_now (by rw [List.drop_eq_nil_of_le h]; rfl))
  · intro i h ih hi
    apply ev_succ
    simp only [spec_l12Letter.l0]
    rw [rdOf_get h, wrap64_id (n := (i : Int) + 1) (by omega) (by omega), succ_cast, List.drop_eq_getElem_cons h, List.any_cons]
    refine ev_pos (by omega) (ev_pos (by omega) ?_)
    by_cases h1 : at_ < (d[i].size : Int)
    · refine ev_pos h1 (ev_pos h0 ?_)
      by_cases h2 : bt d[i] at_ = letter
      · exact ev_pos h2 (ev_now (by rw [decide_eq_true h1, beq_iff_eq.2 h2]; rfl))
      · exact ev_neg h2 (ev_eq (ih (by omega)) (by rw [decide_eq_true h1, beq_eq_false_iff_ne.2 h2]; rfl))
    · exact ev_neg h1 (ev_eq (ih (by omega)) (by rw [decide_eq_false h1]; rfl))
theorem spec_l12Letter_ev (d : List ByteArray) (at_ own : Int) (word : ByteArray) (h0 : 0 ≤ at_) (hl : d.length ≤ 1048576) : Ev (fun k => spec_l12Letter.f k d at_ (bt word own)) (d.any (supAt at_ own word)) := by
  unfold spec_l12Letter.f
  exact ev_eq (spec_l12Letter_l0_ev d at_ _ h0 hl 0 (by omega)) (by rw [List.drop_zero]; rfl)
theorem supM_drop {X : List ICross} {i : Nat} (h : i < X.length) (D : List (List ByteArray)) (slot : Int) (word : ByteArray) : supM (X.drop i) D slot word = ((if slot = X[i].f0 then (D.getD X[i].f1.toNat []).any (supAt X[i].f3 X[i].f2 word) else if slot = X[i].f1 then (D.getD X[i].f0.toNat []).any (supAt X[i].f2 X[i].f3 word) else true) && supM (X.drop (i + 1)) D slot word) := by
  rw [List.drop_eq_getElem_cons h]
  rfl
theorem spec_l12Support_l0_ev (sl : List ISlot) (X : List ICross) (D : List (List ByteArray)) (slot : Int) (word : ByteArray) (hX : ∀ x ∈ X, crossOk sl x) (hl : X.length ≤ 1000) (hD : D.length = sl.length) (hrow : ∀ d ∈ D, d.length ≤ 1048576) (hf : ∀ i (h : i < sl.length), sl[i].f3 ≤ 6) (hw : ∀ i (h : i < sl.length), slot = i → (word.size : Int) = sl[i].f3) :
    ∀ i : Nat, i ≤ X.length → Ev (fun k => spec_l12Support.l0 k X D slot word i) (supM (X.drop i) D slot word) := by
  refine down X.length ?_ ?_
  · intro i h hi
    apply ev_succ
    simp only [spec_l12Support.l0]
    exact ev_neg (by omega) (ev_now (by rw [List.drop_eq_nil_of_le h]; rfl))
  · intro i h ih hi
    obtain ⟨p, q, hp, hq, e0, e1, hpq, h2, h3⟩ := hX X[i] (List.getElem_mem h)
    have fp := hf p hp
    have fq := hf q hq
    have row : ∀ j : Nat, ∀ hj : j < D.length, Ev (fun k => spec_l12Letter.f k D[j] X[i].f3 (bt word X[i].f2)) (D[j].any (supAt X[i].f3 X[i].f2 word)) ∧ Ev (fun k => spec_l12Letter.f k D[j] X[i].f2 (bt word X[i].f3)) (D[j].any (supAt X[i].f2 X[i].f3 word)) := fun j hj => ⟨spec_l12Letter_ev _ _ _ _ h3.1 (hrow _ (List.getElem_mem hj)), spec_l12Letter_ev _ _ _ _ h2.1 (hrow _ (List.getElem_mem hj))⟩
    have gd : ∀ j : Nat, ∀ hj : j < D.length, D.getD j [] = D[j] := fun j hj => by rw [List.getD_eq_getElem?_getD, List.getElem?_eq_getElem hj]; rfl
    rw [supM_drop h]
    apply ev_succ
    simp only [spec_l12Support.l0]
    rw [rd_Cross_get h]
    refine ev_pos (by omega) (ev_pos (by omega) ?_)
    by_cases hA : X[i].f0 = slot
    · have hs := hw p hp (by omega)
      have hqD : q < D.length := by omega
      rw [if_pos hA.symm]
      refine ev_pos hA (ev_pos (by omega) (ev_pos (by omega) (ev_pos h2.1 (ev_pos (by omega) ?_))))
      rw [e1, rd_rows_get hqD, Int.toNat_natCast, gd q hqD]
      refine ev_bind (row q hqD).1 (ev_succ ?_)
      simp only [spec_l12Support.j1]
      cases D[q].any (supAt X[i].f3 X[i].f2 word)
      · exact ev_pos (by simp) (ev_now (by simp))
      · rw [rd_Cross_get h, wrap64_id (n := (i : Int) + 1) (by omega) (by omega), succ_cast]
        exact ev_neg (by simp) (ev_pos (by omega) (ev_pos (by omega) (ev_neg (by omega) (ev_eq (ih (by omega)) (by simp)))))
    · rw [if_neg (fun e => hA e.symm)]
      refine ev_neg hA (ev_succ ?_)
      simp only [spec_l12Support.j1]
      rw [rd_Cross_get h, wrap64_id (n := (i : Int) + 1) (by omega) (by omega), succ_cast]
      refine ev_neg (by simp) (ev_pos (by omega) (ev_pos (by omega) ?_))
      by_cases hB : X[i].f1 = slot
      · have hs := hw q hq (by omega)
        have hpD : p < D.length := by omega
        rw [if_pos hB.symm]
        refine ev_pos hB (ev_pos (by omega) (ev_pos (by omega) (ev_pos h3.1 (ev_pos (by omega) ?_))))
        rw [e0, rd_rows_get hpD, Int.toNat_natCast, gd p hpD]
        refine ev_bind (row p hpD).2 ?_
        cases D[p].any (supAt X[i].f2 X[i].f3 word)
        · exact ev_neg (by simp) (ev_now (by simp))
        · exact ev_pos (by simp) (ev_eq (ih (by omega)) (by simp))
      · rw [if_neg (fun e => hB e.symm)]
        exact ev_neg hB (ev_eq (ih (by omega)) (by simp))
theorem spec_l12Support_ev (r c : Int) (s : ByteArray) (D : List (List ByteArray)) (slot : Int) (word : ByteArray) (hD : D.length = (slotsM r c s).length) (hrow : ∀ d ∈ D, d.length ≤ 1048576) (hw : ∀ i (h : i < (slotsM r c s).length), slot = i → (word.size : Int) = (slotsM r c s)[i].f3) :
    Ev (fun k => spec_l12Support.f k (crossM r c s) D slot word) (supM (crossM r c s) D slot word) := by
  have := crossM_length r c s
  unfold spec_l12Support.f
  exact ev_eq (spec_l12Support_l0_ev (slotsM r c s) (crossM r c s) D slot word (fun x hx => crossM_ok hx) (by omega) hD hrow (fun i h => (slot_f3_le h).2) hw 0 (by omega)) (by simp)
/-- What Support answers. -/
def supportM (r c : Int) (s : ByteArray) (D : List (List ByteArray)) (slot : Int) (word : ByteArray) : Bool := if (D.length = (slotsM r c s).length ∧ (0 ≤ slot ∧ slot < (slotsM r c s).length)) ∧ (wordM word = true ∧ (word.size : Int) = ((slotsM r c s).getD slot.toNat ⟨0, false, 0, 0⟩).f3) then supM (crossM r c s) D slot word else false
theorem impl_Support_ev (r c : Int) (s : ByteArray) (D : List (List ByteArray)) (slot : Int) (word : ByteArray) (hs : s.size ≤ 1048576) (hrow : ∀ d ∈ D, d.length ≤ 1048576) (hw : word.size ≤ 1048576) : Ev (fun k => impl_Support.f k r c s D slot word) (supportM r c s D slot word) := by
  have hl := slotsM_length r c s
  have no : Ev (fun k => impl_Support.j0 k D slot word true r c s) false := by
    apply ev_succ
    simp only [impl_Support.j0]
    exact ev_pos (by simp) (ev_now rfl)
  unfold impl_Support.f supportM
  refine ev_bind (impl_SlotsOf_ev r c s hs) (ev_let (impl_at_eq _ _) ?_)
  by_cases h2 : 0 ≤ slot ∧ slot < (slotsM r c s).length
  · refine ev_pos (by simpa using h2) ?_
    by_cases h1 : D.length = (slotsM r c s).length
    · refine ev_pos (by omega) (ev_bind (impl_IsWord_ev word (by omega)) ?_)
      by_cases h3 : wordM word = true
      · obtain ⟨j, rfl⟩ := Int.eq_ofNat_of_zero_le h2.1
        have hj : j < (slotsM r c s).length := by omega
        refine ev_pos h3 (ev_pos h2.1 (ev_pos h2.2 ?_))
        rw [rd_Slot_get hj, Int.toNat_natCast, List.getD_eq_getElem?_getD, List.getElem?_eq_getElem hj, Option.getD_some]
        by_cases h4 : (word.size : Int) = (slotsM r c s)[j].f3
        · rw [if_pos ⟨⟨h1, h2⟩, h3, h4⟩, show ((word.size : Int) != (slotsM r c s)[j].f3) = false by simp [h4]]
          apply ev_succ
          simp only [impl_Support.j0]
          refine ev_neg (by simp) (ev_bind (impl_CrossingsOf_ev r c s hs) (ev_let (impl_supported_eq r c s D j word h1 hrow (fun i hi e => ?_)) (ev_now rfl)))
          obtain rfl : i = j := by omega
          exact h4
        · rw [if_neg (fun hh => h4 hh.2.2), show ((word.size : Int) != (slotsM r c s)[j].f3) = true by simpa using h4]
          exact no
      · refine ev_neg h3 ?_
        rw [if_neg (fun hh => h3 hh.2.1)]
        exact no
    · refine ev_neg (by omega) ?_
      rw [if_neg (fun hh => h1 hh.1.1)]
      exact no
  · refine ev_neg (by simpa using h2) ?_
    rw [if_neg (fun hh => h2 hh.1.2)]
    exact no

/-! ### marks -/

/-! ### marksss -/

/-! ### prune -/
def tM (X : List ICross) (D : List (List ByteArray)) (i : Nat) (len : Int) (w : ByteArray) : Bool := wordM w && (decide ((w.size : Int) = len) && supM X D i w)
def keepM (X : List ICross) (D : List (List ByteArray)) (i : Nat) (len : Int) (row : List ByteArray) : List ByteArray := row.filter (tM X D i len)
/-- One round of pruning, from slot i on. -/
def inM (X : List ICross) : List ISlot → Nat → List (List ByteArray) → Bool → List (List ByteArray) × Bool
  | [], _, D, b => (D, b)
  | s :: l, i, D, b => if (keepM X D i s.f3 (D.getD i [])).length < (D.getD i []).length then inM X l (i + 1) (D.set i (keepM X D i s.f3 (D.getD i []))) true else inM X l (i + 1) D b
theorem inM_cons (X : List ICross) (s : ISlot) (l : List ISlot) (i : Nat) (D : List (List ByteArray)) (b : Bool) : inM X (s :: l) i D b = if (keepM X D i s.f3 (D.getD i [])).length < (D.getD i []).length then inM X l (i + 1) (D.set i (keepM X D i s.f3 (D.getD i []))) true else inM X l (i + 1) D b := rfl
def outM (X : List ICross) (sl : List ISlot) : Nat → List (List ByteArray) → List (List ByteArray)
  | 0, D => D
  | n + 1, D => if (inM X sl 0 D false).2 = true then outM X sl n (inM X sl 0 D false).1 else (inM X sl 0 D false).1
theorem outM_succ (X : List ICross) (sl : List ISlot) (n : Nat) (D : List (List ByteArray)) : outM X sl (n + 1) D = if (inM X sl 0 D false).2 = true then outM X sl n (inM X sl 0 D false).1 else (inM X sl 0 D false).1 := rfl
def sumL (D : List (List ByteArray)) : Nat := (D.map List.length).sum
theorem sumL_set : ∀ (D : List (List ByteArray)) (i : Nat) (q : List ByteArray), i < D.length → sumL (D.set i q) + (D.getD i []).length = sumL D + q.length
  | [], i, q, h => by simp at h
  | d :: D, 0, q, h => by simp [sumL]; omega
  | d :: D, i + 1, q, h => by
    have := sumL_set D i q (by simpa using h)
    simp only [sumL, List.set_cons_succ, List.map_cons, List.sum_cons, List.getD_cons_succ] at this ⊢
    omega
/-- Rows, and words, of bounded size. -/
def Dom (n : Nat) (D : List (List ByteArray)) : Prop := D.length = n ∧ ∀ d ∈ D, d.length ≤ 1048576 ∧ ∀ w ∈ d, w.size ≤ 1048576
theorem Dom.row {n : Nat} {D : List (List ByteArray)} (h : Dom n D) (i : Nat) : (D.getD i []).length ≤ 1048576 ∧ ∀ w ∈ D.getD i [], w.size ≤ 1048576 := by
  by_cases hi : i < D.length
  · rw [List.getD_eq_getElem?_getD, List.getElem?_eq_getElem hi]
    exact h.2 _ (List.getElem_mem hi)
  · rw [List.getD_eq_getElem?_getD, List.getElem?_eq_none (by omega)]
    simp
theorem Dom.set {n : Nat} {D : List (List ByteArray)} (h : Dom n D) (X : List ICross) (i : Nat) (len : Int) : Dom n (D.set i (keepM X D i len (D.getD i []))) := by
  refine ⟨by rw [List.length_set]; exact h.1, fun d hd => ?_⟩
  rcases List.mem_or_eq_of_mem_set hd with hd | rfl
  · exact h.2 d hd
  · obtain ⟨h1, h2⟩ := h.row i
    exact ⟨Nat.le_trans (List.length_filter_le _ _) h1, fun w hw => h2 w (List.mem_filter.1 hw).1⟩
theorem inM_facts {n : Nat} (X : List ICross) : ∀ (l : List ISlot) (i : Nat) (D : List (List ByteArray)) (b : Bool), Dom n D → i + l.length ≤ n → Dom n (inM X l i D b).1 ∧ sumL (inM X l i D b).1 ≤ sumL D ∧ ((inM X l i D b).2 = true → b = true ∨ sumL (inM X l i D b).1 < sumL D)
  | [], i, D, b, h, _ => ⟨h, Nat.le_refl _, fun e => .inl e⟩
  | s :: l, i, D, b, h, hi => by
    rw [List.length_cons] at hi
    rw [inM_cons]
    have hl := h.1
    split
    · rename_i hlt
      have hs := sumL_set D i (keepM X D i s.f3 (D.getD i [])) (by omega)
      obtain ⟨h1, h2, h3⟩ := inM_facts X l (i + 1) _ true (h.set X i s.f3) (by omega)
      exact ⟨h1, by omega, fun _ => .inr (by omega)⟩
    · exact inM_facts X l (i + 1) D b h (by omega)
theorem outM_facts {n0 : Nat} (X : List ICross) (sl : List ISlot) (hsl : sl.length ≤ n0) : ∀ (n : Nat) (D : List (List ByteArray)), Dom n0 D → Dom n0 (outM X sl n D) ∧ sumL (outM X sl n D) ≤ sumL D
  | 0, D, h => ⟨h, Nat.le_refl _⟩
  | n + 1, D, h => by
    rw [outM_succ]
    obtain ⟨h1, h2, _⟩ := inM_facts X sl 0 D false h (by omega)
    split
    · obtain ⟨h3, h4⟩ := outM_facts X sl hsl n _ h1
      exact ⟨h3, by omega⟩
    · exact ⟨h1, h2⟩
def pruneM (r c : Int) (s : ByteArray) (D : List (List ByteArray)) : List (List ByteArray) := if D.length = (slotsM r c s).length then outM (crossM r c s) (slotsM r c s) (sumL D + 1) D else D
theorem pruneM_facts {r c : Int} {s : ByteArray} {D : List (List ByteArray)} (h : Dom D.length D) : Dom D.length (pruneM r c s D) ∧ sumL (pruneM r c s D) ≤ sumL D := by
  unfold pruneM
  split
  · rename_i he
    exact outM_facts _ _ (by omega) _ _ h
  · exact ⟨h, Nat.le_refl _⟩
theorem prTest_ev (r c : Int) (s : ByteArray) (D : List (List ByteArray)) (i : Nat) (x : ByteArray) (hD : Dom (slotsM r c s).length D) (hi : i < (slotsM r c s).length) (hx : x.size ≤ 1048576) : Ev (fun k => prTest k (crossM r c s) D i (slotsM r c s)[i].f3 x) (tM (crossM r c s) D i (slotsM r c s)[i].f3 x) := by
  unfold prTest tM
  refine ev_bind (impl_IsWord_ev x (by omega)) ?_
  by_cases h1 : wordM x = true
  · by_cases h2 : (x.size : Int) = (slotsM r c s)[i].f3
    · refine ev_pos h1 (ev_pos h2 ?_)
      rw [h1, decide_eq_true h2, Bool.true_and, Bool.true_and, impl_supported_eq r c s D i x hD.1 (fun d hd => (hD.2 d hd).1) (fun j hj e => by obtain rfl : j = i := (by omega); exact h2)]
      exact ev_now rfl
    · exact ev_pos h1 (ev_neg h2 (ev_now (by rw [h1, decide_eq_false h2]; rfl)))
  · exact ev_neg h1 (ev_now (by rw [Bool.not_eq_true] at h1; rw [h1]; rfl))
theorem prKeep_ev (r c : Int) (s : ByteArray) (D : List (List ByteArray)) (i : Nat) (hD : Dom (slotsM r c s).length D) (hi : i < (slotsM r c s).length) : ∀ row : List ByteArray, (∀ w ∈ row, w.size ≤ 1048576) → Ev (fun k => prKeep k (crossM r c s) D i (slotsM r c s)[i].f3 row) (keepM (crossM r c s) D i (slotsM r c s)[i].f3 row)
  | [], _ => by
    simp only [prKeep_nil]
    exact ev_now rfl
  | x :: row, h => by
    simp only [prKeep_cons]
    refine ev_bind (prTest_ev r c s D i x hD hi (h x (by simp))) (ev_bind (prKeep_ev r c s D i hD hi row (fun w hw => h w (by simp [hw]))) (ev_now ?_))
    unfold keepM
    rw [List.filter_cons]
theorem prIn_ev (r c : Int) (s : ByteArray) : ∀ i : Nat, i ≤ (slotsM r c s).length → ∀ (D : List (List ByteArray)) (b : Bool), Dom (slotsM r c s).length D → Ev (fun k => prIn k (crossM r c s) ((slotsM r c s).drop i) i D b) (inM (crossM r c s) ((slotsM r c s).drop i) i D b) := by
  refine down (slotsM r c s).length ?_ ?_
  · intro i h hi D b hD
    rw [List.drop_eq_nil_of_le h]
    simp only [prIn_nil]
    exact ev_now rfl
  · intro i h ih hi D b hD
    obtain ⟨h1, h2⟩ := hD.row i
    rw [List.drop_eq_getElem_cons h]
    simp only [prIn_cons, inM_cons]
    refine ev_pos ⟨by rw [hD.1]; exact h, h1⟩ (ev_bind (prKeep_ev r c s D i hD h _ h2) ?_)
    by_cases hc : (keepM (crossM r c s) D i (slotsM r c s)[i].f3 (D.getD i [])).length < (D.getD i []).length
    · rw [if_pos hc]
      exact ev_pos hc (ih (by omega) _ _ (hD.set _ _ _))
    · rw [if_neg hc]
      exact ev_neg hc (ih (by omega) _ _ hD)
theorem prOut_ev (r c : Int) (s : ByteArray) : ∀ (n : Nat) (D : List (List ByteArray)), sumL D < n → Dom (slotsM r c s).length D → Ev (fun k => prOut (crossM r c s) (slotsM r c s) k D) (outM (crossM r c s) (slotsM r c s) n D)
  | 0, D, h, _ => by omega
  | n + 1, D, h, hD => by
    apply ev_succ
    simp only [prOut_succ, outM_succ]
    have hin := prIn_ev r c s 0 (by omega) D false hD
    rw [List.drop_zero] at hin
    obtain ⟨h1, h2, h3⟩ := inM_facts (crossM r c s) (slotsM r c s) 0 D false hD (by omega)
    refine ev_bind hin ?_
    by_cases hb : (inM (crossM r c s) (slotsM r c s) 0 D false).2 = true
    · rw [if_pos hb]
      refine ev_pos hb (prOut_ev r c s n _ ?_ h1)
      rcases h3 hb with h4 | h4
      · cases h4
      · omega
    · rw [if_neg hb]
      exact ev_neg hb (ev_now rfl)
theorem impl_copyDomains_l0_ev (l : List (List ByteArray)) (hl : l.length ≤ 1048576) (hr : ∀ d ∈ l, d.length ≤ 1048576) : ∀ i : Nat, i ≤ l.length → ∀ acc : List (List ByteArray), acc.length ≤ i → Ev (fun k => impl_copyDomains.l0 k acc l l.length i) (acc ++ l.drop i) := by
  refine down l.length ?_ ?_
  · intro i h hi acc ha
    apply ev_succ
    simp only [impl_copyDomains.l0]
    exact ev_neg (by omega) (ev_now (by rw [List.drop_eq_nil_of_le h]; simp))
  · intro i h ih hi acc ha
    have hrow := hr _ (List.getElem_mem h)
    apply ev_succ
    simp only [impl_copyDomains.l0]
    rw [rd_rows_get h, wrap64_id (n := (i : Int) + 1) (by omega) (by omega), succ_cast]
    refine ev_pos (by omega) (ev_pos (by omega) (ev_pos (by omega) (ev_let (a := l[i]) ?_ (ev_pos (by omega) (ev_eq (ih (by omega) _ (by simp; omega)) (by simp))))))
    unfold slices_Clone_string_string.f
    rw [if_pos (by omega)]
theorem impl_copyDomains_ev (l : List (List ByteArray)) (hl : l.length ≤ 1048576) (hr : ∀ d ∈ l, d.length ≤ 1048576) : Ev (fun k => impl_copyDomains.f k l) l := by
  unfold impl_copyDomains.f
  exact ev_eq (impl_copyDomains_l0_ev l hl hr 0 (by omega) [] (by simp)) (by simp)
theorem impl_Prune_ev (r c : Int) (s : ByteArray) (D : List (List ByteArray)) (hs : s.size ≤ 1048576) (hl : D.length ≤ 1048576) (hD : Dom D.length D) : Ev (fun k => impl_Prune.f k r c s D) (pruneM r c s D) := by
  unfold impl_Prune.f pruneM
  refine ev_bind (impl_copyDomains_ev D hl (fun d hd => (hD.2 d hd).1)) (ev_bind (impl_SlotsOf_ev r c s hs) ?_)
  by_cases h : D.length = (slotsM r c s).length
  · rw [if_pos h]
    exact ev_pos h (ev_bind (impl_CrossingsOf_ev r c s hs) (prOut_ev r c s _ D (by omega) (h ▸ hD)))
  · rw [if_neg h]
    exact ev_neg h (ev_now rfl)
theorem spec_l12Copy_l0_ev (l : List (List ByteArray)) (hl : l.length ≤ 1048576) (hr : ∀ d ∈ l, d.length ≤ 1048576) : ∀ i : Nat, i ≤ l.length → ∀ acc : List (List ByteArray), acc.length ≤ i → Ev (fun k => spec_l12Copy.l0 k l acc i) (acc ++ l.drop i) := by
  refine down l.length ?_ ?_
  · intro i h hi acc ha
    apply ev_succ
    simp only [spec_l12Copy.l0]
    exact ev_neg (by omega) (ev_now (by rw [List.drop_eq_nil_of_le h]; simp))
  · intro i h ih hi acc ha
    have hrow := hr _ (List.getElem_mem h)
    apply ev_succ
    simp only [spec_l12Copy.l0]
    rw [rd_rows_get h, wrap64_id (n := (i : Int) + 1) (by omega) (by omega), succ_cast]
    exact ev_pos (by omega) (ev_let rfl (ev_pos (by omega) (ev_pos (by simp; omega) (ev_pos (by omega) (ev_eq (ih (by omega) _ (by simp; omega)) (by simp))))))
theorem spec_l12Copy_ev (l : List (List ByteArray)) (hl : l.length ≤ 1048576) (hr : ∀ d ∈ l, d.length ≤ 1048576) : Ev (fun k => spec_l12Copy.f k l) l := by
  unfold spec_l12Copy.f
  exact ev_eq (spec_l12Copy_l0_ev l hl hr 0 (by omega) [] (by simp)) (by simp)
theorem spec_Prune_l2_ev (r c : Int) (s : ByteArray) (D : List (List ByteArray)) (b : Bool) (i : Nat) (ρ : List (List ByteArray)) (hD : Dom (slotsM r c s).length D) (hi : i < (slotsM r c s).length) (row : List ByteArray) (hrow : D.getD i [] = row)
    (hρ : Ev (fun k => if (keepM (crossM r c s) D i (slotsM r c s)[i].f3 row).length < row.length then spec_Prune.l1 k (D.set i (keepM (crossM r c s) D i (slotsM r c s)[i].f3 row)) (slotsM r c s) (crossM r c s) true (i + 1 : Nat) else spec_Prune.l1 k D (slotsM r c s) (crossM r c s) b (i + 1 : Nat)) ρ) :
    ∀ j : Nat, j ≤ row.length → ∀ acc : List ByteArray, acc.length ≤ j → acc ++ keepM (crossM r c s) D i (slotsM r c s)[i].f3 (row.drop j) = keepM (crossM r c s) D i (slotsM r c s)[i].f3 row → Ev (fun k => spec_Prune.l2 k D (slotsM r c s) (crossM r c s) b i acc j) ρ := by
  obtain ⟨h1, h2⟩ := hD.row i
  rw [hrow] at h1 h2
  have hiD : i < D.length := by rw [hD.1]; exact hi
  have hsl := slotsM_length r c s
  have hget : D[i] = row := by
    rw [List.getD_eq_getElem?_getD, List.getElem?_eq_getElem hiD] at hrow
    exact hrow
  refine down row.length ?_ ?_
  · intro j h hj acc ha he
    have he' : acc = keepM (crossM r c s) D i (slotsM r c s)[i].f3 row := by
      rw [← he, List.drop_eq_nil_of_le h]
      simp [keepM]
    apply ev_succ
    simp only [spec_Prune.l2]
    rw [rd_rows_get hiD, hget, wrap64_id (n := (i : Int) + 1) (by omega) (by omega), succ_cast, Int.toNat_natCast]
    refine ev_pos (by omega) (ev_pos (by omega) (ev_neg (by omega) ?_))
    subst he'
    by_cases hc : (keepM (crossM r c s) D i (slotsM r c s)[i].f3 row).length < row.length
    · refine ev_pos (by omega) (ev_eq ?_ rfl)
      simp only [if_pos hc] at hρ
      exact hρ
    · refine ev_neg (by omega) (ev_eq ?_ rfl)
      simp only [if_neg hc] at hρ
      exact hρ
  · intro j h ih hj acc ha he
    have hwj := h2 _ (List.getElem_mem h)
    apply ev_succ
    simp only [spec_Prune.l2]
    rw [rd_rows_get hiD, hget, rdOf_get h, wrap64_id (n := (j : Int) + 1) (by omega) (by omega), succ_cast, rd_Slot_get hi]
    refine ev_pos (by omega) (ev_pos (by omega) (ev_pos (by omega) (ev_pos (by omega) (ev_bind (spec_IsWord_ev row[j] (by omega)) ?_))))
    rw [List.drop_eq_getElem_cons h] at he
    unfold keepM at he
    rw [List.filter_cons] at he
    have next0 : tM (crossM r c s) D i (slotsM r c s)[i].f3 row[j] = false → Ev (fun k => spec_Prune.l2 k D (slotsM r c s) (crossM r c s) b i acc (j + 1 : Nat)) ρ := fun ht => by
      rw [ht, if_neg (by simp)] at he
      exact ih (by omega) acc (by omega) he
    by_cases e1 : wordM row[j] = true
    · refine ev_pos e1 (ev_pos (by omega) ?_)
      by_cases e2 : (row[j].size : Int) = (slotsM r c s)[i].f3
      · refine ev_pos e2 (ev_bind (spec_l12Support_ev r c s D i row[j] hD.1 (fun d hd => (hD.2 d hd).1) (fun q hq e => by obtain rfl : q = i := (by omega); exact e2)) ?_)
        by_cases e3 : supM (crossM r c s) D i row[j] = true
        · have ht : tM (crossM r c s) D i (slotsM r c s)[i].f3 row[j] = true := by unfold tM; rw [e1, decide_eq_true e2, e3]; rfl
          rw [if_pos ht] at he
          exact ev_pos e3 (ev_pos (by omega) (ih (by omega) _ (by simp; omega) (by unfold keepM; rw [← he]; simp)))
        · exact ev_neg e3 (next0 (by unfold tM; rw [Bool.not_eq_true] at e3; rw [e3]; simp))
      · exact ev_neg e2 (next0 (by unfold tM; rw [decide_eq_false e2]; simp))
    · exact ev_neg e1 (next0 (by unfold tM; rw [Bool.not_eq_true] at e1; rw [e1]; rfl))
theorem spec_Prune_l1_ev (r c : Int) (s : ByteArray) (ρ : List (List ByteArray)) : ∀ i : Nat, i ≤ (slotsM r c s).length → ∀ (D : List (List ByteArray)) (b : Bool), Dom (slotsM r c s).length D →
    Ev (fun k => spec_Prune.l0 k (inM (crossM r c s) ((slotsM r c s).drop i) i D b).1 (slotsM r c s) (crossM r c s) (inM (crossM r c s) ((slotsM r c s).drop i) i D b).2) ρ → Ev (fun k => spec_Prune.l1 k D (slotsM r c s) (crossM r c s) b i) ρ := by
  have hsl := slotsM_length r c s
  refine down (slotsM r c s).length ?_ ?_
  · intro i h hi D b hD hρ
    rw [List.drop_eq_nil_of_le h] at hρ
    apply ev_succ
    simp only [spec_Prune.l1]
    exact ev_neg (by rw [hD.1]; omega) hρ
  · intro i h ih hi D b hD hρ
    rw [List.drop_eq_getElem_cons h, inM_cons] at hρ
    apply ev_succ
    simp only [spec_Prune.l1]
    refine ev_pos (by rw [hD.1]; omega) (spec_Prune_l2_ev r c s D b i ρ hD h _ rfl ?_ 0 (by omega) [] (by simp) (by simp))
    by_cases hc : (keepM (crossM r c s) D i (slotsM r c s)[i].f3 (D.getD i [])).length < (D.getD i []).length
    · rw [if_pos hc] at hρ
      exact ev_pos hc (ih (by omega) _ _ (hD.set _ _ _) hρ)
    · rw [if_neg hc] at hρ
      exact ev_neg hc (ih (by omega) _ _ hD hρ)
theorem spec_Prune_l0_ev (r c : Int) (s : ByteArray) : ∀ (n : Nat) (D : List (List ByteArray)), sumL D < n → Dom (slotsM r c s).length D → Ev (fun k => spec_Prune.l0 k D (slotsM r c s) (crossM r c s) true) (outM (crossM r c s) (slotsM r c s) n D)
  | 0, D, h, _ => by omega
  | n + 1, D, h, hD => by
    obtain ⟨h1, h2, h3⟩ := inM_facts (crossM r c s) (slotsM r c s) 0 D false hD (by omega)
    apply ev_succ
    simp only [spec_Prune.l0, outM_succ]
    refine ev_pos (by simp) (spec_Prune_l1_ev r c s _ 0 (by omega) D false hD ?_)
    rw [List.drop_zero]
    by_cases hb : (inM (crossM r c s) (slotsM r c s) 0 D false).2 = true
    · rw [if_pos hb, hb]
      refine spec_Prune_l0_ev r c s n _ ?_ h1
      rcases h3 hb with h4 | h4
      · cases h4
      · omega
    · rw [if_neg hb]
      rw [Bool.not_eq_true] at hb
      rw [hb]
      apply ev_succ
      simp only [spec_Prune.l0]
      exact ev_neg (by simp) (ev_now rfl)
theorem spec_Prune_ev (r c : Int) (s : ByteArray) (D : List (List ByteArray)) (hs : s.size ≤ 1048576) (hl : D.length ≤ 1048576) (hD : Dom D.length D) : Ev (fun k => spec_Prune.f k r c s D) (pruneM r c s D) := by
  unfold spec_Prune.f pruneM
  refine ev_bind (spec_l12Copy_ev D hl (fun d hd => (hD.2 d hd).1)) (ev_bind (spec_SlotsOf_ev r c s hs) ?_)
  by_cases h : D.length = (slotsM r c s).length
  · rw [if_pos h]
    exact ev_pos (by omega) (ev_bind (spec_CrossingsOf_ev r c s hs) (spec_Prune_l0_ev r c s _ D (by omega) (h ▸ hD)))
  · rw [if_neg h]
    exact ev_neg (by omega) (ev_now rfl)

/-! ### fill -/
/-- May this sign stand in a fill over this cell of a grid? -/
def fillC (g f : Int) : Bool := (decide (g = 35) == decide (f = 35)) && (decide (f = 35) || decide (f = 63) || isL f)
def fillM (r c : Int) (s f : ByteArray) : Bool := gridM r c s && (decide (f.size = s.size) && (List.range' 0 (f.size - 0)).all fun j => fillC (bt s j) (bt f j))
theorem gridM_cell {r c : Int} {s : ByteArray} (h : gridM r c s = true) (i : Nat) (hi : i < s.size) : bt s i = 35 ∨ bt s i = 46 := by
  simp only [gridM, Bool.and_eq_true, List.all_eq_true] at h
  have := h.2 i (by rw [List.mem_range']; exact ⟨i, by omega, by omega⟩)
  simpa [isC] using this
theorem spec_IsFill_l0_ev (r c : Int) (s f : ByteArray) (hg : gridM r c s = true) (hf : f.size ≤ 140737488351232) (he : f.size = s.size) : ∀ i : Nat, i ≤ f.size → Ev (fun k => spec_IsFill.l0 k f i r c s) ((List.range' i (f.size - i)).all fun j => fillC (bt s j) (bt f j)) := by
  refine down f.size ?_ ?_
  · intro i h hi
    apply ev_succ
    simp only [spec_IsFill.l0]
    refine ev_neg (by omega) (ev_now ?_)
    rw [range_nil h]; rfl
  · intro i h ih hi
    have hc := gridM_cell hg i (by omega)
    apply ev_succ
    simp only [spec_IsFill.l0]
    rw [range_cons h, List.all_cons, wrap64_id (by omega) (by omega), succ_cast]
    refine ev_pos (by omega) (ev_pos (by omega) ?_)
    have ih' := ih (by omega)
    by_cases h1 : bt f i = 63
    · refine ev_pos h1 (ev_pos (by omega) ?_)
      rcases hc with hc | hc
      · exact ev_pos hc (ev_neg (by omega) (ev_now (by simp [fillC, hc, h1])))
      · exact ev_neg (by omega) (ev_pos hc (ev_eq ih' (by simp [fillC, hc, h1])))
    · refine ev_neg h1 ?_
      by_cases h2 : bt f i ≥ 97
      · refine ev_pos h2 (ev_pos (by omega) ?_)
        rcases hc with hc | hc
        · exact ev_pos hc (ev_neg (by omega) (ev_now (by simp [fillC, hc, show ¬ bt f i = 35 by omega])))
        · refine ev_neg (by omega) (ev_pos hc ?_)
          by_cases h3 : bt f i ≤ 122
          · exact ev_pos h3 (ev_eq ih' (by simp [fillC, isL, hc, show ¬ bt f i = 35 by omega, h1, h2, h3]))
          · exact ev_neg h3 (ev_now (by simp [fillC, isL, hc, show ¬ bt f i = 35 by omega, h1, h2, h3]))
      · refine ev_neg h2 (ev_pos (by omega) ?_)
        rcases hc with hc | hc
        · refine ev_pos hc ?_
          by_cases h3 : bt f i = 35
          · exact ev_pos h3 (ev_neg (by omega) (ev_eq ih' (by simp [fillC, hc, h3])))
          · exact ev_neg h3 (ev_now (by simp [fillC, hc, h3]))
        · refine ev_neg (by omega) (ev_pos hc (ev_now ?_))
          have : fillC (bt s i) (bt f i) = false := by
            unfold fillC isL
            rw [hc]
            by_cases h3 : bt f i = 35
            · simp [h3]
            · simp [h3, h1]; omega
          simp [this]
theorem impl_IsFill_l0_ev (r c : Int) (s f : ByteArray) (hg : gridM r c s = true) (hf : f.size ≤ 140737488351232) (he : f.size = s.size) : ∀ i : Nat, i ≤ f.size → Ev (fun k => impl_IsFill.l0 k f f.size i r c s) ((List.range' i (f.size - i)).all fun j => fillC (bt s j) (bt f j)) := by
  refine down f.size ?_ ?_
  · intro i h hi
    apply ev_succ
    simp only [impl_IsFill.l0]
    refine ev_neg (by omega) (ev_now ?_)
    rw [range_nil h]; rfl
  · intro i h ih hi
    have hc := gridM_cell hg i (by omega)
    apply ev_succ
    simp only [impl_IsFill.l0]
    rw [range_cons h, List.all_cons, wrap64_id (by omega) (by omega), succ_cast]
    refine ev_pos (by omega) (ev_pos (by omega) (ev_pos (by omega) (ev_pos (by omega) ?_)))
    have ih' := ih (by omega)
    rcases hc with hc | hc
    · refine ev_pos hc ?_
      by_cases h1 : bt f i = 35
      · exact ev_pos h1 (ev_eq ih' (by simp [fillC, hc, h1]))
      · exact ev_neg h1 (ev_now (by simp [fillC, hc, h1]))
    · refine ev_neg (by omega) ?_
      by_cases h1 : bt f i = 35
      · exact ev_pos h1 (ev_now (by simp [fillC, hc, h1]))
      · refine ev_neg h1 ?_
        by_cases h2 : bt f i = 63
        · exact ev_pos h2 (ev_eq ih' (by simp [fillC, hc, h2]))
        · refine ev_neg h2 (ev_let (impl_isLetter_eq _) ?_)
          cases hl : isL (bt f i)
          · exact ev_neg (by simp) (ev_now (by simp [fillC, hc, h1, h2, hl]))
          · exact ev_pos rfl (ev_eq ih' (by simp [fillC, hc, h1, h2, hl]))
theorem spec_IsFill_ev (r c : Int) (s f : ByteArray) (hs : s.size ≤ 140737488351232) (hf : f.size ≤ 140737488351232) : Ev (fun k => spec_IsFill.f k r c s f) (fillM r c s f) := by
  unfold spec_IsFill.f fillM
  refine ev_bind (spec_IsGrid_ev r c s hs) ?_
  cases hg : gridM r c s
  · refine ev_neg (by simp) (ev_succ ?_)
    simp only [spec_IsFill.j0]
    exact ev_pos (by simp) (ev_now rfl)
  · refine ev_pos rfl (ev_succ ?_)
    simp only [spec_IsFill.j0]
    by_cases he : f.size = s.size
    · exact ev_neg (by simp [he]) (ev_eq (spec_IsFill_l0_ev r c s f hg hf he 0 (by omega)) (by simp [he]))
    · exact ev_pos (by simp; omega) (ev_now (by simp [he]))
theorem impl_IsFill_ev (r c : Int) (s f : ByteArray) (hs : s.size ≤ 140737488351232) (hf : f.size ≤ 140737488351232) : Ev (fun k => impl_IsFill.f k r c s f) (fillM r c s f) := by
  unfold impl_IsFill.f fillM
  refine ev_bind (impl_IsGrid_ev r c s hs) ?_
  cases hg : gridM r c s
  · refine ev_neg (by simp) (ev_succ ?_)
    simp only [impl_IsFill.j0]
    exact ev_pos (by simp) (ev_now rfl)
  · refine ev_pos rfl (ev_succ ?_)
    simp only [impl_IsFill.j0]
    by_cases he : f.size = s.size
    · exact ev_neg (by simp [he]) (ev_eq (impl_IsFill_l0_ev r c s f hg hf he 0 (by omega)) (by simp [he]))
    · exact ev_pos (by simp; omega) (ev_now (by simp [he]))

/-! ### pattern -/
/-- The signs of a fill at some cells. -/
def patM (f : ByteArray) (l : List Int) : ByteArray := strOfNums (l.map fun x => bt f x)
theorem strOfNums_size (l : List Int) : (strOfNums l).size = l.length := by
  simp [strOfNums, ByteArray.size]
theorem strOfNums_snoc (l : List Int) (f : ByteArray) (j : Nat) (hj : j < f.size) : strOfNums l ++ f.extract j (j + 1) = strOfNums (l ++ [bt f j]) := by
  apply ByteArray.ext
  apply Array.ext'
  have h1 : (f.extract j (j + 1)).data.toList = [f[j]] := by
    rw [ByteArray.data_extract, Array.toList_extract, List.extract_eq_take_drop]
    have hl : j < f.data.toList.length := by rw [Array.length_toList]; exact hj
    rw [show j + 1 - j = 1 by omega, List.drop_eq_getElem_cons hl]
    simp [ByteArray.getElem_eq_getElem_data]
  rw [ByteArray.toList_data_append, h1]
  simp [strOfNums, bt, hj]
theorem slot_cells_in {r c : Int} {s : ByteArray} {x : ISlot} {cell : Int} (hx : x ∈ slotsM r c s) (hc : cell ∈ cellsM c.toNat x) : 0 ≤ cell ∧ cell < s.size := by
  obtain ⟨R, C, rfl, rfl, _, _, h3, _, h5, _, hk⟩ := slotsM_ok hx
  obtain ⟨i, k, _, _, _, e, _, _, h, _⟩ := okSlot_cell (by omega) hk hc
  omega
theorem impl_readCells_l0_ev (f : ByteArray) (l : List Int) (hl : l.length ≤ 1000) (hc : ∀ x ∈ l, 0 ≤ x ∧ x < f.size) : ∀ i : Nat, i ≤ l.length → ∀ acc : List Int, acc.length ≤ i → Ev (fun k => impl_readCells.l0 k f acc l l.length i) (strOfNums (acc ++ (l.drop i).map fun x => bt f x)) := by
  refine down l.length ?_ ?_
  · intro i h hi acc ha
    apply ev_succ
    simp only [impl_readCells.l0]
    exact ev_neg (by omega) (ev_now (by rw [List.drop_eq_nil_of_le h]; simp))
  · intro i h ih hi acc ha
    have hb := hc l[i] (List.getElem_mem h)
    apply ev_succ
    simp only [impl_readCells.l0]
    rw [rd_get h, wrap64_id (n := (i : Int) + 1) (by omega) (by omega), succ_cast, List.drop_eq_getElem_cons h, List.map_cons]
    exact ev_pos (by omega) (ev_pos (by omega) (ev_pos (by omega) (ev_pos hb.1 (ev_pos hb.2 (ev_pos (by omega) (ev_eq (ih (by omega) _ (by simp; omega)) (by simp)))))))
theorem impl_readCells_ev (f : ByteArray) (l : List Int) (hl : l.length ≤ 1000) (hc : ∀ x ∈ l, 0 ≤ x ∧ x < f.size) : Ev (fun k => impl_readCells.f k f l) (patM f l) := by
  unfold impl_readCells.f patM
  exact ev_eq (impl_readCells_l0_ev f l hl hc 0 (by omega) [] (by simp)) (by simp)
theorem fillM_size {r c : Int} {s f : ByteArray} (h : fillM r c s f = true) : gridM r c s = true ∧ f.size = s.size := by
  simp only [fillM, Bool.and_eq_true, decide_eq_true_eq] at h
  exact ⟨h.1, h.2.1⟩
def patternsM (r c : Int) (s f : ByteArray) : List ByteArray := if fillM r c s f then (layoutM r c s).map (patM f) else []
theorem patternsM_length (r c : Int) (s f : ByteArray) : (patternsM r c s f).length ≤ 72 := by
  have := slotsM_length r c s
  unfold patternsM
  split
  · rw [List.length_map, layoutM_length]
    omega
  · simp
/-- What SlotPattern answers. -/
def patternM (r c : Int) (s f : ByteArray) (slot : Int) : ByteArray := if 0 ≤ slot ∧ slot < (patternsM r c s f).length then (patternsM r c s f).getD slot.toNat ⟨#[]⟩ else ⟨#[]⟩
theorem impl_patterns_l0_ev (r c : Int) (s f : ByteArray) (hs : f.size = s.size) : ∀ i : Nat, i ≤ (slotsM r c s).length → ∀ acc : List ByteArray, acc.length ≤ i →
    Ev (fun k => impl_patterns.l0 k f acc (layoutM r c s) (layoutM r c s).length i) (acc ++ ((layoutM r c s).drop i).map (patM f)) := by
  have hl := slotsM_length r c s
  have hL := layoutM_length r c s
  refine down (slotsM r c s).length ?_ ?_
  · intro i h hi acc ha
    apply ev_succ
    simp only [impl_patterns.l0]
    exact ev_neg (by omega) (ev_now (by rw [List.drop_eq_nil_of_le (by omega)]; simp))
  · intro i h ih hi acc ha
    have h6 := cellsM_length_elem h
    have hi' : i < (layoutM r c s).length := by omega
    have hr := impl_readCells_ev f (cellsM c.toNat (slotsM r c s)[i]) (by omega) (fun x hx => by have := slot_cells_in (List.getElem_mem h) hx; omega)
    apply ev_succ
    simp only [impl_patterns.l0]
    rw [rd_ints_get hi', layoutM_get h, wrap64_id (n := (i : Int) + 1) (by omega) (by omega), succ_cast, List.drop_eq_getElem_cons hi', List.map_cons, layoutM_get h]
    exact ev_pos (by omega) (ev_pos (by omega) (ev_pos (by omega) (ev_bind hr (ev_pos (by omega) (ev_eq (ih (by omega) _ (by simp; omega)) (by simp))))))
theorem impl_patterns_ev (r c : Int) (s f : ByteArray) (hs : s.size ≤ 1048576) (hf : f.size ≤ 1048576) : Ev (fun k => impl_patterns.f k r c s f) (patternsM r c s f) := by
  unfold impl_patterns.f patternsM
  refine ev_bind (impl_IsFill_ev r c s f (by omega) (by omega)) ?_
  by_cases h : fillM r c s f = true
  · rw [if_pos h]
    exact ev_pos h (ev_bind (impl_layout_ev r c s hs) (ev_eq (impl_patterns_l0_ev r c s f (fillM_size h).2 0 (by omega) [] (by simp)) (by simp)))
  · rw [if_neg h]
    exact ev_neg h (ev_now rfl)
theorem impl_SlotPattern_ev (r c : Int) (s f : ByteArray) (slot : Int) (hs : s.size ≤ 1048576) (hf : f.size ≤ 1048576) : Ev (fun k => impl_SlotPattern.f k r c s f slot) (patternM r c s f slot) := by
  unfold impl_SlotPattern.f patternM
  refine ev_bind (impl_patterns_ev r c s f hs hf) (ev_let (impl_at_eq _ _) ?_)
  by_cases h : 0 ≤ slot ∧ slot < (patternsM r c s f).length
  · rw [if_pos h]
    exact ev_pos (by simpa using h) (ev_pos h.1 (ev_pos h.2 (ev_now rfl)))
  · rw [if_neg h]
    exact ev_neg (by simpa using h) (ev_now rfl)
theorem spec_SlotPattern_l0_ev (f : ByteArray) (l : List Int) (hf : f.size ≤ 1048576) (hl : l.length ≤ 1000) (hc : ∀ x ∈ l, 0 ≤ x ∧ x < f.size) : ∀ i : Nat, i ≤ l.length → ∀ acc : List Int, acc.length ≤ i → Ev (fun k => spec_SlotPattern.l0 k f (strOfNums acc) l i) (strOfNums (acc ++ (l.drop i).map fun x => bt f x)) := by
  refine down l.length ?_ ?_
  · intro i h hi acc ha
    apply ev_succ
    simp only [spec_SlotPattern.l0]
    exact ev_neg (by omega) (ev_now (by rw [List.drop_eq_nil_of_le h]; simp))
  · intro i h ih hi acc ha
    have hb := hc l[i] (List.getElem_mem h)
    obtain ⟨j, hj⟩ := Int.eq_ofNat_of_zero_le hb.1
    have hjf : j < f.size := by omega
    have hsn := strOfNums_snoc acc f j hjf
    apply ev_succ
    simp only [spec_SlotPattern.l0]
    rw [rd_get h, wrap64_id (n := (i : Int) + 1) (by omega) (by omega), succ_cast, List.drop_eq_getElem_cons h, List.map_cons, hj, wrap64_id (n := (j : Int) + 1) (by omega) (by omega), show ((j : Int) + 1).toNat = j + 1 by omega, show (j : Int).toNat = j by omega, hsn]
    refine ev_pos (by omega) (ev_pos (by omega) (ev_pos (by omega) (ev_pos (by omega) (ev_pos (by omega) (ev_pos ?_ (ev_eq (ih (by omega) _ (by simp; omega)) (by simp)))))))
    rw [strOfNums_size]
    simp [ByteArray.size_extract]
    omega
theorem spec_SlotPattern_ev (r c : Int) (s f : ByteArray) (slot : Int) (hs : s.size ≤ 1048576) (hf : f.size ≤ 1048576) : Ev (fun k => spec_SlotPattern.f k r c s f slot) (patternM r c s f slot) := by
  have hl := slotsM_length r c s
  have hL := layoutM_length r c s
  have hno : Ev (fun k => spec_SlotPattern.j0 k f slot (slotsM r c s) true r c s) ⟨#[]⟩ := by
    apply ev_succ
    simp only [spec_SlotPattern.j0]
    exact ev_pos (by simp) (ev_now rfl)
  unfold spec_SlotPattern.f patternM
  refine ev_bind (spec_SlotsOf_ev r c s hs) (ev_bind (spec_IsFill_ev r c s f (by omega) (by omega)) ?_)
  by_cases h : fillM r c s f = true
  · refine ev_pos h (ev_let (spec_l1In_eq _ _ _) ?_)
    have e : patternsM r c s f = (layoutM r c s).map (patM f) := if_pos h
    have el : (patternsM r c s f).length = (slotsM r c s).length := by rw [e, List.length_map, hL]
    rw [wrap64_id (by omega) (by omega)]
    by_cases hb : 0 ≤ slot ∧ slot < (slotsM r c s).length
    · obtain ⟨j, rfl⟩ := Int.eq_ofNat_of_zero_le hb.1
      have hj : j < (slotsM r c s).length := by omega
      have h6 := cellsM_length_elem hj
      rw [if_pos (by rw [el]; exact hb)]
      apply ev_succ
      simp only [spec_SlotPattern.j0]
      rw [rd_Slot_get hj]
      refine ev_neg (by simp; omega) (ev_pos (by omega) (ev_pos (by omega) (ev_bind (spec_CellsOf_ev r c s _ hs) ?_)))
      rw [cellsOfM_elem hj]
      refine ev_eq (spec_SlotPattern_l0_ev f _ hf (by omega) (fun x hx => by have := slot_cells_in (List.getElem_mem hj) hx; have := (fillM_size h).2; omega) 0 (by omega) [] (by simp)) ?_
      rw [e]
      simp only [List.drop_zero, List.nil_append, Int.toNat_natCast]
      rw [List.getD_eq_getElem?_getD, List.getElem?_map, List.getElem?_eq_getElem (by omega), layoutM_get hj]
      rfl
    · rw [if_neg (by rw [el]; exact hb)]
      rw [show (!decide (0 ≤ slot ∧ slot ≤ ((slotsM r c s).length : Int) - 1)) = true by simp; omega]
      exact hno
  · have e : patternsM r c s f = [] := if_neg h
    refine ev_neg h ?_
    rw [e]
    exact ev_eq hno (by simp)

/-! ### wordsin -/
/-! ### once -/
theorem slices_Index_string_string_l0_ev (l : List ByteArray) (w : ByteArray) (hl : l.length ≤ 9223372036854775806) : ∀ i : Nat, i ≤ l.length → ∃ r : Int, Ev (fun k => slices_Index_string_string.l0 k l w l.length i) r ∧ decide (r ≥ 0) = decide (w ∈ l.drop i) := by
  refine down l.length ?_ ?_
  · intro i h hi
    refine ⟨-1, ?_, by rw [List.drop_eq_nil_of_le h]; simp⟩
    apply ev_succ
    simp only [slices_Index_string_string.l0]
    exact ev_neg (by omega) (ev_now rfl)
  · intro i h ih hi
    by_cases he : w.toList = l[i].toList
    · refine ⟨i, ?_, by rw [List.drop_eq_getElem_cons h]; simp [-List.getElem_cons_drop, toList_inj.1 he]⟩
      apply ev_succ
      simp only [slices_Index_string_string.l0]
      rw [rdOf_get h]
      exact ev_pos (by omega) (ev_pos (by omega) (ev_pos (by omega) (ev_pos he (ev_now rfl))))
    · obtain ⟨r, hr, h1⟩ := ih (by omega)
      refine ⟨r, ?_, ?_⟩
      · apply ev_succ
        simp only [slices_Index_string_string.l0]
        rw [rdOf_get h, wrap64_id (n := (i : Int) + 1) (by omega) (by omega), succ_cast]
        exact ev_pos (by omega) (ev_pos (by omega) (ev_pos (by omega) (ev_neg he hr)))
      · rw [toList_inj] at he
        rw [h1, List.drop_eq_getElem_cons h]
        simp [-List.getElem_cons_drop, he]
theorem slices_Contains_string_string_ev (l : List ByteArray) (w : ByteArray) (hl : l.length ≤ 9223372036854775806) : Ev (fun k => slices_Contains_string_string.f k l w) (decide (w ∈ l)) := by
  unfold slices_Contains_string_string.f slices_Index_string_string.f
  obtain ⟨r, hr, h⟩ := slices_Index_string_string_l0_ev l w hl 0 (by omega)
  exact ev_bind hr (ev_now (by simpa using h))

/-! ### fullfill -/
theorem laws_agrees_ev {x f : ByteArray} (hs : x.size = f.size) (hl : f.size ≤ 1048576) (h : ∀ j : Nat, bt f (j : Int) = 63 ∨ bt x (j : Int) = bt f (j : Int)) : Ev (fun k => laws_agrees.f k x f) true := by
  have main : ∀ i : Nat, i ≤ f.size → Ev (fun k => laws_agrees.l0 k x f i) true := by
    refine down f.size ?_ ?_
    · intro i hi _
      apply ev_succ
      simp only [laws_agrees.l0]
      exact ev_neg (by omega) (ev_now (by rw [hs]; simp))
    · intro i hi ih _
      apply ev_succ
      simp only [laws_agrees.l0]
      rw [wrap64_id (n := (i : Int) + 1) (by omega) (by omega), succ_cast]
      refine ev_pos (by omega) (ev_pos (by omega) ?_)
      by_cases h1 : bt f (i : Int) = 63
      · exact ev_pos h1 (ih (by omega))
      · exact ev_neg h1 (ev_neg (by omega) (ev_pos (by omega) (ev_pos ((h i).resolve_left h1) (ih (by omega)))))
  unfold laws_agrees.f
  exact main 0 (by omega)
/-! ### draw -/
/-! What is drawn of a code: bounds alone. -/
theorem and255 (y : Int) : 0 ≤ Go.bits .and .i64 y 255 ∧ Go.bits .and .i64 y 255 ≤ 255 := by
  have h := @Nat.and_le_right (BitVec.ofInt 64 y).toNat (BitVec.ofInt 64 255).toNat
  have e : (BitVec.ofInt 64 255).toNat = 255 := by decide
  have hb : Go.bits .and .i64 y 255 = IntKind.i64.wrap (((BitVec.ofInt 64 y).toNat &&& (BitVec.ofInt 64 255).toNat : Nat) : Int) := by
    show IntKind.i64.wrap (((BitVec.ofInt 64 y) &&& (BitVec.ofInt 64 255)).toNat : Int) = _
    rw [BitVec.toNat_and]
  rw [hb]
  rw [e] at h ⊢
  generalize (BitVec.ofInt 64 y).toNat &&& 255 = n at h ⊢
  simp [IntKind.wrap, IntKind.bits, IntKind.signed]
  omega
theorem spec_l1Byte_some (l : List Int) (i h : Int) (h0 : 0 ≤ i ∧ i ≤ l.length) (hl : l.length ≤ 1048576) : ∃ x i' h' : Int, spec_l1Byte.f l i h = some (x, i', h') ∧ (0 ≤ x ∧ x ≤ 255) ∧ (0 ≤ i' ∧ i' ≤ l.length) := by
  unfold spec_l1Byte.f
  by_cases hi : i < (l.length : Int)
  · rw [if_pos hi, if_pos h0.1]
    exact ⟨_, _, _, rfl, and255 _, by rw [wrap64_id (by omega) (by omega)]; omega⟩
  · rw [if_neg hi]
    exact ⟨_, _, _, rfl, and255 _, h0⟩
theorem spec_l1Below_some (l : List Int) (i h n : Int) (h0 : 0 ≤ i ∧ i ≤ l.length) (hl : l.length ≤ 1048576) (hn : n ≤ 16777216) : ∃ x i' h' : Int, spec_l1Below.f l i h n = some (x, i', h') ∧ (0 ≤ x ∧ (0 < n → x < n) ∧ (n ≤ 0 → x = 0)) ∧ (0 ≤ i' ∧ i' ≤ l.length) := by
  unfold spec_l1Below.f
  by_cases h1 : n ≤ 0
  · rw [if_pos h1]
    exact ⟨_, _, _, rfl, ⟨by omega, fun h => by omega, fun _ => rfl⟩, h0⟩
  · rw [if_neg h1]
    obtain ⟨x, i1, g1, e1, hx, hi1⟩ := spec_l1Byte_some l i h h0 hl
    by_cases h2 : n ≤ 256
    · rw [if_pos h2, e1, Option.bind_some, if_neg (by omega)]
      refine ⟨_, _, _, rfl, ⟨Int.tmod_nonneg _ hx.1, fun h => Int.tmod_lt_of_pos _ h, fun h => by omega⟩, hi1⟩
    · obtain ⟨y, i2, g2, e2, hy, hi2⟩ := spec_l1Byte_some l i1 g1 hi1 hl
      obtain ⟨z, i3, g3, e3, hz, hi3⟩ := spec_l1Byte_some l i2 g2 hi2 hl
      rw [if_neg h2, e1, Option.bind_some]
      show ∃ x i' h' : Int, ((spec_l1Byte.f l i1 g1).bind _) = _ ∧ _
      rw [e2, Option.bind_some]
      show ∃ x i' h' : Int, ((spec_l1Byte.f l i2 g2).bind _) = _ ∧ _
      rw [e3, Option.bind_some, if_neg (by omega)]
      have ew : wrap64 (wrap64 (wrap64 (x * 65536) + wrap64 (y * 256)) + z) = x * 65536 + y * 256 + z := by
        rw [wrap64_id (n := x * 65536) (by omega) (by omega), wrap64_id (n := y * 256) (by omega) (by omega), wrap64_id (n := x * 65536 + y * 256) (by omega) (by omega), wrap64_id (by omega) (by omega)]
      refine ⟨_, _, _, rfl, ?_, hi3⟩
      show 0 ≤ (wrap64 (wrap64 (wrap64 (x * 65536) + wrap64 (y * 256)) + z)).tmod n ∧ _
      rw [ew]
      exact ⟨Int.tmod_nonneg _ (by omega), fun h => Int.tmod_lt_of_pos _ h, fun h => by omega⟩
theorem spec_l1Str_some (l : List Int) (i h : Int) (L : List ByteArray) (h0 : 0 ≤ i ∧ i ≤ l.length) (hl : l.length ≤ 1048576) (hL : 0 < L.length) (hL2 : L.length ≤ 1000) : ∃ (s : ByteArray) (i' h' : Int), spec_l1Str.f l i h L = some (s, i', h') ∧ s ∈ L ∧ (0 ≤ i' ∧ i' ≤ l.length) := by
  unfold spec_l1Str.f
  obtain ⟨x, i1, g1, e1, hx, hi1⟩ := spec_l1Below_some l i h (L.length : Int) h0 hl (by omega)
  obtain ⟨j, rfl⟩ := Int.eq_ofNat_of_zero_le hx.1
  have hj : j < L.length := by have := hx.2.1 (by omega); omega
  rw [e1, Option.bind_some, if_pos hx.1, if_pos (by show (j : Int) < _; omega)]
  refine ⟨_, _, _, rfl, ?_, hi1⟩
  show rdOf ByteArray.empty L (j : Int) ∈ L
  rw [rdOf_get hj]
  exact List.getElem_mem hj
theorem spec_l1New_ev (l : List Int) (hl : l.length ≤ 1048576) : ∃ h : Int, Ev (fun k => spec_l1New.f k l) (l, 0, h) := by
  have main : ∀ (d i : Nat) (x : Int), i + d = l.length → ∃ h : Int, Ev (fun k => spec_l1New.l0 k l x i) (l, 0, h) := by
    intro d
    induction d with
    | zero =>
      intro i x hi
      refine ⟨x, ev_succ ?_⟩
      simp only [spec_l1New.l0]
      exact ev_neg (by omega) (ev_now rfl)
    | succ d ih =>
      intro i x hi
      by_cases h4 : (i : Int) < 4000
      · obtain ⟨h, hh⟩ := ih (i + 1) (Go.bits .and .i64 (wrap64 ((wrap64 ((wrap64 (x * 137)) + (wrap64 (rd l i)))) + 11)) 1073741823) (by omega)
        refine ⟨h, ev_succ ?_⟩
        simp only [spec_l1New.l0]
        rw [wrap64_id (n := (i : Int) + 1) (by omega) (by omega), succ_cast]
        exact ev_pos (by omega) (ev_pos h4 (ev_pos (by omega) hh))
      · refine ⟨x, ev_succ ?_⟩
        simp only [spec_l1New.l0]
        exact ev_pos (by omega) (ev_neg h4 (ev_now rfl))
  unfold spec_l1New.f
  exact main l.length 0 _ (by omega)
theorem spec_l4Word_some (l : List Int) (i h : Int) (h0 : 0 ≤ i ∧ i ≤ l.length) (hl : l.length ≤ 1048576) : ∃ (s : ByteArray) (i' h' : Int), spec_l4Word.f l i h = some (s, i', h') ∧ s.size ≤ 5 ∧ (0 ≤ i' ∧ i' ≤ l.length) := by
  unfold spec_l4Word.f spec_l4Words.f
  rw [Option.bind_some]
  obtain ⟨s, i1, g1, e1, hs, hi1⟩ := spec_l1Str_some l i h (L := [(⟨#[99, 97, 116]⟩ : ByteArray), (⟨#[97, 99, 116]⟩ : ByteArray), (⟨#[116, 97, 99]⟩ : ByteArray), (⟨#[97, 114, 99]⟩ : ByteArray), (⟨#[99, 97, 114]⟩ : ByteArray), (⟨#[101, 114, 97]⟩ : ByteArray), (⟨#[97, 114, 101]⟩ : ByteArray), (⟨#[101, 97, 114]⟩ : ByteArray), (⟨#[97, 116, 101]⟩ : ByteArray), (⟨#[116, 101, 97]⟩ : ByteArray), (⟨#[101, 97, 116]⟩ : ByteArray), (⟨#[115, 101, 97]⟩ : ByteArray), (⟨#[116, 97, 114]⟩ : ByteArray), (⟨#[114, 97, 116]⟩ : ByteArray), (⟨#[97, 114, 116]⟩ : ByteArray), (⟨#[97, 110, 116]⟩ : ByteArray), (⟨#[116, 97, 110]⟩ : ByteArray), (⟨#[110, 101, 116]⟩ : ByteArray), (⟨#[116, 101, 110]⟩ : ByteArray), (⟨#[114, 101, 115, 116]⟩ : ByteArray), (⟨#[116, 114, 101, 101]⟩ : ByteArray), (⟨#[115, 116, 97, 114]⟩ : ByteArray), (⟨#[114, 97, 116, 115]⟩ : ByteArray), (⟨#[97, 114, 116, 115]⟩ : ByteArray), (⟨#[101, 97, 115, 116]⟩ : ByteArray), (⟨#[115, 101, 97, 116]⟩ : ByteArray), (⟨#[116, 101, 97, 115]⟩ : ByteArray), (⟨#[110, 101, 116, 115]⟩ : ByteArray), (⟨#[116, 101, 110, 115]⟩ : ByteArray), (⟨#[115, 101, 110, 116]⟩ : ByteArray), (⟨#[116, 114, 97, 99, 101]⟩ : ByteArray), (⟨#[114, 101, 97, 99, 116]⟩ : ByteArray), (⟨#[99, 114, 97, 116, 101]⟩ : ByteArray), (⟨#[115, 116, 97, 114, 101]⟩ : ByteArray), (⟨#[116, 101, 97, 114, 115]⟩ : ByteArray)]) h0 hl (by decide) (by decide)
  rw [e1, Option.bind_some]
  refine ⟨_, _, _, rfl, ?_, hi1⟩
  have hall : ∀ x ∈ [(⟨#[99, 97, 116]⟩ : ByteArray), (⟨#[97, 99, 116]⟩ : ByteArray), (⟨#[116, 97, 99]⟩ : ByteArray), (⟨#[97, 114, 99]⟩ : ByteArray), (⟨#[99, 97, 114]⟩ : ByteArray), (⟨#[101, 114, 97]⟩ : ByteArray), (⟨#[97, 114, 101]⟩ : ByteArray), (⟨#[101, 97, 114]⟩ : ByteArray), (⟨#[97, 116, 101]⟩ : ByteArray), (⟨#[116, 101, 97]⟩ : ByteArray), (⟨#[101, 97, 116]⟩ : ByteArray), (⟨#[115, 101, 97]⟩ : ByteArray), (⟨#[116, 97, 114]⟩ : ByteArray), (⟨#[114, 97, 116]⟩ : ByteArray), (⟨#[97, 114, 116]⟩ : ByteArray), (⟨#[97, 110, 116]⟩ : ByteArray), (⟨#[116, 97, 110]⟩ : ByteArray), (⟨#[110, 101, 116]⟩ : ByteArray), (⟨#[116, 101, 110]⟩ : ByteArray), (⟨#[114, 101, 115, 116]⟩ : ByteArray), (⟨#[116, 114, 101, 101]⟩ : ByteArray), (⟨#[115, 116, 97, 114]⟩ : ByteArray), (⟨#[114, 97, 116, 115]⟩ : ByteArray), (⟨#[97, 114, 116, 115]⟩ : ByteArray), (⟨#[101, 97, 115, 116]⟩ : ByteArray), (⟨#[115, 101, 97, 116]⟩ : ByteArray), (⟨#[116, 101, 97, 115]⟩ : ByteArray), (⟨#[110, 101, 116, 115]⟩ : ByteArray), (⟨#[116, 101, 110, 115]⟩ : ByteArray), (⟨#[115, 101, 110, 116]⟩ : ByteArray), (⟨#[116, 114, 97, 99, 101]⟩ : ByteArray), (⟨#[114, 101, 97, 99, 116]⟩ : ByteArray), (⟨#[99, 114, 97, 116, 101]⟩ : ByteArray), (⟨#[115, 116, 97, 114, 101]⟩ : ByteArray), (⟨#[116, 101, 97, 114, 115]⟩ : ByteArray)], x.size ≤ 5 := by decide
  exact hall s hs
theorem spec_l4Any_some (l : List Int) (i h : Int) (h0 : 0 ≤ i ∧ i ≤ l.length) (hl : l.length ≤ 1048576) : ∃ (s : ByteArray) (i' h' : Int), spec_l4Any.f l i h = some (s, i', h') ∧ s.size ≤ 10 ∧ (0 ≤ i' ∧ i' ≤ l.length) := by
  unfold spec_l4Any.f
  obtain ⟨w, i1, g1, e1, hw, hi1⟩ := spec_l4Word_some l i h h0 hl
  rw [e1, Option.bind_some, if_pos (by show w.size + 1 ≤ _; omega)]
  obtain ⟨s, i2, g2, e2, hs, hi2⟩ := spec_l1Str_some l i1 g1 [w, w, w, w, w, (⟨#[]⟩ : ByteArray), (⟨#[65]⟩ : ByteArray), (⟨#[97, 32, 98]⟩ : ByteArray), (⟨#[116, 111, 111, 108, 111, 110, 103, 101, 114]⟩ : ByteArray), (⟨#[116, 111, 111, 108, 111, 110, 103]⟩ : ByteArray), w ++ (⟨#[63]⟩ : ByteArray), (⟨#[122]⟩ : ByteArray)] hi1 hl (by simp) (by simp)
  show ∃ (s : ByteArray) (i' h' : Int), ((spec_l1Str.f l i1 g1 [w, w, w, w, w, (⟨#[]⟩ : ByteArray), (⟨#[65]⟩ : ByteArray), (⟨#[97, 32, 98]⟩ : ByteArray), (⟨#[116, 111, 111, 108, 111, 110, 103, 101, 114]⟩ : ByteArray), (⟨#[116, 111, 111, 108, 111, 110, 103]⟩ : ByteArray), w ++ (⟨#[63]⟩ : ByteArray), (⟨#[122]⟩ : ByteArray)]).bind _) = _ ∧ _
  rw [e2, Option.bind_some]
  refine ⟨_, _, _, rfl, ?_, hi2⟩
  show s.size ≤ 10
  simp only [List.mem_cons, List.not_mem_nil, or_false] at hs
  rcases hs with rfl | rfl | rfl | rfl | rfl | rfl | rfl | rfl | rfl | rfl | rfl | rfl
  · omega
  · omega
  · omega
  · omega
  · omega
  · decide
  · decide
  · decide
  · decide
  · decide
  · rw [ByteArray.size_append]
    have : (⟨#[63]⟩ : ByteArray).size = 1 := rfl
    omega
  · decide
theorem laws_big_eq (l : List Int) : laws_big.f l = some (decide ((l.length : Int) > 1048576)) := rfl

/-! ### gridtext -/
def rowM (s : ByteArray) (C i : Nat) : ByteArray := s.extract (i * C) ((i + 1) * C)
/-- The text of a grid's first rows. -/
def txtM (s : ByteArray) (C : Nat) : Nat → List UInt8
  | 0 => []
  | i + 1 => txtM s C i ++ (if 0 < i then [47] else []) ++ (rowM s C i).data.toList
theorem row_size (s : ByteArray) (C i : Nat) : (rowM s C i).size ≤ s.size := by
  unfold rowM
  rw [ByteArray.size_extract]
  omega
theorem txtM_length (s : ByteArray) (C : Nat) (h : s.size ≤ 36) : ∀ n : Nat, (txtM s C n).length ≤ n * 37
  | 0 => by simp [txtM]
  | n + 1 => by
    have h1 := txtM_length s C h n
    have h2 := row_size s C n
    have h3 : (rowM s C n).data.toList.length = (rowM s C n).size := by simp
    have h4 : (if 0 < n then [(47 : UInt8)] else []).length ≤ 1 := by split <;> simp
    unfold txtM
    rw [List.length_append, List.length_append]
    omega
def textM (r c : Int) (s : ByteArray) : ByteArray := if gridM r c s = true then ⟨(txtM s c.toNat r.toNat).toArray⟩ else ⟨#[]⟩
theorem gridM_dims {r c : Int} {s : ByteArray} (h : gridM r c s = true) : ∃ R C : Nat, r = R ∧ c = C ∧ 2 ≤ R ∧ R ≤ 6 ∧ 2 ≤ C ∧ C ≤ 6 ∧ s.size = R * C ∧ R * C ≤ 36 := by
  unfold gridM at h
  simp only [Bool.and_eq_true, decide_eq_true_eq] at h
  obtain ⟨⟨⟨hr, hc⟩, hs⟩, _⟩ := h
  obtain ⟨R, rfl⟩ := Int.eq_ofNat_of_zero_le (show 0 ≤ r by omega)
  obtain ⟨C, rfl⟩ := Int.eq_ofNat_of_zero_le (show 0 ≤ c by omega)
  refine ⟨R, C, rfl, rfl, by omega, by omega, by omega, by omega, ?_, ?_⟩
  · have : ((R * C : Nat) : Int) = (R : Int) * (C : Int) := by simp
    omega
  · have : R * C ≤ 6 * 6 := Nat.mul_le_mul (by omega) (by omega)
    omega
theorem txt_next (s : ByteArray) (C i : Nat) (h : 0 < i) : ((⟨(txtM s C i).toArray⟩ : ByteArray) ++ (⟨#[47]⟩ : ByteArray)) ++ rowM s C i = ⟨(txtM s C (i + 1)).toArray⟩ := by
  apply ByteArray.ext
  apply Array.ext'
  rw [ByteArray.data_append, ByteArray.data_append, Array.toList_append, Array.toList_append]
  simp [txtM, h]
theorem txt_first (s : ByteArray) (C : Nat) : (⟨(txtM s C 0).toArray⟩ : ByteArray) ++ rowM s C 0 = ⟨(txtM s C 1).toArray⟩ := by
  apply ByteArray.ext
  apply Array.ext'
  rw [ByteArray.data_append, Array.toList_append]
  simp [txtM]
theorem spec_GridText_l0_ev (s : ByteArray) (R C : Nat) (hg : gridM R C s = true) (hs : s.size = R * C) (h36 : s.size ≤ 36) (hR : R ≤ 6) (hC : 2 ≤ C) (hC6 : C ≤ 6) : ∀ i : Nat, i ≤ R → Ev (fun k => spec_GridText.l0 k (⟨(txtM s C i).toArray⟩ : ByteArray) i R C s) (⟨(txtM s C R).toArray⟩ : ByteArray) := by
  have hstop : ∀ (x : ByteArray) (i : Nat), Ev (fun k => spec_GridText.j1 k x i false R C s) x := by
    intro x i
    apply ev_succ
    simp only [spec_GridText.j1]
    exact ev_neg (by simp) (ev_now rfl)
  refine down R ?_ ?_
  · intro i h hi
    have e : i = R := by omega
    subst e
    apply ev_succ
    simp only [spec_GridText.l0]
    exact ev_neg (by omega) (hstop _ _)
  · intro i h ih hi
    have hm : (i + 1) * C ≤ R * C := Nat.mul_le_mul_right _ h
    have hm2 : (i + 1) * C = i * C + C := Nat.succ_mul i C
    have hl := txtM_length s C h36 i
    have hrow := row_size s C i
    have e1 : (i : Int) * (C : Int) = ((i * C : Nat) : Int) := by simp
    have e2 : ((i + 1 : Nat) : Int) * (C : Int) = (((i + 1) * C : Nat) : Int) := by simp
    have hx : ((⟨(txtM s C i).toArray⟩ : ByteArray)).size = (txtM s C i).length := by simp [ByteArray.size]
    have h47 : ((⟨(txtM s C i).toArray⟩ : ByteArray) ++ (⟨#[47]⟩ : ByteArray)).size = (txtM s C i).length + 1 := by
      rw [ByteArray.size_append, hx]
      rfl
    apply ev_succ
    simp only [spec_GridText.l0]
    refine ev_pos (by omega) (ev_bind (spec_IsGrid_ev R C s (by omega)) ?_)
    rw [hg]
    apply ev_succ
    simp only [spec_GridText.j1]
    rw [wrap64_id (n := (i : Int) + 1) (by omega) (by omega), succ_cast, e1, e2, wrap64_id (n := ((i * C : Nat) : Int)) (by omega) (by omega), wrap64_id (n := (((i + 1) * C : Nat) : Int)) (by omega) (by omega), Int.toNat_natCast, Int.toNat_natCast]
    refine ev_pos (by trivial) ?_
    have ih' := ih (by omega)
    by_cases h0 : 0 < i
    · rw [← txt_next s C i h0] at ih'
      refine ev_pos (by omega) (ev_pos (by rw [hx]; omega) (ev_pos (by omega) (ev_pos (by omega) (ev_pos (by omega) (ev_pos ?_ ih')))))
      rw [h47]
      have : (s.extract (i * C) ((i + 1) * C)).size ≤ s.size := hrow
      omega
    · have e0 : i = 0 := by omega
      subst e0
      rw [← txt_first s C] at ih'
      refine ev_neg (by omega) (ev_pos (by omega) (ev_pos (by omega) (ev_pos (by omega) (ev_pos ?_ ih'))))
      rw [hx]
      have : (s.extract (0 * C) ((0 + 1) * C)).size ≤ s.size := hrow
      omega
theorem spec_GridText_ev (r c : Int) (s : ByteArray) (hs : s.size ≤ 1048576) : Ev (fun k => spec_GridText.f k r c s) (textM r c s) := by
  unfold spec_GridText.f textM
  by_cases hg : gridM r c s = true
  · obtain ⟨R, C, rfl, rfl, h1, h2, h3, h4, h5, h6⟩ := gridM_dims hg
    rw [if_pos hg]
    exact spec_GridText_l0_ev s R C hg h5 (by omega) h2 h3 h4 0 (by omega)
  · rw [if_neg hg]
    rw [Bool.not_eq_true] at hg
    have hstop : Ev (fun k => spec_GridText.j1 k (⟨#[]⟩ : ByteArray) 0 false r c s) ⟨#[]⟩ := by
      apply ev_succ
      simp only [spec_GridText.j1]
      exact ev_neg (by simp) (ev_now rfl)
    apply ev_succ
    simp only [spec_GridText.l0]
    by_cases h0 : (0 : Int) < r
    · refine ev_pos h0 (ev_bind (spec_IsGrid_ev r c s (by omega)) ?_)
      rw [hg]
      exact hstop
    · exact ev_neg h0 hstop

/-! ### parsegrid -/
/-- A text cut at its strokes. -/
def cutL : List UInt8 → List (List UInt8)
  | [] => [[]]
  | b :: l => if b = 47 then [] :: cutL l else (b :: (cutL l).headD []) :: (cutL l).tail
theorem cutL_cons (b : UInt8) (l : List UInt8) : cutL (b :: l) = if b = 47 then [] :: cutL l else (b :: (cutL l).headD []) :: (cutL l).tail := rfl
theorem cutL_length : ∀ l : List UInt8, 1 ≤ (cutL l).length ∧ (cutL l).length ≤ l.length + 1
  | [] => by simp [cutL]
  | b :: l => by
    have := cutL_length l
    rw [cutL_cons]
    split
    · simp only [List.length_cons]
      omega
    · simp only [List.length_cons, List.length_tail]
      omega
theorem cutL_flat_cons {b : UInt8} (h : ¬ b = 47) (l : List UInt8) : (cutL (b :: l)).flatten = b :: (cutL l).flatten := by
  have h1 := (cutL_length l).1
  rw [cutL_cons, if_neg h]
  cases hc : cutL l with
  | nil => rw [hc] at h1; simp at h1
  | cons x t => simp
def zeroG : Int × Int × ByteArray × Bool := (0, 0, ⟨#[]⟩, false)
/-- What a text that is cut says of a grid. -/
def finM (s : ByteArray) (R C : Int) (cells : ByteArray) : Int × Int × ByteArray × Bool := if (textM R C cells).toList = s.toList then (if gridM R C cells = true then (R, C, cells, true) else zeroG) else zeroG
def parseM (s : ByteArray) : Int × Int × ByteArray × Bool := finM s (cutL s.data.toList).length ((cutL s.data.toList).headD []).length ⟨(cutL s.data.toList).flatten.toArray⟩
theorem bt_lt {s : ByteArray} {i : Nat} (h : i < s.data.toList.length) : bt s (i : Int) = ((s.data.toList[i]).toNat : Int) := by
  have h' : i < s.size := by simpa using h
  unfold bt
  rw [dif_pos (by simpa using h')]
  rfl
theorem spec_ParseGrid_ev (s : ByteArray) (hs : s.size ≤ 1048576) : Ev (fun k => spec_ParseGrid.f k s) (parseM s) := by
  have hL : s.data.toList.length = s.size := by simp
  have main : ∀ i : Nat, i ≤ s.size → ∀ (R C : Int) (cells : ByteArray), 1 ≤ R → R ≤ i + 1 → (R = 1 → C = i) → (¬ R = 1 → 0 ≤ C ∧ C ≤ i) → cells.size ≤ i → Ev (fun k => spec_ParseGrid.l0 k s i R C cells) (finM s (R + (((cutL (s.data.toList.drop i)).length : Int) - 1)) (if R = 1 then (i : Int) + ((cutL (s.data.toList.drop i)).headD []).length else C) (cells ++ ⟨(cutL (s.data.toList.drop i)).flatten.toArray⟩)) := by
    refine down s.size ?_ ?_
    · intro i h hi R C cells h1 h2 h3 h4 h5
      apply ev_succ
      simp only [spec_ParseGrid.l0]
      have e : s.data.toList.drop i = [] := List.drop_eq_nil_of_le (by omega)
      rw [e]
      have e1 : (R + (((cutL []).length : Int) - 1)) = R := by
        show R + ((1 : Int) - 1) = R
        omega
      have e2 : (if R = 1 then (i : Int) + (((cutL []).headD []).length : Int) else C) = C := by
        split
        · rename_i hR
          rw [h3 hR]
          show (i : Int) + 0 = i
          omega
        · rfl
      have e3 : cells ++ (⟨(cutL []).flatten.toArray⟩ : ByteArray) = cells := by
        apply ByteArray.ext
        apply Array.ext'
        rw [ByteArray.data_append, Array.toList_append]
        simp [cutL]
      rw [e1, e2, e3]
      refine ev_neg (by omega) (ev_bind (spec_GridText_ev R C cells (by omega)) ?_)
      unfold finM zeroG
      by_cases ht : (textM R C cells).toList = s.toList
      · rw [if_pos ht]
        refine ev_pos ht (ev_bind (spec_IsGrid_ev R C cells (by omega)) ?_)
        by_cases hg : gridM R C cells = true
        · exact ev_pos hg (ev_now (by rw [if_pos hg]))
        · exact ev_neg hg (ev_now (by rw [if_neg hg]))
      · rw [if_neg ht]
        exact ev_neg ht (ev_now rfl)
    · intro i h ih hi R C cells h1 h2 h3 h4 h5
      have hl : i < s.data.toList.length := by omega
      have hb := bt_lt hl
      have hlen := (cutL_length (s.data.toList.drop (i + 1))).1
      have hdr := List.drop_eq_getElem_cons hl
      apply ev_succ
      simp only [spec_ParseGrid.l0]
      rw [hb, wrap64_id (n := (i : Int) + 1) (by omega) (by omega), wrap64_id (n := R + 1) (by omega) (by omega), succ_cast, Int.toNat_natCast, Int.toNat_natCast, hdr]
      generalize hu : s.data.toList[i] = u at hdr
      refine ev_pos (by omega) (ev_pos (by omega) ?_)
      by_cases h47 : u = 47
      · have e1 : R + (((cutL (u :: s.data.toList.drop (i + 1))).length : Int) - 1) = (R + 1) + (((cutL (s.data.toList.drop (i + 1))).length : Int) - 1) := by
          rw [cutL_cons, if_pos h47, List.length_cons]
          omega
        have e2 : (if R = 1 then (i : Int) + (((cutL (u :: s.data.toList.drop (i + 1))).headD []).length : Int) else C) = (if R + 1 = 1 then ((i + 1 : Nat) : Int) + (((cutL (s.data.toList.drop (i + 1))).headD []).length : Int) else C) := by
          rw [if_neg (show ¬ R + 1 = 1 by omega), cutL_cons, if_pos h47]
          split
          · rename_i hR
            rw [h3 hR]
            show (i : Int) + 0 = i
            omega
          · rfl
        have e3 : (cutL (u :: s.data.toList.drop (i + 1))).flatten = (cutL (s.data.toList.drop (i + 1))).flatten := by
          rw [cutL_cons, if_pos h47]
          simp
        rw [e1, e2, e3]
        refine ev_pos (by rw [h47]; rfl) (ev_neg (by omega) (ih (by omega) (R + 1) C cells (by omega) (by omega) (by omega) (fun _ => ?_) (by omega)))
        by_cases hR : R = 1
        · rw [h3 hR]; omega
        · have := h4 hR; omega
      · have hne : ¬ ((u.toNat : Int) = 47) := fun e => h47 (UInt8.toNat_inj.1 (by show u.toNat = 47; omega))
        have e1 : ((cutL (u :: s.data.toList.drop (i + 1))).length : Int) = ((cutL (s.data.toList.drop (i + 1))).length : Int) := by
          rw [cutL_cons, if_neg h47, List.length_cons, List.length_tail]
          omega
        have e2 : (if R = 1 then (i : Int) + (((cutL (u :: s.data.toList.drop (i + 1))).headD []).length : Int) else C) = (if R = 1 then ((i + 1 : Nat) : Int) + (((cutL (s.data.toList.drop (i + 1))).headD []).length : Int) else C) := by
          rw [cutL_cons, if_neg h47, List.headD_cons, List.length_cons]
          split <;> omega
        have e3 : cells ++ (⟨(cutL (u :: s.data.toList.drop (i + 1))).flatten.toArray⟩ : ByteArray) = (cells ++ s.extract i (i + 1)) ++ ⟨(cutL (s.data.toList.drop (i + 1))).flatten.toArray⟩ := by
          rw [cutL_flat_cons h47]
          apply ByteArray.ext
          apply Array.ext'
          rw [ByteArray.data_append, ByteArray.data_append, ByteArray.data_append, Array.toList_append, Array.toList_append, Array.toList_append, ByteArray.data_extract, Array.toList_extract]
          simp only [List.extract]
          rw [show i + 1 - i = 1 by omega, hdr]
          simp
        have hsz : (cells ++ s.extract i (i + 1)).size ≤ i + 1 := by
          rw [ByteArray.size_append, ByteArray.size_extract]
          omega
        rw [e1, e2, e3]
        refine ev_neg hne (ev_pos (by omega) (ev_pos (by omega) (ev_pos (by rw [ByteArray.size_extract]; omega) ?_)))
        by_cases hR : R = 1
        · refine ev_pos hR ?_
          have := ih (by omega) R ((i + 1 : Nat) : Int) (cells ++ s.extract i (i + 1)) h1 (by omega) (fun _ => rfl) (fun h => absurd hR h) hsz
          rw [if_pos hR] at this ⊢
          exact this
        · refine ev_neg hR (ih (by omega) R C (cells ++ s.extract i (i + 1)) h1 (by omega) (fun h => absurd h hR) (fun _ => ?_) hsz)
          have := h4 hR
          omega
  have h0 := main 0 (by omega) 1 0 ⟨#[]⟩ (by omega) (by omega) (fun _ => rfl) (fun h => absurd rfl h) (by simp [ByteArray.size])
  unfold spec_ParseGrid.f parseM
  rw [List.drop_zero, if_pos rfl] at h0
  have e1 : (1 : Int) + (((cutL s.data.toList).length : Int) - 1) = ((cutL s.data.toList).length : Int) := by omega
  have e2 : ((0 : Nat) : Int) + (((cutL s.data.toList).headD []).length : Int) = (((cutL s.data.toList).headD []).length : Int) := by omega
  have e3 : (⟨#[]⟩ : ByteArray) ++ (⟨(cutL s.data.toList).flatten.toArray⟩ : ByteArray) = ⟨(cutL s.data.toList).flatten.toArray⟩ := by
    apply ByteArray.ext
    apply Array.ext'
    rw [ByteArray.data_append, Array.toList_append]
    rfl
  rw [e1, e2, e3] at h0
  exact h0

/-! ### drawgrid -/
/-- A text that says a grid. -/
def okText (x : ByteArray) : Bool := gridM ((cutL x.data.toList).length : Int) (((cutL x.data.toList).headD []).length : Int) ⟨(cutL x.data.toList).flatten.toArray⟩ && (decide (textM ((cutL x.data.toList).length : Int) (((cutL x.data.toList).headD []).length : Int) ⟨(cutL x.data.toList).flatten.toArray⟩ = x) && decide (1 ≤ (cutL x.data.toList).flatten.length ∧ (cutL x.data.toList).flatten.length ≤ 36 ∧ (cutL x.data.toList).length ≤ 6 ∧ ((cutL x.data.toList).headD []).length ≤ 6))
/-! ### alone -/
theorem layout_row {r c : Int} {s : ByteArray} {l : List Int} (h : l ∈ layoutM r c s) : l.length ≤ 6 ∧ ∀ x ∈ l, 0 ≤ x ∧ x < 36 ∧ x < s.size := by
  unfold layoutM at h
  obtain ⟨x, hx, rfl⟩ := List.mem_map.1 h
  obtain ⟨i, hi, rfl⟩ := List.getElem_of_mem hx
  refine ⟨cellsM_length_elem hi, fun y hy => ?_⟩
  obtain ⟨R, C, rfl, rfl, _, h2, h3, h4, h5, _, hk⟩ := slotsM_ok hx
  obtain ⟨i, k, _, _, _, e, _, _, h, _⟩ := okSlot_cell (by omega) hk hy
  have := bounds36 h2 h4
  omega
theorem in_layout {r c : Int} {s : ByteArray} {cell : Int} : cell ∈ (layoutM r c s).flatten ↔ 0 < (slotsAtM r c s cell).length := by
  unfold slotsAtM layoutM
  rw [atGo_holders, List.mem_flatten]
  constructor
  · rintro ⟨l, hl, hc⟩
    obtain ⟨x, hx, rfl⟩ := List.mem_map.1 hl
    exact List.length_pos_of_mem (List.mem_filter.2 ⟨hx, by simpa using hc⟩)
  · intro h
    obtain ⟨x, hx⟩ := List.exists_mem_of_length_pos h
    rw [List.mem_filter, decide_eq_true_eq] at hx
    exact ⟨_, List.mem_map.2 ⟨x, hx.1, rfl⟩, hx.2⟩

/-! ### fits -/
def isQ (c : Int) : Bool := decide (c = 63) || isL c
/-- A pattern: one to eight small letters and question marks. -/
def patOk (p : ByteArray) : Bool := decide (1 ≤ p.size ∧ p.size ≤ 8) && (List.range' 0 (p.size - 0)).all fun j => isQ (bt p j)
/-- A word fits a pattern. -/
def fitsM (p w : ByteArray) : Bool := patOk p && (wordM w && (decide (p.size = w.size) && (List.range' 0 (p.size - 0)).all fun j => decide (bt p j = 63 ∨ bt p j = bt w j)))
theorem spec_IsPattern_l0_ev (s : ByteArray) (hs : s.size ≤ 140737488351232) : ∀ i : Nat, i ≤ s.size → Ev (fun k => spec_IsPattern.l0 k s i) ((List.range' i (s.size - i)).all fun j => isQ (bt s j)) := by
  refine down s.size ?_ ?_
  · intro i h hi
    apply ev_succ
    simp only [spec_IsPattern.l0]
    refine ev_neg (by omega) (ev_now ?_)
    rw [range_nil h]; rfl
  · intro i h ih hi
    apply ev_succ
    simp only [spec_IsPattern.l0]
    rw [range_cons h, List.all_cons, wrap64_id (by omega) (by omega), succ_cast]
    refine ev_pos (by omega) (ev_pos (by omega) ?_)
    by_cases h0 : bt s i = 63
    · exact ev_pos h0 (ev_eq (ih (by omega)) (by simp [isQ, h0]))
    · refine ev_neg h0 ?_
      by_cases h1 : bt s i < 97
      · exact ev_pos h1 (ev_now (by simp [isQ, isL, h0]; omega))
      · refine ev_neg h1 ?_
        by_cases h2 : bt s i > 122
        · exact ev_pos h2 (ev_now (by simp [isQ, isL, h0]; omega))
        · refine ev_neg h2 (ev_eq (ih (by omega)) ?_)
          rw [show isQ (bt s i) = true by simp [isQ, isL]; omega, Bool.true_and]
theorem spec_IsPattern_ev (s : ByteArray) (hs : s.size ≤ 140737488351232) : Ev (fun k => spec_IsPattern.f k s) (patOk s) := by
  unfold spec_IsPattern.f patOk
  refine ev_let (spec_l1In_eq _ _ _) ?_
  by_cases h : 1 ≤ s.size ∧ s.size ≤ 8
  · rw [decide_eq_true h, Bool.true_and]
    exact ev_pos (by simp; omega) (spec_IsPattern_l0_ev s hs 0 (by omega))
  · rw [decide_eq_false h, Bool.false_and]
    exact ev_neg (by simp; omega) (ev_now rfl)
theorem impl_IsPattern_l0_ev (s : ByteArray) (hs : s.size ≤ 140737488351232) : ∀ i : Nat, i ≤ s.size → Ev (fun k => impl_IsPattern.l0 k s s.size i) ((List.range' i (s.size - i)).all fun j => isQ (bt s j)) := by
  refine down s.size ?_ ?_
  · intro i h hi
    apply ev_succ
    simp only [impl_IsPattern.l0]
    refine ev_neg (by omega) (ev_now ?_)
    rw [range_nil h]; rfl
  · intro i h ih hi
    apply ev_succ
    simp only [impl_IsPattern.l0]
    rw [range_cons h, List.all_cons, wrap64_id (by omega) (by omega), succ_cast]
    refine ev_pos (by omega) (ev_pos (by omega) (ev_pos (by omega) ?_))
    by_cases h0 : bt s i = 63
    · exact ev_pos h0 (ev_eq (ih (by omega)) (by simp [isQ, h0]))
    · refine ev_neg h0 (ev_let (impl_isLetter_eq _) ?_)
      by_cases h1 : isL (bt s i) = true
      · exact ev_pos h1 (ev_eq (ih (by omega)) (by simp [isQ, h1]))
      · exact ev_neg h1 (ev_now (by simp [isQ, h0, h1]))
theorem impl_IsPattern_ev (s : ByteArray) (hs : s.size ≤ 140737488351232) : Ev (fun k => impl_IsPattern.f k s) (patOk s) := by
  unfold impl_IsPattern.f patOk
  refine ev_let (impl_InRange_eq _ _ _) ?_
  by_cases h : 1 ≤ s.size ∧ s.size ≤ 8
  · rw [decide_eq_true h, Bool.true_and]
    exact ev_pos (by simp; omega) (impl_IsPattern_l0_ev s hs 0 (by omega))
  · rw [decide_eq_false h, Bool.false_and]
    exact ev_neg (by simp; omega) (ev_now rfl)
theorem spec_FitsPattern_l0_ev (p w : ByteArray) (he : p.size = w.size) (hs : p.size ≤ 1000) : ∀ i : Nat, i ≤ p.size → Ev (fun k => spec_FitsPattern.l0 k p w i) ((List.range' i (p.size - i)).all fun j => decide (bt p j = 63 ∨ bt p j = bt w j)) := by
  refine down p.size ?_ ?_
  · intro i h hi
    apply ev_succ
    simp only [spec_FitsPattern.l0]
    refine ev_neg (by omega) (ev_now ?_)
    rw [range_nil h]; rfl
  · intro i h ih hi
    apply ev_succ
    simp only [spec_FitsPattern.l0]
    rw [range_cons h, List.all_cons, wrap64_id (by omega) (by omega), succ_cast]
    refine ev_pos (by omega) (ev_pos (by omega) ?_)
    by_cases h0 : bt p i = 63
    · exact ev_pos h0 (ev_eq (ih (by omega)) (by simp [h0]))
    · refine ev_neg h0 (ev_pos (by omega) ?_)
      by_cases h1 : bt p i = bt w i
      · exact ev_pos h1 (ev_eq (ih (by omega)) (by simp [h1]))
      · exact ev_neg h1 (ev_now (by simp [h0, h1]))
theorem spec_FitsPattern_ev (p w : ByteArray) (hp : p.size ≤ 140737488351232) (hw : w.size ≤ 140737488351232) : Ev (fun k => spec_FitsPattern.f k p w) (fitsM p w) := by
  have hno : Ev (fun k => spec_FitsPattern.j0 k p w true) false := by
    apply ev_succ
    simp only [spec_FitsPattern.j0]
    exact ev_pos (by simp) (ev_now rfl)
  unfold spec_FitsPattern.f fitsM
  refine ev_bind (spec_IsPattern_ev p hp) ?_
  by_cases h1 : patOk p = true
  · have h8 : p.size ≤ 8 := by
      unfold patOk at h1
      simp only [Bool.and_eq_true, decide_eq_true_eq] at h1
      exact h1.1.2
    refine ev_pos h1 (ev_bind (spec_IsWord_ev w hw) ?_)
    rw [h1, Bool.true_and]
    by_cases h2 : wordM w = true
    · refine ev_pos h2 ?_
      rw [h2, Bool.true_and]
      by_cases h3 : p.size = w.size
      · rw [decide_eq_true h3, Bool.true_and]
        apply ev_succ
        simp only [spec_FitsPattern.j0]
        exact ev_neg (by simp [h3]) (spec_FitsPattern_l0_ev p w h3 (by omega) 0 (by omega))
      · rw [decide_eq_false h3, Bool.false_and]
        rw [show ((p.size : Int) != (w.size : Int)) = true by simp; omega]
        exact hno
    · refine ev_neg h2 (ev_eq hno ?_)
      rw [Bool.not_eq_true] at h2
      rw [h2, Bool.false_and]
  · refine ev_neg h1 (ev_eq hno ?_)
    rw [Bool.not_eq_true] at h1
    rw [h1, Bool.false_and]
theorem impl_FitsPattern_l0_ev (p w : ByteArray) (he : p.size = w.size) (hs : p.size ≤ 1000) : ∀ i : Nat, i ≤ p.size → Ev (fun k => impl_FitsPattern.l0 k p w p.size i) ((List.range' i (p.size - i)).all fun j => decide (bt p j = 63 ∨ bt p j = bt w j)) := by
  refine down p.size ?_ ?_
  · intro i h hi
    apply ev_succ
    simp only [impl_FitsPattern.l0]
    refine ev_neg (by omega) (ev_now ?_)
    rw [range_nil h]; rfl
  · intro i h ih hi
    apply ev_succ
    simp only [impl_FitsPattern.l0]
    rw [range_cons h, List.all_cons, wrap64_id (by omega) (by omega), succ_cast]
    refine ev_pos (by omega) (ev_pos (by omega) (ev_pos (by omega) ?_))
    by_cases h0 : bt p i = 63
    · exact ev_pos h0 (ev_eq (ih (by omega)) (by simp [h0]))
    · refine ev_neg h0 (ev_pos (by omega) ?_)
      by_cases h1 : bt p i = bt w i
      · exact ev_pos h1 (ev_eq (ih (by omega)) (by simp [h1]))
      · exact ev_neg h1 (ev_now (by simp [h0, h1]))
theorem impl_FitsPattern_ev (p w : ByteArray) (hp : p.size ≤ 140737488351232) (hw : w.size ≤ 140737488351232) : Ev (fun k => impl_FitsPattern.f k p w) (fitsM p w) := by
  have hno : Ev (fun k => impl_FitsPattern.j0 k p w true) false := by
    apply ev_succ
    simp only [impl_FitsPattern.j0]
    exact ev_pos (by simp) (ev_now rfl)
  unfold impl_FitsPattern.f fitsM
  refine ev_bind (impl_IsPattern_ev p hp) ?_
  by_cases h1 : patOk p = true
  · have h8 : p.size ≤ 8 := by
      unfold patOk at h1
      simp only [Bool.and_eq_true, decide_eq_true_eq] at h1
      exact h1.1.2
    refine ev_pos h1 (ev_bind (impl_IsWord_ev w hw) ?_)
    rw [h1, Bool.true_and]
    by_cases h2 : wordM w = true
    · refine ev_pos h2 ?_
      rw [h2, Bool.true_and]
      by_cases h3 : p.size = w.size
      · rw [decide_eq_true h3, Bool.true_and]
        apply ev_succ
        simp only [impl_FitsPattern.j0]
        exact ev_neg (by simp [h3]) (impl_FitsPattern_l0_ev p w h3 (by omega) 0 (by omega))
      · rw [decide_eq_false h3, Bool.false_and]
        rw [show ((p.size : Int) != (w.size : Int)) = true by simp; omega]
        exact hno
    · refine ev_neg h2 (ev_eq hno ?_)
      rw [Bool.not_eq_true] at h2
      rw [h2, Bool.false_and]
  · refine ev_neg h1 (ev_eq hno ?_)
    rw [Bool.not_eq_true] at h1
    rw [h1, Bool.false_and]

/-! ### putword -/
theorem splice (f w : ByteArray) (a i : Nat) (ha : a < f.size) (hi : i < w.size) : (f.extract 0 a ++ w.extract i (i + 1)) ++ f.extract (a + 1) f.size = ⟨f.data.setIfInBounds a (w.data.toList.getD i 0)⟩ := by
  have hl : i < w.data.toList.length := by simpa using hi
  have hf : a < f.data.toList.length := by simpa using ha
  apply ByteArray.ext
  apply Array.ext'
  rw [ByteArray.data_append, ByteArray.data_append, Array.toList_append, Array.toList_append, ByteArray.data_extract, ByteArray.data_extract, ByteArray.data_extract, Array.toList_extract, Array.toList_extract, Array.toList_extract, Array.toList_setIfInBounds, List.set_eq_take_append_cons_drop, if_pos hf]
  simp only [List.extract]
  rw [show i + 1 - i = 1 by omega, List.drop_eq_getElem_cons hl, List.getD_eq_getElem?_getD, List.getElem?_eq_getElem hl]
  have : (List.drop (a + 1) f.data.toList).take (f.size - (a + 1)) = List.drop (a + 1) f.data.toList := by
    apply List.take_of_length_le
    simp
    try exact Nat.le_refl _
  rw [this]
  simp
/-- A word put into a slot. -/
def putM (r c : Int) (s f : ByteArray) (slot : Int) (w : ByteArray) : ByteArray × Bool := if fitsM (patternM r c s f slot) w = true then (⟨writeGo w ((layoutM r c s).getD slot.toNat []) 0 f.data⟩, true) else (f, false)
theorem fitsM_facts {r c : Int} {s f : ByteArray} {slot : Int} {w : ByteArray} (h : fitsM (patternM r c s f slot) w = true) : ∃ j : Nat, slot = j ∧ ∃ hj : j < (slotsM r c s).length, fillM r c s f = true ∧ patternM r c s f slot = patM f (cellsM c.toNat (slotsM r c s)[j]) ∧ (cellsM c.toNat (slotsM r c s)[j]).length = w.size ∧ w.size ≤ 8 := by
  unfold fitsM at h
  simp only [Bool.and_eq_true, decide_eq_true_eq] at h
  obtain ⟨hp, hw, he, _⟩ := h
  unfold patOk at hp
  simp only [Bool.and_eq_true, decide_eq_true_eq] at hp
  have hsz := hp.1
  have hne : patternM r c s f slot ≠ ⟨#[]⟩ := by
    intro e
    rw [e] at hsz
    simp [ByteArray.size] at hsz
  by_cases hb : 0 ≤ slot ∧ slot < (patternsM r c s f).length
  · obtain ⟨j, hj⟩ := Int.eq_ofNat_of_zero_le hb.1
    have hfill : fillM r c s f = true := by
      by_cases hf : fillM r c s f = true
      · exact hf
      · have : patternsM r c s f = [] := if_neg hf
        rw [this] at hb
        simp at hb
        omega
    have e : patternsM r c s f = (layoutM r c s).map (patM f) := if_pos hfill
    have hlen : j < (slotsM r c s).length := by
      have := hb.2
      rw [e, List.length_map, layoutM_length] at this
      omega
    have hpm : patternM r c s f slot = patM f (cellsM c.toNat (slotsM r c s)[j]) := by
      unfold patternM
      rw [if_pos hb, e, hj]
      have h1 : j < (layoutM r c s).length := by rw [layoutM_length]; exact hlen
      simp only [Int.toNat_natCast]
      rw [List.getD_eq_getElem?_getD, List.getElem?_map, List.getElem?_eq_getElem h1, layoutM_get hlen]
      rfl
    refine ⟨j, hj, hlen, hfill, hpm, ?_, ?_⟩
    · rw [← he, hpm]
      unfold patM
      rw [strOfNums_size, List.length_map]
    · omega
  · exact absurd (by unfold patternM; rw [if_neg hb]) hne
theorem layout_in {r c : Int} {s : ByteArray} {j : Nat} (hj : j < (slotsM r c s).length) : ∀ x ∈ cellsM c.toNat (slotsM r c s)[j], 0 ≤ x ∧ x < s.size := fun _ hx => slot_cells_in (List.getElem_mem hj) hx
theorem layout_getD {r c : Int} {s : ByteArray} {j : Nat} (hj : j < (slotsM r c s).length) : (layoutM r c s).getD j [] = cellsM c.toNat (slotsM r c s)[j] := by
  have h1 : j < (layoutM r c s).length := by rw [layoutM_length]; exact hj
  rw [List.getD_eq_getElem?_getD, List.getElem?_eq_getElem h1, layoutM_get hj]
  rfl
theorem patternsM_size (r c : Int) (s f : ByteArray) : ∀ p ∈ patternsM r c s f, p.size ≤ 1000 := by
  intro p hm
  unfold patternsM at hm
  split at hm
  · obtain ⟨l, hl, rfl⟩ := List.mem_map.1 hm
    obtain ⟨x, hx, rfl⟩ := List.mem_map.1 hl
    obtain ⟨i, hi, rfl⟩ := List.getElem_of_mem hx
    have h6 := cellsM_length_elem hi
    unfold patM
    rw [strOfNums_size, List.length_map]
    omega
  · cases hm
theorem patternM_size (r c : Int) (s f : ByteArray) (slot : Int) (_ : s.size ≤ 1048576) : (patternM r c s f slot).size ≤ 1000 := by
  unfold patternM
  split
  · rename_i hb
    have hj : slot.toNat < (patternsM r c s f).length := by omega
    rw [List.getD_eq_getElem?_getD, List.getElem?_eq_getElem hj]
    exact patternsM_size r c s f _ (List.getElem_mem hj)
  · simp [ByteArray.size]
theorem impl_PutWord_ev (r c : Int) (s f : ByteArray) (slot : Int) (w : ByteArray) (hs : s.size ≤ 1048576) (hf : f.size ≤ 1048576) (hw : w.size ≤ 1048576) : Ev (fun k => impl_PutWord.f k r c s f slot w) (putM r c s f slot w) := by
  unfold impl_PutWord.f putM
  have hps := patternM_size r c s f slot hs
  refine ev_bind (impl_SlotPattern_ev r c s f slot hs hf) (ev_bind (impl_FitsPattern_ev _ w (by omega) (by omega)) ?_)
  by_cases h : fitsM (patternM r c s f slot) w = true
  · obtain ⟨j, rfl, hj, hfill, _, hl, h8⟩ := fitsM_facts h
    have hL := layoutM_length r c s
    have hsz := (fillM_size hfill).2
    have hin := layout_in hj
    refine ev_pos h (ev_bind (impl_layout_ev r c s hs) (ev_pos (by omega) (ev_pos (by omega) ?_)))
    rw [rd_ints_get (show j < (layoutM r c s).length by omega), layoutM_get hj]
    unfold impl_writeCells.f
    rw [if_pos ⟨fun x hx => by have := hin x hx; omega, by omega, hf, by omega⟩, if_pos h]
    refine ev_now ?_
    rw [Int.toNat_natCast, layout_getD hj]
  · refine ev_neg h (ev_now ?_)
    rw [if_neg h]
theorem spec_PutWord_l0_ev (w : ByteArray) (l : List Int) (n : Nat) (hn : n ≤ 1048576) (hc : ∀ x ∈ l, 0 ≤ x ∧ x < n) (hl : l.length = w.size) (h8 : w.size ≤ 8) : ∀ i : Nat, i ≤ l.length → ∀ f : ByteArray, f.size = n → Ev (fun k => spec_PutWord.l0 k f w l i) (⟨writeGo w (l.drop i) i f.data⟩, true) := by
  refine down l.length ?_ ?_
  · intro i h hi f hf
    apply ev_succ
    simp only [spec_PutWord.l0]
    exact ev_neg (by omega) (ev_now (by rw [List.drop_eq_nil_of_le h, writeGo_nil]))
  · intro i h ih hi f hf
    have hb := hc l[i] (List.getElem_mem h)
    obtain ⟨a, ha⟩ := Int.eq_ofNat_of_zero_le hb.1
    have haf : a < f.size := by omega
    have hsp := splice f w a i haf (by omega)
    have h1 : (f.extract 0 a).size + (w.extract i (i + 1)).size ≤ 9223372036854775807 := by
      rw [ByteArray.size_extract, ByteArray.size_extract]
      omega
    have h2 : ((f.extract 0 a) ++ (w.extract i (i + 1))).size + (f.extract (a + 1) f.size).size ≤ 9223372036854775807 := by
      rw [ByteArray.size_append, ByteArray.size_extract, ByteArray.size_extract, ByteArray.size_extract]
      omega
    apply ev_succ
    simp only [spec_PutWord.l0]
    rw [rd_get h, wrap64_id (n := (i : Int) + 1) (by omega) (by omega), succ_cast, ha, wrap64_id (n := (a : Int) + 1) (by omega) (by omega), succ_cast, Int.toNat_natCast, Int.toNat_natCast, Int.toNat_natCast, Int.toNat_natCast, hsp, List.drop_eq_getElem_cons h, writeGo_cons, ha, Int.toNat_natCast]
    refine ev_pos (by omega) (ev_pos (by omega) (ev_pos (by omega) (ev_pos (by omega) (ev_pos (by omega) (ev_pos (by omega) (ev_pos h1 (ev_pos (by omega) (ev_pos (by omega) (ev_pos h2 (ih (by omega) _ ?_))))))))))
    show (f.data.setIfInBounds a (w.data.toList.getD i 0)).size = n
    rw [Array.size_setIfInBounds]
    exact hf
theorem spec_PutWord_ev (r c : Int) (s f : ByteArray) (slot : Int) (w : ByteArray) (hs : s.size ≤ 1048576) (hf : f.size ≤ 1048576) (hw : w.size ≤ 1048576) : Ev (fun k => spec_PutWord.f k r c s f slot w) (putM r c s f slot w) := by
  unfold spec_PutWord.f putM
  have hps := patternM_size r c s f slot hs
  refine ev_bind (spec_SlotPattern_ev r c s f slot hs hf) (ev_bind (spec_FitsPattern_ev _ w (by omega) (by omega)) ?_)
  by_cases h : fitsM (patternM r c s f slot) w = true
  · obtain ⟨j, rfl, hj, hfill, _, hl, h8⟩ := fitsM_facts h
    have hsz := (fillM_size hfill).2
    have hin := layout_in hj
    refine ev_pos h (ev_bind (spec_SlotsOf_ev r c s hs) (ev_pos (by omega) (ev_pos (by omega) ?_)))
    rw [rd_Slot_get hj, if_pos h, Int.toNat_natCast, layout_getD hj]
    refine ev_bind (spec_CellsOf_ev r c s _ hs) ?_
    rw [cellsOfM_elem hj]
    exact spec_PutWord_l0_ev w _ f.size hf (fun x hx => by have := hin x hx; omega) hl h8 0 (by omega) f rfl
  · refine ev_neg h (ev_now ?_)
    rw [if_neg h]

/-! ### domains -/
/-- The words that fit a pattern. -/
def fittingM (l : List ByteArray) (p : ByteArray) : List ByteArray := l.filter fun w => fitsM p w
theorem spec_WordsFitting_l0_ev (l : List ByteArray) (p : ByteArray) (hl : l.length ≤ 1048576) (hp : p.size ≤ 140737488351232) (h : ∀ w ∈ l, w.size ≤ 140737488351232) : ∀ i : Nat, i ≤ l.length → ∀ acc : List ByteArray, acc.length ≤ i → Ev (fun k => spec_WordsFitting.l0 k l p acc i) (acc ++ fittingM (l.drop i) p) := by
  refine down l.length ?_ ?_
  · intro i hi _ acc ha
    apply ev_succ
    simp only [spec_WordsFitting.l0]
    refine ev_neg (by omega) (ev_now ?_)
    rw [List.drop_eq_nil_of_le hi]
    simp [fittingM]
  · intro i hi ih _ acc ha
    apply ev_succ
    simp only [spec_WordsFitting.l0]
    rw [rdOf_get hi, wrap64_id (n := (i : Int) + 1) (by omega) (by omega), succ_cast, List.drop_eq_getElem_cons hi]
    refine ev_pos (by omega) (ev_pos (by omega) (ev_bind (spec_FitsPattern_ev p l[i] hp (h _ (List.getElem_mem hi))) ?_))
    unfold fittingM
    rw [List.filter_cons]
    by_cases hf : fitsM p l[i] = true
    · rw [if_pos hf]
      exact ev_pos hf (ev_pos (by omega) (ev_eq (ih (by omega) _ (by simp; omega)) (by simp [fittingM])))
    · rw [if_neg hf]
      exact ev_neg hf (ih (by omega) acc (by omega))
theorem spec_WordsFitting_ev (l : List ByteArray) (p : ByteArray) (hl : l.length ≤ 1048576) (hp : p.size ≤ 140737488351232) (h : ∀ w ∈ l, w.size ≤ 140737488351232) : Ev (fun k => spec_WordsFitting.f k l p) (fittingM l p) := by
  unfold spec_WordsFitting.f
  exact ev_eq (spec_WordsFitting_l0_ev l p hl hp h 0 (by omega) [] (by simp)) (by simp)
theorem patternsM_small' (r c : Int) (s f : ByteArray) : ∀ p ∈ patternsM r c s f, p.size ≤ 1000 := by
  intro p hp
  unfold patternsM at hp
  split at hp
  · obtain ⟨l, hl, rfl⟩ := List.mem_map.1 hp
    unfold layoutM at hl
    obtain ⟨x, hx, rfl⟩ := List.mem_map.1 hl
    obtain ⟨i, hi, rfl⟩ := List.getElem_of_mem hx
    have := cellsM_length_elem hi
    unfold patM
    rw [strOfNums_size, List.length_map]
    omega
  · cases hp
def domainsM (r c : Int) (s f : ByteArray) (words : List ByteArray) : List (List ByteArray) := (patternsM r c s f).map (fittingM words)
theorem spec_DomainsOf_l0_ev (r c : Int) (s f : ByteArray) (words : List ByteArray) (hs : s.size ≤ 1048576) (hf : f.size ≤ 1048576) (hl : words.length ≤ 1048576) (h : ∀ w ∈ words, w.size ≤ 140737488351232) (hg : fillM r c s f = true) : ∀ i : Nat, i ≤ (slotsM r c s).length → ∀ acc : List (List ByteArray), acc.length ≤ i →
    Ev (fun k => spec_DomainsOf.l0 k f words acc (slotsM r c s) i r c s) (acc ++ ((patternsM r c s f).drop i).map (fittingM words)) := by
  have hlen := slotsM_length r c s
  have hP : (patternsM r c s f).length = (slotsM r c s).length := by
    unfold patternsM
    rw [if_pos hg, List.length_map, layoutM_length]
  refine down (slotsM r c s).length ?_ ?_
  · intro i hi _ acc ha
    apply ev_succ
    simp only [spec_DomainsOf.l0]
    refine ev_neg (by omega) (ev_succ ?_)
    simp only [spec_DomainsOf.j1]
    refine ev_neg (by simp) (ev_now ?_)
    rw [List.drop_eq_nil_of_le (by omega)]
    simp
  · intro i hi ih _ acc ha
    have hiP : i < (patternsM r c s f).length := by omega
    have hsm := patternsM_small' r c s f _ (List.getElem_mem hiP)
    have hpm : patternM r c s f (i : Int) = (patternsM r c s f)[i] := by
      unfold patternM
      rw [if_pos ⟨by omega, by omega⟩, Int.toNat_natCast, List.getD_eq_getElem?_getD, List.getElem?_eq_getElem hiP]
      rfl
    have hsp := spec_SlotPattern_ev r c s f i hs hf
    rw [hpm] at hsp
    apply ev_succ
    simp only [spec_DomainsOf.l0]
    refine ev_pos (by omega) (ev_bind (spec_IsFill_ev r c s f (by omega) (by omega)) (ev_succ ?_))
    simp only [spec_DomainsOf.j1]
    rw [wrap64_id (n := (i : Int) + 1) (by omega) (by omega), succ_cast, List.drop_eq_getElem_cons hiP, List.map_cons]
    exact ev_pos hg (ev_bind hsp (ev_bind (spec_WordsFitting_ev words _ hl (by omega) h) (ev_pos (by omega) (ev_eq (ih (by omega) _ (by simp; omega)) (by simp)))))
theorem spec_DomainsOf_ev (r c : Int) (s f : ByteArray) (words : List ByteArray) (hs : s.size ≤ 1048576) (hf : f.size ≤ 1048576) (hl : words.length ≤ 1048576) (h : ∀ w ∈ words, w.size ≤ 140737488351232) : Ev (fun k => spec_DomainsOf.f k r c s f words) (domainsM r c s f words) := by
  unfold spec_DomainsOf.f domainsM
  refine ev_bind (spec_SlotsOf_ev r c s hs) ?_
  by_cases hg : fillM r c s f = true
  · exact ev_eq (spec_DomainsOf_l0_ev r c s f words hs hf hl h hg 0 (by omega) [] (by simp)) (by simp)
  · have hn : patternsM r c s f = [] := by
      unfold patternsM
      rw [if_neg hg]
    rw [hn, List.map_nil]
    have hj : ∀ b : Bool, b = false → Ev (fun k => spec_DomainsOf.j1 k f words [] (slotsM r c s) 0 b r c s) [] := by
      intro b hb
      apply ev_succ
      simp only [spec_DomainsOf.j1]
      exact ev_neg (by simp [hb]) (ev_now rfl)
    apply ev_succ
    simp only [spec_DomainsOf.l0]
    by_cases hc : (0 : Int) < ((slotsM r c s).length : Int)
    · exact ev_pos hc (ev_bind (spec_IsFill_ev r c s f (by omega) (by omega)) (hj _ (by simpa using hg)))
    · exact ev_neg hc (hj _ rfl)

/-! ### fillfacts -/
/-! What a word put into a slot leaves in a fill. -/
theorem bt_set (d : Array UInt8) (a j : Nat) (u : UInt8) (ha : a < d.size) : bt ⟨d.setIfInBounds a u⟩ (j : Int) = if a = j then (u.toNat : Int) else bt ⟨d⟩ (j : Int) := by
  unfold bt
  simp only [Int.toNat_natCast]
  by_cases hj : j < d.size
  · rw [dif_pos (show j < (⟨d.setIfInBounds a u⟩ : ByteArray).size by show j < (d.setIfInBounds a u).size; rw [Array.size_setIfInBounds]; exact hj), dif_pos (show j < (⟨d⟩ : ByteArray).size from hj)]
    show (((d.setIfInBounds a u)[j]'(by rw [Array.size_setIfInBounds]; exact hj)).toNat : Int) = if a = j then (u.toNat : Int) else ((d[j]'hj).toNat : Int)
    rw [Array.getElem_setIfInBounds hj]
    split <;> rfl
  · rw [dif_neg (show ¬ j < (⟨d.setIfInBounds a u⟩ : ByteArray).size by show ¬ j < (d.setIfInBounds a u).size; rw [Array.size_setIfInBounds]; exact hj), dif_neg (show ¬ j < (⟨d⟩ : ByteArray).size from hj), if_neg (by omega)]
theorem bt_byte (w : ByteArray) (i : Nat) (h : i < w.size) : ((w.data.toList.getD i 0).toNat : Int) = bt w (i : Int) := by
  have hl : i < w.data.toList.length := by simpa using h
  rw [List.getD_eq_getElem?_getD, List.getElem?_eq_getElem hl]
  unfold bt
  rw [dif_pos (by simpa using h)]
  rfl
theorem writeGo_at (w : ByteArray) : ∀ (l : List Int) (i : Nat) (d : Array UInt8) (j : Nat), (∀ x ∈ l, 0 ≤ x ∧ x < (d.size : Int)) → i + l.length ≤ w.size → (bt ⟨writeGo w l i d⟩ (j : Int) = bt ⟨d⟩ (j : Int) ∧ (j : Int) ∉ l) ∨ ∃ q : Nat, ∃ h : q < l.length, l[q] = (j : Int) ∧ bt ⟨writeGo w l i d⟩ (j : Int) = bt w ((i + q : Nat) : Int)
  | [], i, d, j, _, _ => .inl ⟨rfl, by simp⟩
  | c :: l, i, d, j, hc, hw => by
    rw [List.length_cons] at hw
    obtain ⟨h0, h1⟩ := hc c (by simp)
    rw [writeGo_cons]
    rcases writeGo_at w l (i + 1) (d.setIfInBounds c.toNat (w.data.toList.getD i 0)) j (fun x hx => by rw [Array.size_setIfInBounds]; exact hc x (by simp [hx])) (by omega) with ⟨e, hn⟩ | ⟨q, hq, e1, e2⟩
    · rw [bt_set d c.toNat j _ (by omega)] at e
      by_cases hcj : c.toNat = j
      · rw [if_pos hcj, bt_byte w i (by omega)] at e
        exact .inr ⟨0, by simp, by show c = (j : Int); omega, e⟩
      · rw [if_neg hcj] at e
        refine .inl ⟨e, ?_⟩
        rw [List.mem_cons]
        rintro (h | h)
        · omega
        · exact hn h
    · refine .inr ⟨q + 1, by simp; exact hq, ?_, ?_⟩
      · rw [List.getElem_cons_succ]; exact e1
      · rw [e2, show i + 1 + q = i + (q + 1) by omega]
theorem bt_nums (l : List Int) (q : Nat) (h : q < l.length) (hb : 0 ≤ l[q] ∧ l[q] ≤ 255) : bt (strOfNums l) (q : Int) = l[q] := by
  have hs : q < (strOfNums l).size := by rw [strOfNums_size]; exact h
  rw [← bt_byte _ q hs]
  unfold strOfNums
  simp only [List.getD_eq_getElem?_getD, List.getElem?_map, List.getElem?_eq_getElem h, Option.map_some, Option.getD_some]
  rw [UInt8.toNat_ofNat']
  omega
theorem patM_size (f : ByteArray) (l : List Int) : (patM f l).size = l.length := by unfold patM; rw [strOfNums_size, List.length_map]
theorem patM_at (f : ByteArray) (l : List Int) (q : Nat) (h : q < l.length) : bt (patM f l) (q : Int) = bt f l[q] := by
  unfold patM
  rw [bt_nums _ q (by rw [List.length_map]; exact h) (by rw [List.getElem_map]; exact bt_range _ _), List.getElem_map]
theorem all_range {n : Nat} {p : Nat → Bool} : ((List.range' 0 (n - 0)).all p = true) ↔ ∀ j, j < n → p j = true := by
  rw [List.all_eq_true]
  constructor
  · intro h j hj
    exact h j (by rw [List.mem_range']; exact ⟨j, by omega, by omega⟩)
  · intro h j hj
    rw [List.mem_range'] at hj
    obtain ⟨q, hq, rfl⟩ := hj
    exact h _ (by omega)
theorem fillM_iff {r c : Int} {s f : ByteArray} : fillM r c s f = true ↔ gridM r c s = true ∧ f.size = s.size ∧ ∀ j, j < f.size → fillC (bt s (j : Int)) (bt f (j : Int)) = true := by
  unfold fillM
  rw [Bool.and_eq_true, Bool.and_eq_true, decide_eq_true_eq, all_range]
theorem wordM_iff {w : ByteArray} : wordM w = true ↔ (1 ≤ w.size ∧ w.size ≤ 8) ∧ ∀ j, j < w.size → isL (bt w (j : Int)) = true := by
  unfold wordM
  rw [Bool.and_eq_true, decide_eq_true_eq, all_range]
theorem fitsM_iff {p w : ByteArray} : fitsM p w = true ↔ patOk p = true ∧ wordM w = true ∧ p.size = w.size ∧ ∀ j : Nat, j < p.size → bt p (j : Int) = 63 ∨ bt p (j : Int) = bt w (j : Int) := by
  unfold fitsM
  rw [Bool.and_eq_true, Bool.and_eq_true, Bool.and_eq_true, decide_eq_true_eq, all_range]
  simp only [decide_eq_true_eq]
/-- Does this word fit the slot k? -/
def fitK (L : List (List Int)) (k : Nat) (f w : ByteArray) : Bool := fitsM (patM f (L.getD k [])) w
def wrK (L : List (List Int)) (k : Nat) (f w : ByteArray) : ByteArray := ⟨writeGo w (L.getD k []) 0 f.data⟩
theorem fitK_iff {L : List (List Int)} {k : Nat} {f w : ByteArray} : fitK L k f w = true ↔ patOk (patM f (L.getD k [])) = true ∧ wordM w = true ∧ (L.getD k []).length = w.size ∧ ∀ j (h : j < (L.getD k []).length), bt f (L.getD k [])[j] = 63 ∨ bt f (L.getD k [])[j] = bt w (j : Int) := by
  unfold fitK
  rw [fitsM_iff, patM_size]
  constructor
  · rintro ⟨h1, h2, h3, h4⟩
    exact ⟨h1, h2, h3, fun j h => by rw [← patM_at f _ j h]; exact h4 j h⟩
  · rintro ⟨h1, h2, h3, h4⟩
    exact ⟨h1, h2, h3, fun j h => by rw [patM_at f _ j h]; exact h4 j h⟩
theorem row_mem {L : List (List Int)} {k : Nat} (h : k < L.length) : L.getD k [] ∈ L := by
  rw [List.getD_eq_getElem?_getD, List.getElem?_eq_getElem h, Option.getD_some]
  exact List.getElem_mem h
theorem row_white {r c : Int} {s : ByteArray} {k : Nat} (h : k < (layoutM r c s).length) {x : Int} (hx : x ∈ (layoutM r c s).getD k []) : bt s x = 46 := slotsAtM_white (in_layout.1 (List.mem_flatten.2 ⟨_, row_mem h, hx⟩))
theorem wrK_at {r c : Int} {s f w : ByteArray} {k : Nat} (hk : k < (layoutM r c s).length) (hv : fillM r c s f = true) (hf : fitK (layoutM r c s) k f w = true) (j : Nat) : (bt (wrK (layoutM r c s) k f w) (j : Int) = bt f (j : Int) ∧ (j : Int) ∉ (layoutM r c s).getD k []) ∨ ∃ q : Nat, ∃ h : q < ((layoutM r c s).getD k []).length, ((layoutM r c s).getD k [])[q] = (j : Int) ∧ bt (wrK (layoutM r c s) k f w) (j : Int) = bt w (q : Int) := by
  obtain ⟨_, _, hsz, _⟩ := fitK_iff.1 hf
  obtain ⟨_, hin⟩ := layout_row (row_mem hk)
  have he := (fillM_iff.1 hv).2.1
  have h := writeGo_at w ((layoutM r c s).getD k []) 0 f.data j (fun x hx => by
    have h1 := hin x hx
    have h2 : f.data.size = f.size := rfl
    omega) (by omega)
  simp only [Nat.zero_add] at h
  exact h
theorem wrK_size (L : List (List Int)) (k : Nat) (f w : ByteArray) : (wrK L k f w).size = f.size := by
  show (writeGo w (L.getD k []) 0 f.data).size = f.data.size
  have : ∀ (l : List Int) (i : Nat) (d : Array UInt8), (writeGo w l i d).size = d.size := by
    intro l
    induction l with
    | nil => intro i d; rfl
    | cons x l ih => intro i d; rw [writeGo_cons, ih, Array.size_setIfInBounds]
  exact this _ _ _
theorem wrK_fill {r c : Int} {s f w : ByteArray} {k : Nat} (hk : k < (layoutM r c s).length) (hv : fillM r c s f = true) (hf : fitK (layoutM r c s) k f w = true) : fillM r c s (wrK (layoutM r c s) k f w) = true := by
  obtain ⟨hg, hs, ha⟩ := fillM_iff.1 hv
  refine fillM_iff.2 ⟨hg, by rw [wrK_size]; exact hs, fun j hj => ?_⟩
  rw [wrK_size] at hj
  rcases wrK_at hk hv hf j with ⟨e, _⟩ | ⟨q, hq, e1, e2⟩
  · rw [e]; exact ha j hj
  · obtain ⟨_, hw, hsz, _⟩ := fitK_iff.1 hf
    have hl := (wordM_iff.1 hw).2 q (by omega)
    have hb := row_white hk (List.getElem_mem hq)
    rw [e1] at hb
    rw [e2, hb]
    unfold fillC
    unfold isL at hl
    rw [decide_eq_true_eq] at hl
    have h1 : ¬ bt w (q : Int) = 35 := by omega
    simp [isL, h1, hl]
/-! ### emptyfill -/
theorem gridM_cell2 {r c : Int} {s : ByteArray} (h : gridM r c s = true) (i : Nat) (hi : i < s.size) : bt s i = 35 ∨ bt s i = 46 := by
  simp only [gridM, Bool.and_eq_true, List.all_eq_true] at h
  have := h.2 i (by rw [List.mem_range']; exact ⟨i, by omega, by omega⟩)
  simpa [isC] using this
def subB (b : UInt8) : UInt8 := if b = 46 then 63 else b
def emptyM (r c : Int) (s : ByteArray) : ByteArray := if gridM r c s = true then ⟨(s.data.toList.map subB).toArray⟩ else ⟨#[]⟩
theorem bt_list {s : ByteArray} {i : Nat} (h : i < s.data.toList.length) : bt s (i : Int) = ((s.data.toList[i]).toNat : Int) := by
  have h' : i < s.size := by simpa using h
  unfold bt
  rw [dif_pos (by simpa using h')]
  rfl
theorem u8_of (b : UInt8) (n : Nat) (hn : n < 256) (h : (b.toNat : Int) = n) : b = UInt8.ofNat n := by
  apply UInt8.toNat_inj.1
  rw [UInt8.toNat_ofNat']
  omega
def fillTo (s : ByteArray) (i : Nat) : ByteArray := ⟨((s.data.toList.take i).map subB).toArray⟩
theorem fillTo_size (s : ByteArray) (i : Nat) : (fillTo s i).size ≤ s.size := by
  have : (fillTo s i).size = ((s.data.toList.take i).map subB).length := by
    show ((s.data.toList.take i).map subB).toArray.size = _
    rw [List.size_toArray]
  rw [this, List.length_map, List.length_take]
  have : s.data.toList.length = s.size := by simp
  omega
theorem fillTo_next (s : ByteArray) (i : Nat) (h : i < s.data.toList.length) (b : UInt8) (hb : subB (s.data.toList[i]) = b) : fillTo s i ++ ⟨#[b]⟩ = fillTo s (i + 1) := by
  apply ByteArray.ext
  apply Array.ext'
  rw [ByteArray.data_append, Array.toList_append]
  unfold fillTo
  rw [List.take_succ_eq_append_getElem h, List.map_append, List.map_cons, List.map_nil, hb]
theorem spec_EmptyFill_l0_ev (r c : Int) (s : ByteArray) (hg : gridM r c s = true) (hs : s.size ≤ 1048576) : ∀ i : Nat, i ≤ s.size → Ev (fun k => spec_EmptyFill.l0 k (fillTo s i) i r c s) (fillTo s s.size) := by
  refine down s.size ?_ ?_
  · intro i h hi
    have e : i = s.size := by omega
    subst e
    apply ev_succ
    simp only [spec_EmptyFill.l0]
    refine ev_neg (by omega) (ev_succ ?_)
    simp only [spec_EmptyFill.j1]
    exact ev_neg (by simp) (ev_now rfl)
  · intro i h ih hi
    have hl : i < s.data.toList.length := by simpa using h
    have hb := bt_list hl
    have hcell := gridM_cell2 hg i h
    have hsz := fillTo_size s i
    apply ev_succ
    simp only [spec_EmptyFill.l0]
    refine ev_pos (by omega) (ev_bind (spec_IsGrid_ev r c s (by omega)) ?_)
    rw [hg]
    apply ev_succ
    simp only [spec_EmptyFill.j1]
    rw [wrap64_id (n := (i : Int) + 1) (by omega) (by omega), succ_cast]
    refine ev_pos (by trivial) (ev_pos (by omega) (ev_pos (by omega) ?_))
    by_cases h1 : bt s (i : Int) = 35
    · have e : s.data.toList[i] = 35 := u8_of _ 35 (by decide) (by omega)
      rw [fillTo_next s i hl 35 (by rw [e]; rfl)]
      exact ev_pos h1 (ev_pos (by omega) (ih (by omega)))
    · have e : s.data.toList[i] = 46 := u8_of _ 46 (by decide) (by omega)
      rw [fillTo_next s i hl 63 (by rw [e]; rfl)]
      exact ev_neg h1 (ev_pos (by omega) (ih (by omega)))
theorem fillTo_all (s : ByteArray) : fillTo s s.size = ⟨(s.data.toList.map subB).toArray⟩ := by
  unfold fillTo
  rw [List.take_of_length_le (by simp)]
theorem spec_EmptyFill_ev (r c : Int) (s : ByteArray) (hs : s.size ≤ 1048576) : Ev (fun k => spec_EmptyFill.f k r c s) (emptyM r c s) := by
  unfold spec_EmptyFill.f emptyM
  by_cases hg : gridM r c s = true
  · rw [if_pos hg, ← fillTo_all]
    exact spec_EmptyFill_l0_ev r c s hg hs 0 (by omega)
  · rw [if_neg hg]
    rw [Bool.not_eq_true] at hg
    have hstop : Ev (fun k => spec_EmptyFill.j1 k (⟨#[]⟩ : ByteArray) 0 false r c s) ⟨#[]⟩ := by
      apply ev_succ
      simp only [spec_EmptyFill.j1]
      exact ev_neg (by simp) (ev_now rfl)
    apply ev_succ
    simp only [spec_EmptyFill.l0]
    by_cases h0 : (0 : Int) < (s.size : Int)
    · refine ev_pos h0 (ev_bind (spec_IsGrid_ev r c s (by omega)) ?_)
      rw [hg]
      exact hstop
    · exact ev_neg h0 hstop

/-! ### drawfill -/
/-! What is drawn for a fill: a grid that is one, a fill with letters, and the rest in bounds. -/
theorem okText_grid {x : ByteArray} (h : okText x = true) : ∃ (R C : Int) (s : ByteArray), parseM x = (R, C, s, true) ∧ (1 ≤ s.size ∧ s.size ≤ 36) ∧ gridM R C s = true := by
  unfold okText at h
  rw [Bool.and_eq_true, Bool.and_eq_true, decide_eq_true_eq, decide_eq_true_eq] at h
  obtain ⟨hg, ht, h1, h2, h3, h4⟩ := h
  refine ⟨((cutL x.data.toList).length : Int), (((cutL x.data.toList).headD []).length : Int), ⟨(cutL x.data.toList).flatten.toArray⟩, ?_, ?_, hg⟩
  · unfold parseM finM
    rw [if_pos (by rw [ht]), if_pos hg]
  · show 1 ≤ (cutL x.data.toList).flatten.toArray.size ∧ (cutL x.data.toList).flatten.toArray.size ≤ 36
    rw [List.size_toArray]
    exact ⟨h1, h2⟩
theorem grid_set {r c : Int} {s y : ByteArray} {an : Nat} (hg : gridM r c s = true) (ha : an < s.size) (hy : y = ⟨#[35]⟩ ∨ y = ⟨#[46]⟩) : gridM r c ((s.extract 0 an ++ y) ++ s.extract (an + 1) s.size) = true := by
  have hy0 : y.extract 0 1 = y := by rcases hy with rfl | rfl <;> rfl
  have h1 := splice s y an 0 ha (by rcases hy with rfl | rfl <;> decide)
  rw [Nat.zero_add, hy0] at h1
  rw [h1]
  have hv : ((y.data.toList.getD 0 0).toNat : Int) = 35 ∨ ((y.data.toList.getD 0 0).toNat : Int) = 46 := by rcases hy with rfl | rfl <;> decide
  generalize y.data.toList.getD 0 0 = u at hv ⊢
  unfold gridM at hg ⊢
  simp only [Bool.and_eq_true, decide_eq_true_eq, List.all_eq_true] at hg ⊢
  obtain ⟨⟨⟨hr, hc⟩, hs⟩, hall⟩ := hg
  have hz : (⟨s.data.setIfInBounds an u⟩ : ByteArray).size = s.size := Array.size_setIfInBounds
  refine ⟨⟨⟨hr, hc⟩, by rw [hz]; exact hs⟩, fun j hj => ?_⟩
  rw [hz] at hj
  have h2 := hall j hj
  rw [bt_set s.data an j u ha]
  split
  · unfold isC
    rcases hv with hv | hv <;> rw [hv] <;> rfl
  · exact h2
theorem spec_l7Draw_grid (l : List Int) (i h : Int) (h0 : 0 ≤ i ∧ i ≤ l.length) (hl : l.length ≤ 1048576) : ∃ (r c : Int) (s : ByteArray) (i' h' : Int), Ev (fun k => spec_l7Draw.f k l i h) (r, c, s, i', h') ∧ (1 ≤ s.size ∧ s.size ≤ 36) ∧ gridM r c s = true ∧ (0 ≤ i' ∧ i' ≤ l.length) := by
  unfold spec_l7Draw.f spec_l7Texts.f
  have hall : ∀ x ∈ [(⟨#[46, 46, 46, 47, 46, 46, 46, 47, 46, 46, 46]⟩ : ByteArray), (⟨#[46, 46, 35, 47, 46, 46, 46, 47, 35, 46, 46]⟩ : ByteArray), (⟨#[46, 46, 46, 47, 46, 35, 46, 47, 46, 46, 46]⟩ : ByteArray), (⟨#[46, 46, 46, 46, 47, 46, 46, 46, 46, 47, 46, 46, 46, 46]⟩ : ByteArray), (⟨#[46, 46, 46, 46, 35, 47, 46, 35, 46, 46, 46, 47, 46, 46, 46, 46, 46]⟩ : ByteArray), (⟨#[46, 46, 46, 46, 47, 46, 35, 35, 46, 47, 46, 46, 46, 46]⟩ : ByteArray), (⟨#[46, 46, 46, 46, 46, 35, 47, 46, 35, 46, 35, 46, 46, 47, 46, 46, 46, 46, 46, 46]⟩ : ByteArray), (⟨#[46, 46, 47, 46, 46]⟩ : ByteArray), (⟨#[35, 46, 46, 46, 47, 46, 46, 46, 46, 47, 46, 46, 46, 35]⟩ : ByteArray), (⟨#[46, 46, 46, 47, 35, 35, 35, 47, 46, 46, 46]⟩ : ByteArray)], okText x = true ∧ x.size ≤ 100 := by decide +kernel
  obtain ⟨x, i1, g1, e1, hx, hi1⟩ := spec_l1Str_some l i h (L := [(⟨#[46, 46, 46, 47, 46, 46, 46, 47, 46, 46, 46]⟩ : ByteArray), (⟨#[46, 46, 35, 47, 46, 46, 46, 47, 35, 46, 46]⟩ : ByteArray), (⟨#[46, 46, 46, 47, 46, 35, 46, 47, 46, 46, 46]⟩ : ByteArray), (⟨#[46, 46, 46, 46, 47, 46, 46, 46, 46, 47, 46, 46, 46, 46]⟩ : ByteArray), (⟨#[46, 46, 46, 46, 35, 47, 46, 35, 46, 46, 46, 47, 46, 46, 46, 46, 46]⟩ : ByteArray), (⟨#[46, 46, 46, 46, 47, 46, 35, 35, 46, 47, 46, 46, 46, 46]⟩ : ByteArray), (⟨#[46, 46, 46, 46, 46, 35, 47, 46, 35, 46, 35, 46, 46, 47, 46, 46, 46, 46, 46, 46]⟩ : ByteArray), (⟨#[46, 46, 47, 46, 46]⟩ : ByteArray), (⟨#[35, 46, 46, 46, 47, 46, 46, 46, 46, 47, 46, 46, 46, 35]⟩ : ByteArray), (⟨#[46, 46, 46, 47, 35, 35, 35, 47, 46, 46, 46]⟩ : ByteArray)]) h0 hl (by decide) (by decide)
  obtain ⟨hok, hxs⟩ := hall x hx
  obtain ⟨R, C, s, hp, hs, hg⟩ := okText_grid hok
  have hpe := spec_ParseGrid_ev x (by omega)
  rw [hp] at hpe
  obtain ⟨z, i2, g2, e2, _, hi2⟩ := spec_l1Below_some l i1 g1 3 hi1 hl (by omega)
  have e3 : spec_l1Once.f l i1 g1 3 = some ((z == 0), i2, g2) := by
    unfold spec_l1Once.f
    rw [e2]
    rfl
  cases hz : (z == 0) with
  | false =>
    rw [hz] at e3
    exact ⟨R, C, s, i2, g2, ev_let rfl (ev_let e1 (ev_bind hpe (ev_let e3 (ev_neg (by simp) (ev_now rfl))))), hs, hg, hi2⟩
  | true =>
    rw [hz] at e3
    obtain ⟨a, i3, g3, e4, ha, hi3⟩ := spec_l1Below_some l i2 g2 (s.size : Int) hi2 hl (by omega)
    have ha1 := ha.2.1 (by omega)
    obtain ⟨an, rfl⟩ := Int.eq_ofNat_of_zero_le ha.1
    obtain ⟨y, i4, g4, e5, hy, hi4⟩ := spec_l1Str_some l i3 g3 [(⟨#[35]⟩ : ByteArray), (⟨#[46]⟩ : ByteArray)] hi3 hl (by decide) (by decide)
    simp only [List.mem_cons, List.not_mem_nil, or_false] at hy
    have hy1 : y.size = 1 := by
      rcases hy with rfl | rfl <;> rfl
    have n1 : (s.extract 0 an).size = an := by rw [ByteArray.size_extract]; omega
    have n2 : (s.extract (an + 1) s.size).size = s.size - (an + 1) := by rw [ByteArray.size_extract]; omega
    have n3 : ((s.extract 0 an) ++ y).size = an + 1 := by rw [ByteArray.size_append]; omega
    refine ⟨R, C, (s.extract 0 an ++ y) ++ s.extract (an + 1) s.size, i4, g4, ?_, ?_, grid_set hg (by omega) hy, hi4⟩
    · refine ev_let rfl (ev_let e1 (ev_bind hpe (ev_let e3 (ev_pos rfl (ev_let e4 ?_)))))
      refine ev_pos (by show 0 ≤ (an : Int); omega) (ev_pos (by show (an : Int) ≤ (s.size : Int); omega) (ev_let e5 ?_))
      show Ev (fun n => if (s.extract 0 ((an : Int)).toNat).size + y.size ≤ 9223372036854775807 then (if 0 ≤ wrap64 ((an : Int) + 1) then (if wrap64 ((an : Int) + 1) ≤ (s.size : Int) then (if ((s.extract 0 ((an : Int)).toNat) ++ y).size + (s.extract (wrap64 ((an : Int) + 1)).toNat s.size).size ≤ 9223372036854775807 then some (R, C, ((s.extract 0 ((an : Int)).toNat) ++ y) ++ (s.extract (wrap64 ((an : Int) + 1)).toNat s.size), i4, g4) else none) else none) else none) else none) _
      rw [wrap64_id (n := (an : Int) + 1) (by omega) (by omega), succ_cast, Int.toNat_natCast, Int.toNat_natCast]
      exact ev_pos (by omega) (ev_pos (by omega) (ev_pos (by omega) (ev_pos (by omega) (ev_now rfl))))
    · rw [ByteArray.size_append]
      omega
theorem emptyM_size (r c : Int) (s : ByteArray) : (emptyM r c s).size ≤ s.size := by
  unfold emptyM
  split
  · show (s.data.toList.map subB).toArray.size ≤ s.size
    rw [List.size_toArray, List.length_map, Array.length_toList]
    exact Nat.le_refl _
  · exact Nat.zero_le _
theorem emptyM_grid {r c : Int} {s : ByteArray} (h : gridM r c s = true) : (emptyM r c s).size = s.size := by
  unfold emptyM
  rw [if_pos h]
  show (s.data.toList.map subB).toArray.size = s.size
  rw [List.size_toArray, List.length_map, Array.length_toList]
  rfl
theorem put_size (r c : Int) (s f : ByteArray) (slot : Int) (w : ByteArray) : (putM r c s f slot w).1.size = f.size := by
  unfold putM
  split
  · exact wrK_size (layoutM r c s) slot.toNat f w
  · rfl
theorem spec_l11Draw_l0_ev (r c : Int) (s : ByteArray) (l : List Int) (n : Int) (hs : s.size ≤ 1048576) (hl : l.length ≤ 1048576) (hn : n ≤ 1000) : ∀ (m : Nat) (f : ByteArray) (i h : Int), m ≤ 100 → f.size ≤ 1048576 → (0 ≤ i ∧ i ≤ l.length) → ∃ (f' : ByteArray) (i' h' : Int), Ev (fun k => spec_l11Draw.l0 k f n (m : Int) l i h r c s) (f', i', h') ∧ f'.size = f.size ∧ (0 ≤ i' ∧ i' ≤ l.length)
  | 0, f, i, h, hm, hf, h0 => by
    refine ⟨f, i, h, ev_succ ?_, rfl, h0⟩
    simp only [spec_l11Draw.l0]
    refine ev_neg (by omega) (ev_succ ?_)
    simp only [spec_l11Draw.j1]
    exact ev_neg (by simp) (ev_now rfl)
  | m + 1, f, i, h, hm, hf, h0 => by
    by_cases hn0 : n > 0
    · obtain ⟨x, i1, h1, e1, x1, b1⟩ := spec_l1Below_some l i h n h0 hl (by omega)
      obtain ⟨w, i2, h2, e2, w2, b2⟩ := spec_l4Word_some l i1 h1 b1 hl
      have ep := spec_PutWord_ev r c s f x w hs hf (by omega)
      have ez := put_size r c s f x w
      obtain ⟨f', i', h', e3, q1, q2⟩ := spec_l11Draw_l0_ev r c s l n hs hl hn m (putM r c s f x w).1 i2 h2 (by omega) (by omega) b2
      refine ⟨f', i', h', ev_succ ?_, q1.trans ez, q2⟩
      simp only [spec_l11Draw.l0]
      refine ev_pos (by omega) (ev_succ ?_)
      simp only [spec_l11Draw.j1]
      rw [wrap64_id (n := ((m + 1 : Nat) : Int) - 1) (by omega) (by omega), show ((m + 1 : Nat) : Int) - 1 = (m : Int) by omega]
      exact ev_pos (decide_eq_true hn0) (ev_let e1 (ev_let e2 (ev_bind ep e3)))
    · refine ⟨f, i, h, ev_succ ?_, rfl, h0⟩
      simp only [spec_l11Draw.l0]
      refine ev_pos (by omega) (ev_succ ?_)
      simp only [spec_l11Draw.j1]
      exact ev_neg (by simpa using hn0) (ev_now rfl)
theorem spec_l11Draw_ev (l : List Int) (i h r c : Int) (s : ByteArray) (h0 : 0 ≤ i ∧ i ≤ l.length) (hl : l.length ≤ 1048576) (hs : s.size ≤ 100) : ∃ (f : ByteArray) (i' h' : Int), Ev (fun k => spec_l11Draw.f k l i h r c s) (f, i', h') ∧ f.size = (emptyM r c s).size ∧ (0 ≤ i' ∧ i' ≤ l.length) := by
  unfold spec_l11Draw.f
  obtain ⟨x, i1, h1, e1, x1, b1⟩ := spec_l1Below_some l i h 5 h0 hl (by omega)
  have x2 := x1.2.1 (by omega)
  obtain ⟨m, rfl⟩ := Int.eq_ofNat_of_zero_le x1.1
  have hlen := slotsM_length r c s
  have hz := emptyM_size r c s
  obtain ⟨f, i', h', e2, q1, q2⟩ := spec_l11Draw_l0_ev r c s l ((slotsM r c s).length : Int) (by omega) hl (by omega) m (emptyM r c s) i1 h1 (by omega) (by omega) b1
  exact ⟨f, i', h', ev_bind (spec_EmptyFill_ev r c s (by omega)) (ev_bind (spec_SlotsOf_ev r c s (by omega)) (ev_let e1 e2)), q1, q2⟩

/-! ### athas -/
/-! ### fnfills -/
/-! What the law FnFills says of a word that is put, of an empty fill and of a full one. -/
theorem put_facts {r c : Int} {s f : ByteArray} {slot : Int} {w : ByteArray} (h : fitsM (patternM r c s f slot) w = true) : ∃ k : Nat, slot = (k : Int) ∧ k < (layoutM r c s).length ∧ fillM r c s f = true ∧ fitK (layoutM r c s) k f w = true ∧ putM r c s f slot w = (wrK (layoutM r c s) k f w, true) := by
  obtain ⟨j, e, hj, hf, hp, hl, h8⟩ := fitsM_facts h
  subst e
  have hk : j < (layoutM r c s).length := by rw [layoutM_length]; exact hj
  refine ⟨j, rfl, hk, hf, ?_, ?_⟩
  · unfold fitK
    rw [layout_getD hj, ← hp]
    exact h
  · unfold putM
    rw [if_pos h, Int.toNat_natCast]
    rfl
theorem wr_agrees {r c : Int} {s f w : ByteArray} {k : Nat} (hk : k < (layoutM r c s).length) (hv : fillM r c s f = true) (hf : fitK (layoutM r c s) k f w = true) (j : Nat) : bt f (j : Int) = 63 ∨ bt (wrK (layoutM r c s) k f w) (j : Int) = bt f (j : Int) := by
  rcases wrK_at hk hv hf j with ⟨e, _⟩ | ⟨q, hq, e1, e2⟩
  · exact .inr e
  · have h := (fitK_iff.1 hf).2.2.2 q hq
    rw [e1] at h
    rcases h with h | h
    · exact .inl h
    · exact .inr (e2.trans h.symm)
/-! ### forced -/
theorem writeGo_size (word : ByteArray) : ∀ (l : List Int) (i : Nat) (d : Array UInt8), (writeGo word l i d).size = d.size
  | [], _, _ => rfl
  | c :: l, i, d => by rw [writeGo_cons, writeGo_size word l, Array.size_setIfInBounds]
theorem putM_size (r c : Int) (s f : ByteArray) (slot : Int) (w : ByteArray) : (putM r c s f slot w).1.size = f.size := by
  unfold putM
  split
  · exact writeGo_size _ _ _ _
  · rfl
/-- The words that are alone in their domains, put in one behind the other. -/
def forcedGo (r c : Int) (s f : ByteArray) : List (List ByteArray) → Nat → ByteArray → ByteArray × Bool
  | [], _, out => (out, true)
  | d :: l, i, out => if d.length = 1 then (if (putM r c s out i (d.getD 0 ⟨#[]⟩)).2 = true then forcedGo r c s f l (i + 1) (putM r c s out i (d.getD 0 ⟨#[]⟩)).1 else (f, false)) else forcedGo r c s f l (i + 1) out
def forcedM (r c : Int) (s f : ByteArray) (l : List (List ByteArray)) : ByteArray × Bool := if l.length = (slotsM r c s).length then forcedGo r c s f l 0 f else (f, false)
theorem first_get {d : List ByteArray} (h : d.length = 1) : rdOf ByteArray.empty d 0 = d.getD 0 ⟨#[]⟩ ∧ d.getD 0 ⟨#[]⟩ ∈ d := by
  match d, h with
  | [x], _ => exact ⟨rfl, by simp⟩
theorem impl_Forced_l0_ev (r c : Int) (s f : ByteArray) (l : List (List ByteArray)) (hs : s.size ≤ 1048576) (hl : l.length ≤ 1048576) (hw : ∀ d ∈ l, ∀ x ∈ d, x.size ≤ 1048576) : ∀ i : Nat, i ≤ l.length → ∀ out : ByteArray, out.size ≤ 1048576 → Ev (fun k => impl_Forced.l0 k f out l l.length i r c s) (forcedGo r c s f (l.drop i) i out) := by
  refine down l.length ?_ ?_
  · intro i h hi out ho
    apply ev_succ
    simp only [impl_Forced.l0]
    exact ev_neg (by omega) (ev_now (by rw [List.drop_eq_nil_of_le h]; rfl))
  · intro i h ih hi out ho
    apply ev_succ
    simp only [impl_Forced.l0]
    rw [rd_rows_get h, wrap64_id (n := (i : Int) + 1) (by omega) (by omega), succ_cast, List.drop_eq_getElem_cons h]
    unfold forcedGo
    refine ev_pos (by omega) (ev_pos (by omega) (ev_pos (by omega) ?_))
    by_cases h1 : l[i].length = 1
    · obtain ⟨e, hm⟩ := first_get h1
      have hx := hw _ (List.getElem_mem h) _ hm
      rw [e, if_pos h1]
      refine ev_pos (by omega) (ev_pos (by omega) (ev_bind (impl_PutWord_ev r c s out i _ hs ho hx) ?_))
      by_cases h2 : (putM r c s out i (l[i].getD 0 ⟨#[]⟩)).2 = true
      · exact ev_pos h2 (ev_eq (ih (by omega) _ (by rw [putM_size]; exact ho)) (by rw [if_pos h2]))
      · exact ev_neg h2 (ev_now (by rw [if_neg h2]))
    · exact ev_neg (by omega) (ev_eq (ih (by omega) _ ho) (by rw [if_neg h1]))
theorem impl_Forced_ev (r c : Int) (s f : ByteArray) (l : List (List ByteArray)) (hs : s.size ≤ 1048576) (hf : f.size ≤ 1048576) (hl : l.length ≤ 1048576) (hw : ∀ d ∈ l, ∀ x ∈ d, x.size ≤ 1048576) : Ev (fun k => impl_Forced.f k r c s f l) (forcedM r c s f l) := by
  unfold impl_Forced.f forcedM
  refine ev_bind (impl_SlotsOf_ev r c s hs) ?_
  by_cases h : l.length = (slotsM r c s).length
  · exact ev_pos (by omega) (ev_eq (impl_Forced_l0_ev r c s f l hs hl hw 0 (by omega) f hf) (by rw [if_pos h]; rfl))
  · exact ev_neg (by omega) (ev_now (by rw [if_neg h]))

/-! ### dead -/
def deadM (l : List (List ByteArray)) : Bool := l.any fun x => x.length == 0
theorem impl_IsDead_eq (l : List (List ByteArray)) (hl : l.length ≤ 1048576) : impl_IsDead.f l = some (deadM l) := if_pos hl

/-! ### drawl13 -/
theorem once_some (l : List Int) (i h n : Int) (h0 : 0 ≤ i ∧ i ≤ l.length) (hl : l.length ≤ 1048576) (hn : n ≤ 16777216) : ∃ (b : Bool) (i' h' : Int), spec_l1Once.f l i h n = some (b, i', h') ∧ (0 ≤ i' ∧ i' ≤ l.length) := by
  obtain ⟨x, i1, h1, e1, _, b1⟩ := spec_l1Below_some l i h n h0 hl hn
  unfold spec_l1Once.f
  rw [e1]
  exact ⟨_, _, _, rfl, b1⟩
theorem snoc_size2 {acc : List ByteArray} {w : ByteArray} {n : Nat} (h : ∀ y ∈ acc, y.size ≤ n) (hw : w.size ≤ n) : ∀ y ∈ acc ++ [w], y.size ≤ n := fun y hy => by
  rcases List.mem_append.1 hy with hy | hy
  · exact h y hy
  · rw [List.mem_singleton] at hy
    subst hy
    exact hw

/-! ### drawl12 -/
theorem spec_l12Some_l0_ev (L : List ByteArray) (hL : L.length ≤ 100) (hs : ∀ y ∈ L, y.size ≤ 100) (l : List Int) (hl : l.length ≤ 1048576) : ∀ (d i : Nat) (acc : List ByteArray) (p h : Int), i + d = L.length → acc.length ≤ i → (∀ y ∈ acc, y.size ≤ 100) → (0 ≤ p ∧ p ≤ l.length) → ∃ (W : List ByteArray) (p' h' : Int), Ev (fun k => spec_l12Some.l0 k L acc i l p h) (W, p', h') ∧ (W.length ≤ 101 ∧ ∀ y ∈ W, y.size ≤ 100) ∧ (0 ≤ p' ∧ p' ≤ l.length)
  | 0, i, acc, p, h, hi, ha, hs2, h0 => by
    refine ⟨acc, p, h, ev_succ ?_, ⟨by omega, hs2⟩, h0⟩
    simp only [spec_l12Some.l0]
    exact ev_neg (by omega) (ev_now rfl)
  | d + 1, i, acc, p, h, hi, ha, hs2, h0 => by
    have hil : i < L.length := by omega
    obtain ⟨b, p1, h1, e1, b1⟩ := once_some l p h 3 h0 hl (by omega)
    cases b with
    | true =>
      obtain ⟨W, p', h', e2, q1, q2⟩ := spec_l12Some_l0_ev L hL hs l hl d (i + 1) acc p1 h1 (by omega) (by omega) hs2 b1
      refine ⟨W, p', h', ev_succ ?_, q1, q2⟩
      simp only [spec_l12Some.l0]
      rw [wrap64_id (n := (i : Int) + 1) (by omega) (by omega), succ_cast]
      exact ev_pos (by omega) (ev_let e1 (ev_pos rfl e2))
    | false =>
      obtain ⟨W, p', h', e2, q1, q2⟩ := spec_l12Some_l0_ev L hL hs l hl d (i + 1) (acc ++ [L[i]]) p1 h1 (by omega) (by simp; omega) (snoc_size2 hs2 (hs _ (List.getElem_mem hil))) b1
      refine ⟨W, p', h', ev_succ ?_, q1, q2⟩
      simp only [spec_l12Some.l0]
      rw [rdOf_get hil, wrap64_id (n := (i : Int) + 1) (by omega) (by omega), succ_cast]
      exact ev_pos (by omega) (ev_let e1 (ev_neg (by simp) (ev_pos (by omega) (ev_pos (by omega) e2))))
theorem spec_l12Some_ev (l : List Int) (i h : Int) (h0 : 0 ≤ i ∧ i ≤ l.length) (hl : l.length ≤ 1048576) : ∃ (W : List ByteArray) (p' h' : Int), Ev (fun k => spec_l12Some.f k l i h) (W, p', h') ∧ (W.length ≤ 101 ∧ ∀ y ∈ W, y.size ≤ 100) ∧ (0 ≤ p' ∧ p' ≤ l.length) := by
  obtain ⟨W, p', h', e, q⟩ := spec_l12Some_l0_ev ((spec_l4Words.f).getD []) (by decide) (by decide) l hl 35 0 [] i h (by decide) (by decide) (fun y hy => by cases hy) h0
  refine ⟨W, p', h', ?_, q⟩
  unfold spec_l12Some.f
  exact ev_let rfl e
/-- Candidates in bounds. -/
def okD (d : List (List ByteArray)) : Prop := d.length ≤ 72 ∧ ∀ x ∈ d, x.length ≤ 200 ∧ ∀ w ∈ x, w.size ≤ 100
theorem okD_dom {d : List (List ByteArray)} (h : okD d) : Dom d.length d := ⟨rfl, fun x hx => ⟨by have := (h.2 x hx).1; omega, fun w hw => by have := (h.2 x hx).2 w hw; omega⟩⟩
theorem okD_domains {r c : Int} {s f : ByteArray} {W : List ByteArray} (h1 : W.length ≤ 101) (h2 : ∀ y ∈ W, y.size ≤ 100) : (domainsM r c s f W).length ≤ 72 ∧ ∀ x ∈ domainsM r c s f W, x.length ≤ 101 ∧ ∀ w ∈ x, w.size ≤ 100 := by
  have hp := patternsM_length r c s f
  refine ⟨by unfold domainsM; rw [List.length_map]; exact hp, fun x hx => ?_⟩
  obtain ⟨q, _, rfl⟩ := List.mem_map.1 hx
  exact ⟨by have := List.length_filter_le (fun w => fitsM q w) W; unfold fittingM; omega, fun w hw => h2 w (List.mem_filter.1 hw).1⟩
theorem spec_l12Draw_ev (l : List Int) (i h : Int) (h0 : 0 ≤ i ∧ i ≤ l.length) (hl : l.length ≤ 1048576) : ∃ (r c : Int) (s f : ByteArray) (d : List (List ByteArray)) (i' h' : Int), Ev (fun k => spec_l12Draw.f k l i h) (r, c, s, f, d, i', h') ∧ (s.size ≤ 100 ∧ f.size ≤ 100 ∧ okD d) ∧ (0 ≤ i' ∧ i' ≤ l.length) := by
  unfold spec_l12Draw.f
  obtain ⟨r, c, s, i1, g1, hd, hs, hg, b1⟩ := spec_l7Draw_grid l i h h0 hl
  obtain ⟨f, i2, g2, e2, hf, b2⟩ := spec_l11Draw_ev l i1 g1 r c s b1 hl (by omega)
  rw [emptyM_grid hg] at hf
  obtain ⟨W, i3, g3, e3, ⟨hW, hW2⟩, b3⟩ := spec_l12Some_ev l i2 g2 b2 hl
  have e4 := spec_DomainsOf_ev r c s f W (by omega) (by omega) (by omega) (fun y hy => by have := hW2 y hy; omega)
  obtain ⟨k1, k2⟩ := okD_domains (r := r) (c := c) (s := s) (f := f) hW hW2
  generalize domainsM r c s f W = D at e4 k1 k2
  have hok : okD D := ⟨k1, fun x hx => ⟨by have := (k2 x hx).1; omega, (k2 x hx).2⟩⟩
  by_cases hp : (D.length : Int) > 0
  · obtain ⟨z, i4, g4, e5, z1, b4⟩ := spec_l1Below_some l i3 g3 8 b3 hl (by omega)
    have h0D : 0 < D.length := by omega
    have hset : ∀ q : List ByteArray, q.length ≤ 200 → (∀ w ∈ q, w.size ≤ 100) → okD (D.set 0 q) := fun q q1 q2 => ⟨by rw [List.length_set]; exact k1, fun x hx => by
      rcases List.mem_or_eq_of_mem_set hx with hx | rfl
      · exact hok.2 x hx
      · exact ⟨q1, q2⟩⟩
    by_cases z0 : z = 0
    · refine ⟨r, c, s, f, D.drop 1, i4, g4, ev_bind hd (ev_bind e2 (ev_bind e3 (ev_bind e4 (ev_pos hp (ev_let e5 (ev_pos z0 (ev_pos (by show 1 ≤ (D.length : Int); omega) (ev_now rfl)))))))), ⟨by omega, by omega, ⟨by rw [List.length_drop]; omega, fun x hx => hok.2 x (List.mem_of_mem_drop hx)⟩⟩, b4⟩
    by_cases z1' : z = 1
    · obtain ⟨w, i5, g5, e6, w2, b5⟩ := spec_l4Any_some l i4 g4 b4 hl
      have hr : rd_L5 D 0 = D[0] := rd_rows_get (i := 0) h0D
      obtain ⟨m1, m2⟩ := k2 _ (List.getElem_mem h0D)
      refine ⟨r, c, s, f, D.set 0 (D[0] ++ [w]), i5, g5, ev_bind hd (ev_bind e2 (ev_bind e3 (ev_bind e4 (ev_pos hp (ev_let e5 (ev_neg z0 (ev_pos z1' (ev_pos (by show (0 : Int) < D.length; omega) (ev_let e6 ?_))))))))), ⟨by omega, by omega, hset _ (by simp; omega) (snoc_size2 m2 (by omega))⟩, b5⟩
      rw [hr]
      exact ev_pos (by omega) (ev_now rfl)
    by_cases z2 : z = 2
    · exact ⟨r, c, s, f, D.set 0 [], i4, g4, ev_bind hd (ev_bind e2 (ev_bind e3 (ev_bind e4 (ev_pos hp (ev_let e5 (ev_neg z0 (ev_neg z1' (ev_pos z2 (ev_pos (by show (0 : Int) < D.length; omega) (ev_now rfl)))))))))), ⟨by omega, by omega, hset [] (by simp) (fun w hw => by cases hw)⟩, b4⟩
    exact ⟨r, c, s, f, D, i4, g4, ev_bind hd (ev_bind e2 (ev_bind e3 (ev_bind e4 (ev_pos hp (ev_let e5 (ev_neg z0 (ev_neg z1' (ev_neg z2 (ev_now rfl))))))))), ⟨by omega, by omega, hok⟩, b4⟩
  · exact ⟨r, c, s, f, D, i3, g3, ev_bind hd (ev_bind e2 (ev_bind e3 (ev_bind e4 (ev_neg hp (ev_now rfl))))), ⟨by omega, by omega, hok⟩, b3⟩
theorem spec_DrawPrune_ev (l : List Int) (hl : l.length ≤ 1048576) : ∃ (r c : Int) (s : ByteArray) (d : List (List ByteArray)), Ev (fun k => spec_DrawPrune.f k l) (r, c, s, d) ∧ (s.size ≤ 100 ∧ okD d) := by
  obtain ⟨h, e1⟩ := spec_l1New_ev l hl
  obtain ⟨r, c, s, f, d, i1, h1, e2, ⟨q1, _, q3⟩, _⟩ := spec_l12Draw_ev l 0 h ⟨by omega, by omega⟩ hl
  refine ⟨r, c, s, d, ?_, q1, q3⟩
  unfold spec_DrawPrune.f
  exact ev_bind e1 (ev_bind e2 (ev_now rfl))
theorem spec_DrawIsDead_ev (l : List Int) (hl : l.length ≤ 1048576) : ∃ d : List (List ByteArray), Ev (fun k => spec_DrawIsDead.f k l) d ∧ okD d := by
  obtain ⟨r, c, s, d, e, _, q⟩ := spec_DrawPrune_ev l hl
  refine ⟨d, ?_, q⟩
  unfold spec_DrawIsDead.f
  exact ev_bind e (ev_now rfl)
theorem spec_DrawForced_ev (l : List Int) (hl : l.length ≤ 1048576) : ∃ (r c : Int) (s f : ByteArray) (d : List (List ByteArray)), Ev (fun k => spec_DrawForced.f k l) (r, c, s, f, d) ∧ (s.size ≤ 100 ∧ f.size ≤ 100 ∧ Dom d.length d ∧ d.length ≤ 72) := by
  obtain ⟨h, e1⟩ := spec_l1New_ev l hl
  obtain ⟨r, c, s, f, d, i1, h1, e2, ⟨q1, q2, q3⟩, b1⟩ := spec_l12Draw_ev l 0 h ⟨by omega, by omega⟩ hl
  obtain ⟨b, i2, h2, e3, b2⟩ := once_some l i1 h1 2 b1 hl (by omega)
  unfold spec_DrawForced.f
  have hD := okD_dom q3
  have hk := q3.1
  cases b with
  | true =>
    obtain ⟨hP, _⟩ := pruneM_facts (r := r) (c := c) (s := s) hD
    have hP2 := hP.1
    exact ⟨r, c, s, f, pruneM r c s d, ev_bind e1 (ev_bind e2 (ev_let e3 (ev_pos rfl (ev_bind (spec_Prune_ev r c s d (by omega) (by omega) hD) (ev_now rfl))))), q1, q2, ⟨rfl, hP.2⟩, by omega⟩
  | false => exact ⟨r, c, s, f, d, ev_bind e1 (ev_bind e2 (ev_let e3 (ev_neg (by simp) (ev_now rfl)))), q1, q2, hD, hk⟩

/-! ### fnpruned -/
/-! Pruning comes to rest, and strikes alone. -/
theorem in_rest (X : List ICross) : ∀ (l : List ISlot) (i : Nat) (D : List (List ByteArray)) (b : Bool), (inM X l i D b).2 = false → b = false ∧ (inM X l i D b).1 = D ∧ ∀ q (h : q < l.length), ¬ (keepM X D (i + q) l[q].f3 (D.getD (i + q) [])).length < (D.getD (i + q) []).length
  | [], i, D, b, h => ⟨h, rfl, fun q hq => absurd hq (Nat.not_lt_zero _)⟩
  | s :: l, i, D, b, h => by
    rw [inM_cons] at h ⊢
    by_cases hc : (keepM X D i s.f3 (D.getD i [])).length < (D.getD i []).length
    · rw [if_pos hc] at h
      exact absurd (in_rest X l (i + 1) _ true h).1 (by simp)
    · rw [if_neg hc] at h ⊢
      obtain ⟨h1, h2, h3⟩ := in_rest X l (i + 1) D b h
      refine ⟨h1, h2, fun q hq => ?_⟩
      match q with
      | 0 => exact hc
      | q + 1 =>
        have := h3 q (by simpa using hq)
        rw [show i + (q + 1) = i + 1 + q by omega]
        exact this
theorem out_rest {n0 : Nat} (X : List ICross) (sl : List ISlot) (hsl : sl.length ≤ n0) : ∀ (n : Nat) (D : List (List ByteArray)), sumL D < n → Dom n0 D → (inM X sl 0 (outM X sl n D) false).2 = false
  | 0, D, h, _ => by omega
  | n + 1, D, h, hD => by
    rw [outM_succ]
    obtain ⟨h1, h2, h3⟩ := inM_facts X sl 0 D false hD (by omega)
    by_cases hb : (inM X sl 0 D false).2 = true
    · rw [if_pos hb]
      rcases h3 hb with h4 | h4
      · cases h4
      · exact out_rest X sl hsl n _ (by omega) h1
    · rw [if_neg hb]
      rw [Bool.not_eq_true] at hb
      obtain ⟨_, e, _⟩ := in_rest X sl 0 D false hb
      rw [e]
      exact hb
theorem keep_sub (X : List ICross) (D : List (List ByteArray)) (i : Nat) (len : Int) (row : List ByteArray) : ∀ w ∈ keepM X D i len row, w ∈ row := fun w hw => (List.mem_filter.1 hw).1
theorem in_sub (X : List ICross) : ∀ (l : List ISlot) (i : Nat) (D : List (List ByteArray)) (b : Bool) (j : Nat), ∀ w ∈ (inM X l i D b).1.getD j [], w ∈ D.getD j []
  | [], i, D, b, j, w, h => h
  | s :: l, i, D, b, j, w, h => by
    rw [inM_cons] at h
    split at h
    · have h2 := in_sub X l (i + 1) _ true j w h
      by_cases hij : i = j
      · subst hij
        by_cases hi : i < D.length
        · rw [List.getD_eq_getElem?_getD, List.getElem?_set_self hi, Option.getD_some] at h2
          exact keep_sub _ _ _ _ _ w h2
        · rw [List.getD_eq_getElem?_getD, List.getElem?_eq_none (by rw [List.length_set]; omega)] at h2
          cases h2
      · rw [List.getD_eq_getElem?_getD, List.getElem?_set_ne hij, ← List.getD_eq_getElem?_getD] at h2
        exact h2
    · exact in_sub X l (i + 1) D b j w h
theorem out_sub (X : List ICross) (sl : List ISlot) : ∀ (n : Nat) (D : List (List ByteArray)) (j : Nat), ∀ w ∈ (outM X sl n D).getD j [], w ∈ D.getD j []
  | 0, D, j, w, h => h
  | n + 1, D, j, w, h => by
    rw [outM_succ] at h
    split at h
    · exact in_sub X sl 0 D false j w (out_sub X sl n _ j w h)
    · exact in_sub X sl 0 D false j w h
theorem prune_sub {r c : Int} {s : ByteArray} {D : List (List ByteArray)} (j : Nat) : ∀ w ∈ (pruneM r c s D).getD j [], w ∈ D.getD j [] := by
  unfold pruneM
  split
  · exact out_sub _ _ _ D j
  · exact fun w h => h
/-- What is pruned has support. -/
theorem prune_sup {r c : Int} {s : ByteArray} {D : List (List ByteArray)} (hD : Dom D.length D) (he : D.length = (slotsM r c s).length) (i : Nat) (hi : i < (slotsM r c s).length) : ∀ w ∈ (pruneM r c s D).getD i [], tM (crossM r c s) (pruneM r c s D) i (slotsM r c s)[i].f3 w = true := by
  intro w hw
  have e : pruneM r c s D = outM (crossM r c s) (slotsM r c s) (sumL D + 1) D := if_pos he
  rw [e] at hw ⊢
  have h := out_rest (n0 := D.length) (crossM r c s) (slotsM r c s) (by omega) (sumL D + 1) D (by omega) hD
  obtain ⟨_, _, h3⟩ := in_rest _ _ _ _ _ h
  have h4 := h3 i hi
  rw [Nat.zero_add] at h4
  generalize outM (crossM r c s) (slotsM r c s) (sumL D + 1) D = P at hw h4 ⊢
  unfold keepM at h4
  have h5 := List.length_filter_le (tM (crossM r c s) P i (slotsM r c s)[i].f3) (P.getD i [])
  have h6 : (P.getD i []).filter (tM (crossM r c s) P i (slotsM r c s)[i].f3) = P.getD i [] := List.filter_eq_self.2 (List.length_filter_eq_length_iff.1 (by omega))
  exact List.filter_eq_self.1 h6 w hw
theorem prune_twice {r c : Int} {s : ByteArray} {D : List (List ByteArray)} (hD : Dom D.length D) : pruneM r c s (pruneM r c s D) = pruneM r c s D := by
  by_cases he : D.length = (slotsM r c s).length
  · have e : pruneM r c s D = outM (crossM r c s) (slotsM r c s) (sumL D + 1) D := if_pos he
    obtain ⟨hP, _⟩ := pruneM_facts (r := r) (c := c) (s := s) hD
    have h := out_rest (n0 := D.length) (crossM r c s) (slotsM r c s) (by omega) (sumL D + 1) D (by omega) hD
    rw [← e] at h
    obtain ⟨_, h2, _⟩ := in_rest _ _ _ _ _ h
    have e2 : pruneM r c s (pruneM r c s D) = outM (crossM r c s) (slotsM r c s) (sumL (pruneM r c s D) + 1) (pruneM r c s D) := if_pos (by rw [hP.1]; exact he)
    rw [e2, outM_succ, h]
    exact h2
  · have e : pruneM r c s D = D := if_neg he
    rw [e, e]
/-- What is forced keeps the letters that stood. -/
theorem forced_go {r c : Int} {s f : ByteArray} : ∀ (l : List (List ByteArray)) (i : Nat) (out : ByteArray), out.size = f.size → (fillM r c s f = true → fillM r c s out = true ∧ ∀ j : Nat, bt f (j : Int) = 63 ∨ bt out (j : Int) = bt f (j : Int)) → (forcedGo r c s f l i out).1.size = f.size ∧ ((forcedGo r c s f l i out).2 = false → (forcedGo r c s f l i out).1 = f) ∧ ((forcedGo r c s f l i out).2 = true → fillM r c s f = true → ∀ j : Nat, bt f (j : Int) = 63 ∨ bt (forcedGo r c s f l i out).1 (j : Int) = bt f (j : Int))
  | [], i, out, hs, h => ⟨hs, fun e => (by cases e), fun _ hv => (h hv).2⟩
  | d :: l, i, out, hs, h => by
    unfold forcedGo
    split
    · split
      · rename_i hput
        refine forced_go l (i + 1) _ (by rw [putM_size]; exact hs) fun hv => ?_
        obtain ⟨h1, h2⟩ := h hv
        by_cases hfit : fitsM (patternM r c s out (i : Int)) (d.getD 0 ⟨#[]⟩) = true
        · obtain ⟨k, _, hk, hv2, hf2, hp⟩ := put_facts hfit
          rw [hp]
          refine ⟨wrK_fill hk hv2 hf2, fun j => ?_⟩
          rcases h2 j with h3 | h3
          · exact .inl h3
          · rcases wr_agrees hk hv2 hf2 j with h4 | h4
            · exact .inl (h3 ▸ h4)
            · exact .inr (h4.trans h3)
        · rw [show putM r c s out (i : Int) (d.getD 0 ⟨#[]⟩) = (out, false) from if_neg hfit] at hput
          cases hput
      · exact ⟨rfl, fun _ => rfl, fun e => (by cases e)⟩
    · exact forced_go l (i + 1) out hs h
theorem forced_facts (r c : Int) (s f : ByteArray) (l : List (List ByteArray)) : (forcedM r c s f l).1.size = f.size ∧ ((forcedM r c s f l).2 = false → (forcedM r c s f l).1 = f) ∧ ((forcedM r c s f l).2 = true → fillM r c s f = true → ∀ j : Nat, bt f (j : Int) = 63 ∨ bt (forcedM r c s f l).1 (j : Int) = bt f (j : Int)) := by
  unfold forcedM
  split
  · exact forced_go l 0 f rfl fun hv => ⟨hv, fun _ => .inr rfl⟩
  · exact ⟨rfl, fun _ => rfl, fun e => (by cases e)⟩

/-! ### repeats -/
/-! ### the law -/
theorem hasWordM_ev (n : ByteArray) {l : List ByteArray} (hl : l.length ≤ 2000000) : Ev (fun k => impl_HasWord.f k l n) (decide (n ∈ l)) := by
  unfold impl_HasWord.f
  exact ev_bind (slices_Contains_string_string_ev l n (by omega)) (ev_now rfl)
theorem within_ev {w ws : List ByteArray} (hl : ws.length ≤ 1048576) (hw : w.length ≤ 1048576) (hm : ∀ y ∈ w, y ∈ ws) : Ev (fun k => laws_within.f k w ws) true := by
  have main : ∀ i : Nat, i ≤ w.length → Ev (fun k => laws_within.l0 k w ws i) true := by
    refine down w.length ?_ ?_
    · intro i h _
      apply ev_succ
      simp only [laws_within.l0]
      exact ev_neg (by omega) (ev_now rfl)
    · intro i h ih _
      have e := hasWordM_ev w[i] (l := ws) (by omega)
      rw [decide_eq_true (hm _ (List.getElem_mem h))] at e
      apply ev_succ
      simp only [laws_within.l0]
      rw [rdOf_get h, wrap64_id (n := (i : Int) + 1) (by omega) (by omega), succ_cast]
      exact ev_pos (by omega) (ev_pos (by omega) (ev_bind e (ev_pos rfl (ih (by omega)))))
  unfold laws_within.f
  exact main 0 (by omega)
theorem same_ev {w : List ByteArray} (hw : w.length ≤ 1048576) : Ev (fun k => laws_sameWords.f k w w) true := by
  have main : ∀ i : Nat, i ≤ w.length → Ev (fun k => laws_sameWords.l0 k w w i) true := by
    refine down w.length ?_ ?_
    · intro i h _
      apply ev_succ
      simp only [laws_sameWords.l0]
      exact ev_neg (by omega) (ev_now rfl)
    · intro i h ih _
      apply ev_succ
      simp only [laws_sameWords.l0]
      rw [wrap64_id (n := (i : Int) + 1) (by omega) (by omega), succ_cast]
      exact ev_pos (by omega) (ev_pos (by omega) (ev_pos (by omega) (ev_pos trivial (ih (by omega)))))
  unfold laws_sameWords.f
  exact ev_pos rfl (main 0 (by omega))
theorem agrees_some {x f : ByteArray} (hs : x.size = f.size) (hl : f.size ≤ 1048576) : ∃ b : Bool, Ev (fun k => laws_agrees.f k x f) b := by
  have main : ∀ i : Nat, i ≤ f.size → ∃ b : Bool, Ev (fun k => laws_agrees.l0 k x f i) b := by
    refine down f.size ?_ ?_
    · intro i hi _
      refine ⟨((x.size : Int) == (f.size : Int)), ev_succ ?_⟩
      simp only [laws_agrees.l0]
      exact ev_neg (by omega) (ev_now rfl)
    · intro i hi ih _
      obtain ⟨b, hb⟩ := ih (by omega)
      by_cases h1 : bt f (i : Int) = 63
      · refine ⟨b, ev_succ ?_⟩
        simp only [laws_agrees.l0]
        rw [wrap64_id (n := (i : Int) + 1) (by omega) (by omega), succ_cast]
        exact ev_pos (by omega) (ev_pos (by omega) (ev_pos h1 hb))
      · by_cases h2 : bt x (i : Int) = bt f (i : Int)
        · refine ⟨b, ev_succ ?_⟩
          simp only [laws_agrees.l0]
          rw [wrap64_id (n := (i : Int) + 1) (by omega) (by omega), succ_cast]
          exact ev_pos (by omega) (ev_pos (by omega) (ev_neg h1 (ev_neg (by omega) (ev_pos (by omega) (ev_pos h2 hb)))))
        · refine ⟨false, ev_succ ?_⟩
          simp only [laws_agrees.l0]
          exact ev_pos (by omega) (ev_pos (by omega) (ev_neg h1 (ev_neg (by omega) (ev_pos (by omega) (ev_neg h2 (ev_now rfl))))))
  unfold laws_agrees.f
  exact main 0 (by omega)
theorem pruned_in {r c : Int} {s : ByteArray} {P : List (List ByteArray)} (hs : s.size ≤ 100) (hP : Dom P.length P) (i : Nat) : ∀ ys : List ByteArray, (∀ y ∈ ys, y.size ≤ 1048576 ∧ supportM r c s P (i : Int) y = true) → Ev (fun k => pdIn k r c s P (i : Int) ys) true
  | [], _ => ev_now rfl
  | y :: ys, h => by
    obtain ⟨h1, h2⟩ := h y List.mem_cons_self
    have e := impl_Support_ev r c s P (i : Int) y (by omega) (fun d hd => (hP.2 d hd).1) h1
    rw [h2] at e
    simp only [pdIn_cons]
    exact ev_bind e (ev_pos rfl (pruned_in hs hP i ys fun z hz => h z (List.mem_cons_of_mem _ hz)))
theorem pruned_one {r c : Int} {s : ByteArray} {D : List (List ByteArray)} (hs : s.size ≤ 100) (hD : Dom D.length D) (he : D.length = (slotsM r c s).length) : ∀ (xs : List (List ByteArray)) (i : Nat), (pruneM r c s D).drop i = xs → Ev (fun k => pdOne k r c s (pruneM r c s D) D xs i) true
  | [], _, _ => ev_now rfl
  | x :: xs, i, hi => by
    obtain ⟨hP0, _⟩ := pruneM_facts (r := r) (c := c) (s := s) hD
    have hPl := hP0.1
    have hP : Dom (pruneM r c s D).length (pruneM r c s D) := ⟨rfl, hP0.2⟩
    have h : i < (pruneM r c s D).length := by
      rcases Nat.lt_or_ge i (pruneM r c s D).length with h2 | h2
      · exact h2
      · rw [List.drop_eq_nil_of_le h2] at hi
        cases hi
    rw [List.drop_eq_getElem_cons h] at hi
    obtain ⟨hx, hi2⟩ := List.cons.inj hi
    have hget : (pruneM r c s D).getD i [] = x := by rw [List.getD_eq_getElem?_getD, List.getElem?_eq_getElem h, Option.getD_some, hx]
    have hxr := hP.row i
    rw [hget] at hxr
    have hdr := hD.row i
    have hsub := prune_sub (r := r) (c := c) (s := s) (D := D) i
    rw [hget] at hsub
    have hsup := prune_sup (r := r) (c := c) (s := s) hD he i (by omega)
    rw [hget] at hsup
    simp only [pdOne_cons]
    refine ev_pos (by omega) (ev_bind (within_ev hdr.1 hxr.1 hsub) (ev_bind (pruned_in hs hP i x fun y hy => ⟨hxr.2 y hy, ?_⟩) (ev_pos rfl (pruned_one hs hD he xs (i + 1) hi2))))
    have ht := hsup y hy
    unfold tM at ht
    rw [Bool.and_eq_true, Bool.and_eq_true, decide_eq_true_eq] at ht
    have hi3 : i < (slotsM r c s).length := by omega
    have hz : (y.size : Int) = ((slotsM r c s).getD (i : Int).toNat ⟨0, false, 0, 0⟩).f3 := by
      rw [Int.toNat_natCast, List.getD_eq_getElem?_getD, List.getElem?_eq_getElem hi3, Option.getD_some]
      exact ht.2.1
    unfold supportM
    rw [if_pos ⟨⟨by omega, by omega, by omega⟩, ht.1, hz⟩]
    exact ht.2.2
theorem pruned_two {P : List (List ByteArray)} (hP : Dom P.length P) : ∀ (xs : List (List ByteArray)) (i : Nat), P.drop i = xs → Ev (fun k => pdTwo k P xs i) true
  | [], _, _ => ev_now rfl
  | x :: xs, i, hi => by
    have h : i < P.length := by
      rcases Nat.lt_or_ge i P.length with h2 | h2
      · exact h2
      · rw [List.drop_eq_nil_of_le h2] at hi
        cases hi
    rw [List.drop_eq_getElem_cons h] at hi
    obtain ⟨hx, hi2⟩ := List.cons.inj hi
    have hget : P.getD i [] = x := by rw [List.getD_eq_getElem?_getD, List.getElem?_eq_getElem h, Option.getD_some, hx]
    have hxr := hP.row i
    rw [hget] at hxr
    simp only [pdTwo_cons]
    refine ev_pos h ?_
    rw [hget]
    exact ev_bind (same_ev hxr.1) (ev_pos rfl (pruned_two hP xs (i + 1) hi2))
theorem pruned_j2 (l : List Int) (hl : l.length ≤ 1048576) : Ev (fun k => laws_FnPruned.j2 k l) true := by
  obtain ⟨d, hd, hok⟩ := spec_DrawIsDead_ev l hl
  have hk := hok.1
  unfold laws_FnPruned.j2
  refine ev_bind hd (ev_let (impl_IsDead_eq d (by omega)) (ev_pos ?_ (ev_now rfl)))
  intro h
  unfold deadM at h
  cases d with
  | nil => cases h
  | cons a d => simp
theorem pruned_j1 (l : List Int) (hl : l.length ≤ 1048576) : Ev (fun k => laws_FnPruned.j1 k l) true := by
  obtain ⟨r, c, s, f, d, hd, hs, hf, hD, hk⟩ := spec_DrawForced_ev l hl
  obtain ⟨f1, f2, f3⟩ := forced_facts r c s f d
  have e1 := impl_Forced_ev r c s f d (by omega) (by omega) (by omega) (fun x hx y hy => (hD.2 x hx).2 y hy)
  have e2 := impl_IsFill_ev r c s f (by omega) (by omega)
  have e3 : ∃ ag : Bool, Ev (fun k => laws_agrees.f k (forcedM r c s f d).1 f) ag ∧ ((forcedM r c s f d).2 = true → fillM r c s f = true → ag = true) := by
    by_cases hc : (forcedM r c s f d).2 = true ∧ fillM r c s f = true
    · exact ⟨true, laws_agrees_ev f1 (by omega) (f3 hc.1 hc.2), fun _ _ => rfl⟩
    · obtain ⟨b, hb⟩ := agrees_some f1 (by omega)
      exact ⟨b, hb, fun h1 h2 => absurd ⟨h1, h2⟩ hc⟩
  obtain ⟨ag, e3, hag⟩ := e3
  unfold laws_FnPruned.j1
  refine ev_bind hd (ev_bind e1 (ev_bind e2 (ev_bind e3 ?_)))
  by_cases ho : (forcedM r c s f d).2 = true
  · exact ev_pos ho (ev_pos (hag ho) (pruned_j2 l hl))
  · exact ev_neg ho (ev_pos (f2 (by simpa using ho)) (pruned_j2 l hl))
theorem FnPruned : laws_FnPruned.Pure := by
  intro l _ _ _
  apply Ev.rounds
  unfold laws_FnPruned.f
  refine ev_let (laws_big_eq l) ?_
  by_cases hb : (l.length : Int) > 1048576
  · exact ev_pos (decide_eq_true hb) (ev_now rfl)
  · obtain ⟨r, c, s, d, hd, hs, hok⟩ := spec_DrawPrune_ev l (by omega)
    refine ev_neg (by simpa using hb) (ev_bind hd ?_)
    have hk := hok.1
    have hD := okD_dom hok
    obtain ⟨hP0, hsum⟩ := pruneM_facts (r := r) (c := c) (s := s) hD
    have hPl := hP0.1
    have hP : Dom (pruneM r c s d).length (pruneM r c s d) := ⟨rfl, hP0.2⟩
    have hcd : ∀ x : List (List ByteArray), x.length ≤ 72 → (∀ y ∈ x, y.length ≤ 200) → countM x ≤ 72 * 200 := by
      intro x h1 h2
      have h3 : countM x ≤ x.length * 200 := by
        clear h1
        induction x with
        | nil => exact Nat.zero_le _
        | cons a x ih =>
          have h4 := ih fun y hy => h2 y (List.mem_cons_of_mem _ hy)
          have h5 := h2 a List.mem_cons_self
          have e : countM (a :: x) = a.length + countM x := rfl
          rw [e, List.length_cons, Nat.add_mul]
          omega
      exact Nat.le_trans h3 (Nat.mul_le_mul_right 200 h1)
    have n2 := hcd d hk (fun y hy => (hok.2 y hy).1)
    have hsum2 : countM (pruneM r c s d) ≤ countM d := hsum
    unfold laws_FnPruned.g
    refine ev_bind (impl_Prune_ev r c s d (by omega) (by omega) hD) (ev_bind (impl_CountChoices_ev _ (by omega) (by omega)) (ev_bind (impl_CountChoices_ev d (by omega) (by omega)) (ev_bind (impl_SlotsOf_ev r c s (by omega)) (ev_pos ⟨hPl, by omega⟩ (ev_bind (a := true) ?_ (pruned_j1 l (by omega)))))))
    by_cases he : d.length = (slotsM r c s).length
    · refine ev_pos he ?_
      unfold laws_FnPruned.blk
      have e2 := impl_Prune_ev r c s (pruneM r c s d) (by omega) (by omega) hP
      rw [prune_twice hD] at e2
      exact ev_bind (pruned_one hs hD he _ 0 (List.drop_zero ..)) (ev_bind e2 (ev_bind (pruned_two hP _ 0 (List.drop_zero ..)) (ev_now rfl)))
    · exact ev_neg he (ev_now rfl)

end Go.Proofs.Ytodcckiphdnjeaa.Pure
