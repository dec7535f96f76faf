/-
  The law FnExactIsFill over numbers and lists: the program's IsFill and the reference's answer alike for every grid and fill.
  Conditions: none.
-/
import Derived.Test.YtdofkaemeongpaaQFnExactIsFillx
namespace Go.Proofs.Ytdofkaemeongpaa.Pure
open Go.RowKit Go.Proofs.Ytdofkaemeongpaa.QFnExactIsFill Go.Proofs.YtdofkaemeongpaaW.PrintWords Go.Proofs.YtdofkaemeongpaaW.PrintLast Go.Proofs.YtdofkaemeongpaaW.PrintMore

/-! ### base -/
theorem wrap64_id {n : Int} (h : -9223372036854775808 ≤ n) (h' : n ≤ 9223372036854775807) : wrap64 n = n := by
  unfold wrap64
  omega
section
variable {α β : Type}
theorem ev_succ {g : Nat → Option α} {r : α} (h : Ev (fun k => g (k + 1)) r) : Ev g r := Ev.step (fun _ => rfl) h
theorem ev_pos {c : Prop} [Decidable c] {g f : Nat → Option α} {r : α} (h : c) (k : Ev g r) : Ev (fun n => if c then g n else f n) r := by
  simpa only [if_pos h] using k
theorem ev_neg {c : Prop} [Decidable c] {g f : Nat → Option α} {r : α} (h : ¬ c) (k : Ev f r) : Ev (fun n => if c then g n else f n) r := by
  simpa only [if_neg h] using k
theorem ev_now {a r : α} (h : a = r) : Ev (fun _ => some a) r := h ▸ Ev.now a
theorem ev_let {o : Option β} {a : β} {f : Nat → β → Option α} {r : α} (h : o = some a) (k : Ev (fun n => f n a) r) : Ev (fun n => o.bind (f n)) r := by
  subst h
  exact k
theorem ev_bind {g : Nat → Option β} {f : Nat → β → Option α} {a : β} {r : α} (h : Ev g a) (k : Ev (fun n => f n a) r) : Ev (fun n => (g n).bind (f n)) r := Ev.bind h k
theorem ev_eq {g : Nat → Option α} {a r : α} (h : Ev g a) (e : a = r) : Ev g r := e ▸ h
end
/-- From the end of a loop back to a round: P holds from n on, and a round below n may use the next. -/
theorem down {P : Nat → Prop} (n : Nat) (hend : ∀ i, n ≤ i → P i) (hstep : ∀ i, i < n → P (i + 1) → P i) : ∀ i, P i := by
  intro i
  rcases Nat.lt_or_ge i n with h | h
  · obtain ⟨d, hd⟩ : ∃ d, n = i + d := ⟨n - i, by omega⟩
    induction d generalizing i with
    | zero => omega
    | succ d ih =>
      refine hstep i h ?_
      rcases Nat.lt_or_ge (i + 1) n with h1 | h1
      · exact ih (i + 1) h1 (by omega)
      · exact hend _ h1
  · exact hend i h
theorem range_cons {i n : Nat} (h : i < n) : List.range' i (n - i) = i :: List.range' (i + 1) (n - (i + 1)) := by
  obtain ⟨d, hd⟩ : ∃ d, n - i = d + 1 := ⟨n - i - 1, by omega⟩
  rw [hd, List.range'_succ, show n - (i + 1) = d by omega]
theorem range_nil {i n : Nat} (h : n ≤ i) : List.range' i (n - i) = [] := by
  rw [show n - i = 0 by omega]
  rfl
theorem succ_cast (i : Nat) : ((i : Int) + 1) = ((i + 1 : Nat) : Int) := by omega

/-! ### word -/
/-- A byte is a small letter. -/
def isL (c : Int) : Bool := decide (97 ≤ c ∧ c ≤ 122)
/-- A word: one to eight small letters. -/
def wordM (s : ByteArray) : Bool := decide (1 ≤ s.size ∧ s.size ≤ 8) && (List.range' 0 (s.size - 0)).all fun j => isL (bt s j)
theorem spec_l1In_eq (a b c : Int) : spec_l1In.f a b c = some (decide (b ≤ a ∧ a ≤ c)) := by
  unfold spec_l1In.f
  by_cases h : b ≤ a
  · rw [if_pos h]; simp [h]
  · rw [if_neg h]; simp [h]
theorem impl_InRange_eq (a b c : Int) : impl_InRange.f a b c = some (decide (b ≤ a ∧ a ≤ c)) := by
  unfold impl_InRange.f
  by_cases h : b ≤ a
  · rw [if_pos h]; simp [h]
  · rw [if_neg h]; simp [h]
theorem impl_isLetter_eq (c : Int) : impl_isLetter.f c = some (isL c) := by
  unfold impl_isLetter.f isL
  by_cases h : c ≥ 97
  · rw [if_pos h]; congr 1; simp; omega
  · rw [if_neg h]; congr 1; simp; omega
theorem wordM_size {s : ByteArray} (h : wordM s = true) : 1 ≤ s.size ∧ s.size ≤ 8 := by
  simp only [wordM, Bool.and_eq_true, decide_eq_true_eq] at h
  exact h.1

/-! ### grid -/
/-- A cell's sign. -/
def isC (c : Int) : Bool := decide (c = 35) || decide (c = 46)
/-- A grid: 2 to 6 rows and columns, its cells black or white. -/
def gridM (r c : Int) (s : ByteArray) : Bool := decide (2 ≤ r ∧ r ≤ 6) && decide (2 ≤ c ∧ c ≤ 6) && decide ((s.size : Int) = r * c) && (List.range' 0 (s.size - 0)).all fun j => isC (bt s j)
theorem spec_IsGrid_l0_ev (r c : Int) (s : ByteArray) (hs : s.size ≤ 140737488351232) : ∀ i : Nat, i ≤ s.size → Ev (fun k => spec_IsGrid.l0 k i r c s) ((List.range' i (s.size - i)).all fun j => isC (bt s j)) := by
  refine down s.size ?_ ?_
  · intro i h hi
    apply ev_succ
    simp only [spec_IsGrid.l0]
    refine ev_neg (by omega) (ev_now ?_)
    rw [range_nil h]; rfl
  · intro i h ih hi
    apply ev_succ
    simp only [spec_IsGrid.l0]
    rw [range_cons h, List.all_cons, wrap64_id (by omega) (by omega), succ_cast]
    refine ev_pos (by omega) (ev_pos (by omega) ?_)
    by_cases h1 : bt s i = 35
    · exact ev_pos h1 (ev_eq (ih (by omega)) (by simp [isC, h1]))
    · refine ev_neg h1 ?_
      by_cases h2 : bt s i = 46
      · exact ev_pos h2 (ev_eq (ih (by omega)) (by simp [isC, h2]))
      · exact ev_neg h2 (ev_now (by simp [isC, h1, h2]))
theorem impl_IsGrid_l0_ev (r c : Int) (s : ByteArray) (hs : s.size ≤ 140737488351232) : ∀ i : Nat, i ≤ s.size → Ev (fun k => impl_IsGrid.l0 k s.size i r c s) ((List.range' i (s.size - i)).all fun j => isC (bt s j)) := by
  refine down s.size ?_ ?_
  · intro i h hi
    apply ev_succ
    simp only [impl_IsGrid.l0]
    refine ev_neg (by omega) (ev_now ?_)
    rw [range_nil h]; rfl
  · intro i h ih hi
    apply ev_succ
    simp only [impl_IsGrid.l0]
    rw [range_cons h, List.all_cons, wrap64_id (by omega) (by omega), succ_cast]
    refine ev_pos (by omega) (ev_pos (by omega) (ev_pos (by omega) ?_))
    by_cases h1 : bt s i = 35
    · exact ev_pos h1 (ev_eq (ih (by omega)) (by simp [isC, h1]))
    · refine ev_neg h1 ?_
      by_cases h2 : bt s i = 46
      · exact ev_pos h2 (ev_eq (ih (by omega)) (by simp [isC, h2]))
      · exact ev_neg h2 (ev_now (by simp [isC, h1, h2]))
theorem wrap_mul {r c : Int} (hr : 2 ≤ r ∧ r ≤ 6) (hc : 2 ≤ c ∧ c ≤ 6) : wrap64 (r * c) = r * c := by
  have h1 : 0 ≤ r * c := Int.mul_nonneg (by omega) (by omega)
  have h2 : r * c ≤ 6 * 6 := Int.mul_le_mul hr.2 hc.2 (by omega) (by omega)
  exact wrap64_id (by omega) (by omega)
theorem spec_IsGrid_ev (r c : Int) (s : ByteArray) (hs : s.size ≤ 140737488351232) : Ev (fun k => spec_IsGrid.f k r c s) (gridM r c s) := by
  unfold spec_IsGrid.f
  refine ev_let (spec_l1In_eq _ _ _) ?_
  by_cases hr : 2 ≤ r ∧ r ≤ 6
  · refine ev_pos (by simpa using hr) (ev_let (spec_l1In_eq _ _ _) ?_)
    by_cases hc : 2 ≤ c ∧ c ≤ 6
    · refine ev_pos (by simpa using hc) ?_
      rw [wrap_mul hr hc]
      apply ev_succ
      simp only [spec_IsGrid.j0]
      by_cases hn : (s.size : Int) = r * c
      · refine ev_neg (by simp [hn]) (ev_eq (spec_IsGrid_l0_ev r c s hs 0 (by omega)) ?_)
        simp [gridM, hr, hc, hn]
      · exact ev_pos (by simp [hn]) (ev_now (by simp [gridM, hn]))
    · refine ev_neg (by simpa using hc) (ev_succ ?_)
      simp only [spec_IsGrid.j0]
      exact ev_pos (by simp) (ev_now (by simp [gridM, hc]))
  · refine ev_neg (by simpa using hr) (ev_succ ?_)
    simp only [spec_IsGrid.j0]
    exact ev_pos (by simp) (ev_now (by simp [gridM, hr]))
theorem impl_IsGrid_ev (r c : Int) (s : ByteArray) (hs : s.size ≤ 140737488351232) : Ev (fun k => impl_IsGrid.f k r c s) (gridM r c s) := by
  unfold impl_IsGrid.f
  refine ev_let (impl_InRange_eq _ _ _) ?_
  by_cases hr : 2 ≤ r ∧ r ≤ 6
  · refine ev_pos (by simpa using hr) (ev_let (impl_InRange_eq _ _ _) ?_)
    by_cases hc : 2 ≤ c ∧ c ≤ 6
    · refine ev_pos (by simpa using hc) ?_
      rw [wrap_mul hr hc]
      apply ev_succ
      simp only [impl_IsGrid.j0]
      by_cases hn : (s.size : Int) = r * c
      · refine ev_neg (by simp [hn]) (ev_eq (impl_IsGrid_l0_ev r c s hs 0 (by omega)) ?_)
        simp [gridM, hr, hc, hn]
      · exact ev_pos (by simp [hn]) (ev_now (by simp [gridM, hn]))
    · refine ev_neg (by simpa using hc) (ev_succ ?_)
      simp only [impl_IsGrid.j0]
      exact ev_pos (by simp) (ev_now (by simp [gridM, hc]))
  · refine ev_neg (by simpa using hr) (ev_succ ?_)
    simp only [impl_IsGrid.j0]
    exact ev_pos (by simp) (ev_now (by simp [gridM, hr]))

/-! ### fill -/
/-- May this sign stand in a fill over this cell of a grid? -/
def fillC (g f : Int) : Bool := (decide (g = 35) == decide (f = 35)) && (decide (f = 35) || decide (f = 63) || isL f)
def fillM (r c : Int) (s f : ByteArray) : Bool := gridM r c s && (decide (f.size = s.size) && (List.range' 0 (f.size - 0)).all fun j => fillC (bt s j) (bt f j))
theorem gridM_cell {r c : Int} {s : ByteArray} (h : gridM r c s = true) (i : Nat) (hi : i < s.size) : bt s i = 35 ∨ bt s i = 46 := by
  simp only [gridM, Bool.and_eq_true, List.all_eq_true] at h
  have := h.2 i (by rw [List.mem_range']; exact ⟨i, by omega, by omega⟩)
  simpa [isC] using this
theorem spec_IsFill_l0_ev (r c : Int) (s f : ByteArray) (hg : gridM r c s = true) (hf : f.size ≤ 140737488351232) (he : f.size = s.size) : ∀ i : Nat, i ≤ f.size → Ev (fun k => spec_IsFill.l0 k f i r c s) ((List.range' i (f.size - i)).all fun j => fillC (bt s j) (bt f j)) := by
  refine down f.size ?_ ?_
  · intro i h hi
    apply ev_succ
    simp only [spec_IsFill.l0]
    refine ev_neg (by omega) (ev_now ?_)
    rw [range_nil h]; rfl
  · intro i h ih hi
    have hc := gridM_cell hg i (by omega)
    apply ev_succ
    simp only [spec_IsFill.l0]
    rw [range_cons h, List.all_cons, wrap64_id (by omega) (by omega), succ_cast]
    refine ev_pos (by omega) (ev_pos (by omega) ?_)
    have ih' := ih (by omega)
    by_cases h1 : bt f i = 63
    · refine ev_pos h1 (ev_pos (by omega) ?_)
      rcases hc with hc | hc
      · exact ev_pos hc (ev_neg (by omega) (ev_now (by simp [fillC, hc, h1])))
      · exact ev_neg (by omega) (ev_pos hc (ev_eq ih' (by simp [fillC, hc, h1])))
    · refine ev_neg h1 ?_
      by_cases h2 : bt f i ≥ 97
      · refine ev_pos h2 (ev_pos (by omega) ?_)
        rcases hc with hc | hc
        · exact ev_pos hc (ev_neg (by omega) (ev_now (by simp [fillC, hc, show ¬ bt f i = 35 by omega])))
        · refine ev_neg (by omega) (ev_pos hc ?_)
          by_cases h3 : bt f i ≤ 122
          · exact ev_pos h3 (ev_eq ih' (by simp [fillC, isL, hc, show ¬ bt f i = 35 by omega, h1, h2, h3]))
          · exact ev_neg h3 (ev_now (by simp [fillC, isL, hc, show ¬ bt f i = 35 by omega, h1, h2, h3]))
      · refine ev_neg h2 (ev_pos (by omega) ?_)
        rcases hc with hc | hc
        · refine ev_pos hc ?_
          by_cases h3 : bt f i = 35
          · exact ev_pos h3 (ev_neg (by omega) (ev_eq ih' (by simp [fillC, hc, h3])))
          · exact ev_neg h3 (ev_now (by simp [fillC, hc, h3]))
        · refine ev_neg (by omega) (ev_pos hc (ev_now ?_))
          have : fillC (bt s i) (bt f i) = false := by
            unfold fillC isL
            rw [hc]
            by_cases h3 : bt f i = 35
            · simp [h3]
            · simp [h3, h1]; omega
          simp [this]
theorem impl_IsFill_l0_ev (r c : Int) (s f : ByteArray) (hg : gridM r c s = true) (hf : f.size ≤ 140737488351232) (he : f.size = s.size) : ∀ i : Nat, i ≤ f.size → Ev (fun k => impl_IsFill.l0 k f f.size i r c s) ((List.range' i (f.size - i)).all fun j => fillC (bt s j) (bt f j)) := by
  refine down f.size ?_ ?_
  · intro i h hi
    apply ev_succ
    simp only [impl_IsFill.l0]
    refine ev_neg (by omega) (ev_now ?_)
    rw [range_nil h]; rfl
  · intro i h ih hi
    have hc := gridM_cell hg i (by omega)
    apply ev_succ
    simp only [impl_IsFill.l0]
    rw [range_cons h, List.all_cons, wrap64_id (by omega) (by omega), succ_cast]
    refine ev_pos (by omega) (ev_pos (by omega) (ev_pos (by omega) (ev_pos (by omega) ?_)))
    have ih' := ih (by omega)
    rcases hc with hc | hc
    · refine ev_pos hc ?_
      by_cases h1 : bt f i = 35
      · exact ev_pos h1 (ev_eq ih' (by simp [fillC, hc, h1]))
      · exact ev_neg h1 (ev_now (by simp [fillC, hc, h1]))
    · refine ev_neg (by omega) ?_
      by_cases h1 : bt f i = 35
      · exact ev_pos h1 (ev_now (by simp [fillC, hc, h1]))
      · refine ev_neg h1 ?_
        by_cases h2 : bt f i = 63
        · exact ev_pos h2 (ev_eq ih' (by simp [fillC, hc, h2]))
        · refine ev_neg h2 (ev_let (impl_isLetter_eq _) ?_)
          cases hl : isL (bt f i)
          · exact ev_neg (by simp) (ev_now (by simp [fillC, hc, h1, h2, hl]))
          · exact ev_pos rfl (ev_eq ih' (by simp [fillC, hc, h1, h2, hl]))
theorem spec_IsFill_ev (r c : Int) (s f : ByteArray) (hs : s.size ≤ 140737488351232) (hf : f.size ≤ 140737488351232) : Ev (fun k => spec_IsFill.f k r c s f) (fillM r c s f) := by
  unfold spec_IsFill.f fillM
  refine ev_bind (spec_IsGrid_ev r c s hs) ?_
  cases hg : gridM r c s
  · refine ev_neg (by simp) (ev_succ ?_)
    simp only [spec_IsFill.j0]
    exact ev_pos (by simp) (ev_now rfl)
  · refine ev_pos rfl (ev_succ ?_)
    simp only [spec_IsFill.j0]
    by_cases he : f.size = s.size
    · exact ev_neg (by simp [he]) (ev_eq (spec_IsFill_l0_ev r c s f hg hf he 0 (by omega)) (by simp [he]))
    · exact ev_pos (by simp; omega) (ev_now (by simp [he]))
theorem impl_IsFill_ev (r c : Int) (s f : ByteArray) (hs : s.size ≤ 140737488351232) (hf : f.size ≤ 140737488351232) : Ev (fun k => impl_IsFill.f k r c s f) (fillM r c s f) := by
  unfold impl_IsFill.f fillM
  refine ev_bind (impl_IsGrid_ev r c s hs) ?_
  cases hg : gridM r c s
  · refine ev_neg (by simp) (ev_succ ?_)
    simp only [impl_IsFill.j0]
    exact ev_pos (by simp) (ev_now rfl)
  · refine ev_pos rfl (ev_succ ?_)
    simp only [impl_IsFill.j0]
    by_cases he : f.size = s.size
    · exact ev_neg (by simp [he]) (ev_eq (impl_IsFill_l0_ev r c s f hg hf he 0 (by omega)) (by simp [he]))
    · exact ev_pos (by simp; omega) (ev_now (by simp [he]))

/-! ### sz -/
def szM (s : ByteArray) : Int := if s.size ≤ 1048576 then 1048576 - s.size else -1
theorem laws_szGrid_eq (r c : Int) (s : ByteArray) (hs : s.size ≤ 9223372036854775807) : laws_szGrid.f r c s 1048576 = some (szM s) := by
  unfold laws_szGrid.f szM
  rw [wrap64_id (by omega) (by omega)]
  by_cases h : s.size ≤ 1048576
  · rw [if_neg (by omega), if_pos h]
  · rw [if_pos (by omega), if_neg h]

/-! ### the law -/
theorem FnExactIsFill (r c : Int) (s f : ByteArray) (_ : -9223372036854775808 ≤ r ∧ r ≤ 9223372036854775807) (_ : -9223372036854775808 ≤ c ∧ c ≤ 9223372036854775807) (hs : s.size ≤ 9223372036854775807) (hf : f.size ≤ 140737488351232) : ∃ k, laws_FnExactIsFill.f k r c s f = some true := by
  apply Ev.rounds
  unfold laws_FnExactIsFill.f
  by_cases hb : (f.size : Int) > 1048576
  · exact ev_pos hb (ev_now rfl)
  · refine ev_neg hb (ev_let (laws_szGrid_eq r c s hs) ?_)
    by_cases hc : s.size ≤ 1048576
    · refine ev_neg (by simp [szM, hc]; omega) (ev_let rfl (ev_bind (spec_IsFill_ev r c s f (by omega) hf) (ev_let rfl (ev_bind (impl_IsFill_ev r c s f (by omega) hf) (ev_neg (by simp) (ev_now rfl))))))
    · exact ev_pos (by simp [szM, hc]) (ev_now rfl)

end Go.Proofs.Ytdofkaemeongpaa.Pure
