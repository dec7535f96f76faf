/-
  The law FnSlots over numbers and lists: for every code, the drawn grid's slots have white cells alone, one step apart, are found by their names, are in order, hold each cell at most twice; and the turned grid has as many.
  Conditions: none.
-/
import Derived.Test.YtodcckiphdnjeacDoorQFnSlotsx
import Derived.Lib.Join
import Derived.Lib.SplitLaws
namespace Go.Proofs.YtodcckiphdnjeacDoor.Pure
open Go.RowKit Go.Proofs.YtodcckiphdnjeacDoor.QFnSlots Go.Proofs.YtodcckiphdnjeacDoorW.PrintWords Go.Proofs.YtodcckiphdnjeacDoorW.PrintLast Go.Proofs.YtodcckiphdnjeacDoorW.PrintMore
set_option linter.unusedVariables false
set_option linter.unusedSimpArgs false

/-! ### base -/
theorem wrap64_id {n : Int} (h : -9223372036854775808 ≤ n) (h' : n ≤ 9223372036854775807) : wrap64 n = n := by
  unfold wrap64
  omega
section
variable {α β : Type}
theorem ev_succ {g : Nat → Option α} {r : α} (h : Ev (fun k => g (k + 1)) r) : Ev g r := Ev.step (fun _ => rfl) h
theorem ev_pos {c : Prop} [Decidable c] {g f : Nat → Option α} {r : α} (h : c) (k : Ev g r) : Ev (fun n => if c then g n else f n) r := by
  simpa only [if_pos h] using k
theorem ev_neg {c : Prop} [Decidable c] {g f : Nat → Option α} {r : α} (h : ¬ c) (k : Ev f r) : Ev (fun n => if c then g n else f n) r := by
  simpa only [if_neg h] using k
theorem ev_now {a r : α} (h : a = r) : Ev (fun _ => some a) r := h ▸ Ev.now a
theorem ev_let {o : Option β} {a : β} {f : Nat → β → Option α} {r : α} (h : o = some a) (k : Ev (fun n => f n a) r) : Ev (fun n => o.bind (f n)) r := by
  subst h
  exact k
theorem ev_bind {g : Nat → Option β} {f : Nat → β → Option α} {a : β} {r : α} (h : Ev g a) (k : Ev (fun n => f n a) r) : Ev (fun n => (g n).bind (f n)) r := Ev.bind h k
theorem ev_eq {g : Nat → Option α} {a r : α} (h : Ev g a) (e : a = r) : Ev g r := e ▸ h
end
/-- From the end of a loop back to a round: P holds from n on, and a round below n may use the next. -/
theorem down {P : Nat → Prop} (n : Nat) (hend : ∀ i, n ≤ i → P i) (hstep : ∀ i, i < n → P (i + 1) → P i) : ∀ i, P i := by
  intro i
  rcases Nat.lt_or_ge i n with h | h
  · obtain ⟨d, hd⟩ : ∃ d, n = i + d := ⟨n - i, by omega⟩
    induction d generalizing i with
    | zero => omega
    | succ d ih =>
      refine hstep i h ?_
      rcases Nat.lt_or_ge (i + 1) n with h1 | h1
      · exact ih (i + 1) h1 (by omega)
      · exact hend _ h1
  · exact hend i h
theorem range_cons {i n : Nat} (h : i < n) : List.range' i (n - i) = i :: List.range' (i + 1) (n - (i + 1)) := by
  obtain ⟨d, hd⟩ : ∃ d, n - i = d + 1 := ⟨n - i - 1, by omega⟩
  rw [hd, List.range'_succ, show n - (i + 1) = d by omega]
theorem range_nil {i n : Nat} (h : n ≤ i) : List.range' i (n - i) = [] := by
  rw [show n - i = 0 by omega]
  rfl
theorem succ_cast (i : Nat) : ((i : Int) + 1) = ((i + 1 : Nat) : Int) := by omega

/-! ### lists -/
theorem rdOf_get {α : Type} {d : α} {l : List α} {i : Nat} (h : i < l.length) : rdOf d l (i : Int) = l[i] := by
  unfold rdOf
  simp [h]
theorem rd_get {l : List Int} {i : Nat} (h : i < l.length) : rd l (i : Int) = l[i] := by
  unfold rd
  simp [h]
theorem toList_eq (s : ByteArray) : s.toList = s.data.toList := Go.ByteArray.toList_eq s
instance lawfulBA : LawfulBEq ByteArray where
  eq_of_beq {a b} h := ByteArray.ext (eq_of_beq (α := Array UInt8) h)
  rfl {a} := by
    show (a.data == a.data) = true
    simp
theorem toList_inj {a b : ByteArray} : a.toList = b.toList ↔ a = b := by
  constructor
  · intro h
    rw [toList_eq, toList_eq] at h
    cases a
    cases b
    simp only [ByteArray.mk.injEq]
    exact Array.toList_inj.1 h
  · intro h
    rw [h]
theorem set_known {α : Type} {l x : List α} {i : Nat} {a : α} (hi : i < l.length) (hx : x.length = l.length) (ha : a = l[i]) (h : ∀ j, j < i → x[j]? = l[j]?) : ∀ j, j < i + 1 → (x.set i a)[j]? = l[j]? := by
  intro j hj
  by_cases e : j = i
  · subst e
    rw [List.getElem?_set_self (by omega), ha, List.getElem?_eq_getElem hi]
  · rw [List.getElem?_set_ne (Ne.symm e)]
    exact h j (by omega)
theorem all_known {α : Type} {l x : List α} (hx : x.length = l.length) (h : ∀ j, j < l.length → x[j]? = l[j]?) : x = l := by
  apply List.ext_getElem?
  intro j
  by_cases hj : j < l.length
  · exact h j hj
  · rw [List.getElem?_eq_none (by omega), List.getElem?_eq_none (by omega)]

/-! ### word -/
/-- A byte is a small letter. -/
def isL (c : Int) : Bool := decide (97 ≤ c ∧ c ≤ 122)
/-- A word: one to eight small letters. -/
def wordM (s : ByteArray) : Bool := decide (1 ≤ s.size ∧ s.size ≤ 8) && (List.range' 0 (s.size - 0)).all fun j => isL (bt s j)
theorem spec_l1In_eq (a b c : Int) : spec_l1In.f a b c = some (decide (b ≤ a ∧ a ≤ c)) := by
  unfold spec_l1In.f
  by_cases h : b ≤ a
  · rw [if_pos h]; simp [h]
  · rw [if_neg h]; simp [h]
theorem impl_InRange_eq (a b c : Int) : impl_InRange.f a b c = some (decide (b ≤ a ∧ a ≤ c)) := by
  unfold impl_InRange.f
  by_cases h : b ≤ a
  · rw [if_pos h]; simp [h]
  · rw [if_neg h]; simp [h]
theorem wordM_size {s : ByteArray} (h : wordM s = true) : 1 ≤ s.size ∧ s.size ≤ 8 := by
  simp only [wordM, Bool.and_eq_true, decide_eq_true_eq] at h
  exact h.1

/-! ### grid -/
/-- A cell's sign. -/
def isC (c : Int) : Bool := decide (c = 35) || decide (c = 46)
/-- A grid: 2 to 6 rows and columns, its cells black or white. -/
def gridM (r c : Int) (s : ByteArray) : Bool := decide (2 ≤ r ∧ r ≤ 6) && decide (2 ≤ c ∧ c ≤ 6) && decide ((s.size : Int) = r * c) && (List.range' 0 (s.size - 0)).all fun j => isC (bt s j)
theorem gridM_nat {r c : Int} {s : ByteArray} (h : gridM r c s = true) : ∃ R C : Nat, r = R ∧ c = C ∧ 2 ≤ R ∧ R ≤ 6 ∧ 2 ≤ C ∧ C ≤ 6 ∧ s.size = R * C := by
  simp only [gridM, Bool.and_eq_true, decide_eq_true_eq] at h
  obtain ⟨⟨⟨hr, hc⟩, hs⟩, _⟩ := h
  obtain ⟨R, rfl⟩ := Int.eq_ofNat_of_zero_le (show 0 ≤ r by omega)
  obtain ⟨C, rfl⟩ := Int.eq_ofNat_of_zero_le (show 0 ≤ c by omega)
  exact ⟨R, C, rfl, rfl, by omega, by omega, by omega, by omega, by exact_mod_cast hs⟩
theorem bounds36 {R C : Nat} (hR : R ≤ 6) (hC : C ≤ 6) : R * C ≤ 36 := Nat.mul_le_mul hR hC
theorem spec_IsGrid_l0_ev (r c : Int) (s : ByteArray) (hs : s.size ≤ 140737488351232) : ∀ i : Nat, i ≤ s.size → Ev (fun k => spec_IsGrid.l0 k i r c s) ((List.range' i (s.size - i)).all fun j => isC (bt s j)) := by
  refine down s.size ?_ ?_
  · intro i h hi
    apply ev_succ
    simp only [spec_IsGrid.l0]
    refine ev_neg (by omega) (ev_now ?_)
    rw [range_nil h]; rfl
  · intro i h ih hi
    apply ev_succ
    simp only [spec_IsGrid.l0]
    rw [range_cons h, List.all_cons, wrap64_id (by omega) (by omega), succ_cast]
    refine ev_pos (by omega) (ev_pos (by omega) ?_)
    by_cases h1 : bt s i = 35
    · exact ev_pos h1 (ev_eq (ih (by omega)) (by simp [isC, h1]))
    · refine ev_neg h1 ?_
      by_cases h2 : bt s i = 46
      · exact ev_pos h2 (ev_eq (ih (by omega)) (by simp [isC, h2]))
      · exact ev_neg h2 (ev_now (by simp [isC, h1, h2]))
theorem impl_IsGrid_l0_ev (r c : Int) (s : ByteArray) (hs : s.size ≤ 140737488351232) : ∀ i : Nat, i ≤ s.size → Ev (fun k => impl_IsGrid.l0 k s.size i r c s) ((List.range' i (s.size - i)).all fun j => isC (bt s j)) := by
  refine down s.size ?_ ?_
  · intro i h hi
    apply ev_succ
    simp only [impl_IsGrid.l0]
    refine ev_neg (by omega) (ev_now ?_)
    rw [range_nil h]; rfl
  · intro i h ih hi
    apply ev_succ
    simp only [impl_IsGrid.l0]
    rw [range_cons h, List.all_cons, wrap64_id (by omega) (by omega), succ_cast]
    refine ev_pos (by omega) (ev_pos (by omega) (ev_pos (by omega) ?_))
    by_cases h1 : bt s i = 35
    · exact ev_pos h1 (ev_eq (ih (by omega)) (by simp [isC, h1]))
    · refine ev_neg h1 ?_
      by_cases h2 : bt s i = 46
      · exact ev_pos h2 (ev_eq (ih (by omega)) (by simp [isC, h2]))
      · exact ev_neg h2 (ev_now (by simp [isC, h1, h2]))
theorem wrap_mul {r c : Int} (hr : 2 ≤ r ∧ r ≤ 6) (hc : 2 ≤ c ∧ c ≤ 6) : wrap64 (r * c) = r * c := by
  have h1 : 0 ≤ r * c := Int.mul_nonneg (by omega) (by omega)
  have h2 : r * c ≤ 6 * 6 := Int.mul_le_mul hr.2 hc.2 (by omega) (by omega)
  exact wrap64_id (by omega) (by omega)
theorem spec_IsGrid_ev (r c : Int) (s : ByteArray) (hs : s.size ≤ 140737488351232) : Ev (fun k => spec_IsGrid.f k r c s) (gridM r c s) := by
  unfold spec_IsGrid.f
  refine ev_let (spec_l1In_eq _ _ _) ?_
  by_cases hr : 2 ≤ r ∧ r ≤ 6
  · refine ev_pos (by simpa using hr) (ev_let (spec_l1In_eq _ _ _) ?_)
    by_cases hc : 2 ≤ c ∧ c ≤ 6
    · refine ev_pos (by simpa using hc) ?_
      rw [wrap_mul hr hc]
      apply ev_succ
      simp only [spec_IsGrid.j0]
      by_cases hn : (s.size : Int) = r * c
      · refine ev_neg (by simp [hn]) (ev_eq (spec_IsGrid_l0_ev r c s hs 0 (by omega)) ?_)
        simp [gridM, hr, hc, hn]
      · exact ev_pos (by simp [hn]) (ev_now (by simp [gridM, hn]))
    · refine ev_neg (by simpa using hc) (ev_succ ?_)
      simp only [spec_IsGrid.j0]
      exact ev_pos (by simp) (ev_now (by simp [gridM, hc]))
  · refine ev_neg (by simpa using hr) (ev_succ ?_)
    simp only [spec_IsGrid.j0]
    exact ev_pos (by simp) (ev_now (by simp [gridM, hr]))
theorem impl_IsGrid_ev (r c : Int) (s : ByteArray) (hs : s.size ≤ 140737488351232) : Ev (fun k => impl_IsGrid.f k r c s) (gridM r c s) := by
  unfold impl_IsGrid.f
  refine ev_let (impl_InRange_eq _ _ _) ?_
  by_cases hr : 2 ≤ r ∧ r ≤ 6
  · refine ev_pos (by simpa using hr) (ev_let (impl_InRange_eq _ _ _) ?_)
    by_cases hc : 2 ≤ c ∧ c ≤ 6
    · refine ev_pos (by simpa using hc) ?_
      rw [wrap_mul hr hc]
      apply ev_succ
      simp only [impl_IsGrid.j0]
      by_cases hn : (s.size : Int) = r * c
      · refine ev_neg (by simp [hn]) (ev_eq (impl_IsGrid_l0_ev r c s hs 0 (by omega)) ?_)
        simp [gridM, hr, hc, hn]
      · exact ev_pos (by simp [hn]) (ev_now (by simp [gridM, hn]))
    · refine ev_neg (by simpa using hc) (ev_succ ?_)
      simp only [impl_IsGrid.j0]
      exact ev_pos (by simp) (ev_now (by simp [gridM, hc]))
  · refine ev_neg (by simpa using hr) (ev_succ ?_)
    simp only [impl_IsGrid.j0]
    exact ev_pos (by simp) (ev_now (by simp [gridM, hr]))

/-! ### slots -/
/-- How many cells follow one another from a cell on, white ones, at most m. -/
def runLen (s : ByteArray) (step : Nat) : Nat → Nat → Nat
  | _, 0 => 0
  | i, m + 1 => if bt s i = 46 then 1 + runLen s step (i + step) m else 0
def stepM (C : Nat) (dn : Bool) : Nat := if dn then C else 1
def atM (C : Nat) (dn : Bool) (i : Nat) : Nat := if dn then i / C else i % C
def mostM (R C : Nat) (dn : Bool) : Nat := if dn then R else C
/-- The length of the part of white cells that begins at a cell; 0 if none begins there. -/
def runM (R C : Nat) (s : ByteArray) (i : Nat) (dn : Bool) : Nat :=
  if bt s i = 46 ∧ ¬ (0 < atM C dn i ∧ bt s (i - stepM C dn : Nat) = 46) then runLen s (stepM C dn) i (mostM R C dn - atM C dn i) else 0
theorem runLen_le (s : ByteArray) (step : Nat) : ∀ m i, runLen s step i m ≤ m
  | 0, _ => Nat.le_refl _
  | m + 1, i => by
    unfold runLen
    split
    · have := runLen_le s step m (i + step)
      omega
    · omega
theorem cell_lt {R C : Nat} {i j : Nat} {dn : Bool} (hC : 0 < C) (hi : i < R * C) (hj : atM C dn i + j < mostM R C dn) : i + j * stepM C dn < R * C := by
  cases dn with
  | true =>
    simp only [atM, mostM, stepM, if_true] at hj ⊢
    have h1 := Nat.div_add_mod i C
    have h2 := Nat.mod_lt i hC
    have h3 : C * (i / C + j + 1) ≤ C * R := Nat.mul_le_mul_left _ (by omega)
    rw [Nat.mul_comm R C]
    rw [Nat.mul_add, Nat.mul_add, Nat.mul_one] at h3
    rw [Nat.mul_comm j C]
    omega
  | false =>
    simp only [atM, mostM, stepM, Bool.false_eq_true, if_false] at hj ⊢
    have h1 := Nat.div_add_mod i C
    have h4 : i / C < R := (Nat.div_lt_iff_lt_mul hC).2 hi
    have h3 : C * (i / C + 1) ≤ C * R := Nat.mul_le_mul_left _ h4
    rw [Nat.mul_comm R C]
    rw [Nat.mul_add, Nat.mul_one] at h3
    omega
theorem mul_bound {j C : Nat} (hj : j ≤ 6) (hC : C ≤ 6) : j * C ≤ 36 := Nat.mul_le_mul hj hC
theorem stepM_le {C : Nat} (hC : C ≤ 6) (h0 : 0 < C) (dn : Bool) : 1 ≤ stepM C dn ∧ stepM C dn ≤ 6 := by
  unfold stepM
  split <;> omega
theorem mostM_le {R C : Nat} (hR : R ≤ 6) (hC : C ≤ 6) (dn : Bool) : mostM R C dn ≤ 6 := by
  unfold mostM
  split <;> omega

theorem impl_run_l0_ev (R C : Nat) (s : ByteArray) (r c : Int) (hR : R ≤ 6) (hC : C ≤ 6) (h0 : 0 < C) (hs : s.size = R * C) (i : Nat) (dn : Bool) (hi : i < R * C) : ∀ n : Nat, atM C dn i + n ≤ mostM R C dn →
    Ev (fun k => impl_run.l0 k i (stepM C dn) (atM C dn i) (mostM R C dn) n r c s) (n + runLen s (stepM C dn) (i + n * stepM C dn) (mostM R C dn - atM C dn i - n) : Nat) := by
  have hm := mostM_le hR hC dn
  have hst := stepM_le hC h0 dn
  have h36 := bounds36 hR hC
  refine down (mostM R C dn - atM C dn i) ?_ ?_
  · intro n h hn
    apply ev_succ
    simp only [impl_run.l0]
    rw [wrap64_id (n := (atM C dn i : Int) + n) (by omega) (by omega)]
    refine ev_neg (by omega) (ev_now ?_)
    rw [show mostM R C dn - atM C dn i - n = 0 by omega]
    rfl
  · intro n h ih hn
    have hlt := cell_lt h0 hi (show atM C dn i + n < mostM R C dn by omega)
    have hb := mul_bound (show n ≤ 6 by omega) (show stepM C dn ≤ 6 by omega)
    have hcast : ((n : Int) * (stepM C dn : Int)) = ((n * stepM C dn : Nat) : Int) := by rw [Int.natCast_mul]
    apply ev_succ
    simp only [impl_run.l0]
    rw [wrap64_id (n := (atM C dn i : Int) + n) (by omega) (by omega), hcast, wrap64_id (n := ((n * stepM C dn : Nat) : Int)) (by omega) (by omega), wrap64_id (n := (i : Int) + _) (by omega) (by omega), wrap64_id (n := (n : Int) + 1) (by omega) (by omega), succ_cast]
    rw [show mostM R C dn - atM C dn i - n = (mostM R C dn - atM C dn i - (n + 1)) + 1 by omega]
    unfold runLen
    rw [show ((i : Int) + ((n * stepM C dn : Nat) : Int)) = ((i + n * stepM C dn : Nat) : Int) by omega]
    refine ev_pos (by omega) (ev_pos (by omega) (ev_pos (by omega) ?_))
    by_cases hw : bt s (i + n * stepM C dn : Nat) = 46
    · rw [if_pos hw]
      refine ev_pos hw (ev_eq (ih (by omega)) ?_)
      rw [show i + (n + 1) * stepM C dn = i + n * stepM C dn + stepM C dn by rw [Nat.add_mul, Nat.one_mul, Nat.add_assoc]]
      omega
    · rw [if_neg hw]
      exact ev_neg hw (ev_now (by simp))
theorem impl_run_ev (R C : Nat) (s : ByteArray) (hR : R ≤ 6) (hC : C ≤ 6) (h0 : 0 < C) (hs : s.size = R * C) (i : Nat) (dn : Bool) (hi : i < R * C) :
    Ev (fun k => impl_run.f k R C s i dn) (runM R C s i dn : Nat) := by
  have hst := stepM_le hC h0 dn
  have h36 := bounds36 hR hC
  have hl0 := impl_run_l0_ev R C s R C hR hC h0 hs i dn hi 0
  have key : Ev (fun k => impl_run.j0 k i (stepM C dn) (atM C dn i) (mostM R C dn) R C s) (runM R C s i dn : Nat) := by
    have hat : atM C dn i ≤ i ∧ (0 < atM C dn i → stepM C dn ≤ i) ∧ atM C dn i ≤ mostM R C dn := by
      cases dn with
      | true =>
        simp only [atM, stepM, mostM, if_true]
        refine ⟨Nat.div_le_self _ _, fun h => ?_, ?_⟩
        · exact (Nat.div_pos_iff.1 h).2
        · exact Nat.le_of_lt ((Nat.div_lt_iff_lt_mul h0).2 hi)
      | false =>
        simp only [atM, stepM, mostM, Bool.false_eq_true, if_false]
        have := Nat.mod_le i C
        have := Nat.mod_lt i h0
        omega
    have hj1 : ∀ b : Bool, (b = true → Ev (fun k => impl_run.j1 k i (stepM C dn) (atM C dn i) (mostM R C dn) b R C s) 0) ∧
        (b = false → Ev (fun k => impl_run.j1 k i (stepM C dn) (atM C dn i) (mostM R C dn) b R C s) (runLen s (stepM C dn) i (mostM R C dn - atM C dn i) : Nat)) := by
      intro b
      refine ⟨fun hb => ?_, fun hb => ?_⟩
      · apply ev_succ
        simp only [impl_run.j1]
        exact ev_pos hb (ev_now rfl)
      · apply ev_succ
        simp only [impl_run.j1]
        exact ev_neg (by simp [hb]) (by simpa using hl0 (by omega))
    apply ev_succ
    simp only [impl_run.j0]
    refine ev_pos (by omega) (ev_pos (by omega) ?_)
    unfold runM
    by_cases hw : bt s i = 46
    · refine ev_pos hw ?_
      by_cases ha : 0 < atM C dn i
      · have h2 := hat.2.1 ha
        rw [wrap64_id (n := (i : Int) - _) (by omega) (by omega), show ((i : Int) - (stepM C dn : Nat)) = ((i - stepM C dn : Nat) : Int) by omega]
        refine ev_pos (by omega) (ev_pos (by omega) (ev_pos (by omega) ?_))
        by_cases hp : bt s (i - stepM C dn : Nat) = 46
        · rw [if_neg (by simp [ha, hp])]
          exact (hj1 _).1 (by simp [hp])
        · rw [if_pos ⟨hw, fun x => hp x.2⟩]
          exact (hj1 _).2 (by simp [hp])
      · rw [if_pos ⟨hw, fun x => ha x.1⟩]
        exact ev_neg (by omega) ((hj1 false).2 rfl)
    · rw [if_neg (fun x => hw x.1)]
      exact ev_neg hw ((hj1 true).1 rfl)
  unfold impl_run.f
  refine ev_neg (by omega) ?_
  cases dn with
  | true =>
    refine ev_pos rfl ?_
    have e : Int.tdiv (i : Int) (C : Int) = ((i / C : Nat) : Int) := Int.ofNat_tdiv i C |>.symm
    have hd := Nat.div_le_self i C
    have hq := Int.natCast_nonneg (i / C)
    rw [e, wrap64_id (by omega) (by omega)]
    simpa only [stepM, atM, mostM, if_true] using key
  | false =>
    refine ev_neg (by simp) ?_
    have e : Int.tmod (i : Int) (C : Int) = ((i % C : Nat) : Int) := Int.ofNat_tmod i C |>.symm
    rw [e]
    simpa [stepM, atM, mostM] using key

/-! ### slotsof -/
abbrev ISlot := S48
theorem rd_Slot_get {l : List ISlot} {i : Nat} (h : i < l.length) : rd_T48 l (i : Int) = l[i] := by
  unfold rd_T48
  simp [h]
/-- The slots that begin at a cell, under a number. -/
def slotsOne (R C : Nat) (s : ByteArray) (i : Nat) (n : Int) : List ISlot :=
  (if 2 ≤ runM R C s i false then [⟨n, false, i, runM R C s i false⟩] else []) ++ (if 2 ≤ runM R C s i true then [⟨n, true, i, runM R C s i true⟩] else [])
def numOne (R C : Nat) (s : ByteArray) (i : Nat) (n : Int) : Int := if 2 ≤ runM R C s i false ∨ 2 ≤ runM R C s i true then n + 1 else n
def slotsGo (R C : Nat) (s : ByteArray) : List Nat → Int → List ISlot
  | [], _ => []
  | i :: l, n => slotsOne R C s i (numOne R C s i n) ++ slotsGo R C s l (numOne R C s i n)
/-- The slots of a grid; none of what is no grid. -/
def slotsM (r c : Int) (s : ByteArray) : List ISlot := if gridM r c s then slotsGo r.toNat c.toNat s (List.range' 0 (s.size - 0)) 0 else []
theorem slotsOne_length (R C : Nat) (s : ByteArray) (i : Nat) (n : Int) : (slotsOne R C s i n).length ≤ 2 := by
  unfold slotsOne
  split <;> split <;> simp
theorem slotsGo_length (R C : Nat) (s : ByteArray) : ∀ (l : List Nat) (n : Int), (slotsGo R C s l n).length ≤ 2 * l.length
  | [], _ => by simp [slotsGo]
  | i :: l, n => by
    unfold slotsGo
    have h1 := slotsOne_length R C s i (numOne R C s i n)
    have h2 := slotsGo_length R C s l (numOne R C s i n)
    simp only [List.length_append, List.length_cons]
    omega
theorem slotsM_length (r c : Int) (s : ByteArray) : (slotsM r c s).length ≤ 72 := by
  unfold slotsM
  split
  · rename_i h
    obtain ⟨R, C, rfl, rfl, _, hR, _, hC, hs⟩ := gridM_nat h
    have := slotsGo_length R C s (List.range' 0 (s.size - 0)) 0
    have h36 := bounds36 hR hC
    rw [List.length_range'] at this
    simp only [Int.toNat_natCast]
    omega
  · simp
theorem impl_SlotsOf_j2_ev {acc : List ISlot} {n : Int} {i a d m : Nat} {r c : Int} {s : ByteArray} {ρ : List ISlot} (ha : acc.length ≤ 72) (hi : i ≤ 100)
    (h : Ev (fun k => impl_SlotsOf.l0 k (acc ++ ((if 2 ≤ a then [⟨n, false, i, a⟩] else []) ++ (if 2 ≤ d then [⟨n, true, i, d⟩] else []))) n m (i + 1 : Nat) r c s) ρ) : Ev (fun k => impl_SlotsOf.j2 k acc n i a d m i r c s) ρ := by
  apply ev_succ
  simp only [impl_SlotsOf.j2]
  rw [wrap64_id (n := (i : Int) + 1) (by omega) (by omega), succ_cast]
  by_cases h1 : 2 ≤ a
  · rw [if_pos h1] at h
    refine ev_pos (by omega) (ev_pos (by omega) (ev_let rfl ?_))
    by_cases h2 : 2 ≤ d
    · rw [if_pos h2] at h
      exact ev_pos (by omega) (ev_pos (by simp; omega) (by simpa using h))
    · rw [if_neg h2] at h
      exact ev_neg (by omega) (by simpa using h)
  · rw [if_neg h1] at h
    refine ev_neg (by omega) ?_
    by_cases h2 : 2 ≤ d
    · rw [if_pos h2] at h
      exact ev_pos (by omega) (ev_pos (by omega) (by simpa using h))
    · rw [if_neg h2] at h
      exact ev_neg (by omega) (by simpa using h)
theorem impl_SlotsOf_l0_ev (R C : Nat) (s : ByteArray) (hR : 2 ≤ R ∧ R ≤ 6) (hC : 2 ≤ C ∧ C ≤ 6) (hs : s.size = R * C) : ∀ i : Nat, i ≤ s.size → ∀ (acc : List ISlot) (n : Int), acc.length ≤ 2 * i → 0 ≤ n → n ≤ i →
    Ev (fun k => impl_SlotsOf.l0 k acc n s.size i R C s) (acc ++ slotsGo R C s (List.range' i (s.size - i)) n) := by
  have h36 := bounds36 hR.2 hC.2
  refine down s.size ?_ ?_
  · intro i h hi acc n ha h0 hn
    apply ev_succ
    simp only [impl_SlotsOf.l0]
    rw [range_nil h]
    exact ev_neg (by omega) (ev_now (by simp [slotsGo]))
  · intro i h ih hi acc n ha h0 hn
    apply ev_succ
    simp only [impl_SlotsOf.l0]
    refine ev_pos (by omega) (ev_bind (impl_run_ev R C s hR.2 hC.2 (by omega) hs i false (by omega)) (ev_bind (impl_run_ev R C s hR.2 hC.2 (by omega) hs i true (by omega)) ?_))
    rw [range_cons h]
    unfold slotsGo
    have hnum : numOne R C s i n ≤ i + 1 ∧ 0 ≤ numOne R C s i n := by
      unfold numOne
      split <;> omega
    have hl := slotsOne_length R C s i (numOne R C s i n)
    have hnext := ih (by omega) (acc ++ slotsOne R C s i (numOne R C s i n)) (numOne R C s i n) (by simp; omega) hnum.2 (by omega)
    rw [List.append_assoc] at hnext
    have key : ∀ b : Bool, b = decide (2 ≤ runM R C s i false ∨ 2 ≤ runM R C s i true) → Ev (fun k => impl_SlotsOf.j1 k acc n i (runM R C s i false : Nat) (runM R C s i true : Nat) s.size i b R C s) (acc ++ (slotsOne R C s i (numOne R C s i n) ++ slotsGo R C s (List.range' (i + 1) (s.size - (i + 1))) (numOne R C s i n))) := by
      intro b hb
      apply ev_succ
      simp only [impl_SlotsOf.j1]
      rw [wrap64_id (n := n + 1) (by omega) (by omega)]
      by_cases hc : 2 ≤ runM R C s i false ∨ 2 ≤ runM R C s i true
      · have e : numOne R C s i n = n + 1 := if_pos hc
        rw [e] at hnext ⊢
        exact ev_pos (by rw [hb]; simpa using hc) (impl_SlotsOf_j2_ev (by omega) (by omega) hnext)
      · have e : numOne R C s i n = n := if_neg hc
        rw [e] at hnext ⊢
        exact ev_neg (by rw [hb]; simpa using hc) (impl_SlotsOf_j2_ev (by omega) (by omega) hnext)
    by_cases h1 : 2 ≤ runM R C s i false
    · exact ev_pos (by omega) (key true (decide_eq_true (.inl h1)).symm)
    · exact ev_neg (by omega) (key _ (decide_eq_decide.2 (by omega)))
theorem impl_SlotsOf_ev (r c : Int) (s : ByteArray) (hs : s.size ≤ 1048576) : Ev (fun k => impl_SlotsOf.f k r c s) (slotsM r c s) := by
  unfold impl_SlotsOf.f slotsM
  refine ev_bind (impl_IsGrid_ev r c s (by omega)) ?_
  by_cases hg : gridM r c s = true
  · rw [if_pos hg]
    obtain ⟨R, C, rfl, rfl, h1, h2, h3, h4, h5⟩ := gridM_nat hg
    exact ev_pos hg (by simpa using impl_SlotsOf_l0_ev R C s ⟨h1, h2⟩ ⟨h3, h4⟩ h5 0 (by omega) [] 0 (by simp) (by omega) (by omega))
  · rw [if_neg hg]
    exact ev_neg hg (ev_now rfl)

/-! ### cells -/
theorem slot_ext_iff {a b : ISlot} : (a.f0 = b.f0 ∧ a.f1 = b.f1 ∧ a.f2 = b.f2 ∧ a.f3 = b.f3) ↔ a = b := by
  cases a
  cases b
  simp
instance decSlot : DecidableEq ISlot := fun a b => decidable_of_iff _ slot_ext_iff
/-- The cells of a slot. -/
def cellsM (C : Nat) (x : ISlot) : List Int := (List.range' 0 (x.f3.toNat - 0)).map fun k : Nat => x.f2 + (k : Int) * (stepM C x.f1 : Int)
def okSlot (R C : Nat) (s : ByteArray) (x : ISlot) : Prop := ∃ i : Nat, i < R * C ∧ x.f2 = i ∧ x.f3 = runM R C s i x.f1 ∧ 2 ≤ runM R C s i x.f1
theorem slotsOne_mem {R C : Nat} {s : ByteArray} {i : Nat} {n : Int} {x : ISlot} (h : x ∈ slotsOne R C s i n) : x.f0 = n ∧ x.f2 = i ∧ x.f3 = runM R C s i x.f1 ∧ 2 ≤ runM R C s i x.f1 := by
  unfold slotsOne at h
  rcases List.mem_append.1 h with h | h
  · split at h
    · rename_i h2
      rw [List.mem_singleton] at h
      subst h
      exact ⟨rfl, rfl, rfl, h2⟩
    · cases h
  · split at h
    · rename_i h2
      rw [List.mem_singleton] at h
      subst h
      exact ⟨rfl, rfl, rfl, h2⟩
    · cases h
theorem slotsGo_mem {R C : Nat} {s : ByteArray} {x : ISlot} : ∀ {l : List Nat} {n : Int}, x ∈ slotsGo R C s l n → ∃ i ∈ l, x.f2 = i ∧ x.f3 = runM R C s i x.f1 ∧ 2 ≤ runM R C s i x.f1
  | [], _, h => by cases h
  | i :: l, n, h => by
    unfold slotsGo at h
    rcases List.mem_append.1 h with h | h
    · exact ⟨i, List.mem_cons_self, (slotsOne_mem h).2⟩
    · obtain ⟨j, hj, h2⟩ := slotsGo_mem h
      exact ⟨j, List.mem_cons_of_mem _ hj, h2⟩
theorem slotsM_ok {r c : Int} {s : ByteArray} {x : ISlot} (h : x ∈ slotsM r c s) : ∃ R C : Nat, r = R ∧ c = C ∧ 2 ≤ R ∧ R ≤ 6 ∧ 2 ≤ C ∧ C ≤ 6 ∧ s.size = R * C ∧ gridM r c s = true ∧ okSlot R C s x := by
  unfold slotsM at h
  split at h
  · rename_i hg
    obtain ⟨R, C, rfl, rfl, h1, h2, h3, h4, h5⟩ := gridM_nat hg
    obtain ⟨i, hi, h6⟩ := slotsGo_mem h
    rw [List.mem_range'] at hi
    obtain ⟨j, hj, rfl⟩ := hi
    refine ⟨R, C, rfl, rfl, h1, h2, h3, h4, h5, hg, _, ?_, h6⟩
    omega
  · cases h
def slotLt (a b : ISlot) : Prop := a.f2 < b.f2 ∨ (a.f2 = b.f2 ∧ a.f1 = false ∧ b.f1 = true)
theorem slotLt_ne {a b : ISlot} (h : slotLt a b) : a ≠ b := by
  rintro rfl
  rcases h with h | ⟨_, h1, h2⟩
  · omega
  · rw [h1] at h2
    cases h2
theorem slotsGo_pairwise {R C : Nat} {s : ByteArray} : ∀ {l : List Nat} {n : Int}, l.Pairwise (· < ·) → (slotsGo R C s l n).Pairwise slotLt
  | [], _, _ => by simp [slotsGo]
  | i :: l, n, h => by
    unfold slotsGo
    rw [List.pairwise_append]
    refine ⟨?_, slotsGo_pairwise (List.pairwise_cons.1 h).2, ?_⟩
    · unfold slotsOne
      rw [List.pairwise_append]
      refine ⟨by split <;> simp, by split <;> simp, ?_⟩
      intro a ha b hb
      split at ha
      · split at hb
        · rw [List.mem_singleton] at ha hb
          subst ha hb
          exact .inr ⟨rfl, rfl, rfl⟩
        · cases hb
      · cases ha
    · intro a ha b hb
      have h1 := (slotsOne_mem ha).2.1
      obtain ⟨j, hj, h2, _⟩ := slotsGo_mem hb
      have := (List.pairwise_cons.1 h).1 j hj
      exact .inl (by omega)
theorem slotsM_pairwise (r c : Int) (s : ByteArray) : (slotsM r c s).Pairwise slotLt := by
  unfold slotsM
  split
  · exact slotsGo_pairwise (List.pairwise_lt_range' (step := 1) (by omega))
  · simp
theorem slotsM_nodup (r c : Int) (s : ByteArray) : (slotsM r c s).Nodup := (slotsM_pairwise r c s).imp slotLt_ne
theorem okSlot_bounds {R C : Nat} {s : ByteArray} {x : ISlot} (hR : R ≤ 6) (hC : C ≤ 6) (h : okSlot R C s x) : 0 ≤ x.f2 ∧ x.f2 < 36 ∧ 2 ≤ x.f3 ∧ x.f3 ≤ 6 ∧ x.f3.toNat ≤ 6 := by
  obtain ⟨i, hi, h2, h3, h4⟩ := h
  have h36 := bounds36 hR hC
  have h5 : runM R C s i x.f1 ≤ 6 := by
    unfold runM
    split
    · have := runLen_le s (stepM C x.f1) (mostM R C x.f1 - atM C x.f1 i) i
      have := mostM_le hR hC x.f1
      omega
    · omega
  omega
/-- What CellsOf answers. -/
def cellsOfM (r c : Int) (s : ByteArray) (x : ISlot) : List Int := if x ∈ slotsM r c s then cellsM c.toNat x else []
theorem cellsM_length (C : Nat) (x : ISlot) : (cellsM C x).length = x.f3.toNat := by simp [cellsM]
theorem cellsOfM_length (r c : Int) (s : ByteArray) (x : ISlot) : (cellsOfM r c s x).length ≤ 6 := by
  unfold cellsOfM
  split
  · rename_i h
    obtain ⟨R, C, rfl, rfl, _, h2, _, h4, _, _, hk⟩ := slotsM_ok h
    have := okSlot_bounds h2 h4 hk
    rw [cellsM_length]
    omega
  · simp
theorem cell_wrap {C : Nat} {x : ISlot} {k : Nat} (hC : C ≤ 6) (_ : 0 < C) (hk : k ≤ 6) (h1 : 0 ≤ x.f2) (h2 : x.f2 < 36) : wrap64 ((k : Int) * (C : Int)) = (k : Int) * (C : Int) ∧ wrap64 (x.f2 + (k : Int) * (C : Int)) = x.f2 + (k : Int) * (C : Int) := by
  have hb := mul_bound hk hC
  have hcast : ((k : Int) * (C : Int)) = ((k * C : Nat) : Int) := by rw [Int.natCast_mul]
  rw [hcast]
  exact ⟨wrap64_id (by omega) (by omega), wrap64_id (by omega) (by omega)⟩
theorem impl_cells_l0_ev (C : Nat) (x : ISlot) (hC : C ≤ 6) (h0 : 0 < C) (hx : 0 ≤ x.f2 ∧ x.f2 < 36 ∧ 0 ≤ x.f3 ∧ x.f3.toNat ≤ 6) : ∀ n : Nat, n ≤ x.f3.toNat → ∀ acc : List Int, acc.length ≤ n →
    Ev (fun k => impl_cells.l0 k (stepM C x.f1) acc x.f3 n x.f0 x.f1 x.f2 x.f3) (acc ++ (List.range' n (x.f3.toNat - n)).map fun k : Nat => x.f2 + (k : Int) * (stepM C x.f1 : Int)) := by
  refine down x.f3.toNat ?_ ?_
  · intro n h hn acc ha
    apply ev_succ
    simp only [impl_cells.l0]
    rw [range_nil h]
    exact ev_neg (by omega) (ev_now (by simp))
  · intro n h ih hn acc ha
    have hst := stepM_le hC h0 x.f1
    have hw := cell_wrap (C := stepM C x.f1) (x := x) hst.2 (by omega) (show n ≤ 6 by omega) hx.1 hx.2.1
    apply ev_succ
    simp only [impl_cells.l0]
    rw [wrap64_id (n := (n : Int) + 1) (by omega) (by omega), succ_cast, hw.1, hw.2, range_cons h, List.map_cons]
    exact ev_pos (by omega) (ev_pos (by omega) (ev_eq (ih (by omega) _ (by simp; omega)) (by simp)))
theorem impl_cells_ev (R : Int) (C : Nat) (s : ByteArray) (x : ISlot) (hC : C ≤ 6) (h0 : 0 < C) (hx : 0 ≤ x.f2 ∧ x.f2 < 36 ∧ 0 ≤ x.f3 ∧ x.f3.toNat ≤ 6) : Ev (fun k => impl_cells.f k R C s x.f0 x.f1 x.f2 x.f3) (cellsM C x) := by
  have key : Ev (fun k => impl_cells.j0 k (stepM C x.f1) x.f0 x.f1 x.f2 x.f3) (cellsM C x) := by
    apply ev_succ
    simp only [impl_cells.j0]
    simpa [cellsM] using impl_cells_l0_ev C x hC h0 hx 0 (by omega) [] (by simp)
  unfold impl_cells.f
  cases hd : x.f1 with
  | true =>
    rw [hd] at key
    exact ev_pos rfl (by simpa [stepM] using key)
  | false =>
    rw [hd] at key
    exact ev_neg (by simp) (by simpa [stepM] using key)

/-! ### ints -/
/-- Where a number stands first; -1 where it does not. -/
def placeM (n : Int) : List Int → Nat → Int
  | [], _ => -1
  | a :: l, i => if a = n then i else placeM n l (i + 1)
theorem placeM_nonneg {n : Int} : ∀ {l : List Int} {i : Nat}, (0 ≤ placeM n l i ↔ n ∈ l)
  | [], i => by simp [placeM]
  | a :: l, i => by
    unfold placeM
    by_cases h : a = n
    · simp [h]
    · rw [if_neg h, placeM_nonneg]
      simp [show ¬ n = a from fun e => h e.symm]
theorem slices_Index_int_int_l0_ev (l : List Int) (n : Int) (hl : l.length ≤ 9223372036854775806) : ∀ i : Nat, i ≤ l.length → Ev (fun k => slices_Index_int_int.l0 k l n l.length i) (placeM n (l.drop i) i) := by
  refine down l.length ?_ ?_
  · intro i h hi
    apply ev_succ
    simp only [slices_Index_int_int.l0]
    exact ev_neg (by omega) (ev_now (by rw [List.drop_eq_nil_of_le h]; rfl))
  · intro i h ih hi
    apply ev_succ
    simp only [slices_Index_int_int.l0]
    rw [rd_get h, wrap64_id (n := (i : Int) + 1) (by omega) (by omega), succ_cast, List.drop_eq_getElem_cons h]
    unfold placeM
    refine ev_pos (by omega) (ev_pos (by omega) (ev_pos (by omega) ?_))
    by_cases he : n = l[i]
    · exact ev_pos he (ev_now (by rw [if_pos he.symm]))
    · exact ev_neg he (ev_eq (ih (by omega)) (by rw [if_neg (fun e => he e.symm)]))
theorem slices_Index_int_int_ev (l : List Int) (n : Int) (hl : l.length ≤ 9223372036854775806) : Ev (fun k => slices_Index_int_int.f k l n) (placeM n l 0) := by
  unfold slices_Index_int_int.f
  exact ev_eq (slices_Index_int_int_l0_ev l n hl 0 (by omega)) (by simp)
theorem slices_Contains_int_int_ev (l : List Int) (n : Int) (hl : l.length ≤ 9223372036854775806) : Ev (fun k => slices_Contains_int_int.f k l n) (decide (n ∈ l)) := by
  unfold slices_Contains_int_int.f
  refine ev_bind (slices_Index_int_int_ev l n hl) (ev_now ?_)
  rw [decide_eq_decide]
  exact placeM_nonneg

/-! ### slotsat -/
theorem rd_ints_get {l : List (List Int)} {i : Nat} (h : i < l.length) : rd_L6 l (i : Int) = l[i] := by
  unfold rd_L6
  simp [h]
/-- The places, from i on, of the slots that hold a cell. -/
def atGo (C : Nat) (cell : Int) : List ISlot → Nat → List Int
  | [], _ => []
  | x :: l, i => if cell ∈ cellsM C x then (i : Int) :: atGo C cell l (i + 1) else atGo C cell l (i + 1)
def slotsAtM (r c : Int) (s : ByteArray) (cell : Int) : List Int := atGo c.toNat cell (slotsM r c s) 0
def checkedM (r c : Int) (s : ByteArray) (cell : Int) : Bool := decide ((slotsAtM r c s cell).length = 2)
theorem atGo_length (C : Nat) (cell : Int) : ∀ (l : List ISlot) (i : Nat), (atGo C cell l i).length ≤ l.length
  | [], _ => by simp [atGo]
  | x :: l, i => by
    unfold atGo
    have := atGo_length C cell l (i + 1)
    split <;> simp only [List.length_cons] <;> omega
theorem slotsAtM_length (r c : Int) (s : ByteArray) (cell : Int) : (slotsAtM r c s cell).length ≤ 72 := by
  have := atGo_length c.toNat cell (slotsM r c s) 0
  have := slotsM_length r c s
  unfold slotsAtM
  omega
theorem slotsM_elem {r c : Int} {s : ByteArray} {i : Nat} (h : i < (slotsM r c s).length) : ∃ R C : Nat, r = R ∧ c = C ∧ C ≤ 6 ∧ 0 < C ∧ 0 ≤ (slotsM r c s)[i].f2 ∧ (slotsM r c s)[i].f2 < 36 ∧ 0 ≤ (slotsM r c s)[i].f3 ∧ (slotsM r c s)[i].f3.toNat ≤ 6 := by
  obtain ⟨R, C, h1, h2, h3, h4, h5, h6, _, _, hk⟩ := slotsM_ok (List.getElem_mem h)
  have := okSlot_bounds h4 h6 hk
  exact ⟨R, C, h1, h2, h6, by omega, by omega, by omega, by omega, by omega⟩
theorem cellsOfM_elem {r c : Int} {s : ByteArray} {i : Nat} (h : i < (slotsM r c s).length) : cellsOfM r c s (slotsM r c s)[i] = cellsM c.toNat (slotsM r c s)[i] := by
  unfold cellsOfM
  rw [if_pos (List.getElem_mem h)]
theorem cellsM_length_elem {r c : Int} {s : ByteArray} {i : Nat} (h : i < (slotsM r c s).length) : (cellsM c.toNat (slotsM r c s)[i]).length ≤ 6 := by
  rw [← cellsOfM_elem h]
  exact cellsOfM_length _ _ _ _
theorem impl_layout_l0_ev (r c : Int) (s : ByteArray) : ∀ i : Nat, i ≤ (slotsM r c s).length → ∀ acc : List (List Int), acc.length ≤ i →
    Ev (fun k => impl_layout.l0 k acc (slotsM r c s) (slotsM r c s).length i r c s) (acc ++ ((slotsM r c s).drop i).map (cellsM c.toNat)) := by
  have hl := slotsM_length r c s
  refine down (slotsM r c s).length ?_ ?_
  · intro i h hi acc ha
    apply ev_succ
    simp only [impl_layout.l0]
    exact ev_neg (by omega) (ev_now (by rw [List.drop_eq_nil_of_le h]; simp))
  · intro i h ih hi acc ha
    obtain ⟨R, C, h1, h2, h3, h4, h5, h6, h7, h8⟩ := slotsM_elem h
    have e : c.toNat = C := by omega
    have hcells := impl_cells_ev r C s (slotsM r c s)[i] h3 h4 ⟨h5, h6, h7, h8⟩
    apply ev_succ
    simp only [impl_layout.l0]
    rw [rd_Slot_get h, wrap64_id (n := (i : Int) + 1) (by omega) (by omega), succ_cast, List.drop_eq_getElem_cons h, List.map_cons]
    refine ev_pos (by omega) (ev_pos (by omega) (ev_pos (by omega) (ev_bind (a := cellsM C (slotsM r c s)[i]) ?_ (ev_pos (by omega) ?_))))
    · rw [← h2] at hcells
      exact hcells
    · exact ev_eq (ih (by omega) _ (by simp; omega)) (by rw [e]; simp)
def layoutM (r c : Int) (s : ByteArray) : List (List Int) := (slotsM r c s).map (cellsM c.toNat)
theorem layoutM_length (r c : Int) (s : ByteArray) : (layoutM r c s).length = (slotsM r c s).length := by simp [layoutM]
theorem layoutM_get {r c : Int} {s : ByteArray} {i : Nat} (h : i < (slotsM r c s).length) : (layoutM r c s)[i]'(by rw [layoutM_length]; exact h) = cellsM c.toNat (slotsM r c s)[i] := by simp [layoutM]
theorem impl_layout_ev (r c : Int) (s : ByteArray) (hs : s.size ≤ 1048576) : Ev (fun k => impl_layout.f k r c s) (layoutM r c s) := by
  unfold impl_layout.f
  exact ev_bind (impl_SlotsOf_ev r c s hs) (ev_eq (impl_layout_l0_ev r c s 0 (by omega) [] (by simp)) (by simp [layoutM]))
theorem impl_SlotsAt_l0_ev (r c : Int) (s : ByteArray) (cell : Int) : ∀ i : Nat, i ≤ (slotsM r c s).length → ∀ acc : List Int, acc.length ≤ i →
    Ev (fun k => impl_SlotsAt.l0 k cell acc (layoutM r c s) (layoutM r c s).length i) (acc ++ atGo c.toNat cell ((slotsM r c s).drop i) i) := by
  have hl := slotsM_length r c s
  have hL := layoutM_length r c s
  refine down (slotsM r c s).length ?_ ?_
  · intro i h hi acc ha
    apply ev_succ
    simp only [impl_SlotsAt.l0]
    exact ev_neg (by omega) (ev_now (by rw [List.drop_eq_nil_of_le h]; simp [atGo]))
  · intro i h ih hi acc ha
    have h6 := cellsM_length_elem h
    apply ev_succ
    simp only [impl_SlotsAt.l0]
    rw [rd_ints_get (show i < (layoutM r c s).length by omega), layoutM_get h, wrap64_id (n := (i : Int) + 1) (by omega) (by omega), succ_cast, List.drop_eq_getElem_cons h]
    unfold atGo
    refine ev_pos (by omega) (ev_pos (by omega) (ev_pos (by omega) (ev_bind (slices_Contains_int_int_ev _ cell (by omega)) ?_)))
    by_cases hm : cell ∈ cellsM c.toNat (slotsM r c s)[i]
    · rw [if_pos hm]
      exact ev_pos (by simpa using hm) (ev_pos (by omega) (ev_eq (ih (by omega) _ (by simp; omega)) (by simp)))
    · rw [if_neg hm]
      exact ev_neg (by simpa using hm) (ih (by omega) _ (by omega))
theorem impl_SlotsAt_ev (r c : Int) (s : ByteArray) (cell : Int) (hs : s.size ≤ 1048576) : Ev (fun k => impl_SlotsAt.f k r c s cell) (slotsAtM r c s cell) := by
  unfold impl_SlotsAt.f slotsAtM
  exact ev_bind (impl_layout_ev r c s hs) (ev_eq (impl_SlotsAt_l0_ev r c s cell 0 (by omega) [] (by simp)) (by simp))

/-! ### slotfacts -/
theorem runLen_white {s : ByteArray} {step : Nat} : ∀ {m i k : Nat}, k < runLen s step i m → bt s (i + k * step : Nat) = 46
  | 0, i, k, h => by simp [runLen] at h
  | m + 1, i, k, h => by
    unfold runLen at h
    split at h
    · rename_i hw
      cases k with
      | zero => simpa using hw
      | succ k =>
        have := runLen_white (s := s) (step := step) (m := m) (i := i + step) (k := k) (by omega)
        rw [show i + (k + 1) * step = i + step + k * step by rw [Nat.add_mul, Nat.one_mul]; omega]
        exact this
    · omega
theorem cellsM_mem {C : Nat} {x : ISlot} {c : Int} : c ∈ cellsM C x ↔ ∃ k : Nat, k < x.f3.toNat ∧ c = x.f2 + (k : Int) * (stepM C x.f1 : Int) := by
  unfold cellsM
  rw [List.mem_map]
  constructor
  · rintro ⟨k, hk, rfl⟩
    rw [List.mem_range'] at hk
    obtain ⟨j, hj, rfl⟩ := hk
    exact ⟨_, by omega, rfl⟩
  · rintro ⟨k, hk, rfl⟩
    exact ⟨k, by rw [List.mem_range']; exact ⟨k, by omega, by omega⟩, rfl⟩
/-- A slot's cell: its place, that it lies in the grid, that it is white. -/
theorem okSlot_cell {R C : Nat} {s : ByteArray} {x : ISlot} {c : Int} (h0 : 0 < C) (h : okSlot R C s x) (hc : c ∈ cellsM C x) :
    ∃ i k : Nat, x.f2 = i ∧ x.f3 = runM R C s i x.f1 ∧ i < R * C ∧ c = ((i + k * stepM C x.f1 : Nat) : Int) ∧ k < runM R C s i x.f1 ∧ atM C x.f1 i + k < mostM R C x.f1 ∧ i + k * stepM C x.f1 < R * C ∧ bt s c = 46 ∧ ¬ (0 < atM C x.f1 i ∧ bt s (i - stepM C x.f1 : Nat) = 46) := by
  obtain ⟨i, hi, h2, h3, h4⟩ := h
  obtain ⟨k, hk, rfl⟩ := cellsM_mem.1 hc
  have hk' : k < runM R C s i x.f1 := by omega
  have hk0 := hk'
  unfold runM at hk'
  split at hk'
  · rename_i hs
    have hle := runLen_le s (stepM C x.f1) (mostM R C x.f1 - atM C x.f1 i) i
    have hw := runLen_white hk'
    have hat : atM C x.f1 i + k < mostM R C x.f1 := by omega
    have hcast : x.f2 + (k : Int) * (stepM C x.f1 : Int) = ((i + k * stepM C x.f1 : Nat) : Int) := by
      rw [h2, Int.natCast_add, Int.natCast_mul]
    refine ⟨i, k, h2, h3, hi, hcast, hk0, hat, cell_lt h0 hi hat, ?_, hs.2⟩
    rw [hcast]
    exact hw
  · omega
theorem atM_add {C : Nat} {dn : Bool} {i d : Nat} {R : Nat} (h0 : 0 < C) (h : atM C dn i + d < mostM R C dn) : atM C dn (i + d * stepM C dn) = atM C dn i + d := by
  cases dn with
  | true =>
    simp only [atM, stepM, if_true]
    rw [Nat.add_mul_div_right _ _ h0]
  | false =>
    simp only [atM, stepM, mostM, Bool.false_eq_true, if_false, Nat.mul_one] at h ⊢
    rw [Nat.add_mod, Nat.mod_eq_of_lt (show d < C by omega), Nat.mod_eq_of_lt h]
/-- Two slots of one direction that share a cell begin at one cell. -/
theorem slot_one {R C : Nat} {s : ByteArray} {x y : ISlot} {c : Int} (h0 : 0 < C) (hx : okSlot R C s x) (hy : okSlot R C s y) (hd : x.f1 = y.f1) (h1 : c ∈ cellsM C x) (h2 : c ∈ cellsM C y) : x.f2 = y.f2 := by
  have aux : ∀ x y : ISlot, okSlot R C s x → okSlot R C s y → x.f1 = y.f1 → c ∈ cellsM C x → c ∈ cellsM C y → ¬ x.f2 < y.f2 := by
    intro x y hx hy hd h1 h2 hlt
    obtain ⟨i, a, e1, _, _, e2, ha, hat, _, _, _⟩ := okSlot_cell h0 hx h1
    obtain ⟨j, b, e3, _, _, e4, hb, hat2, _, _, hst⟩ := okSlot_cell h0 hy h2
    rw [← hd] at e4 hb hat2 hst
    have hij : i < j := by omega
    have hst' : 0 < stepM C x.f1 := by
      unfold stepM
      split <;> omega
    have e5 : i + a * stepM C x.f1 = j + b * stepM C x.f1 := by omega
    have hab : b < a := by
      apply Classical.byContradiction
      intro hn
      have := Nat.mul_le_mul_right (stepM C x.f1) (show a ≤ b by omega)
      omega
    obtain ⟨d, rfl⟩ : ∃ d, a = b + (d + 1) := ⟨a - b - 1, by omega⟩
    have e6 : j = i + (d + 1) * stepM C x.f1 := by
      rw [Nat.add_mul] at e5
      omega
    have e7 : atM C x.f1 j = atM C x.f1 i + (d + 1) := by
      rw [e6]
      exact atM_add (R := R) h0 (by omega)
    have hr : d < runM R C s i x.f1 := by omega
    have hw : bt s (i + d * stepM C x.f1 : Nat) = 46 := by
      unfold runM at hr
      split at hr
      · exact runLen_white hr
      · omega
    refine hst ⟨by omega, ?_⟩
    rw [show j - stepM C x.f1 = i + d * stepM C x.f1 by rw [e6, Nat.add_mul, Nat.one_mul]; omega]
    exact hw
  have := aux x y hx hy hd h1 h2
  have := aux y x hy hx hd.symm h2 h1
  omega
/-- The slots that hold a cell. -/
def holdersM (r c : Int) (s : ByteArray) (cell : Int) : List ISlot := (slotsM r c s).filter fun x => decide (cell ∈ cellsM c.toNat x)
theorem holders_dirs (r c : Int) (s : ByteArray) (cell : Int) : (holdersM r c s cell).Pairwise fun a b => a.f1 ≠ b.f1 := by
  unfold holdersM
  have hp := (slotsM_pairwise r c s).filter fun x => decide (cell ∈ cellsM c.toNat x)
  refine List.Pairwise.imp_of_mem ?_ hp
  intro a b ha hb hlt he
  rw [List.mem_filter, decide_eq_true_eq] at ha hb
  obtain ⟨R, C, rfl, rfl, _, _, h3, _, _, _, hka⟩ := slotsM_ok ha.1
  obtain ⟨R', C', e1, e2, _, _, _, _, _, _, hkb⟩ := slotsM_ok hb.1
  have e1' : R' = R := by omega
  have e2' : C' = C := by omega
  subst e1' e2'
  have := slot_one (by omega) hka hkb he ha.2 hb.2
  rcases hlt with h | ⟨_, h1, h2⟩
  · omega
  · rw [h1, h2] at he
    cases he
theorem holders_two (r c : Int) (s : ByteArray) (cell : Int) : (holdersM r c s cell).length ≤ 2 := by
  have h := holders_dirs r c s cell
  match holdersM r c s cell, h with
  | [], _ => simp
  | [_], _ => simp
  | [_, _], _ => simp
  | a :: b :: d :: l, h =>
    simp only [List.pairwise_cons] at h
    have h1 := h.1 b (by simp)
    have h2 := h.1 d (by simp)
    have h3 := h.2.1 d (by simp)
    cases ha : a.f1 <;> cases hb : b.f1 <;> cases hd : d.f1 <;> simp_all
theorem atGo_holders (C : Nat) (cell : Int) : ∀ (l : List ISlot) (i : Nat), (atGo C cell l i).length = (l.filter fun x => decide (cell ∈ cellsM C x)).length
  | [], _ => rfl
  | x :: l, i => by
    unfold atGo
    by_cases h : cell ∈ cellsM C x
    · simp [h, atGo_holders C cell l (i + 1)]
    · simp [h, atGo_holders C cell l (i + 1)]
theorem slotsAtM_two (r c : Int) (s : ByteArray) (cell : Int) : (slotsAtM r c s cell).length ≤ 2 := by
  have := holders_two r c s cell
  unfold slotsAtM
  rw [atGo_holders]
  exact this
theorem slotsAtM_white {r c : Int} {s : ByteArray} {cell : Int} (h : 0 < (slotsAtM r c s cell).length) : bt s cell = 46 := by
  unfold slotsAtM at h
  rw [atGo_holders] at h
  obtain ⟨x, hx⟩ := List.exists_mem_of_length_pos h
  rw [List.mem_filter, decide_eq_true_eq] at hx
  obtain ⟨R, C, rfl, rfl, _, _, h3, _, _, _, hk⟩ := slotsM_ok hx.1
  obtain ⟨_, _, _, _, _, _, _, _, _, hw, _⟩ := okSlot_cell (by omega) hk hx.2
  exact hw
theorem slotsM_nil {r c : Int} {s : ByteArray} (h : ¬ gridM r c s = true) : slotsM r c s = [] := by
  unfold slotsM
  rw [if_neg h]

/-! ### strs -/
def total (l : List ByteArray) : Nat := (l.map ByteArray.size).sum
theorem mem_total {l : List ByteArray} {x : ByteArray} (h : x ∈ l) : x.size ≤ total l := by
  induction l with
  | nil => cases h
  | cons a r ih =>
    have e : total (a :: r) = a.size + total r := rfl
    rcases List.mem_cons.1 h with rfl | h
    · omega
    · have := ih h
      omega
theorem total_drop {l : List ByteArray} {i : Nat} (h : i < l.length) : total (l.drop i) = l[i].size + total (l.drop (i + 1)) := by
  rw [List.drop_eq_getElem_cons h]
  rfl

/-! ### draw -/
/-! What is drawn of a code: bounds alone. -/
theorem and255 (y : Int) : 0 ≤ Go.bits .and .i64 y 255 ∧ Go.bits .and .i64 y 255 ≤ 255 := by
  have h := @Nat.and_le_right (BitVec.ofInt 64 y).toNat (BitVec.ofInt 64 255).toNat
  have e : (BitVec.ofInt 64 255).toNat = 255 := by decide
  have hb : Go.bits .and .i64 y 255 = IntKind.i64.wrap (((BitVec.ofInt 64 y).toNat &&& (BitVec.ofInt 64 255).toNat : Nat) : Int) := by
    show IntKind.i64.wrap (((BitVec.ofInt 64 y) &&& (BitVec.ofInt 64 255)).toNat : Int) = _
    rw [BitVec.toNat_and]
  rw [hb]
  rw [e] at h ⊢
  generalize (BitVec.ofInt 64 y).toNat &&& 255 = n at h ⊢
  simp [IntKind.wrap, IntKind.bits, IntKind.signed]
  omega
theorem spec_l1Byte_some (l : List Int) (i h : Int) (h0 : 0 ≤ i ∧ i ≤ l.length) (hl : l.length ≤ 1048576) : ∃ x i' h' : Int, spec_l1Byte.f l i h = some (x, i', h') ∧ (0 ≤ x ∧ x ≤ 255) ∧ (0 ≤ i' ∧ i' ≤ l.length) := by
  unfold spec_l1Byte.f
  by_cases hi : i < (l.length : Int)
  · rw [if_pos hi, if_pos h0.1]
    exact ⟨_, _, _, rfl, and255 _, by rw [wrap64_id (by omega) (by omega)]; omega⟩
  · rw [if_neg hi]
    exact ⟨_, _, _, rfl, and255 _, h0⟩
theorem spec_l1Below_some (l : List Int) (i h n : Int) (h0 : 0 ≤ i ∧ i ≤ l.length) (hl : l.length ≤ 1048576) (hn : n ≤ 16777216) : ∃ x i' h' : Int, spec_l1Below.f l i h n = some (x, i', h') ∧ (0 ≤ x ∧ (0 < n → x < n) ∧ (n ≤ 0 → x = 0)) ∧ (0 ≤ i' ∧ i' ≤ l.length) := by
  unfold spec_l1Below.f
  by_cases h1 : n ≤ 0
  · rw [if_pos h1]
    exact ⟨_, _, _, rfl, ⟨by omega, fun h => by omega, fun _ => rfl⟩, h0⟩
  · rw [if_neg h1]
    obtain ⟨x, i1, g1, e1, hx, hi1⟩ := spec_l1Byte_some l i h h0 hl
    by_cases h2 : n ≤ 256
    · rw [if_pos h2, e1, Option.bind_some, if_neg (by omega)]
      refine ⟨_, _, _, rfl, ⟨Int.tmod_nonneg _ hx.1, fun h => Int.tmod_lt_of_pos _ h, fun h => by omega⟩, hi1⟩
    · obtain ⟨y, i2, g2, e2, hy, hi2⟩ := spec_l1Byte_some l i1 g1 hi1 hl
      obtain ⟨z, i3, g3, e3, hz, hi3⟩ := spec_l1Byte_some l i2 g2 hi2 hl
      rw [if_neg h2, e1, Option.bind_some]
      show ∃ x i' h' : Int, ((spec_l1Byte.f l i1 g1).bind _) = _ ∧ _
      rw [e2, Option.bind_some]
      show ∃ x i' h' : Int, ((spec_l1Byte.f l i2 g2).bind _) = _ ∧ _
      rw [e3, Option.bind_some, if_neg (by omega)]
      have ew : wrap64 (wrap64 (wrap64 (x * 65536) + wrap64 (y * 256)) + z) = x * 65536 + y * 256 + z := by
        rw [wrap64_id (n := x * 65536) (by omega) (by omega), wrap64_id (n := y * 256) (by omega) (by omega), wrap64_id (n := x * 65536 + y * 256) (by omega) (by omega), wrap64_id (by omega) (by omega)]
      refine ⟨_, _, _, rfl, ?_, hi3⟩
      show 0 ≤ (wrap64 (wrap64 (wrap64 (x * 65536) + wrap64 (y * 256)) + z)).tmod n ∧ _
      rw [ew]
      exact ⟨Int.tmod_nonneg _ (by omega), fun h => Int.tmod_lt_of_pos _ h, fun h => by omega⟩
theorem spec_l1Str_some (l : List Int) (i h : Int) (L : List ByteArray) (h0 : 0 ≤ i ∧ i ≤ l.length) (hl : l.length ≤ 1048576) (hL : 0 < L.length) (hL2 : L.length ≤ 1000) : ∃ (s : ByteArray) (i' h' : Int), spec_l1Str.f l i h L = some (s, i', h') ∧ s ∈ L ∧ (0 ≤ i' ∧ i' ≤ l.length) := by
  unfold spec_l1Str.f
  obtain ⟨x, i1, g1, e1, hx, hi1⟩ := spec_l1Below_some l i h (L.length : Int) h0 hl (by omega)
  obtain ⟨j, rfl⟩ := Int.eq_ofNat_of_zero_le hx.1
  have hj : j < L.length := by have := hx.2.1 (by omega); omega
  rw [e1, Option.bind_some, if_pos hx.1, if_pos (by show (j : Int) < _; omega)]
  refine ⟨_, _, _, rfl, ?_, hi1⟩
  show rdOf ByteArray.empty L (j : Int) ∈ L
  rw [rdOf_get hj]
  exact List.getElem_mem hj
theorem spec_l1New_ev (l : List Int) (hl : l.length ≤ 1048576) : ∃ h : Int, Ev (fun k => spec_l1New.f k l) (l, 0, h) := by
  have main : ∀ (d i : Nat) (x : Int), i + d = l.length → ∃ h : Int, Ev (fun k => spec_l1New.l0 k l x i) (l, 0, h) := by
    intro d
    induction d with
    | zero =>
      intro i x hi
      refine ⟨x, ev_succ ?_⟩
      simp only [spec_l1New.l0]
      exact ev_neg (by omega) (ev_now rfl)
    | succ d ih =>
      intro i x hi
      by_cases h4 : (i : Int) < 4000
      · obtain ⟨h, hh⟩ := ih (i + 1) (Go.bits .and .i64 (wrap64 ((wrap64 ((wrap64 (x * 137)) + (wrap64 (rd l i)))) + 11)) 1073741823) (by omega)
        refine ⟨h, ev_succ ?_⟩
        simp only [spec_l1New.l0]
        rw [wrap64_id (n := (i : Int) + 1) (by omega) (by omega), succ_cast]
        exact ev_pos (by omega) (ev_pos h4 (ev_pos (by omega) hh))
      · refine ⟨x, ev_succ ?_⟩
        simp only [spec_l1New.l0]
        exact ev_pos (by omega) (ev_neg h4 (ev_now rfl))
  unfold spec_l1New.f
  exact main l.length 0 _ (by omega)
theorem laws_big_eq (l : List Int) : laws_big.f l = some (decide ((l.length : Int) > 1048576)) := rfl

/-! ### gridtext -/
def rowM (s : ByteArray) (C i : Nat) : ByteArray := s.extract (i * C) ((i + 1) * C)
/-- The text of a grid's first rows. -/
def txtM (s : ByteArray) (C : Nat) : Nat → List UInt8
  | 0 => []
  | i + 1 => txtM s C i ++ (if 0 < i then [47] else []) ++ (rowM s C i).data.toList
def rowsM (s : ByteArray) (C n : Nat) : List ByteArray := (List.range n).map (rowM s C)
theorem rowsM_succ (s : ByteArray) (C n : Nat) : rowsM s C (n + 1) = rowsM s C n ++ [rowM s C n] := by
  unfold rowsM
  rw [List.range_succ, List.map_append]
  rfl
theorem rowsM_length (s : ByteArray) (C n : Nat) : (rowsM s C n).length = n := by simp [rowsM]
theorem join_snoc (sep x : List UInt8) (l : List (List UInt8)) : Lib.join (l ++ [x]) sep = Lib.join l sep ++ (if 0 < l.length then sep else []) ++ x := by
  match l with
  | [] => simp [Lib.join_one, Lib.join_nil]
  | y :: r =>
    rw [List.cons_append, Lib.join_cons, Lib.join_cons]
    simp [Lib.joinTail]
theorem join_rows (s : ByteArray) (C : Nat) : ∀ n : Nat, Lib.join ((rowsM s C n).map (·.data.toList)) [47] = txtM s C n
  | 0 => rfl
  | n + 1 => by
    rw [rowsM_succ, List.map_append, List.map_cons, List.map_nil, join_snoc, join_rows s C n, List.length_map, rowsM_length]
    rfl
theorem row_size (s : ByteArray) (C i : Nat) : (rowM s C i).size ≤ s.size := by
  unfold rowM
  rw [ByteArray.size_extract]
  omega
theorem txtM_length (s : ByteArray) (C : Nat) (h : s.size ≤ 36) : ∀ n : Nat, (txtM s C n).length ≤ n * 37
  | 0 => by simp [txtM]
  | n + 1 => by
    have h1 := txtM_length s C h n
    have h2 := row_size s C n
    have h3 : (rowM s C n).data.toList.length = (rowM s C n).size := by simp
    have h4 : (if 0 < n then [(47 : UInt8)] else []).length ≤ 1 := by split <;> simp
    unfold txtM
    rw [List.length_append, List.length_append]
    omega
def textM (r c : Int) (s : ByteArray) : ByteArray := if gridM r c s = true then ⟨(txtM s c.toNat r.toNat).toArray⟩ else ⟨#[]⟩
theorem gridM_dims {r c : Int} {s : ByteArray} (h : gridM r c s = true) : ∃ R C : Nat, r = R ∧ c = C ∧ 2 ≤ R ∧ R ≤ 6 ∧ 2 ≤ C ∧ C ≤ 6 ∧ s.size = R * C ∧ R * C ≤ 36 := by
  unfold gridM at h
  simp only [Bool.and_eq_true, decide_eq_true_eq] at h
  obtain ⟨⟨⟨hr, hc⟩, hs⟩, _⟩ := h
  obtain ⟨R, rfl⟩ := Int.eq_ofNat_of_zero_le (show 0 ≤ r by omega)
  obtain ⟨C, rfl⟩ := Int.eq_ofNat_of_zero_le (show 0 ≤ c by omega)
  refine ⟨R, C, rfl, rfl, by omega, by omega, by omega, by omega, ?_, ?_⟩
  · have : ((R * C : Nat) : Int) = (R : Int) * (C : Int) := by simp
    omega
  · have : R * C ≤ 6 * 6 := Nat.mul_le_mul (by omega) (by omega)
    omega
theorem txt_next (s : ByteArray) (C i : Nat) (h : 0 < i) : ((⟨(txtM s C i).toArray⟩ : ByteArray) ++ (⟨#[47]⟩ : ByteArray)) ++ rowM s C i = ⟨(txtM s C (i + 1)).toArray⟩ := by
  apply ByteArray.ext
  apply Array.ext'
  rw [ByteArray.data_append, ByteArray.data_append, Array.toList_append, Array.toList_append]
  simp [txtM, h]
theorem txt_first (s : ByteArray) (C : Nat) : (⟨(txtM s C 0).toArray⟩ : ByteArray) ++ rowM s C 0 = ⟨(txtM s C 1).toArray⟩ := by
  apply ByteArray.ext
  apply Array.ext'
  rw [ByteArray.data_append, Array.toList_append]
  simp [txtM]
theorem spec_GridText_l0_ev (s : ByteArray) (R C : Nat) (hg : gridM R C s = true) (hs : s.size = R * C) (h36 : s.size ≤ 36) (hR : R ≤ 6) (hC : 2 ≤ C) (hC6 : C ≤ 6) : ∀ i : Nat, i ≤ R → Ev (fun k => spec_GridText.l0 k (⟨(txtM s C i).toArray⟩ : ByteArray) i R C s) (⟨(txtM s C R).toArray⟩ : ByteArray) := by
  have hstop : ∀ (x : ByteArray) (i : Nat), Ev (fun k => spec_GridText.j1 k x i false R C s) x := by
    intro x i
    apply ev_succ
    simp only [spec_GridText.j1]
    exact ev_neg (by simp) (ev_now rfl)
  refine down R ?_ ?_
  · intro i h hi
    have e : i = R := by omega
    subst e
    apply ev_succ
    simp only [spec_GridText.l0]
    exact ev_neg (by omega) (hstop _ _)
  · intro i h ih hi
    have hm : (i + 1) * C ≤ R * C := Nat.mul_le_mul_right _ h
    have hm2 : (i + 1) * C = i * C + C := Nat.succ_mul i C
    have hl := txtM_length s C h36 i
    have hrow := row_size s C i
    have e1 : (i : Int) * (C : Int) = ((i * C : Nat) : Int) := by simp
    have e2 : ((i + 1 : Nat) : Int) * (C : Int) = (((i + 1) * C : Nat) : Int) := by simp
    have hx : ((⟨(txtM s C i).toArray⟩ : ByteArray)).size = (txtM s C i).length := by simp [ByteArray.size]
    have h47 : ((⟨(txtM s C i).toArray⟩ : ByteArray) ++ (⟨#[47]⟩ : ByteArray)).size = (txtM s C i).length + 1 := by
      rw [ByteArray.size_append, hx]
      rfl
    apply ev_succ
    simp only [spec_GridText.l0]
    refine ev_pos (by omega) (ev_bind (spec_IsGrid_ev R C s (by omega)) ?_)
    rw [hg]
    apply ev_succ
    simp only [spec_GridText.j1]
    rw [wrap64_id (n := (i : Int) + 1) (by omega) (by omega), succ_cast, e1, e2, wrap64_id (n := ((i * C : Nat) : Int)) (by omega) (by omega), wrap64_id (n := (((i + 1) * C : Nat) : Int)) (by omega) (by omega), Int.toNat_natCast, Int.toNat_natCast]
    refine ev_pos (by trivial) ?_
    have ih' := ih (by omega)
    by_cases h0 : 0 < i
    · rw [← txt_next s C i h0] at ih'
      refine ev_pos (by omega) (ev_pos (by rw [hx]; omega) (ev_pos (by omega) (ev_pos (by omega) (ev_pos (by omega) (ev_pos ?_ ih')))))
      rw [h47]
      have : (s.extract (i * C) ((i + 1) * C)).size ≤ s.size := hrow
      omega
    · have e0 : i = 0 := by omega
      subst e0
      rw [← txt_first s C] at ih'
      refine ev_neg (by omega) (ev_pos (by omega) (ev_pos (by omega) (ev_pos (by omega) (ev_pos ?_ ih'))))
      rw [hx]
      have : (s.extract (0 * C) ((0 + 1) * C)).size ≤ s.size := hrow
      omega
theorem spec_GridText_ev (r c : Int) (s : ByteArray) (hs : s.size ≤ 1048576) : Ev (fun k => spec_GridText.f k r c s) (textM r c s) := by
  unfold spec_GridText.f textM
  by_cases hg : gridM r c s = true
  · obtain ⟨R, C, rfl, rfl, h1, h2, h3, h4, h5, h6⟩ := gridM_dims hg
    rw [if_pos hg]
    exact spec_GridText_l0_ev s R C hg h5 (by omega) h2 h3 h4 0 (by omega)
  · rw [if_neg hg]
    rw [Bool.not_eq_true] at hg
    have hstop : Ev (fun k => spec_GridText.j1 k (⟨#[]⟩ : ByteArray) 0 false r c s) ⟨#[]⟩ := by
      apply ev_succ
      simp only [spec_GridText.j1]
      exact ev_neg (by simp) (ev_now rfl)
    apply ev_succ
    simp only [spec_GridText.l0]
    by_cases h0 : (0 : Int) < r
    · refine ev_pos h0 (ev_bind (spec_IsGrid_ev r c s (by omega)) ?_)
      rw [hg]
      exact hstop
    · exact ev_neg h0 hstop

/-! ### parsegrid -/
/-- A text cut at its strokes. -/
def cutL : List UInt8 → List (List UInt8)
  | [] => [[]]
  | b :: l => if b = 47 then [] :: cutL l else (b :: (cutL l).headD []) :: (cutL l).tail
theorem cutL_cons (b : UInt8) (l : List UInt8) : cutL (b :: l) = if b = 47 then [] :: cutL l else (b :: (cutL l).headD []) :: (cutL l).tail := rfl
theorem cutL_length : ∀ l : List UInt8, 1 ≤ (cutL l).length ∧ (cutL l).length ≤ l.length + 1
  | [] => by simp [cutL]
  | b :: l => by
    have := cutL_length l
    rw [cutL_cons]
    split
    · simp only [List.length_cons]
      omega
    · simp only [List.length_cons, List.length_tail]
      omega
theorem cutL_flat : ∀ l : List UInt8, (cutL l).flatten.length ≤ l.length
  | [] => by simp [cutL]
  | b :: l => by
    have ih := cutL_flat l
    have h1 := (cutL_length l).1
    rw [cutL_cons]
    split
    · simp only [List.flatten_cons, List.nil_append, List.length_cons]
      omega
    · cases hc : cutL l with
      | nil => rw [hc] at h1; simp at h1
      | cons x t =>
        rw [hc] at ih
        simp only [List.flatten_cons, List.length_append, List.length_cons, List.headD_cons, List.tail_cons] at ih ⊢
        omega
theorem cutL_flat_cons {b : UInt8} (h : ¬ b = 47) (l : List UInt8) : (cutL (b :: l)).flatten = b :: (cutL l).flatten := by
  have h1 := (cutL_length l).1
  rw [cutL_cons, if_neg h]
  cases hc : cutL l with
  | nil => rw [hc] at h1; simp at h1
  | cons x t => simp
theorem cutL_head : ∀ l : List UInt8, ((cutL l).headD []).length ≤ l.length
  | [] => by simp [cutL]
  | b :: l => by
    have ih := cutL_head l
    rw [cutL_cons]
    split
    · simp
    · simp only [List.headD_cons, List.length_cons]
      omega
theorem index_cons (b : UInt8) (l : List UInt8) : Lib.index (b :: l) [47] = if b = 47 then 0 else if Lib.index l [47] == -1 then -1 else Lib.index l [47] + 1 := by
  rw [Lib.index]
  by_cases h : b = 47
  · subst h
    simp [List.isPrefixOf]
  · have hp : ([47] : List UInt8).isPrefixOf (b :: l) = false := by simp [List.isPrefixOf, Ne.symm h]
    rw [hp, if_neg h]
    simp
theorem split_cut : ∀ l : List UInt8, Lib.splitK [47] 0 (Lib.count l [47]) l = cutL l
  | [] => by
    rw [Lib.count_one]
    rfl
  | b :: l => by
    have ih := split_cut l
    rw [cutL_cons]
    by_cases h : b = 47
    · subst h
      have e : Lib.index (47 :: l) [47] = 0 := by rw [index_cons, if_pos rfl]
      rw [if_pos rfl, Lib.count_cons_eq, Nat.add_comm, Lib.splitK, e, if_neg (by decide)]
      have e2 : (47 :: l : List UInt8).take ((0 : Int).toNat + 0) = [] := rfl
      have e3 : (47 :: l : List UInt8).drop ((0 : Int).toNat + [(47 : UInt8)].length) = l := rfl
      rw [e2, e3, ih]
    · rw [if_neg h, Lib.count_cons_ne b 47 l h]
      generalize Lib.count l [47] = n at ih ⊢
      cases n with
      | zero =>
        have e : cutL l = [l] := ih.symm
        rw [e]
        rfl
      | succ n =>
        rw [Lib.splitK, index_cons, if_neg h]
        rw [Lib.splitK] at ih
        by_cases hm : Lib.index l [47] = -1
        · rw [if_pos (beq_iff_eq.2 hm)] at ih
          rw [if_pos (beq_iff_eq.2 hm), if_pos (by decide), ← ih]
          rfl
        · have hb : ¬ (Lib.index l [47] == -1) = true := fun e => hm (beq_iff_eq.1 e)
          have hge := Lib.index_ge l [47]
          obtain ⟨j, hj⟩ : ∃ j : Nat, Lib.index l [47] = j := ⟨(Lib.index l [47]).toNat, by omega⟩
          rw [if_neg hb] at ih
          rw [if_neg hb, if_neg (fun e => by have := beq_iff_eq.1 e; omega), ← ih, hj]
          have e1 : ((j : Int) + 1).toNat = j + 1 := by omega
          rw [e1, Int.toNat_natCast]
          rfl
theorem join_empty : ∀ xs : List (List UInt8), Lib.join xs [] = xs.flatten
  | [] => rfl
  | x :: r => by
    rw [Lib.join_cons, List.flatten_cons]
    unfold Lib.joinTail
    simp
def zeroG : Int × Int × ByteArray × Bool := (0, 0, ⟨#[]⟩, false)
/-- What a text that is cut says of a grid. -/
def finM (s : ByteArray) (R C : Int) (cells : ByteArray) : Int × Int × ByteArray × Bool := if (textM R C cells).toList = s.toList then (if gridM R C cells = true then (R, C, cells, true) else zeroG) else zeroG
def parseM (s : ByteArray) : Int × Int × ByteArray × Bool := finM s (cutL s.data.toList).length ((cutL s.data.toList).headD []).length ⟨(cutL s.data.toList).flatten.toArray⟩
theorem bt_lt {s : ByteArray} {i : Nat} (h : i < s.data.toList.length) : bt s (i : Int) = ((s.data.toList[i]).toNat : Int) := by
  have h' : i < s.size := by simpa using h
  unfold bt
  rw [dif_pos (by simpa using h')]
  rfl
theorem spec_ParseGrid_ev (s : ByteArray) (hs : s.size ≤ 1048576) : Ev (fun k => spec_ParseGrid.f k s) (parseM s) := by
  have hL : s.data.toList.length = s.size := by simp
  have main : ∀ i : Nat, i ≤ s.size → ∀ (R C : Int) (cells : ByteArray), 1 ≤ R → R ≤ i + 1 → (R = 1 → C = i) → (¬ R = 1 → 0 ≤ C ∧ C ≤ i) → cells.size ≤ i → Ev (fun k => spec_ParseGrid.l0 k s i R C cells) (finM s (R + (((cutL (s.data.toList.drop i)).length : Int) - 1)) (if R = 1 then (i : Int) + ((cutL (s.data.toList.drop i)).headD []).length else C) (cells ++ ⟨(cutL (s.data.toList.drop i)).flatten.toArray⟩)) := by
    refine down s.size ?_ ?_
    · intro i h hi R C cells h1 h2 h3 h4 h5
      apply ev_succ
      simp only [spec_ParseGrid.l0]
      have e : s.data.toList.drop i = [] := List.drop_eq_nil_of_le (by omega)
      rw [e]
      have e1 : (R + (((cutL []).length : Int) - 1)) = R := by
        show R + ((1 : Int) - 1) = R
        omega
      have e2 : (if R = 1 then (i : Int) + (((cutL []).headD []).length : Int) else C) = C := by
        split
        · rename_i hR
          rw [h3 hR]
          show (i : Int) + 0 = i
          omega
        · rfl
      have e3 : cells ++ (⟨(cutL []).flatten.toArray⟩ : ByteArray) = cells := by
        apply ByteArray.ext
        apply Array.ext'
        rw [ByteArray.data_append, Array.toList_append]
        simp [cutL]
      rw [e1, e2, e3]
      refine ev_neg (by omega) (ev_bind (spec_GridText_ev R C cells (by omega)) ?_)
      unfold finM zeroG
      by_cases ht : (textM R C cells).toList = s.toList
      · rw [if_pos ht]
        refine ev_pos ht (ev_bind (spec_IsGrid_ev R C cells (by omega)) ?_)
        by_cases hg : gridM R C cells = true
        · exact ev_pos hg (ev_now (by rw [if_pos hg]))
        · exact ev_neg hg (ev_now (by rw [if_neg hg]))
      · rw [if_neg ht]
        exact ev_neg ht (ev_now rfl)
    · intro i h ih hi R C cells h1 h2 h3 h4 h5
      have hl : i < s.data.toList.length := by omega
      have hb := bt_lt hl
      have hlen := (cutL_length (s.data.toList.drop (i + 1))).1
      have hdr := List.drop_eq_getElem_cons hl
      apply ev_succ
      simp only [spec_ParseGrid.l0]
      rw [hb, wrap64_id (n := (i : Int) + 1) (by omega) (by omega), wrap64_id (n := R + 1) (by omega) (by omega), succ_cast, Int.toNat_natCast, Int.toNat_natCast, hdr]
      generalize hu : s.data.toList[i] = u at hdr
      refine ev_pos (by omega) (ev_pos (by omega) ?_)
      by_cases h47 : u = 47
      · have e1 : R + (((cutL (u :: s.data.toList.drop (i + 1))).length : Int) - 1) = (R + 1) + (((cutL (s.data.toList.drop (i + 1))).length : Int) - 1) := by
          rw [cutL_cons, if_pos h47, List.length_cons]
          omega
        have e2 : (if R = 1 then (i : Int) + (((cutL (u :: s.data.toList.drop (i + 1))).headD []).length : Int) else C) = (if R + 1 = 1 then ((i + 1 : Nat) : Int) + (((cutL (s.data.toList.drop (i + 1))).headD []).length : Int) else C) := by
          rw [if_neg (show ¬ R + 1 = 1 by omega), cutL_cons, if_pos h47]
          split
          · rename_i hR
            rw [h3 hR]
            show (i : Int) + 0 = i
            omega
          · rfl
        have e3 : (cutL (u :: s.data.toList.drop (i + 1))).flatten = (cutL (s.data.toList.drop (i + 1))).flatten := by
          rw [cutL_cons, if_pos h47]
          simp
        rw [e1, e2, e3]
        refine ev_pos (by rw [h47]; rfl) (ev_neg (by omega) (ih (by omega) (R + 1) C cells (by omega) (by omega) (by omega) (fun _ => ?_) (by omega)))
        by_cases hR : R = 1
        · rw [h3 hR]; omega
        · have := h4 hR; omega
      · have hne : ¬ ((u.toNat : Int) = 47) := fun e => h47 (UInt8.toNat_inj.1 (by show u.toNat = 47; omega))
        have e1 : ((cutL (u :: s.data.toList.drop (i + 1))).length : Int) = ((cutL (s.data.toList.drop (i + 1))).length : Int) := by
          rw [cutL_cons, if_neg h47, List.length_cons, List.length_tail]
          omega
        have e2 : (if R = 1 then (i : Int) + (((cutL (u :: s.data.toList.drop (i + 1))).headD []).length : Int) else C) = (if R = 1 then ((i + 1 : Nat) : Int) + (((cutL (s.data.toList.drop (i + 1))).headD []).length : Int) else C) := by
          rw [cutL_cons, if_neg h47, List.headD_cons, List.length_cons]
          split <;> omega
        have e3 : cells ++ (⟨(cutL (u :: s.data.toList.drop (i + 1))).flatten.toArray⟩ : ByteArray) = (cells ++ s.extract i (i + 1)) ++ ⟨(cutL (s.data.toList.drop (i + 1))).flatten.toArray⟩ := by
          rw [cutL_flat_cons h47]
          apply ByteArray.ext
          apply Array.ext'
          rw [ByteArray.data_append, ByteArray.data_append, ByteArray.data_append, Array.toList_append, Array.toList_append, Array.toList_append, ByteArray.data_extract, Array.toList_extract]
          simp only [List.extract]
          rw [show i + 1 - i = 1 by omega, hdr]
          simp
        have hsz : (cells ++ s.extract i (i + 1)).size ≤ i + 1 := by
          rw [ByteArray.size_append, ByteArray.size_extract]
          omega
        rw [e1, e2, e3]
        refine ev_neg hne (ev_pos (by omega) (ev_pos (by omega) (ev_pos (by rw [ByteArray.size_extract]; omega) ?_)))
        by_cases hR : R = 1
        · refine ev_pos hR ?_
          have := ih (by omega) R ((i + 1 : Nat) : Int) (cells ++ s.extract i (i + 1)) h1 (by omega) (fun _ => rfl) (fun h => absurd hR h) hsz
          rw [if_pos hR] at this ⊢
          exact this
        · refine ev_neg hR (ih (by omega) R C (cells ++ s.extract i (i + 1)) h1 (by omega) (fun h => absurd h hR) (fun _ => ?_) hsz)
          have := h4 hR
          omega
  have h0 := main 0 (by omega) 1 0 ⟨#[]⟩ (by omega) (by omega) (fun _ => rfl) (fun h => absurd rfl h) (by simp [ByteArray.size])
  unfold spec_ParseGrid.f parseM
  rw [List.drop_zero, if_pos rfl] at h0
  have e1 : (1 : Int) + (((cutL s.data.toList).length : Int) - 1) = ((cutL s.data.toList).length : Int) := by omega
  have e2 : ((0 : Nat) : Int) + (((cutL s.data.toList).headD []).length : Int) = (((cutL s.data.toList).headD []).length : Int) := by omega
  have e3 : (⟨#[]⟩ : ByteArray) ++ (⟨(cutL s.data.toList).flatten.toArray⟩ : ByteArray) = ⟨(cutL s.data.toList).flatten.toArray⟩ := by
    apply ByteArray.ext
    apply Array.ext'
    rw [ByteArray.data_append, Array.toList_append]
    rfl
  rw [e1, e2, e3] at h0
  exact h0

/-! ### drawgrid -/
theorem spec_l1Int_some (l : List Int) (i h : Int) (L : List Int) (h0 : 0 ≤ i ∧ i ≤ l.length) (hl : l.length ≤ 1048576) (hL : 0 < L.length) (hL2 : L.length ≤ 1000) : ∃ x i' h' : Int, spec_l1Int.f l i h L = some (x, i', h') ∧ x ∈ L ∧ (0 ≤ i' ∧ i' ≤ l.length) := by
  unfold spec_l1Int.f
  obtain ⟨x, i1, g1, e1, hx, hi1⟩ := spec_l1Below_some l i h (L.length : Int) h0 hl (by omega)
  obtain ⟨j, rfl⟩ := Int.eq_ofNat_of_zero_le hx.1
  have hj : j < L.length := by have := hx.2.1 (by omega); omega
  rw [e1, Option.bind_some, if_pos hx.1, if_pos (by show (j : Int) < _; omega)]
  refine ⟨_, _, _, rfl, ?_, hi1⟩
  show rd L (j : Int) ∈ L
  rw [rd_get hj]
  exact List.getElem_mem hj
/-- A text that says a grid. -/
def okText (x : ByteArray) : Bool := gridM ((cutL x.data.toList).length : Int) (((cutL x.data.toList).headD []).length : Int) ⟨(cutL x.data.toList).flatten.toArray⟩ && (decide (textM ((cutL x.data.toList).length : Int) (((cutL x.data.toList).headD []).length : Int) ⟨(cutL x.data.toList).flatten.toArray⟩ = x) && decide (1 ≤ (cutL x.data.toList).flatten.length ∧ (cutL x.data.toList).flatten.length ≤ 36 ∧ (cutL x.data.toList).length ≤ 6 ∧ ((cutL x.data.toList).headD []).length ≤ 6))
theorem okText_parse {x : ByteArray} (h : okText x = true) : ∃ (R C : Int) (s : ByteArray), parseM x = (R, C, s, true) ∧ (1 ≤ s.size ∧ s.size ≤ 36) ∧ (0 ≤ R ∧ R ≤ 6) ∧ (0 ≤ C ∧ C ≤ 6) := by
  unfold okText at h
  rw [Bool.and_eq_true, Bool.and_eq_true, decide_eq_true_eq, decide_eq_true_eq] at h
  obtain ⟨hg, ht, h1, h2, h3, h4⟩ := h
  refine ⟨((cutL x.data.toList).length : Int), (((cutL x.data.toList).headD []).length : Int), ⟨(cutL x.data.toList).flatten.toArray⟩, ?_, ?_, ⟨by omega, by omega⟩, ⟨by omega, by omega⟩⟩
  · unfold parseM finM
    rw [if_pos (by rw [ht]), if_pos hg]
  · show 1 ≤ (cutL x.data.toList).flatten.toArray.size ∧ (cutL x.data.toList).flatten.toArray.size ≤ 36
    rw [List.size_toArray]
    exact ⟨h1, h2⟩
theorem spec_l7Draw_ev (l : List Int) (i h : Int) (h0 : 0 ≤ i ∧ i ≤ l.length) (hl : l.length ≤ 1048576) : ∃ (r c : Int) (s : ByteArray) (i' h' : Int), Ev (fun k => spec_l7Draw.f k l i h) (r, c, s, i', h') ∧ (1 ≤ s.size ∧ s.size ≤ 36) ∧ (0 ≤ r ∧ r ≤ 6) ∧ (0 ≤ c ∧ c ≤ 6) ∧ (0 ≤ i' ∧ i' ≤ l.length) := by
  unfold spec_l7Draw.f spec_l7Texts.f
  have hall : ∀ x ∈ [(⟨#[46, 46, 46, 47, 46, 46, 46, 47, 46, 46, 46]⟩ : ByteArray), (⟨#[46, 46, 35, 47, 46, 46, 46, 47, 35, 46, 46]⟩ : ByteArray), (⟨#[46, 46, 46, 47, 46, 35, 46, 47, 46, 46, 46]⟩ : ByteArray), (⟨#[46, 46, 46, 46, 47, 46, 46, 46, 46, 47, 46, 46, 46, 46]⟩ : ByteArray), (⟨#[46, 46, 46, 46, 35, 47, 46, 35, 46, 46, 46, 47, 46, 46, 46, 46, 46]⟩ : ByteArray), (⟨#[46, 46, 46, 46, 47, 46, 35, 35, 46, 47, 46, 46, 46, 46]⟩ : ByteArray), (⟨#[46, 46, 46, 46, 46, 35, 47, 46, 35, 46, 35, 46, 46, 47, 46, 46, 46, 46, 46, 46]⟩ : ByteArray), (⟨#[46, 46, 47, 46, 46]⟩ : ByteArray), (⟨#[35, 46, 46, 46, 47, 46, 46, 46, 46, 47, 46, 46, 46, 35]⟩ : ByteArray), (⟨#[46, 46, 46, 47, 35, 35, 35, 47, 46, 46, 46]⟩ : ByteArray)], okText x = true ∧ x.size ≤ 100 := by decide +kernel
  obtain ⟨x, i1, g1, e1, hx, hi1⟩ := spec_l1Str_some l i h (L := [(⟨#[46, 46, 46, 47, 46, 46, 46, 47, 46, 46, 46]⟩ : ByteArray), (⟨#[46, 46, 35, 47, 46, 46, 46, 47, 35, 46, 46]⟩ : ByteArray), (⟨#[46, 46, 46, 47, 46, 35, 46, 47, 46, 46, 46]⟩ : ByteArray), (⟨#[46, 46, 46, 46, 47, 46, 46, 46, 46, 47, 46, 46, 46, 46]⟩ : ByteArray), (⟨#[46, 46, 46, 46, 35, 47, 46, 35, 46, 46, 46, 47, 46, 46, 46, 46, 46]⟩ : ByteArray), (⟨#[46, 46, 46, 46, 47, 46, 35, 35, 46, 47, 46, 46, 46, 46]⟩ : ByteArray), (⟨#[46, 46, 46, 46, 46, 35, 47, 46, 35, 46, 35, 46, 46, 47, 46, 46, 46, 46, 46, 46]⟩ : ByteArray), (⟨#[46, 46, 47, 46, 46]⟩ : ByteArray), (⟨#[35, 46, 46, 46, 47, 46, 46, 46, 46, 47, 46, 46, 46, 35]⟩ : ByteArray), (⟨#[46, 46, 46, 47, 35, 35, 35, 47, 46, 46, 46]⟩ : ByteArray)]) h0 hl (by decide) (by decide)
  obtain ⟨hok, hxs⟩ := hall x hx
  obtain ⟨R, C, s, hp, hs, hR, hC⟩ := okText_parse hok
  have hpe := spec_ParseGrid_ev x (by omega)
  rw [hp] at hpe
  obtain ⟨z, i2, g2, e2, _, hi2⟩ := spec_l1Below_some l i1 g1 3 hi1 hl (by omega)
  have e3 : spec_l1Once.f l i1 g1 3 = some ((z == 0), i2, g2) := by
    unfold spec_l1Once.f
    rw [e2]
    rfl
  cases hz : (z == 0) with
  | false =>
    rw [hz] at e3
    exact ⟨R, C, s, i2, g2, ev_let rfl (ev_let e1 (ev_bind hpe (ev_let e3 (ev_neg (by simp) (ev_now rfl))))), hs, hR, hC, hi2⟩
  | true =>
    rw [hz] at e3
    obtain ⟨a, i3, g3, e4, ha, hi3⟩ := spec_l1Below_some l i2 g2 (s.size : Int) hi2 hl (by omega)
    have ha1 := ha.2.1 (by omega)
    obtain ⟨an, rfl⟩ := Int.eq_ofNat_of_zero_le ha.1
    obtain ⟨y, i4, g4, e5, hy, hi4⟩ := spec_l1Str_some l i3 g3 [(⟨#[35]⟩ : ByteArray), (⟨#[46]⟩ : ByteArray)] hi3 hl (by decide) (by decide)
    have hy1 : y.size = 1 := by
      simp only [List.mem_cons, List.not_mem_nil, or_false] at hy
      rcases hy with rfl | rfl <;> rfl
    have n1 : (s.extract 0 an).size = an := by rw [ByteArray.size_extract]; omega
    have n2 : (s.extract (an + 1) s.size).size = s.size - (an + 1) := by rw [ByteArray.size_extract]; omega
    have n3 : ((s.extract 0 an) ++ y).size = an + 1 := by rw [ByteArray.size_append]; omega
    refine ⟨R, C, (s.extract 0 an ++ y) ++ s.extract (an + 1) s.size, i4, g4, ?_, ?_, hR, hC, hi4⟩
    · refine ev_let rfl (ev_let e1 (ev_bind hpe (ev_let e3 (ev_pos rfl (ev_let e4 ?_)))))
      refine ev_pos (by show 0 ≤ (an : Int); omega) (ev_pos (by show (an : Int) ≤ (s.size : Int); omega) (ev_let e5 ?_))
      show Ev (fun n => if (s.extract 0 ((an : Int)).toNat).size + y.size ≤ 9223372036854775807 then (if 0 ≤ wrap64 ((an : Int) + 1) then (if wrap64 ((an : Int) + 1) ≤ (s.size : Int) then (if ((s.extract 0 ((an : Int)).toNat) ++ y).size + (s.extract (wrap64 ((an : Int) + 1)).toNat s.size).size ≤ 9223372036854775807 then some (R, C, ((s.extract 0 ((an : Int)).toNat) ++ y) ++ (s.extract (wrap64 ((an : Int) + 1)).toNat s.size), i4, g4) else none) else none) else none) else none) _
      rw [wrap64_id (n := (an : Int) + 1) (by omega) (by omega), succ_cast, Int.toNat_natCast, Int.toNat_natCast]
      exact ev_pos (by omega) (ev_pos (by omega) (ev_pos (by omega) (ev_pos (by omega) (ev_now rfl))))
    · rw [ByteArray.size_append]
      omega
theorem spec_l7Any_ev (l : List Int) (i h : Int) (h0 : 0 ≤ i ∧ i ≤ l.length) (hl : l.length ≤ 1048576) : ∃ (r c : Int) (s : ByteArray) (i' h' : Int), Ev (fun k => spec_l7Any.f k l i h) (r, c, s, i', h') ∧ (1 ≤ s.size ∧ s.size ≤ 100) ∧ (-9223372036854775808 ≤ r ∧ r ≤ 9223372036854775807) ∧ (0 ≤ c ∧ c ≤ 7) ∧ (0 ≤ i' ∧ i' ≤ l.length) := by
  unfold spec_l7Any.f
  obtain ⟨r, c, s, i1, g1, hd, hs, hr, hc, hi1⟩ := spec_l7Draw_ev l i h h0 hl
  obtain ⟨z, i2, g2, e2, hz, hi2⟩ := spec_l1Below_some l i1 g1 9 hi1 hl (by omega)
  by_cases h1 : z = 0
  · obtain ⟨q, i3, g3, e3, hq, hi3⟩ := spec_l1Int_some l i2 g2 [(-1), 0, 99, 100, 1000, 1001, 9223372036854775807, (-9223372036854775808)] hi2 hl (by decide) (by decide)
    have e4 : spec_l5Raw.f l i2 g2 = some (q, i3, g3) := by
      unfold spec_l5Raw.f
      rw [e3]
      rfl
    refine ⟨q, c, s, i3, g3, ev_bind hd (ev_let e2 (ev_pos h1 (ev_let e4 (ev_now rfl)))), by omega, ?_, by omega, hi3⟩
    simp only [List.mem_cons, List.not_mem_nil, or_false] at hq
    omega
  · by_cases h2 : z = 1
    · obtain ⟨q, i3, g3, e3, hq, hi3⟩ := spec_l1Int_some l i2 g2 [1, 7, 3] hi2 hl (by decide) (by decide)
      refine ⟨r, q, s, i3, g3, ev_bind hd (ev_let e2 (ev_neg h1 (ev_pos h2 (ev_let e3 (ev_now rfl))))), by omega, by omega, ?_, hi3⟩
      simp only [List.mem_cons, List.not_mem_nil, or_false] at hq
      omega
    · by_cases h3 : z = 2
      · have n1 : (s ++ (⟨#[46]⟩ : ByteArray)).size = s.size + 1 := by rw [ByteArray.size_append]; rfl
        exact ⟨r, c, s ++ (⟨#[46]⟩ : ByteArray), i2, g2, ev_bind hd (ev_let e2 (ev_neg h1 (ev_neg h2 (ev_pos h3 (ev_pos (by show s.size + 1 ≤ 9223372036854775807; omega) (ev_now rfl)))))), by omega, by omega, by omega, hi2⟩
      · by_cases h4 : z = 3
        · have n2 : (s.extract 1 s.size).size = s.size - 1 := by rw [ByteArray.size_extract]; omega
          have n1 : ((⟨#[120]⟩ : ByteArray) ++ s.extract 1 s.size).size = 1 + (s.size - 1) := by
            rw [ByteArray.size_append, n2]
            rfl
          exact ⟨r, c, (⟨#[120]⟩ : ByteArray) ++ s.extract 1 s.size, i2, g2, ev_bind hd (ev_let e2 (ev_neg h1 (ev_neg h2 (ev_neg h3 (ev_pos h4 (ev_pos (by show 1 ≤ (s.size : Int); omega) (ev_pos (by show 1 + (s.extract 1 s.size).size ≤ 9223372036854775807; omega) (ev_now rfl)))))))), by omega, by omega, by omega, hi2⟩
        · exact ⟨r, c, s, i2, g2, ev_bind hd (ev_let e2 (ev_neg h1 (ev_neg h2 (ev_neg h3 (ev_neg h4 (ev_now rfl)))))), by omega, by omega, by omega, hi2⟩

/-! ### back -/
def backM (s : ByteArray) : ByteArray := if 100 < s.size then ⟨#[]⟩ else ⟨s.data.reverse⟩
theorem impl_Backwards_eq (s : ByteArray) : impl_Backwards.f s = some (backM s) := rfl
theorem back_step (s acc : ByteArray) (i : Nat) (hi : i < s.size) (ha : acc.data.toList = (s.data.toList.take i).reverse) : (s.extract i (i + 1) ++ acc).data.toList = (s.data.toList.take (i + 1)).reverse := by
  have hl : i < s.data.toList.length := by simpa using hi
  rw [List.take_succ_eq_append_getElem hl, List.reverse_append, ← ha]
  have e : (s.extract i (i + 1)).data.toList = [s.data.toList[i]] := by
    rw [ByteArray.data_extract, Array.toList_extract]
    simp only [List.extract]
    rw [show i + 1 - i = 1 by omega, List.drop_eq_getElem_cons hl]
    rfl
  rw [ByteArray.data_append, Array.toList_append, e]
  rfl

/-! ### turn -/
def turnM (r c : Int) (s : ByteArray) : Int × Int × ByteArray := if gridM r c s = true then (r, c, backM s) else (0, 0, ⟨#[]⟩)
theorem impl_TurnGrid_ev (r c : Int) (s : ByteArray) (hs : s.size ≤ 140737488351232) : Ev (fun k => impl_TurnGrid.f k r c s) (turnM r c s) := by
  unfold impl_TurnGrid.f turnM
  refine ev_bind (impl_IsGrid_ev r c s hs) ?_
  by_cases hg : gridM r c s = true
  · refine ev_pos hg (ev_let (impl_Backwards_eq s) (ev_now ?_))
    rw [if_pos hg]
  · refine ev_neg hg (ev_now ?_)
    rw [if_neg hg]

/-! ### sym -/
def symM (r c : Int) (s : ByteArray) : Bool := gridM r c s && decide (backM s = s)
theorem sym_eq (s : ByteArray) : ((backM s).toList == s.toList) = decide (backM s = s) ∧ (s.toList == (backM s).toList) = decide (backM s = s) := by
  constructor
  · rw [Bool.eq_iff_iff, beq_iff_eq, decide_eq_true_eq, toList_inj]
  · rw [Bool.eq_iff_iff, beq_iff_eq, decide_eq_true_eq, toList_inj]
    exact ⟨Eq.symm, Eq.symm⟩

/-! ### fnparts_back -/
theorem dl_ext (s : ByteArray) (a b : Nat) : (s.extract a b).data.toList = (s.data.toList.drop a).take (b - a) := by
  rw [ByteArray.data_extract, Array.toList_extract]
theorem dl_app (s t : ByteArray) : (s ++ t).data.toList = s.data.toList ++ t.data.toList := by rw [ByteArray.data_append, Array.toList_append]
theorem dl_len (s : ByteArray) : s.data.toList.length = s.size := by simp
theorem ba_ext {s t : ByteArray} (h : s.data.toList = t.data.toList) : s = t := ByteArray.ext (Array.ext' h)
theorem part_join (w : ByteArray) (i : Nat) : w.extract 0 i ++ w.extract i w.size = w := by
  apply ba_ext
  rw [dl_app, dl_ext, dl_ext, List.drop_zero, Nat.sub_zero, List.take_of_length_le (l := w.data.toList.drop i) (by rw [List.length_drop, dl_len]; exact Nat.le_refl _), List.take_append_drop]
theorem bt_dl {s : ByteArray} {i : Nat} (h : i < s.data.toList.length) : bt s (i : Int) = ((s.data.toList[i]).toNat : Int) := by
  have h' : i < s.size := by rw [← dl_len]; exact h
  unfold bt
  rw [dif_pos (by simpa using h')]
  rfl
theorem back_dl {w : ByteArray} (h : w.size ≤ 100) : (backM w).data.toList = w.data.toList.reverse := by
  unfold backM
  rw [if_neg (by omega)]
  exact Array.toList_reverse ..
theorem back_size {w : ByteArray} (h : w.size ≤ 100) : (backM w).size = w.size := by
  rw [← dl_len, back_dl h, List.length_reverse, dl_len]

/-! ### fngrids -/
theorem gridM_dl {r c : Int} {s : ByteArray} : gridM r c s = true ↔ (2 ≤ r ∧ r ≤ 6) ∧ (2 ≤ c ∧ c ≤ 6) ∧ (s.size : Int) = r * c ∧ ∀ u ∈ s.data.toList, isC (u.toNat : Int) = true := by
  unfold gridM
  rw [Bool.and_eq_true, Bool.and_eq_true, Bool.and_eq_true, decide_eq_true_eq, decide_eq_true_eq, decide_eq_true_eq, List.all_eq_true]
  constructor
  · rintro ⟨⟨⟨h1, h2⟩, h3⟩, h4⟩
    refine ⟨h1, h2, h3, fun u hu => ?_⟩
    obtain ⟨i, hi, rfl⟩ := List.getElem_of_mem hu
    rw [← bt_dl hi]
    exact h4 i (by rw [List.mem_range']; exact ⟨i, by rw [dl_len] at hi; omega, by omega⟩)
  · rintro ⟨h1, h2, h3, h4⟩
    refine ⟨⟨⟨h1, h2⟩, h3⟩, fun j hj => ?_⟩
    rw [List.mem_range'] at hj
    obtain ⟨q, hq, rfl⟩ := hj
    have hl : 0 + 1 * q < s.data.toList.length := by rw [dl_len]; omega
    rw [bt_dl hl]
    exact h4 _ (List.getElem_mem hl)
theorem grid_size36 {r c : Int} {s : ByteArray} (h : gridM r c s = true) : s.size ≤ 36 := by
  obtain ⟨R, C, rfl, rfl, _, h2, _, h4, h5, h6⟩ := gridM_dims h
  omega
theorem back_grid {r c : Int} {s : ByteArray} (h : gridM r c s = true) : gridM r c (backM s) = true := by
  have hs := grid_size36 h
  obtain ⟨h1, h2, h3, h4⟩ := gridM_dl.1 h
  refine gridM_dl.2 ⟨h1, h2, by rw [back_size (by omega)]; exact h3, fun u hu => h4 u ?_⟩
  rw [back_dl (by omega)] at hu
  exact List.mem_reverse.1 hu
theorem back_back {s : ByteArray} (h : s.size ≤ 100) : backM (backM s) = s := by
  apply ba_ext
  rw [back_dl (by rw [back_size h]; exact h), back_dl h, List.reverse_reverse]
theorem back_bt {s : ByteArray} (h : s.size ≤ 100) {j : Nat} (hj : j < s.size) : bt (backM s) ((s.size - 1 - j : Nat) : Int) = bt s (j : Int) := by
  have hl := dl_len s
  have h1 : s.size - 1 - j < (backM s).data.toList.length := by rw [back_dl h, List.length_reverse]; omega
  have h2 : j < s.data.toList.length := by omega
  rw [bt_dl h1, bt_dl h2]
  congr 2
  simp only [back_dl h]
  rw [List.getElem_reverse]
  congr 1
  omega
theorem cutL_app : ∀ x : List UInt8, (∀ u ∈ x, u ≠ 47) → ∀ r, cutL (x ++ 47 :: r) = x :: cutL r
  | [], _, r => by
    rw [List.nil_append, cutL_cons, if_pos rfl]
  | b :: x, h, r => by
    rw [List.cons_append, cutL_cons, if_neg (h b (by simp)), cutL_app x (fun u hu => h u (by simp [hu])) r]
    rfl
theorem cutL_one : ∀ x : List UInt8, (∀ u ∈ x, u ≠ 47) → cutL x = [x]
  | [], _ => rfl
  | b :: x, h => by
    rw [cutL_cons, if_neg (h b (by simp)), cutL_one x (fun u hu => h u (by simp [hu]))]
    rfl
theorem cutL_join : ∀ (r : List (List UInt8)) (x : List UInt8), (∀ u ∈ x, u ≠ 47) → (∀ y ∈ r, ∀ u ∈ y, u ≠ 47) → cutL (Lib.join (x :: r) [47]) = x :: r
  | [], x, hx, _ => by
    rw [Lib.join_one]
    exact cutL_one x hx
  | y :: r, x, hx, hr => by
    have ih := cutL_join r y (fun u hu => hr y (by simp) u hu) (fun z hz => hr z (by simp [hz]))
    rw [Lib.join_cons] at ih ⊢
    have e : Lib.joinTail [47] (y :: r) = 47 :: (y ++ Lib.joinTail [47] r) := by
      unfold Lib.joinTail
      simp
    rw [e, cutL_app x hx, ih]
theorem rows_flat (s : ByteArray) (C : Nat) : ∀ n : Nat, n * C ≤ s.size → ((rowsM s C n).map (·.data.toList)).flatten = s.data.toList.take (n * C)
  | 0, _ => by simp [rowsM]
  | n + 1, h => by
    have h1 : (n + 1) * C = n * C + C := Nat.succ_mul n C
    rw [rowsM_succ, List.map_append, List.flatten_append, rows_flat s C n (by omega), h1, List.take_add]
    unfold rowM
    simp only [List.map_cons, List.map_nil, List.flatten_cons, List.flatten_nil, List.append_nil]
    rw [dl_ext, h1, Nat.add_sub_cancel_left]
theorem parse_text {r c : Int} {s : ByteArray} (h : gridM r c s = true) : parseM (textM r c s) = (r, c, s, true) := by
  obtain ⟨R, C, rfl, rfl, h1, h2, h3, h4, h5, h6⟩ := gridM_dims h
  have hdl := gridM_dl.1 h
  have hno : ∀ x ∈ (rowsM s C R).map (·.data.toList), ∀ u ∈ x, u ≠ 47 := by
    intro x hx u hu e
    obtain ⟨y, hy, rfl⟩ := List.mem_map.1 hx
    unfold rowsM at hy
    obtain ⟨i, _, rfl⟩ := List.mem_map.1 hy
    unfold rowM at hu
    rw [dl_ext] at hu
    have hm := hdl.2.2.2 u (List.mem_of_mem_drop (List.mem_of_mem_take hu))
    rw [e] at hm
    exact absurd hm (by decide)
  have htx : (textM R C s).data.toList = txtM s C R := by
    unfold textM
    rw [if_pos h, Int.toNat_natCast, Int.toNat_natCast]
  have hcut : cutL (textM R C s).data.toList = (rowsM s C R).map (·.data.toList) := by
    rw [htx, ← join_rows]
    cases hr : (rowsM s C R).map (·.data.toList) with
    | nil =>
      have := congrArg List.length hr
      rw [List.length_map, rowsM_length, List.length_nil] at this
      omega
    | cons x t =>
      rw [hr] at hno
      exact cutL_join t x (fun u hu => hno x (by simp) u hu) (fun y hy => hno y (by simp [hy]))
  have hlen : ((rowsM s C R).map (·.data.toList)).length = R := by rw [List.length_map, rowsM_length]
  have hhead : (((rowsM s C R).map (·.data.toList)).headD []).length = C := by
    obtain ⟨n, rfl⟩ : ∃ n, R = n + 1 := ⟨R - 1, by omega⟩
    have hC : C ≤ s.size := by rw [h5]; exact Nat.le_mul_of_pos_left C (by omega)
    unfold rowsM
    rw [List.range_succ_eq_map]
    simp only [List.map_cons, List.headD_cons]
    unfold rowM
    rw [dl_len, ByteArray.size_extract]
    omega
  have hflat : ((rowsM s C R).map (·.data.toList)).flatten = s.data.toList := by
    rw [rows_flat s C R (by omega), List.take_of_length_le (by rw [dl_len]; omega)]
  have hs : (⟨s.data.toList.toArray⟩ : ByteArray) = s := ba_ext rfl
  unfold parseM finM
  rw [hcut, hlen, hhead, hflat, hs, if_pos rfl, if_pos h]
theorem parse_none {r c : Int} {s : ByteArray} (h : ¬ gridM r c s = true) : parseM (textM r c s) = zeroG := by
  have e : textM r c s = ⟨#[]⟩ := by
    unfold textM
    rw [if_neg h]
  rw [e]
  unfold parseM finM
  have hg : ¬ gridM ((cutL (⟨#[]⟩ : ByteArray).data.toList).length : Int) (((cutL (⟨#[]⟩ : ByteArray).data.toList).headD []).length : Int) ⟨(cutL (⟨#[]⟩ : ByteArray).data.toList).flatten.toArray⟩ = true := by decide
  rw [if_neg hg]
  split <;> rfl
theorem parse_good {t : ByteArray} (h : (parseM t).2.2.2 = true) : textM (parseM t).1 (parseM t).2.1 (parseM t).2.2.1 = t ∧ (parseM t).2.2.1.size ≤ t.size := by
  have hz := cutL_flat t.data.toList
  rw [dl_len] at hz
  unfold parseM finM at h ⊢
  split at h
  · rename_i h1
    split at h
    · rename_i h2
      rw [if_pos h1, if_pos h2]
      exact ⟨toList_inj.1 h1, by show (cutL t.data.toList).flatten.toArray.size ≤ t.size; rw [List.size_toArray]; exact hz⟩
    · exact absurd h (by simp [zeroG])
  · exact absurd h (by simp [zeroG])
def whiteM (r c : Int) (s : ByteArray) (cell : Int) : Bool := gridM r c s && (decide (0 ≤ cell ∧ cell < (s.size : Int)) && (bt s cell == 46))
theorem impl_IsWhite_ev (r c : Int) (s : ByteArray) (cell : Int) (hs : s.size ≤ 1048576) : Ev (fun k => impl_IsWhite.f k r c s cell) (whiteM r c s cell) := by
  unfold impl_IsWhite.f whiteM
  refine ev_bind (impl_IsGrid_ev r c s (by omega)) ?_
  have ha : impl_at.f cell (s.size : Int) = some (decide (0 ≤ cell ∧ cell < (s.size : Int))) := by
    unfold impl_at.f
    by_cases h : cell ≥ 0
    · rw [if_pos h]
      simp [h]
    · rw [if_neg h]
      simp [h]
  by_cases hg : gridM r c s = true
  · refine ev_pos hg (ev_let ha ?_)
    rw [hg, Bool.true_and]
    by_cases hc : 0 ≤ cell ∧ cell < (s.size : Int)
    · exact ev_pos (decide_eq_true hc) (ev_pos hc.1 (ev_pos hc.2 (ev_now (by rw [decide_eq_true hc, Bool.true_and]))))
    · exact ev_neg (by simpa using hc) (ev_now (by rw [decide_eq_false hc, Bool.false_and]))
  · rw [Bool.not_eq_true] at hg
    exact ev_neg (by rw [hg]; simp) (ev_now (by rw [hg, Bool.false_and]))
theorem spec_DrawIsGrid_ev (l : List Int) (hl : l.length ≤ 1048576) : ∃ (r c : Int) (s : ByteArray), Ev (fun k => spec_DrawIsGrid.f k l) (r, c, s) ∧ s.size ≤ 100 := by
  obtain ⟨h, hn⟩ := spec_l1New_ev l hl
  obtain ⟨r, c, s, i1, g1, e1, hs, _⟩ := spec_l7Any_ev l 0 h ⟨by omega, by omega⟩ hl
  refine ⟨r, c, s, ?_, hs.2⟩
  unfold spec_DrawIsGrid.f
  exact ev_bind hn (ev_bind e1 (ev_now rfl))

/-! ### slotsback -/
/-- Is the cell ahead (in the direction) there, and white? -/
def nextB (R C : Nat) (s : ByteArray) (dn : Bool) (i : Nat) : Bool := decide (atM C dn i + 1 < mostM R C dn) && decide (bt s (i + stepM C dn : Nat) = 46)
def prevB (C : Nat) (s : ByteArray) (dn : Bool) (i : Nat) : Bool := decide (0 < atM C dn i) && decide (bt s (i - stepM C dn : Nat) = 46)
def whB (s : ByteArray) (i : Nat) : Bool := decide (bt s (i : Nat) = 46)
theorem two_run {R C : Nat} {s : ByteArray} {i : Nat} {dn : Bool} : 2 ≤ runM R C s i dn ↔ (whB s i && nextB R C s dn i && !prevB C s dn i) = true := by
  unfold runM whB nextB prevB
  rw [Bool.and_eq_true, Bool.and_eq_true, Bool.and_eq_true, Bool.not_eq_true', Bool.and_eq_false_iff]
  simp only [decide_eq_true_eq, decide_eq_false_iff_not]
  split
  · rename_i h
    have hn : ¬ 0 < atM C dn i ∨ ¬ bt s (i - stepM C dn : Nat) = 46 := by
      by_cases h0 : 0 < atM C dn i
      · exact .inr fun h1 => h.2 ⟨h0, h1⟩
      · exact .inl h0
    rcases hm : mostM R C dn - atM C dn i with _ | _ | m
    · simp only [runLen]
      omega
    · simp only [runLen]
      rw [if_pos h.1]
      omega
    · simp only [runLen]
      rw [if_pos h.1]
      by_cases h2 : bt s (i + stepM C dn : Nat) = 46
      · rw [if_pos h2]
        simp only [h.1, h2, hn, and_true, true_and]
        omega
      · rw [if_neg h2]
        constructor
        · intro h3
          omega
        · rintro ⟨⟨_, h3⟩, _⟩
          exact absurd h3.2 h2
  · rename_i h
    constructor
    · intro h2
      omega
    · rintro ⟨⟨h1, _⟩, h2⟩
      refine absurd ⟨h1, ?_⟩ h
      rintro ⟨h3, h4⟩
      rcases h2 with h2 | h2
      · exact h2 h3
      · exact h2 h4
theorem slotsGo_count (R C : Nat) (s : ByteArray) : ∀ (l : List Nat) (n : Int), (slotsGo R C s l n).length = l.countP (fun i => whB s i && nextB R C s false i && !prevB C s false i) + l.countP (fun i => whB s i && nextB R C s true i && !prevB C s true i)
  | [], _ => rfl
  | i :: l, n => by
    unfold slotsGo slotsOne
    rw [List.length_append, List.length_append, slotsGo_count R C s l, List.countP_cons, List.countP_cons]
    have h1 : (if 2 ≤ runM R C s i false then [(⟨numOne R C s i n, false, i, runM R C s i false⟩ : ISlot)] else []).length = if (whB s i && nextB R C s false i && !prevB C s false i) = true then 1 else 0 := by
      by_cases h : 2 ≤ runM R C s i false
      · rw [if_pos h, if_pos (two_run.1 h)]
        rfl
      · rw [if_neg h, if_neg (fun h2 => h (two_run.2 h2))]
        rfl
    have h2 : (if 2 ≤ runM R C s i true then [(⟨numOne R C s i n, true, i, runM R C s i true⟩ : ISlot)] else []).length = if (whB s i && nextB R C s true i && !prevB C s true i) = true then 1 else 0 := by
      by_cases h : 2 ≤ runM R C s i true
      · rw [if_pos h, if_pos (two_run.1 h)]
        rfl
      · rw [if_neg h, if_neg (fun h2 => h (two_run.2 h2))]
        rfl
    rw [h1, h2]
    omega
theorem countP_part (p q : Nat → Bool) (l : List Nat) : l.countP p = l.countP (fun i => p i && !q i) + l.countP (fun i => p i && q i) := by
  induction l with
  | nil => rfl
  | cons a l ih =>
    rw [List.countP_cons, List.countP_cons, List.countP_cons, ih]
    cases p a <;> cases q a <;> simp <;> omega
theorem countP_ext {p q : Nat → Bool} {l : List Nat} (h : ∀ i ∈ l, p i = q i) : l.countP p = l.countP q := by
  induction l with
  | nil => rfl
  | cons a l ih => rw [List.countP_cons, List.countP_cons, ih (fun i hi => h i (List.mem_cons_of_mem _ hi)), h a List.mem_cons_self]
/-- As many cells with f as cells with g, if f at i is g a step further. -/
theorem countP_shift (f g : Nat → Bool) (st : Nat) : ∀ n : Nat, (∀ i, i + st < n → f i = g (i + st)) → (∀ i, i < n → n ≤ i + st → f i = false) → (∀ j, j < n → j < st → g j = false) → (List.range n).countP f = (List.range n).countP g := by
  intro n h1 h2 h3
  by_cases hst : n ≤ st
  · rw [List.countP_eq_zero.2, List.countP_eq_zero.2]
    · intro j hj
      rw [List.mem_range] at hj
      rw [h3 j hj (by omega)]
      simp
    · intro i hi
      rw [List.mem_range] at hi
      rw [h2 i hi (by omega)]
      simp
  · obtain ⟨m, rfl⟩ : ∃ m, n = st + m := ⟨n - st, by omega⟩
    have eg : (List.range (st + m)).countP g = (List.range m).countP f := by
      rw [List.range_add, List.countP_append, List.countP_eq_zero.2, List.countP_map, Nat.zero_add]
      · refine countP_ext fun i hi => ?_
        rw [List.mem_range] at hi
        show g (st + i) = f i
        rw [Nat.add_comm, h1 i (by omega)]
      · intro j hj
        rw [List.mem_range] at hj
        rw [h3 j (by omega) hj]
        simp
    have ef : (List.range (st + m)).countP f = (List.range m).countP f := by
      rw [Nat.add_comm st m, List.range_add, List.countP_append, List.countP_map]
      have : (List.range st).countP (f ∘ fun x => m + x) = 0 := by
        refine List.countP_eq_zero.2 fun i hi => ?_
        rw [List.mem_range] at hi
        show ¬ f (m + i) = true
        rw [h2 (m + i) (by omega) (by omega)]
        simp
      omega
    rw [eg, ef]
theorem countP_back (f g : Nat → Bool) (n : Nat) (h : ∀ i, i < n → f i = g (n - 1 - i)) : (List.range n).countP f = (List.range n).countP g := by
  have e : (List.range n).reverse = (List.range n).map (n - 1 - ·) := by
    rw [List.range_eq_range', List.reverse_range', ← List.range_eq_range', Nat.zero_add]
  rw [← List.countP_reverse (l := List.range n) (p := g), e, List.countP_map]
  refine countP_ext fun i hi => ?_
  rw [List.mem_range] at hi
  exact h i hi
/-- The steps that a cell of the grid can take. -/
theorem at_step {R C : Nat} {dn : Bool} (h0 : 0 < C) {i : Nat} (hi : i < R * C) : (atM C dn i + 1 < mostM R C dn → i + stepM C dn < R * C ∧ atM C dn (i + stepM C dn) = atM C dn i + 1) ∧ (0 < atM C dn i → stepM C dn ≤ i ∧ atM C dn (i - stepM C dn) + 1 = atM C dn i) ∧ atM C dn i < mostM R C dn := by
  have hm : atM C dn i < mostM R C dn := by
    unfold atM mostM
    cases dn with
    | true => exact (Nat.div_lt_iff_lt_mul h0).2 hi
    | false => exact Nat.mod_lt _ h0
  refine ⟨fun h => ⟨?_, ?_⟩, fun h => ?_, hm⟩
  · have := cell_lt h0 hi h
    rw [Nat.one_mul] at this
    exact this
  · have := atM_add (d := 1) h0 h
    rw [Nat.one_mul] at this
    exact this
  · unfold atM stepM at *
    cases dn with
    | true =>
      simp only [if_true] at *
      have hc : C ≤ i := by
        rcases Nat.lt_or_ge i C with hlt | hge
        · rw [Nat.div_eq_of_lt hlt] at h
          omega
        · exact hge
      refine ⟨hc, ?_⟩
      have := Nat.div_eq_sub_div h0 hc
      omega
    | false =>
      simp only [Bool.false_eq_true, if_false] at *
      have h1 : 1 ≤ i := by
        rcases Nat.eq_zero_or_pos i with rfl | h1
        · simp at h
        · exact h1
      refine ⟨h1, ?_⟩
      have e := Nat.div_add_mod i C
      have hl := Nat.mod_lt i h0
      have e2 : i - 1 = i % C - 1 + C * (i / C) := by omega
      rw [e2, Nat.add_mul_mod_self_left, Nat.mod_eq_of_lt (by omega)]
      omega
/-- As many ends of runs as beginnings. -/
theorem heads_tails {R C : Nat} (s : ByteArray) (dn : Bool) (h0 : 0 < C) : (List.range (R * C)).countP (fun i => whB s i && nextB R C s dn i && !prevB C s dn i) = (List.range (R * C)).countP (fun i => whB s i && prevB C s dn i && !nextB R C s dn i) := by
  have a := countP_part (fun i => whB s i && nextB R C s dn i) (fun i => prevB C s dn i) (List.range (R * C))
  have b := countP_part (fun i => whB s i && prevB C s dn i) (fun i => nextB R C s dn i) (List.range (R * C))
  have c : (List.range (R * C)).countP (fun i => whB s i && nextB R C s dn i && prevB C s dn i) = (List.range (R * C)).countP (fun i => whB s i && prevB C s dn i && nextB R C s dn i) :=
    countP_ext fun i _ => by cases whB s i <;> cases nextB R C s dn i <;> cases prevB C s dn i <;> rfl
  have d : (List.range (R * C)).countP (fun i => whB s i && nextB R C s dn i) = (List.range (R * C)).countP (fun i => whB s i && prevB C s dn i) := by
    refine countP_shift _ _ (stepM C dn) _ ?_ ?_ ?_
    · intro i hi
      show (whB s i && nextB R C s dn i) = (whB s (i + stepM C dn) && prevB C s dn (i + stepM C dn))
      unfold nextB prevB whB
      have hs := at_step (R := R) (dn := dn) h0 (i := i) (by omega)
      have ht := at_step (dn := dn) h0 hi
      rw [Nat.add_sub_cancel]
      by_cases hn : atM C dn i + 1 < mostM R C dn
      · have := (hs.1 hn).2
        rw [decide_eq_true hn, decide_eq_true (show 0 < atM C dn (i + stepM C dn) by omega), Bool.true_and, Bool.true_and, Bool.and_comm]
      · have hz : ¬ 0 < atM C dn (i + stepM C dn) := by
          intro hp
          have h2 := (ht.2.1 hp).2
          rw [Nat.add_sub_cancel] at h2
          omega
        rw [decide_eq_false hn, decide_eq_false hz, Bool.false_and, Bool.false_and, Bool.and_false, Bool.and_false]
    · intro i hi hge
      unfold nextB
      have hn : ¬ atM C dn i + 1 < mostM R C dn := fun h => by
        have := (at_step h0 hi).1 h
        omega
      rw [decide_eq_false hn, Bool.false_and, Bool.and_false]
    · intro j hj hlt
      unfold prevB
      have hn : ¬ 0 < atM C dn j := fun h => by
        have := ((at_step h0 hj).2.1 h).1
        omega
      rw [decide_eq_false hn, Bool.false_and, Bool.and_false]
  omega
/-- A cell's place, told from the other end. -/
theorem at_back {R C : Nat} {dn : Bool} (h0 : 0 < C) {i : Nat} (hi : i < R * C) : atM C dn (R * C - 1 - i) + atM C dn i + 1 = mostM R C dn := by
  have e := Nat.div_add_mod i C
  have hl := Nat.mod_lt i h0
  have hd : i / C < R := (Nat.div_lt_iff_lt_mul h0).2 hi
  obtain ⟨d, rfl⟩ : ∃ d, R = i / C + 1 + d := ⟨R - (i / C + 1), by omega⟩
  have e2 : (i / C + 1 + d) * C - 1 - i = (C - 1 - i % C) + C * d := by
    rw [Nat.add_mul, Nat.add_mul, Nat.one_mul, Nat.mul_comm (i / C) C, Nat.mul_comm d C]
    omega
  unfold atM mostM
  cases dn with
  | true =>
    simp only [if_true]
    rw [e2, Nat.add_mul_div_left _ _ h0, Nat.div_eq_of_lt (by omega)]
    omega
  | false =>
    simp only [Bool.false_eq_true, if_false]
    rw [e2, Nat.add_mul_mod_self_left, Nat.mod_eq_of_lt (by omega)]
    omega
theorem back_heads {R C : Nat} {s t : ByteArray} (dn : Bool) (h0 : 0 < C) (ht : ∀ j, j < R * C → bt t ((R * C - 1 - j : Nat) : Int) = bt s (j : Int)) : (List.range (R * C)).countP (fun i => whB t i && nextB R C t dn i && !prevB C t dn i) = (List.range (R * C)).countP (fun i => whB s i && prevB C s dn i && !nextB R C s dn i) := by
  refine countP_back _ _ _ fun i hi => ?_
  have hb : ∀ j, j < R * C → bt t (j : Int) = bt s ((R * C - 1 - j : Nat) : Int) := fun j hj => by
    have := ht (R * C - 1 - j) (by omega)
    rw [show R * C - 1 - (R * C - 1 - j) = j by omega] at this
    exact this
  have hi2 : R * C - 1 - i < R * C := by omega
  have ha := at_back (dn := dn) h0 hi
  have h1 := at_step (dn := dn) h0 hi
  have h2 := at_step (dn := dn) h0 hi2
  have e1 : whB t i = whB s (R * C - 1 - i) := by
    unfold whB
    rw [hb i hi]
  have e2 : nextB R C t dn i = prevB C s dn (R * C - 1 - i) := by
    unfold nextB prevB
    by_cases hn : atM C dn i + 1 < mostM R C dn
    · have h3 := (h1.1 hn).1
      rw [decide_eq_true hn, decide_eq_true (show 0 < atM C dn (R * C - 1 - i) by omega), hb _ h3, show R * C - 1 - (i + stepM C dn) = R * C - 1 - i - stepM C dn by omega]
    · rw [decide_eq_false hn, decide_eq_false (show ¬ 0 < atM C dn (R * C - 1 - i) by omega), Bool.false_and, Bool.false_and]
  have e3 : prevB C t dn i = nextB R C s dn (R * C - 1 - i) := by
    unfold nextB prevB
    by_cases hn : 0 < atM C dn i
    · have h3 := (h1.2.1 hn).1
      rw [decide_eq_true hn, decide_eq_true (show atM C dn (R * C - 1 - i) + 1 < mostM R C dn by omega), hb _ (by omega), show R * C - 1 - (i - stepM C dn) = R * C - 1 - i + stepM C dn by omega]
    · rw [decide_eq_false hn, decide_eq_false (show ¬ atM C dn (R * C - 1 - i) + 1 < mostM R C dn by omega), Bool.false_and, Bool.false_and]
  simp only [e1, e2, e3]
/-- A grid and its mirror have as many slots. -/
theorem slots_back {R C : Nat} {s t : ByteArray} (h0 : 0 < C) (ht : ∀ j, j < R * C → bt t ((R * C - 1 - j : Nat) : Int) = bt s (j : Int)) (n m : Int) : (slotsGo R C t (List.range' 0 (R * C)) n).length = (slotsGo R C s (List.range' 0 (R * C)) m).length := by
  rw [slotsGo_count, slotsGo_count, ← List.range_eq_range', back_heads false h0 ht, back_heads true h0 ht, heads_tails s false h0, heads_tails s true h0]

/-! ### slotname -/
def digs (u : Nat) : List UInt8 := if u = 0 then [] else Lib.decDigits u
theorem digs_step (u : Nat) (h : u ≠ 0) : digs u = digs (u / 10) ++ [UInt8.ofNat (48 + u % 10)] := by
  unfold digs
  rw [if_neg h]
  by_cases h1 : u < 10
  · rw [if_pos (by omega), Lib.decDigits, dif_pos h1, show u % 10 = u by omega]
    rfl
  · rw [if_neg (by omega), Lib.decDigits, dif_neg h1]
def sgnM (n : Int) (s : ByteArray) : ByteArray := if n < 0 then (⟨#[45]⟩ : ByteArray) ++ s else s
theorem one_byte (v : Nat) (h : v < 10) : strOfNums [((48 : Int) + (v : Int)) % 256] = ⟨#[UInt8.ofNat (48 + v)]⟩ := by
  have : v = 0 ∨ v = 1 ∨ v = 2 ∨ v = 3 ∨ v = 4 ∨ v = 5 ∨ v = 6 ∨ v = 7 ∨ v = 8 ∨ v = 9 := by omega
  rcases this with rfl | rfl | rfl | rfl | rfl | rfl | rfl | rfl | rfl | rfl <;> rfl
theorem cons_text (u : Nat) (h : u ≠ 0) (acc : ByteArray) : (⟨(digs (u / 10)).toArray⟩ : ByteArray) ++ ((⟨#[UInt8.ofNat (48 + u % 10)]⟩ : ByteArray) ++ acc) = (⟨(digs u).toArray⟩ : ByteArray) ++ acc := by
  apply ByteArray.ext
  apply Array.ext'
  rw [ByteArray.data_append, ByteArray.data_append, ByteArray.data_append, Array.toList_append, Array.toList_append, Array.toList_append, digs_step u h]
  simp
theorem itoa_sgn (n : Int) (h : n ≠ 0) : itoaM n = sgnM n (⟨(digs n.natAbs).toArray⟩ : ByteArray) := by
  unfold itoaM Lib.itoa sgnM digs
  have hd : (if n.natAbs = 0 then [] else Lib.decDigits n.natAbs) = Lib.decDigits n.natAbs := if_neg (by omega)
  rw [hd]
  by_cases hn : n < 0
  · rw [if_pos hn, if_pos hn]
    apply ByteArray.ext
    apply Array.ext'
    rw [ByteArray.data_append, Array.toList_append]
    rfl
  · rw [if_neg hn, if_neg hn, show n.toNat = n.natAbs by omega]
theorem decDigits_length : ∀ (d u : Nat), u < 10 ^ (d + 1) → (Lib.decDigits u).length ≤ d + 1
  | 0, u, h => by
    rw [Lib.decDigits, dif_pos (by simpa using h)]
    simp
  | d + 1, u, h => by
    rw [Lib.decDigits]
    split
    · simp
    · have h2 : u / 10 < 10 ^ (d + 1) := by
        have : 10 ^ (d + 1 + 1) = 10 ^ (d + 1) * 10 := Nat.pow_succ 10 (d + 1)
        omega
      have := decDigits_length d (u / 10) h2
      rw [List.length_append]
      simp
      omega
theorem itoaM_size (n : Int) (h0 : -9223372036854775808 ≤ n) (h1 : n ≤ 9223372036854775807) : (itoaM n).size ≤ 100 := by
  have e : (itoaM n).size = (Lib.itoa n).length := by
    show (Lib.itoa n).toArray.size = _
    rw [List.size_toArray]
  have hb19 : (10 : Nat) ^ 19 = 10000000000000000000 := by decide
  have h2 := decDigits_length 18 n.natAbs (by show n.natAbs < 10 ^ 19; omega)
  have h3 := decDigits_length 18 n.toNat (by show n.toNat < 10 ^ 19; omega)
  rw [e]
  unfold Lib.itoa
  split
  · rw [List.length_cons]
    omega
  · omega

/-! ### slotnamed -/
theorem slotsGo_num {R C : Nat} {s : ByteArray} {x : ISlot} : ∀ {l : List Nat} {n : Int}, x ∈ slotsGo R C s l n → n ≤ x.f0 ∧ x.f0 ≤ n + l.length
  | [], _, h => by cases h
  | i :: l, n, h => by
    have hn : n ≤ numOne R C s i n ∧ numOne R C s i n ≤ n + 1 := by
      unfold numOne
      split <;> omega
    unfold slotsGo at h
    rw [List.length_cons]
    rcases List.mem_append.1 h with h | h
    · have := (slotsOne_mem h).1
      omega
    · have := slotsGo_num h
      omega
theorem slot_num {r c : Int} {s : ByteArray} {x : ISlot} (h : x ∈ slotsM r c s) : 0 ≤ x.f0 ∧ x.f0 ≤ 36 := by
  unfold slotsM at h
  split at h
  · rename_i hg
    obtain ⟨R, C, rfl, rfl, _, h2, _, h4, h5⟩ := gridM_nat hg
    have h36 := bounds36 h2 h4
    have := slotsGo_num h
    rw [List.length_range'] at this
    omega
  · cases h
def nameM (x : ISlot) : ByteArray := itoaM x.f0 ++ (if x.f1 = true then (⟨#[100]⟩ : ByteArray) else ⟨#[97]⟩)
/-- The place of the first slot with this name. -/
def namedGo (name : ByteArray) : List ISlot → Nat → Int
  | [], _ => -1
  | x :: l, i => if (nameM x).toList = name.toList then (i : Int) else namedGo name l (i + 1)
def namedM (r c : Int) (s name : ByteArray) : Int := namedGo name (slotsM r c s) 0
theorem snIdx_eq (name : ByteArray) : ∀ (l : List ISlot) (i : Nat), (∀ x ∈ l, 0 ≤ x.f0 ∧ x.f0 ≤ 36) → snIdx name l i = some (namedGo name l i)
  | [], _, _ => rfl
  | x :: l, i, h => by
    have hx := h x (by simp)
    have hs := itoaM_size x.f0 (by omega) (by omega)
    rw [snIdx_cons]
    unfold namedGo impl_SlotName.f
    rw [if_pos ⟨⟨by omega, by omega⟩, by omega⟩, Option.bind_some]
    by_cases e : (nameM x).toList = name.toList
    · rw [if_pos e, if_pos (by rw [beq_iff_eq]; exact e)]
    · rw [if_neg e, if_neg (by rw [beq_iff_eq]; exact e), snIdx_eq name l (i + 1) (fun y hy => h y (by simp [hy]))]
theorem impl_SlotNamed_ev (r c : Int) (s name : ByteArray) (hs : s.size ≤ 1048576) : Ev (fun k => impl_SlotNamed.f k r c s name) (namedM r c s name) := by
  have hl := slotsM_length r c s
  unfold impl_SlotNamed.f namedM
  refine ev_bind (impl_SlotsOf_ev r c s hs) (ev_pos (by omega) ?_)
  rw [snIdx_eq name _ 0 (fun x hx => slot_num hx)]
  exact ev_now rfl

/-! ### slotidx -/
def slotIdxM (x : ISlot) : List ISlot → Nat → Int
  | [], _ => -1
  | a :: l, i => if a = x then i else slotIdxM x l (i + 1)
theorem slotIdxM_nonneg {x : ISlot} : ∀ {l : List ISlot} {i : Nat}, (0 ≤ slotIdxM x l i ↔ x ∈ l)
  | [], i => by simp [slotIdxM]
  | a :: l, i => by
    unfold slotIdxM
    by_cases h : a = x
    · simp [h]
    · rw [if_neg h, slotIdxM_nonneg]
      simp [show ¬ x = a from fun e => h e.symm]
theorem slotIdx_l0_ev (l : List ISlot) (x : ISlot) (hl : l.length ≤ 9223372036854775806) : ∀ i : Nat, i ≤ l.length → Ev (fun k => impl_Slot_64.l0 k l l.length i x.f0 x.f1 x.f2 x.f3) (slotIdxM x (l.drop i) i) := by
  refine down l.length ?_ ?_
  · intro i h hi
    apply ev_succ
    simp only [impl_Slot_64.l0]
    exact ev_neg (by omega) (ev_now (by rw [List.drop_eq_nil_of_le h]; rfl))
  · intro i h ih hi
    apply ev_succ
    simp only [impl_Slot_64.l0]
    rw [rd_Slot_get h, wrap64_id (n := (i : Int) + 1) (by omega) (by omega), succ_cast, List.drop_eq_getElem_cons h]
    unfold slotIdxM
    refine ev_pos (by omega) (ev_pos (by omega) (ev_pos (by omega) ?_))
    by_cases he : l[i] = x
    · exact ev_pos (by rw [he]; simp) (ev_now (by rw [if_pos he]))
    · refine ev_neg ?_ (ev_eq (ih (by omega)) (by rw [if_neg he]))
      rw [← slot_ext_iff] at he
      simp only [Bool.and_eq_true, beq_iff_eq]
      intro hh
      exact he ⟨hh.1.symm, hh.2.1.symm, hh.2.2.1.symm, hh.2.2.2.symm⟩
theorem slotIdx_ev (l : List ISlot) (x : ISlot) (hl : l.length ≤ 9223372036854775806) : Ev (fun k => impl_Slot_64.f k l x.f0 x.f1 x.f2 x.f3) (slotIdxM x l 0) := by
  unfold impl_Slot_64.f
  exact ev_eq (slotIdx_l0_ev l x hl 0 (by omega)) (by simp)
theorem slotHas_ev (l : List ISlot) (x : ISlot) (hl : l.length ≤ 9223372036854775806) : Ev (fun k => impl_Slot_48.f k l x.f0 x.f1 x.f2 x.f3) (decide (x ∈ l)) := by
  unfold impl_Slot_48.f
  refine ev_bind (slotIdx_ev l x hl) (ev_now ?_)
  rw [decide_eq_decide]
  exact slotIdxM_nonneg
theorem impl_CellsOf_ev (r c : Int) (s : ByteArray) (x : ISlot) (hs : s.size ≤ 1048576) : Ev (fun k => impl_CellsOf.f k r c s x.f0 x.f1 x.f2 x.f3) (cellsOfM r c s x) := by
  have hl := slotsM_length r c s
  unfold impl_CellsOf.f cellsOfM
  refine ev_bind (impl_SlotsOf_ev r c s hs) (ev_bind (slotHas_ev _ x (by omega)) ?_)
  by_cases hm : x ∈ slotsM r c s
  · obtain ⟨R, C, rfl, rfl, _, h4, h5, h6, _, _, hk⟩ := slotsM_ok hm
    have := okSlot_bounds h4 h6 hk
    have hcells := impl_cells_ev R C s x h6 (by omega) ⟨by omega, by omega, by omega, by omega⟩
    rw [if_pos hm]
    exact ev_pos (by simpa using hm) (ev_bind hcells (ev_now (by simp)))
  · rw [if_neg hm]
    exact ev_neg (by simpa using hm) (ev_now rfl)

/-! ### fnslots -/
theorem numOne_pos {R C : Nat} {s : ByteArray} {i : Nat} {n : Int} {x : ISlot} (h : x ∈ slotsOne R C s i (numOne R C s i n)) : x.f0 = n + 1 := by
  obtain ⟨h1, _, _, h4⟩ := slotsOne_mem h
  rw [h1]
  unfold numOne
  rw [if_pos]
  cases hd : x.f1 with
  | true => rw [hd] at h4; exact .inr h4
  | false => rw [hd] at h4; exact .inl h4
theorem numOne_le (R C : Nat) (s : ByteArray) (i : Nat) (n : Int) : n ≤ numOne R C s i n := by
  unfold numOne
  split <;> omega
theorem slotsGo_gt {R C : Nat} {s : ByteArray} {x : ISlot} : ∀ {l : List Nat} {n : Int}, x ∈ slotsGo R C s l n → n < x.f0
  | [], _, h => by cases h
  | i :: l, n, h => by
    unfold slotsGo at h
    rcases List.mem_append.1 h with h | h
    · have := numOne_pos h
      omega
    · have := slotsGo_gt h
      have := numOne_le R C s i n
      omega
/-- The later slot's number is greater, or it is the same and the later one goes down. -/
def numLt (a b : ISlot) : Prop := a.f0 < b.f0 ∨ (a.f0 = b.f0 ∧ a.f1 = false ∧ b.f1 = true)
theorem slotsGo_numLt {R C : Nat} {s : ByteArray} : ∀ {l : List Nat} {n : Int}, (slotsGo R C s l n).Pairwise numLt
  | [], _ => by simp [slotsGo]
  | i :: l, n => by
    unfold slotsGo
    rw [List.pairwise_append]
    refine ⟨?_, slotsGo_numLt, ?_⟩
    · unfold slotsOne
      rw [List.pairwise_append]
      refine ⟨by split <;> simp, by split <;> simp, ?_⟩
      intro a ha b hb
      split at ha
      · split at hb
        · rw [List.mem_singleton] at ha hb
          subst ha hb
          exact .inr ⟨rfl, rfl, rfl⟩
        · cases hb
      · cases ha
    · intro a ha b hb
      have h1 := (slotsOne_mem ha).1
      have h2 := slotsGo_gt hb
      exact .inl (by omega)
theorem slotsM_numLt (r c : Int) (s : ByteArray) : (slotsM r c s).Pairwise numLt := by
  unfold slotsM
  split
  · exact slotsGo_numLt
  · simp
/-- Each number is at most one more than the one ahead. -/
def stepOk : Int → List ISlot → Prop
  | _, [] => True
  | n, x :: l => x.f0 ≤ n + 1 ∧ stepOk x.f0 l
theorem stepOk_mono {n m : Int} (h : n ≤ m) : ∀ {l : List ISlot}, stepOk n l → stepOk m l
  | [], _ => trivial
  | x :: l, hx => ⟨by have := hx.1; omega, hx.2⟩
theorem slotsGo_step {R C : Nat} {s : ByteArray} : ∀ {l : List Nat} {n : Int}, stepOk n (slotsGo R C s l n)
  | [], _ => trivial
  | i :: l, n => by
    have ih := slotsGo_step (R := R) (C := C) (s := s) (l := l) (n := numOne R C s i n)
    unfold slotsGo slotsOne
    by_cases h1 : 2 ≤ runM R C s i false
    · have hn : numOne R C s i n = n + 1 := by
        unfold numOne
        rw [if_pos (.inl h1)]
      rw [hn] at ih ⊢
      rw [if_pos h1]
      by_cases h2 : 2 ≤ runM R C s i true
      · rw [if_pos h2]
        exact ⟨by simp, by simp; omega, ih⟩
      · rw [if_neg h2]
        exact ⟨by simp, ih⟩
    · rw [if_neg h1]
      by_cases h2 : 2 ≤ runM R C s i true
      · have hn : numOne R C s i n = n + 1 := by
          unfold numOne
          rw [if_pos (.inr h2)]
        rw [hn] at ih ⊢
        rw [if_pos h2]
        exact ⟨by simp, ih⟩
      · have hn : numOne R C s i n = n := by
          unfold numOne
          rw [if_neg (by omega)]
        rw [hn] at ih ⊢
        rw [if_neg h2]
        exact ih
theorem slotsM_step (r c : Int) (s : ByteArray) : stepOk 0 (slotsM r c s) := by
  unfold slotsM
  split
  · exact slotsGo_step
  · trivial
theorem stepOk_get : ∀ {l : List ISlot} {n : Int} {i : Nat} (h : i + 1 < l.length), stepOk n l → l[i + 1].f0 ≤ l[i].f0 + 1
  | [], _, _, h, _ => by simp at h
  | [_], _, _, h, _ => by simp at h
  | x :: y :: l, n, 0, _, hs => hs.2.1
  | x :: y :: l, n, i + 1, h, hs => stepOk_get (l := y :: l) (i := i) (by simpa using h) hs.2
theorem slotsM_pos {r c : Int} {s : ByteArray} {x : ISlot} (h : x ∈ slotsM r c s) : 1 ≤ x.f0 := by
  unfold slotsM at h
  split at h
  · have := slotsGo_gt h
    omega
  · cases h
/-- Two slots that follow one another. -/
theorem slots_next {r c : Int} {s : ByteArray} {i : Nat} (h : i + 1 < (slotsM r c s).length) : ((slotsM r c s)[i].f0 < (slotsM r c s)[i + 1].f0 ∨ ((slotsM r c s)[i].f0 = (slotsM r c s)[i + 1].f0 ∧ (slotsM r c s)[i].f1 = false ∧ (slotsM r c s)[i + 1].f1 = true)) ∧ (slotsM r c s)[i + 1].f0 ≤ (slotsM r c s)[i].f0 + 1 :=
  ⟨List.pairwise_iff_getElem.1 (slotsM_numLt r c s) i (i + 1) (by omega) h (by omega), stepOk_get h (slotsM_step r c s)⟩
theorem digs_inj : ∀ (u v : Nat), digs u = digs v → u = v := by
  intro u
  induction u using Nat.strongRecOn with
  | _ u ih =>
    intro v h
    by_cases hu : u = 0
    · by_cases hv : v = 0
      · omega
      · rw [digs_step v hv, hu] at h
        have := congrArg List.length h
        simp [digs] at this
    · by_cases hv : v = 0
      · rw [digs_step u hu, hv] at h
        have := congrArg List.length h
        simp [digs] at this
      · rw [digs_step u hu, digs_step v hv] at h
        obtain ⟨h1, h2⟩ := List.append_inj' h rfl
        have h3 := ih (u / 10) (by omega) _ h1
        have h4 := congrArg UInt8.toNat (List.singleton_inj.1 h2)
        rw [UInt8.toNat_ofNat', UInt8.toNat_ofNat'] at h4
        omega
theorem itoaM_inj {a b : Int} (ha : 1 ≤ a) (hb : 1 ≤ b) (h : itoaM a = itoaM b) : a = b := by
  rw [itoa_sgn a (by omega), itoa_sgn b (by omega)] at h
  unfold sgnM at h
  rw [if_neg (by omega), if_neg (by omega)] at h
  have h2 : (digs a.natAbs).toArray = (digs b.natAbs).toArray := congrArg ByteArray.data h
  have := digs_inj _ _ (List.toArray_inj h2)
  omega
theorem nameM_inj {x y : ISlot} (hx : 1 ≤ x.f0) (hy : 1 ≤ y.f0) (h : (nameM x).toList = (nameM y).toList) : x.f0 = y.f0 ∧ x.f1 = y.f1 := by
  have h := toList_inj.1 h
  unfold nameM at h
  have h2 := congrArg (fun b : ByteArray => b.data.toList) h
  simp only [ByteArray.data_append, Array.toList_append] at h2
  have hl : ∀ b : Bool, (if b = true then (⟨#[100]⟩ : ByteArray) else ⟨#[97]⟩).data.toList = [if b = true then (100 : UInt8) else 97] := by
    intro b
    cases b <;> rfl
  rw [hl, hl] at h2
  obtain ⟨h3, h4⟩ := List.append_inj' h2 rfl
  refine ⟨itoaM_inj hx hy (ByteArray.ext (Array.toList_inj.1 h3)), ?_⟩
  have h5 := List.singleton_inj.1 h4
  cases hx1 : x.f1 <;> cases hy1 : y.f1 <;> rw [hx1, hy1] at h5 <;> first | rfl | simp at h5
theorem namedGo_at : ∀ {l : List ISlot} {k : Nat} (i : Nat) (h : k < l.length), (∀ x ∈ l, 1 ≤ x.f0) → l.Pairwise numLt → namedGo (nameM l[k]) l i = ((i + k : Nat) : Int)
  | [], _, _, h, _, _ => by simp at h
  | x :: l, 0, i, _, _, _ => by
    unfold namedGo
    rw [if_pos (by rfl), Nat.add_zero]
  | x :: l, k + 1, i, h, hp, hw => by
    have hk : k < l.length := by simpa using h
    obtain ⟨h1, h2⟩ := List.pairwise_cons.1 hw
    unfold namedGo
    rw [if_neg]
    · rw [List.getElem_cons_succ, namedGo_at (i + 1) hk (fun y hy => hp y (by simp [hy])) h2]
      omega
    · intro e
      rw [List.getElem_cons_succ] at e
      obtain ⟨e1, e2⟩ := nameM_inj (hp x (by simp)) (hp _ (by simp)) e
      rcases h1 _ (List.getElem_mem hk) with h3 | ⟨_, h4, h5⟩
      · omega
      · rw [h4, h5] at e2
        cases e2
/-- A slot is found by its name. -/
theorem named_at {r c : Int} {s : ByteArray} {k : Nat} (h : k < (slotsM r c s).length) : namedM r c s (nameM (slotsM r c s)[k]) = (k : Int) := by
  unfold namedM
  rw [namedGo_at 0 h (fun x hx => slotsM_pos hx) (slotsM_numLt r c s), Nat.zero_add]
theorem atGo_has {C : Nat} {cell : Int} : ∀ {l : List ISlot} {k : Nat} (i : Nat) (h : k < l.length), cell ∈ cellsM C l[k] → ((i + k : Nat) : Int) ∈ atGo C cell l i
  | [], _, _, h, _ => by simp at h
  | x :: l, 0, i, _, hc => by
    have hc : cell ∈ cellsM C x := hc
    unfold atGo
    rw [if_pos hc, Nat.add_zero]
    exact List.mem_cons_self
  | x :: l, k + 1, i, h, hc => by
    have := atGo_has (i + 1) (by simpa using h : k < l.length) hc
    rw [show i + (k + 1) = i + 1 + k by omega]
    unfold atGo
    split
    · exact List.mem_cons_of_mem _ this
    · exact this
theorem slotsAtM_has {r c : Int} {s : ByteArray} {cell : Int} {k : Nat} (h : k < (slotsM r c s).length) (hc : cell ∈ cellsM c.toNat (slotsM r c s)[k]) : (k : Int) ∈ slotsAtM r c s cell := by
  have := atGo_has 0 h hc
  rwa [Nat.zero_add] at this
theorem slot_white {r c : Int} {s : ByteArray} {x : ISlot} {cell : Int} (h : x ∈ slotsM r c s) (hc : cell ∈ cellsM c.toNat x) : whiteM r c s cell = true := by
  obtain ⟨R, C, rfl, rfl, _, _, h3, _, h5, hg, hk⟩ := slotsM_ok h
  rw [Int.toNat_natCast] at hc
  obtain ⟨i, k, _, _, _, h6, _, _, h7, h8, _⟩ := okSlot_cell (by omega) hk hc
  unfold whiteM
  rw [hg, h8, decide_eq_true (show 0 ≤ cell ∧ cell < (s.size : Int) by omega)]
  rfl
theorem turn_slots {r c : Int} {s : ByteArray} (hg : gridM r c s = true) : (slotsM r c (backM s)).length = (slotsM r c s).length := by
  have h36 := grid_size36 hg
  have hb := back_grid hg
  have hz := back_size (w := s) (by omega)
  unfold slotsM
  rw [if_pos hg, if_pos hb, hz]
  obtain ⟨R, C, rfl, rfl, h1, h2, h3, h4, h5⟩ := gridM_nat hg
  rw [Int.toNat_natCast, Int.toNat_natCast, h5, Nat.sub_zero]
  refine slots_back (by omega) (fun j hj => ?_) 0 0
  have := back_bt (s := s) (by omega) (j := j) (by omega)
  rw [h5] at this
  exact this

/-! ### the law -/
theorem cell_at {C : Nat} {x : ISlot} {q : Nat} (h : q < x.f3.toNat) : (cellsM C x)[q]'(by rw [cellsM_length]; exact h) = x.f2 + (q : Int) * (stepM C x.f1 : Int) := by
  simp [cellsM]
theorem cell_rd {C : Nat} {x : ISlot} {q : Nat} (h : q < x.f3.toNat) : rd (cellsM C x) (q : Int) = x.f2 + (q : Int) * (stepM C x.f1 : Int) := by
  rw [rd_get (by rw [cellsM_length]; exact h), cell_at h]
theorem has_contains (n : Int) (l : List Int) (hl : l.length ≤ 1000) : ∀ i : Nat, i ≤ l.length → n ∈ l.drop i → Ev (fun k => laws_contains.l0 k l n i) true := by
  refine down l.length ?_ ?_
  · intro i h _ hm
    rw [List.drop_eq_nil_of_le h] at hm
    cases hm
  · intro i h ih _ hm
    rw [List.drop_eq_getElem_cons h] at hm
    apply ev_succ
    simp only [laws_contains.l0]
    rw [rd_get h, wrap64_id (n := (i : Int) + 1) (by omega) (by omega), succ_cast]
    by_cases e : l[i] = n
    · exact ev_pos (by omega) (ev_pos (by omega) (ev_pos e (ev_now rfl)))
    · refine ev_pos (by omega) (ev_pos (by omega) (ev_neg e (ih (by omega) ?_)))
      rcases List.mem_cons.1 hm with h2 | h2
      · exact absurd h2.symm e
      · exact h2
theorem contains_ev {n : Int} {l : List Int} (hl : l.length ≤ 1000) (hm : n ∈ l) : Ev (fun k => laws_contains.f k l n) true := by
  unfold laws_contains.f
  exact has_contains n l hl 0 (by omega) (by rw [List.drop_zero]; exact hm)
theorem slot_go {r c : Int} {s : ByteArray} (hs : s.size ≤ 100) {i : Nat} (h : i < (slotsM r c s).length) : ∀ (l : List Int) (q : Nat), (cellsM c.toNat (slotsM r c s)[i]).drop q = l →
    Ev (fun k => slGo k r c s (i : Int) (rd (cellsM c.toNat (slotsM r c s)[i]) 0) (rd (cellsM c.toNat (slotsM r c s)[i]) 1 - rd (cellsM c.toNat (slotsM r c s)[i]) 0) l q) true := by
  obtain ⟨R, C, rfl, rfl, g1, g2, g3, g4, g5, g6, hk⟩ := slotsM_ok (List.getElem_mem h)
  have hb := okSlot_bounds g2 g4 hk
  rw [Int.toNat_natCast]
  have hat := fun cell (hc : cell ∈ cellsM C (slotsM (R : Int) (C : Int) s)[i]) => slotsAtM_has (r := (R : Int)) (c := (C : Int)) (s := s) h (cell := cell) (by rw [Int.toNat_natCast]; exact hc)
  have hwh := fun cell (hc : cell ∈ cellsM C (slotsM (R : Int) (C : Int) s)[i]) => slot_white (List.getElem_mem h) (cell := cell) (by rw [Int.toNat_natCast]; exact hc)
  generalize hx : (slotsM (R : Int) (C : Int) s)[i] = x at hb hat hwh ⊢
  have r0 : rd (cellsM C x) 0 = x.f2 + ((0 : Nat) : Int) * (stepM C x.f1 : Int) := cell_rd (q := 0) (by omega)
  have r1 : rd (cellsM C x) 1 = x.f2 + ((1 : Nat) : Int) * (stepM C x.f1 : Int) := cell_rd (q := 1) (by omega)
  have e0 : rd (cellsM C x) 0 = x.f2 := by rw [r0]; omega
  have e1 : rd (cellsM C x) 1 - rd (cellsM C x) 0 = (stepM C x.f1 : Int) := by rw [r0, r1]; omega
  rw [e1, e0]
  have hst := stepM_le g4 (by omega) x.f1
  intro l
  induction l with
  | nil => intro q _; exact ev_now rfl
  | cons y l ih =>
    intro q hq
    have hql : q < (cellsM C x).length := by
      rcases Nat.lt_or_ge q (cellsM C x).length with h2 | h2
      · exact h2
      · rw [List.drop_eq_nil_of_le h2] at hq
        cases hq
    rw [List.drop_eq_getElem_cons hql] at hq
    obtain ⟨hy, hl⟩ := List.cons.inj hq
    have hmem : y ∈ cellsM C x := hy ▸ List.getElem_mem hql
    have hq6 : q < x.f3.toNat := by rwa [cellsM_length] at hql
    rw [cell_at hq6] at hy
    have hbd := mul_bound (j := q) (C := stepM C x.f1) (by omega) hst.2
    have hcast : (q : Int) * (stepM C x.f1 : Int) = ((q * stepM C x.f1 : Nat) : Int) := by rw [Int.natCast_mul]
    have hat2 := slotsAtM_length (R : Int) (C : Int) s y
    simp only [slGo_cons]
    refine ev_bind (impl_IsWhite_ev _ _ s y (by omega)) (ev_bind (impl_SlotsAt_ev _ _ s y (by omega)) (ev_bind (contains_ev (by omega) (hat y hmem)) (ev_pos ⟨hwh y hmem, rfl, ⟨hy.symm, by rw [← hy, hcast]; omega, by rw [hcast]; omega⟩, by omega⟩ (ih (q + 1) hl))))
theorem slots_go {r c : Int} {s : ByteArray} (hs : s.size ≤ 100) : ∀ (l : List ISlot) (i : Nat), (slotsM r c s).drop i = l → Ev (fun k => soGo k r c s (slotsM r c s) l i) true := by
  intro l
  induction l with
  | nil => intro i _; exact ev_now rfl
  | cons x l ih =>
    intro i hi
    have hlt : i < (slotsM r c s).length := by
      rcases Nat.lt_or_ge i (slotsM r c s).length with h2 | h2
      · exact h2
      · rw [List.drop_eq_nil_of_le h2] at hi
        cases hi
    have hgo := slot_go hs hlt _ 0 rfl
    have hce := cellsOfM_elem hlt
    have hnm := named_at hlt
    have hrd := rd_Slot_get hlt
    rw [List.drop_eq_getElem_cons hlt] at hi
    obtain ⟨hx, hl⟩ := List.cons.inj hi
    have hmem := List.getElem_mem hlt
    have hnum := slot_num hmem
    have hprev : 0 < i → ∃ hp : i - 1 < (slotsM r c s).length, rd_T48 (slotsM r c s) ((i : Int) - 1) = (slotsM r c s)[i - 1] ∧ (((slotsM r c s)[i - 1].f0 < (slotsM r c s)[i].f0 ∨ ((slotsM r c s)[i - 1].f0 = (slotsM r c s)[i].f0 ∧ (slotsM r c s)[i - 1].f1 = false ∧ (slotsM r c s)[i].f1 = true)) ∧ (slotsM r c s)[i].f0 ≤ (slotsM r c s)[i - 1].f0 + 1) ∧ 0 ≤ (slotsM r c s)[i - 1].f0 := by
      intro h0
      obtain ⟨j, rfl⟩ : ∃ j, i = j + 1 := ⟨i - 1, by omega⟩
      have hj : j < (slotsM r c s).length := by omega
      have := rd_Slot_get hj
      rw [show j + 1 - 1 = j by omega, show ((j + 1 : Nat) : Int) - 1 = (j : Int) by omega]
      exact ⟨hj, this, slots_next hlt, (slot_num (List.getElem_mem hj)).1⟩
    obtain ⟨R, C, rfl, rfl, g1, g2, g3, g4, g5, g6, hk⟩ := slotsM_ok hmem
    have hb := okSlot_bounds g2 g4 hk
    have hst := stepM_le g4 (by omega) (slotsM (R : Int) (C : Int) s)[i].f1
    simp only [soGo_cons]
    rw [← hx]
    rw [Int.toNat_natCast] at hgo hce
    have e0 := cell_rd (C := C) (x := (slotsM (R : Int) (C : Int) s)[i]) (q := 0) (by omega)
    have e1 := cell_rd (C := C) (x := (slotsM (R : Int) (C : Int) s)[i]) (q := 1) (by omega)
    have hn : impl_SlotName.f (slotsM (R : Int) (C : Int) s)[i].f0 (slotsM (R : Int) (C : Int) s)[i].f1 (slotsM (R : Int) (C : Int) s)[i].f2 (slotsM (R : Int) (C : Int) s)[i].f3 = some (nameM (slotsM (R : Int) (C : Int) s)[i]) := by
      have := itoaM_size (slotsM (R : Int) (C : Int) s)[i].f0 (by omega) (by omega)
      unfold impl_SlotName.f
      rw [if_pos ⟨⟨by omega, by omega⟩, by omega⟩]
      rfl
    have hc := impl_CellsOf_ev (R : Int) (C : Int) s (slotsM (R : Int) (C : Int) s)[i] (by omega)
    rw [hce] at hc
    have hp := impl_SlotNamed_ev (R : Int) (C : Int) s (nameM (slotsM (R : Int) (C : Int) s)[i]) (by omega)
    rw [hnm] at hp
    refine ev_bind hc (ev_let hn (ev_bind hp (ev_pos ⟨⟨?_, ?_, ?_⟩, ⟨?_, rfl⟩, ⟨?_, ?_⟩, ?_⟩ (ev_bind hgo (ev_pos rfl (ih (i + 1) hl))))))
    · rw [cellsM_length]; omega
    · rw [cellsM_length]; omega
    · rw [cellsM_length]; omega
    · rw [show (0 : Int) = ((0 : Nat) : Int) from rfl, e0]; omega
    · rw [show (0 : Int) = ((0 : Nat) : Int) from rfl, e0]; omega
    · rw [show (1 : Int) = ((1 : Nat) : Int) from rfl, e1]; omega
    · intro h0
      obtain ⟨hp, e2, h3, h4⟩ := hprev h0
      rw [hrd, e2]
      unfold slOrd
      rw [Bool.and_eq_true, decide_eq_true_eq]
      refine ⟨by omega, ?_⟩
      rcases h3.1 with h5 | ⟨_, h6, h7⟩
      · rw [Bool.or_eq_true]
        left
        rw [Bool.not_eq_true', beq_eq_false_iff_ne]
        omega
      · rw [h6, h7]
        simp
theorem cells_go {r c : Int} {s : ByteArray} (hs : s.size ≤ 100) (hg : gridM r c s = true) : ∀ (d i : Nat), i + d = s.size → Ev (fun k => scGo k r c s d i) true := by
  intro d
  induction d with
  | zero => intro i _; exact ev_now rfl
  | succ d ih =>
    intro i hi
    simp only [scGo_succ]
    have h2 := slotsAtM_two r c s (i : Int)
    refine ev_bind (impl_SlotsAt_ev r c s (i : Int) (by omega)) (ev_pos h2 ?_)
    by_cases h0 : 0 < (slotsAtM r c s (i : Int)).length
    · refine ev_pos h0 (ev_bind (impl_IsWhite_ev r c s (i : Int) (by omega)) (ev_pos ?_ (ih (i + 1) (by omega))))
      unfold whiteM
      rw [hg, slotsAtM_white h0, decide_eq_true (show 0 ≤ (i : Int) ∧ (i : Int) < (s.size : Int) by omega)]
      rfl
    · exact ev_neg h0 (ih (i + 1) (by omega))
theorem FnSlots : laws_FnSlots.Pure := by
  intro l _ _ _
  apply Ev.rounds
  unfold laws_FnSlots.f
  refine ev_let (laws_big_eq l) ?_
  by_cases hb : (l.length : Int) > 1048576
  · exact ev_pos (decide_eq_true hb) (ev_now rfl)
  · have hl : l.length ≤ 1048576 := by omega
    obtain ⟨r, c, s, hd0, hs⟩ := spec_DrawIsGrid_ev l hl
    have hd : Ev (fun k => spec_DrawSlotsOf.f k l) (r, c, s) := by
      unfold spec_DrawSlotsOf.f
      first | exact hd0 | exact ev_bind hd0 (ev_now rfl)
    have h72 := slotsM_length r c s
    refine ev_neg (by simpa using hb) (ev_bind hd (ev_bind (impl_SlotsOf_ev r c s (by omega)) (ev_bind (impl_IsGrid_ev r c s (by omega)) (ev_bind (spec_IsGrid_ev r c s (by omega)) (ev_pos rfl ?_)))))
    by_cases hg : gridM r c s = true
    · have ht : turnM r c s = (r, c, backM s) := by
        unfold turnM
        rw [if_pos hg]
      have e1 := impl_TurnGrid_ev r c s (by omega)
      rw [ht] at e1
      have hbz := back_size (w := s) hs
      refine ev_pos hg ?_
      unfold laws_FnSlots.g
      exact ev_bind (slots_go hs _ 0 (List.drop_zero ..)) (ev_pos ⟨rfl, by show (slotsM r c s).length ≤ 1000; omega, by show s.size ≤ 1000; omega⟩ (ev_bind (cells_go hs hg _ 0 (Nat.zero_add _)) (ev_pos rfl (ev_bind e1 (ev_bind (impl_SlotsOf_ev r c (backM s) (by omega)) (ev_pos (turn_slots hg) (ev_now rfl)))))))
    · refine ev_neg hg (ev_pos ?_ (ev_now rfl))
      rw [slotsM_nil hg]
      rfl

end Go.Proofs.YtodcckiphdnjeacDoor.Pure
