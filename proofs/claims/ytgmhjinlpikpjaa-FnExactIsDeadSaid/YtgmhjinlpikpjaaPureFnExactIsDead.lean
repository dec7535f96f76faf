/-
  The law FnExactIsDead over numbers and lists: the program's IsDead and the reference's answer alike for all lists of lists of strings.
  Conditions: none.
-/
import Derived.Test.YtgmhjinlpikpjaaQFnExactIsDeadx
namespace Go.Proofs.Ytgmhjinlpikpjaa.Pure
open Go.RowKit Go.Proofs.Ytgmhjinlpikpjaa.QFnExactIsDead Go.Proofs.YtgmhjinlpikpjaaW.PrintWords Go.Proofs.YtgmhjinlpikpjaaW.PrintLast Go.Proofs.YtgmhjinlpikpjaaW.PrintMore
set_option linter.unusedVariables false
set_option linter.unusedSimpArgs false

/-! ### base -/
theorem wrap64_id {n : Int} (h : -9223372036854775808 ≤ n) (h' : n ≤ 9223372036854775807) : wrap64 n = n := by
  unfold wrap64
  omega
section
variable {α β : Type}
theorem ev_succ {g : Nat → Option α} {r : α} (h : Ev (fun k => g (k + 1)) r) : Ev g r := Ev.step (fun _ => rfl) h
theorem ev_pos {c : Prop} [Decidable c] {g f : Nat → Option α} {r : α} (h : c) (k : Ev g r) : Ev (fun n => if c then g n else f n) r := by
  simpa only [if_pos h] using k
theorem ev_neg {c : Prop} [Decidable c] {g f : Nat → Option α} {r : α} (h : ¬ c) (k : Ev f r) : Ev (fun n => if c then g n else f n) r := by
  simpa only [if_neg h] using k
theorem ev_now {a r : α} (h : a = r) : Ev (fun _ => some a) r := h ▸ Ev.now a
theorem ev_let {o : Option β} {a : β} {f : Nat → β → Option α} {r : α} (h : o = some a) (k : Ev (fun n => f n a) r) : Ev (fun n => o.bind (f n)) r := by
  subst h
  exact k
theorem ev_bind {g : Nat → Option β} {f : Nat → β → Option α} {a : β} {r : α} (h : Ev g a) (k : Ev (fun n => f n a) r) : Ev (fun n => (g n).bind (f n)) r := Ev.bind h k
theorem ev_eq {g : Nat → Option α} {a r : α} (h : Ev g a) (e : a = r) : Ev g r := e ▸ h
end
/-- From the end of a loop back to a round: P holds from n on, and a round below n may use the next. -/
theorem down {P : Nat → Prop} (n : Nat) (hend : ∀ i, n ≤ i → P i) (hstep : ∀ i, i < n → P (i + 1) → P i) : ∀ i, P i := by
  intro i
  rcases Nat.lt_or_ge i n with h | h
  · obtain ⟨d, hd⟩ : ∃ d, n = i + d := ⟨n - i, by omega⟩
    induction d generalizing i with
    | zero => omega
    | succ d ih =>
      refine hstep i h ?_
      rcases Nat.lt_or_ge (i + 1) n with h1 | h1
      · exact ih (i + 1) h1 (by omega)
      · exact hend _ h1
  · exact hend i h
theorem range_cons {i n : Nat} (h : i < n) : List.range' i (n - i) = i :: List.range' (i + 1) (n - (i + 1)) := by
  obtain ⟨d, hd⟩ : ∃ d, n - i = d + 1 := ⟨n - i - 1, by omega⟩
  rw [hd, List.range'_succ, show n - (i + 1) = d by omega]
theorem range_nil {i n : Nat} (h : n ≤ i) : List.range' i (n - i) = [] := by
  rw [show n - i = 0 by omega]
  rfl
theorem succ_cast (i : Nat) : ((i : Int) + 1) = ((i + 1 : Nat) : Int) := by omega

/-! ### lists -/
theorem rdOf_get {α : Type} {d : α} {l : List α} {i : Nat} (h : i < l.length) : rdOf d l (i : Int) = l[i] := by
  unfold rdOf
  simp [h]
theorem rd_get {l : List Int} {i : Nat} (h : i < l.length) : rd l (i : Int) = l[i] := by
  unfold rd
  simp [h]
theorem toList_eq (s : ByteArray) : s.toList = s.data.toList := Go.ByteArray.toList_eq s
instance lawfulBA : LawfulBEq ByteArray where
  eq_of_beq {a b} h := ByteArray.ext (eq_of_beq (α := Array UInt8) h)
  rfl {a} := by
    show (a.data == a.data) = true
    simp
theorem toList_inj {a b : ByteArray} : a.toList = b.toList ↔ a = b := by
  constructor
  · intro h
    rw [toList_eq, toList_eq] at h
    cases a
    cases b
    simp only [ByteArray.mk.injEq]
    exact Array.toList_inj.1 h
  · intro h
    rw [h]
theorem set_known {α : Type} {l x : List α} {i : Nat} {a : α} (hi : i < l.length) (hx : x.length = l.length) (ha : a = l[i]) (h : ∀ j, j < i → x[j]? = l[j]?) : ∀ j, j < i + 1 → (x.set i a)[j]? = l[j]? := by
  intro j hj
  by_cases e : j = i
  · subst e
    rw [List.getElem?_set_self (by omega), ha, List.getElem?_eq_getElem hi]
  · rw [List.getElem?_set_ne (Ne.symm e)]
    exact h j (by omega)
theorem all_known {α : Type} {l x : List α} (hx : x.length = l.length) (h : ∀ j, j < l.length → x[j]? = l[j]?) : x = l := by
  apply List.ext_getElem?
  intro j
  by_cases hj : j < l.length
  · exact h j hj
  · rw [List.getElem?_eq_none (by omega), List.getElem?_eq_none (by omega)]

/-! ### strs -/
def total (l : List ByteArray) : Nat := (l.map ByteArray.size).sum
theorem total_drop {l : List ByteArray} {i : Nat} (h : i < l.length) : total (l.drop i) = l[i].size + total (l.drop (i + 1)) := by
  rw [List.drop_eq_getElem_cons h]
  rfl
theorem laws_szStringS_l0_ev (l : List ByteArray) (hl : l.length ≤ 9223372036854775806) (hs : ∀ s ∈ l, s.size ≤ 9223372036854775807) : ∀ i : Nat, i ≤ l.length → ∀ n : Int, 0 ≤ n → n ≤ 1048576 →
    ∃ r : Int, Ev (fun k => laws_szStringS.l0 k l n i) r ∧ (r < 0 ∨ 0 ≤ r ∧ r + total (l.drop i) = n) := by
  refine down l.length ?_ ?_
  · intro i h hi n h0 hn
    refine ⟨n, ?_, .inr ⟨h0, ?_⟩⟩
    · apply ev_succ
      simp only [laws_szStringS.l0]
      exact ev_neg (by omega) (ev_now rfl)
    · rw [List.drop_eq_nil_of_le h]
      simp [total]
  · intro i h ih hi n h0 hn
    have hb := hs l[i] (List.getElem_mem h)
    have ht := total_drop h
    by_cases hneg : n - (l[i].size : Int) < 0
    · refine ⟨-1, ?_, .inl (by omega)⟩
      apply ev_succ
      simp only [laws_szStringS.l0]
      rw [rdOf_get h, wrap64_id (n := n - _) (by omega) (by omega)]
      exact ev_pos (by omega) (ev_pos (by omega) (ev_pos hneg (ev_now rfl)))
    · obtain ⟨r, hr, h1⟩ := ih (by omega) (n - (l[i].size : Int)) (by omega) (by omega)
      refine ⟨r, ?_, ?_⟩
      · apply ev_succ
        simp only [laws_szStringS.l0]
        rw [rdOf_get h, wrap64_id (n := n - _) (by omega) (by omega), wrap64_id (n := (i : Int) + 1) (by omega) (by omega), succ_cast]
        exact ev_pos (by omega) (ev_pos (by omega) (ev_neg hneg hr))
      · rcases h1 with h1 | h1
        · exact .inl h1
        · exact .inr ⟨h1.1, by omega⟩
theorem laws_szStringS_ev (l : List ByteArray) (hl : l.length ≤ 9223372036854775807) (hs : ∀ s ∈ l, s.size ≤ 9223372036854775807) (n : Int) (h0 : 0 ≤ n) (hn : n ≤ 1048576) :
    ∃ r : Int, Ev (fun k => laws_szStringS.f k l n) r ∧ (r < 0 ∨ 0 ≤ r ∧ r + l.length + total l = n) := by
  unfold laws_szStringS.f
  rw [wrap64_id (n := n - _) (by omega) (by omega)]
  by_cases hneg : n - (l.length : Int) < 0
  · exact ⟨-1, ev_pos hneg (ev_now rfl), .inl (by omega)⟩
  · obtain ⟨r, hr, h1⟩ := laws_szStringS_l0_ev l (by omega) hs 0 (by omega) (n - (l.length : Int)) (by omega) (by omega)
    refine ⟨r, ev_neg hneg hr, ?_⟩
    rcases h1 with h1 | h1
    · exact .inl h1
    · exact .inr ⟨h1.1, by have := h1.2; simp at this; omega⟩
theorem laws_toStringS_l0_ev (l : List ByteArray) (hl : l.length ≤ 1048576) : ∀ i : Nat, i ≤ l.length → ∀ x : List ByteArray, x.length = l.length → (∀ j, j < i → x[j]? = l[j]?) → Ev (fun k => laws_toStringS.l0 k l x i) l := by
  refine down l.length ?_ ?_
  · intro i h hi x hx hj
    apply ev_succ
    simp only [laws_toStringS.l0]
    exact ev_neg (by omega) (ev_now (all_known hx (fun j h' => hj j (by omega))))
  · intro i h ih hi x hx hj
    apply ev_succ
    simp only [laws_toStringS.l0]
    rw [rdOf_get h, wrap64_id (n := (i : Int) + 1) (by omega) (by omega), succ_cast, show (i : Int).toNat = i by omega]
    exact ev_pos (by omega) (ev_pos (by omega) (ev_pos (by omega) (ih (by omega) _ (by simpa using hx) (set_known h hx rfl hj))))
theorem laws_toStringS_ev (l : List ByteArray) (hl : l.length ≤ 1048576) : Ev (fun k => laws_toStringS.f k l) l := by
  unfold laws_toStringS.f
  exact ev_pos (by omega) (ev_pos (by omega) (laws_toStringS_l0_ev l hl 0 (by omega) _ (by simp) (by intro j hj; omega)))
theorem laws_eqStringS_l0_ev (a b : List ByteArray) (hl : a.length = b.length) (hb : a.length ≤ 9223372036854775806) : ∀ i : Nat, i ≤ a.length → Ev (fun k => laws_eqStringS.l0 k a b i) (decide (a.drop i = b.drop i)) := by
  refine down a.length ?_ ?_
  · intro i h hi
    apply ev_succ
    simp only [laws_eqStringS.l0]
    refine ev_neg (by omega) (ev_now ?_)
    rw [List.drop_eq_nil_of_le h, List.drop_eq_nil_of_le (by omega)]
    simp
  · intro i h ih hi
    have h' : i < b.length := by omega
    apply ev_succ
    simp only [laws_eqStringS.l0]
    rw [rdOf_get h, rdOf_get h', wrap64_id (n := (i : Int) + 1) (by omega) (by omega), succ_cast, List.drop_eq_getElem_cons h, List.drop_eq_getElem_cons h']
    refine ev_pos (by omega) (ev_pos (by omega) (ev_pos (by omega) ?_))
    by_cases he : a[i].toList = b[i].toList
    · refine ev_pos he (ev_eq (ih (by omega)) ?_)
      rw [toList_inj] at he
      rw [he]
      simp [-List.getElem_cons_drop]
    · refine ev_neg he (ev_now ?_)
      rw [toList_inj] at he
      symm
      simp only [decide_eq_false_iff_not, List.cons.injEq]
      exact fun h => he h.1
theorem laws_eqStringS_ev (a b : List ByteArray) (hb : a.length ≤ 9223372036854775806) : Ev (fun k => laws_eqStringS.f k a b) (decide (a = b)) := by
  unfold laws_eqStringS.f
  by_cases h : a.length = b.length
  · exact ev_pos (by omega) (ev_eq (laws_eqStringS_l0_ev a b h hb 0 (by omega)) (by simp))
  · exact ev_neg (by omega) (ev_now (by symm; simp; intro e; exact h (by rw [e])))

/-! ### choices -/
theorem rd_rows_get {l : List (List ByteArray)} {i : Nat} (h : i < l.length) : rd_L1 l (i : Int) = l[i] := by
  unfold rd_L1
  simp [h]
def totals (l : List (List ByteArray)) : Nat := (l.map fun x => x.length + total x).sum
theorem totals_drop {l : List (List ByteArray)} {i : Nat} (h : i < l.length) : totals (l.drop i) = l[i].length + total l[i] + totals (l.drop (i + 1)) := by
  rw [List.drop_eq_getElem_cons h]
  rfl
theorem mem_totals {l : List (List ByteArray)} {x : List ByteArray} (h : x ∈ l) : x.length + total x ≤ totals l := by
  induction l with
  | nil => cases h
  | cons a r ih =>
    have e : totals (a :: r) = a.length + total a + totals r := rfl
    rcases List.mem_cons.1 h with rfl | h
    · omega
    · have := ih h
      omega
theorem laws_szStringSS_l0_ev (l : List (List ByteArray)) (hl : l.length ≤ 9223372036854775806) (hs : ∀ x ∈ l, (∀ s ∈ x, s.size ≤ 9223372036854775807) ∧ x.length ≤ 9223372036854775807) : ∀ i : Nat, i ≤ l.length → ∀ n : Int, 0 ≤ n → n ≤ 1048576 →
    ∃ r : Int, Ev (fun k => laws_szStringSS.l0 k l n i) r ∧ (r < 0 ∨ 0 ≤ r ∧ r + totals (l.drop i) = n) := by
  refine down l.length ?_ ?_
  · intro i h hi n h0 hn
    refine ⟨n, ?_, .inr ⟨h0, ?_⟩⟩
    · apply ev_succ
      simp only [laws_szStringSS.l0]
      exact ev_neg (by omega) (ev_now rfl)
    · rw [List.drop_eq_nil_of_le h]
      simp [totals]
  · intro i h ih hi n h0 hn
    have hb := hs l[i] (List.getElem_mem h)
    have ht := totals_drop h
    obtain ⟨r, hr, h1⟩ := laws_szStringS_ev l[i] hb.2 hb.1 n h0 hn
    by_cases hneg : r < 0
    · refine ⟨-1, ?_, .inl (by omega)⟩
      apply ev_succ
      simp only [laws_szStringSS.l0]
      rw [rd_rows_get h]
      exact ev_pos (by omega) (ev_pos (by omega) (ev_bind hr (ev_pos hneg (ev_now rfl))))
    · obtain ⟨r2, hr2, h2⟩ := ih (by omega) r (by omega) (by omega)
      refine ⟨r2, ?_, ?_⟩
      · apply ev_succ
        simp only [laws_szStringSS.l0]
        rw [rd_rows_get h, wrap64_id (n := (i : Int) + 1) (by omega) (by omega), succ_cast]
        exact ev_pos (by omega) (ev_pos (by omega) (ev_bind hr (ev_neg hneg hr2)))
      · rcases h2 with h2 | h2
        · exact .inl h2
        · exact .inr ⟨h2.1, by omega⟩
theorem laws_szStringSS_ev (l : List (List ByteArray)) (hl : l.length ≤ 9223372036854775807) (hs : ∀ x ∈ l, (∀ s ∈ x, s.size ≤ 9223372036854775807) ∧ x.length ≤ 9223372036854775807) (n : Int) (h0 : 0 ≤ n) (hn : n ≤ 1048576) :
    ∃ r : Int, Ev (fun k => laws_szStringSS.f k l n) r ∧ (r < 0 ∨ 0 ≤ r ∧ r + l.length + totals l = n) := by
  unfold laws_szStringSS.f
  rw [wrap64_id (n := n - _) (by omega) (by omega)]
  by_cases hneg : n - (l.length : Int) < 0
  · exact ⟨-1, ev_pos hneg (ev_now rfl), .inl (by omega)⟩
  · obtain ⟨r, hr, h1⟩ := laws_szStringSS_l0_ev l (by omega) hs 0 (by omega) (n - (l.length : Int)) (by omega) (by omega)
    refine ⟨r, ev_neg hneg hr, ?_⟩
    rcases h1 with h1 | h1
    · exact .inl h1
    · exact .inr ⟨h1.1, by have := h1.2; simp at this; omega⟩
theorem laws_toStringSS_l0_ev (l : List (List ByteArray)) (hl : l.length ≤ 1048576) (hs : ∀ x ∈ l, x.length ≤ 1048576) : ∀ i : Nat, i ≤ l.length → ∀ x : List (List ByteArray), x.length = l.length → (∀ j, j < i → x[j]? = l[j]?) → Ev (fun k => laws_toStringSS.l0 k l x i) l := by
  refine down l.length ?_ ?_
  · intro i h hi x hx hj
    apply ev_succ
    simp only [laws_toStringSS.l0]
    exact ev_neg (by omega) (ev_now (all_known hx (fun j h' => hj j (by omega))))
  · intro i h ih hi x hx hj
    have hb := hs l[i] (List.getElem_mem h)
    apply ev_succ
    simp only [laws_toStringSS.l0]
    rw [rd_rows_get h, wrap64_id (n := (i : Int) + 1) (by omega) (by omega), succ_cast, show (i : Int).toNat = i by omega]
    exact ev_pos (by omega) (ev_pos (by omega) (ev_bind (laws_toStringS_ev l[i] hb) (ev_pos (by omega) (ih (by omega) _ (by simpa using hx) (set_known h hx rfl hj)))))
theorem laws_toStringSS_ev (l : List (List ByteArray)) (hl : l.length ≤ 1048576) (hs : ∀ x ∈ l, x.length ≤ 1048576) : Ev (fun k => laws_toStringSS.f k l) l := by
  unfold laws_toStringSS.f
  exact ev_pos (by omega) (ev_pos (by omega) (laws_toStringSS_l0_ev l hl hs 0 (by omega) _ (by simp) (by intro j hj; omega)))
theorem laws_eqStringSS_l0_ev (a b : List (List ByteArray)) (hl : a.length = b.length) (hb : a.length ≤ 9223372036854775806) (hs : ∀ x ∈ a, x.length ≤ 9223372036854775806) : ∀ i : Nat, i ≤ a.length → Ev (fun k => laws_eqStringSS.l0 k a b i) (decide (a.drop i = b.drop i)) := by
  refine down a.length ?_ ?_
  · intro i h hi
    apply ev_succ
    simp only [laws_eqStringSS.l0]
    refine ev_neg (by omega) (ev_now ?_)
    rw [List.drop_eq_nil_of_le h, List.drop_eq_nil_of_le (by omega)]
    simp
  · intro i h ih hi
    have h' : i < b.length := by omega
    have hb1 := hs a[i] (List.getElem_mem h)
    apply ev_succ
    simp only [laws_eqStringSS.l0]
    rw [rd_rows_get h, rd_rows_get h', wrap64_id (n := (i : Int) + 1) (by omega) (by omega), succ_cast, List.drop_eq_getElem_cons h, List.drop_eq_getElem_cons h']
    refine ev_pos (by omega) (ev_pos (by omega) (ev_pos (by omega) (ev_bind (laws_eqStringS_ev a[i] b[i] hb1) ?_)))
    by_cases he : a[i] = b[i]
    · refine ev_pos (by simpa using he) (ev_eq (ih (by omega)) ?_)
      rw [he]
      simp [-List.getElem_cons_drop]
    · refine ev_neg (by simpa using he) (ev_now ?_)
      symm
      simp only [decide_eq_false_iff_not, List.cons.injEq]
      exact fun h => he h.1
theorem laws_eqStringSS_ev (a b : List (List ByteArray)) (hb : a.length ≤ 9223372036854775806) (hs : ∀ x ∈ a, x.length ≤ 9223372036854775806) : Ev (fun k => laws_eqStringSS.f k a b) (decide (a = b)) := by
  unfold laws_eqStringSS.f
  by_cases h : a.length = b.length
  · exact ev_pos (by omega) (ev_eq (laws_eqStringSS_l0_ev a b h hb hs 0 (by omega)) (by simp))
  · exact ev_neg (by omega) (ev_now (by symm; simp; intro e; exact h (by rw [e])))

/-! ### dead -/
def deadM (l : List (List ByteArray)) : Bool := l.any fun x => x.length == 0
theorem spec_IsDead_l0_ev (l : List (List ByteArray)) (hl : l.length ≤ 1048576) : ∀ i : Nat, i ≤ l.length → Ev (fun k => spec_IsDead.l0 k l i) (deadM (l.drop i)) := by
  refine down l.length ?_ ?_
  · intro i h hi
    apply ev_succ
    simp only [spec_IsDead.l0]
    exact ev_neg (by omega) (ev_now (by rw [List.drop_eq_nil_of_le h]; rfl))
  · intro i h ih hi
    apply ev_succ
    simp only [spec_IsDead.l0]
    rw [rd_rows_get h, wrap64_id (n := (i : Int) + 1) (by omega) (by omega), succ_cast, List.drop_eq_getElem_cons h]
    have e : deadM (l[i] :: l.drop (i + 1)) = ((l[i].length == 0) || deadM (l.drop (i + 1))) := rfl
    rw [e]
    refine ev_pos (by omega) (ev_pos (by omega) ?_)
    by_cases h1 : l[i].length = 0
    · exact ev_pos (by omega) (ev_now (by simp [h1]))
    · exact ev_neg (by omega) (ev_eq (ih (by omega)) (by simp [h1]))
theorem spec_IsDead_ev (l : List (List ByteArray)) (hl : l.length ≤ 1048576) : Ev (fun k => spec_IsDead.f k l) (deadM l) := by
  unfold spec_IsDead.f
  simpa using spec_IsDead_l0_ev l hl 0 (by omega)
theorem impl_IsDead_eq (l : List (List ByteArray)) (hl : l.length ≤ 1048576) : impl_IsDead.f l = some (deadM l) := if_pos hl

/-! ### the law -/
theorem FnExactIsDead (l : List (List ByteArray)) (hl : l.length ≤ 9223372036854775807) (hs : ∀ x ∈ l, (∀ s ∈ x, s.size ≤ maxLen) ∧ x.length ≤ maxLen) : ∃ k, laws_FnExactIsDead.f k l = some true := by
  unfold maxLen at hs
  apply Ev.rounds
  unfold laws_FnExactIsDead.f
  obtain ⟨r, hr, h1⟩ := laws_szStringSS_ev l hl hs 1048576 (by omega) (by omega)
  refine ev_bind hr ?_
  rcases h1 with h1 | h1
  · exact ev_pos h1 (ev_now rfl)
  · have hl : l.length ≤ 1048576 := by omega
    have hx : ∀ x ∈ l, x.length ≤ 1048576 := fun x h => by have := mem_totals h; omega
    exact ev_neg (by omega) (ev_bind (laws_toStringSS_ev l hl hx) (ev_bind (spec_IsDead_ev l hl) (ev_bind (laws_toStringSS_ev l hl hx) (ev_let (impl_IsDead_eq l hl) (ev_neg (by simp)
      (ev_bind (laws_toStringSS_ev l hl hx) (ev_bind (laws_eqStringSS_ev l l (by omega) (fun x h => by have := hx x h; omega)) (ev_pos (by simp) (ev_now rfl)))))))))

end Go.Proofs.Ytgmhjinlpikpjaa.Pure
