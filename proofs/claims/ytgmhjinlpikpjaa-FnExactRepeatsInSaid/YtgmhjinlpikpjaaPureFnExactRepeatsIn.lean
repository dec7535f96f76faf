/-
  The law FnExactRepeatsIn over numbers and lists: the program's RepeatsIn and the reference's answer alike for every list of strings.
  Conditions: none.
-/
import Derived.Test.YtgmhjinlpikpjaaQFnExactRepeatsInx
namespace Go.Proofs.Ytgmhjinlpikpjaa.Pure
open Go.RowKit Go.Proofs.Ytgmhjinlpikpjaa.QFnExactRepeatsIn Go.Proofs.YtgmhjinlpikpjaaW.PrintWords Go.Proofs.YtgmhjinlpikpjaaW.PrintLast Go.Proofs.YtgmhjinlpikpjaaW.PrintMore

/-! ### base -/
theorem wrap64_id {n : Int} (h : -9223372036854775808 ≤ n) (h' : n ≤ 9223372036854775807) : wrap64 n = n := by
  unfold wrap64
  omega
section
variable {α β : Type}
theorem ev_succ {g : Nat → Option α} {r : α} (h : Ev (fun k => g (k + 1)) r) : Ev g r := Ev.step (fun _ => rfl) h
theorem ev_pos {c : Prop} [Decidable c] {g f : Nat → Option α} {r : α} (h : c) (k : Ev g r) : Ev (fun n => if c then g n else f n) r := by
  simpa only [if_pos h] using k
theorem ev_neg {c : Prop} [Decidable c] {g f : Nat → Option α} {r : α} (h : ¬ c) (k : Ev f r) : Ev (fun n => if c then g n else f n) r := by
  simpa only [if_neg h] using k
theorem ev_now {a r : α} (h : a = r) : Ev (fun _ => some a) r := h ▸ Ev.now a
theorem ev_let {o : Option β} {a : β} {f : Nat → β → Option α} {r : α} (h : o = some a) (k : Ev (fun n => f n a) r) : Ev (fun n => o.bind (f n)) r := by
  subst h
  exact k
theorem ev_bind {g : Nat → Option β} {f : Nat → β → Option α} {a : β} {r : α} (h : Ev g a) (k : Ev (fun n => f n a) r) : Ev (fun n => (g n).bind (f n)) r := Ev.bind h k
theorem ev_eq {g : Nat → Option α} {a r : α} (h : Ev g a) (e : a = r) : Ev g r := e ▸ h
end
/-- From the end of a loop back to a round: P holds from n on, and a round below n may use the next. -/
theorem down {P : Nat → Prop} (n : Nat) (hend : ∀ i, n ≤ i → P i) (hstep : ∀ i, i < n → P (i + 1) → P i) : ∀ i, P i := by
  intro i
  rcases Nat.lt_or_ge i n with h | h
  · obtain ⟨d, hd⟩ : ∃ d, n = i + d := ⟨n - i, by omega⟩
    induction d generalizing i with
    | zero => omega
    | succ d ih =>
      refine hstep i h ?_
      rcases Nat.lt_or_ge (i + 1) n with h1 | h1
      · exact ih (i + 1) h1 (by omega)
      · exact hend _ h1
  · exact hend i h
theorem range_cons {i n : Nat} (h : i < n) : List.range' i (n - i) = i :: List.range' (i + 1) (n - (i + 1)) := by
  obtain ⟨d, hd⟩ : ∃ d, n - i = d + 1 := ⟨n - i - 1, by omega⟩
  rw [hd, List.range'_succ, show n - (i + 1) = d by omega]
theorem range_nil {i n : Nat} (h : n ≤ i) : List.range' i (n - i) = [] := by
  rw [show n - i = 0 by omega]
  rfl
theorem succ_cast (i : Nat) : ((i : Int) + 1) = ((i + 1 : Nat) : Int) := by omega

/-! ### lists -/
theorem rdOf_get {α : Type} {d : α} {l : List α} {i : Nat} (h : i < l.length) : rdOf d l (i : Int) = l[i] := by
  unfold rdOf
  simp [h]
theorem rd_get {l : List Int} {i : Nat} (h : i < l.length) : rd l (i : Int) = l[i] := by
  unfold rd
  simp [h]
theorem toList_eq (s : ByteArray) : s.toList = s.data.toList := Go.ByteArray.toList_eq s
instance lawfulBA : LawfulBEq ByteArray where
  eq_of_beq {a b} h := ByteArray.ext (eq_of_beq (α := Array UInt8) h)
  rfl {a} := by
    show (a.data == a.data) = true
    simp
theorem toList_inj {a b : ByteArray} : a.toList = b.toList ↔ a = b := by
  constructor
  · intro h
    rw [toList_eq, toList_eq] at h
    cases a
    cases b
    simp only [ByteArray.mk.injEq]
    exact Array.toList_inj.1 h
  · intro h
    rw [h]
theorem set_known {α : Type} {l x : List α} {i : Nat} {a : α} (hi : i < l.length) (hx : x.length = l.length) (ha : a = l[i]) (h : ∀ j, j < i → x[j]? = l[j]?) : ∀ j, j < i + 1 → (x.set i a)[j]? = l[j]? := by
  intro j hj
  by_cases e : j = i
  · subst e
    rw [List.getElem?_set_self (by omega), ha, List.getElem?_eq_getElem hi]
  · rw [List.getElem?_set_ne (Ne.symm e)]
    exact h j (by omega)
theorem all_known {α : Type} {l x : List α} (hx : x.length = l.length) (h : ∀ j, j < l.length → x[j]? = l[j]?) : x = l := by
  apply List.ext_getElem?
  intro j
  by_cases hj : j < l.length
  · exact h j hj
  · rw [List.getElem?_eq_none (by omega), List.getElem?_eq_none (by omega)]

/-! ### strs -/
def total (l : List ByteArray) : Nat := (l.map ByteArray.size).sum
theorem total_drop {l : List ByteArray} {i : Nat} (h : i < l.length) : total (l.drop i) = l[i].size + total (l.drop (i + 1)) := by
  rw [List.drop_eq_getElem_cons h]
  rfl
theorem laws_szStringS_l0_ev (l : List ByteArray) (hl : l.length ≤ 9223372036854775806) (hs : ∀ s ∈ l, s.size ≤ 9223372036854775807) : ∀ i : Nat, i ≤ l.length → ∀ n : Int, 0 ≤ n → n ≤ 1048576 →
    ∃ r : Int, Ev (fun k => laws_szStringS.l0 k l n i) r ∧ (r < 0 ∨ 0 ≤ r ∧ r + total (l.drop i) = n) := by
  refine down l.length ?_ ?_
  · intro i h hi n h0 hn
    refine ⟨n, ?_, .inr ⟨h0, ?_⟩⟩
    · apply ev_succ
      simp only [laws_szStringS.l0]
      exact ev_neg (by omega) (ev_now rfl)
    · rw [List.drop_eq_nil_of_le h]
      simp [total]
  · intro i h ih hi n h0 hn
    have hb := hs l[i] (List.getElem_mem h)
    have ht := total_drop h
    by_cases hneg : n - (l[i].size : Int) < 0
    · refine ⟨-1, ?_, .inl (by omega)⟩
      apply ev_succ
      simp only [laws_szStringS.l0]
      rw [rdOf_get h, wrap64_id (n := n - _) (by omega) (by omega)]
      exact ev_pos (by omega) (ev_pos (by omega) (ev_pos hneg (ev_now rfl)))
    · obtain ⟨r, hr, h1⟩ := ih (by omega) (n - (l[i].size : Int)) (by omega) (by omega)
      refine ⟨r, ?_, ?_⟩
      · apply ev_succ
        simp only [laws_szStringS.l0]
        rw [rdOf_get h, wrap64_id (n := n - _) (by omega) (by omega), wrap64_id (n := (i : Int) + 1) (by omega) (by omega), succ_cast]
        exact ev_pos (by omega) (ev_pos (by omega) (ev_neg hneg hr))
      · rcases h1 with h1 | h1
        · exact .inl h1
        · exact .inr ⟨h1.1, by omega⟩
theorem laws_szStringS_ev (l : List ByteArray) (hl : l.length ≤ 9223372036854775807) (hs : ∀ s ∈ l, s.size ≤ 9223372036854775807) (n : Int) (h0 : 0 ≤ n) (hn : n ≤ 1048576) :
    ∃ r : Int, Ev (fun k => laws_szStringS.f k l n) r ∧ (r < 0 ∨ 0 ≤ r ∧ r + l.length + total l = n) := by
  unfold laws_szStringS.f
  rw [wrap64_id (n := n - _) (by omega) (by omega)]
  by_cases hneg : n - (l.length : Int) < 0
  · exact ⟨-1, ev_pos hneg (ev_now rfl), .inl (by omega)⟩
  · obtain ⟨r, hr, h1⟩ := laws_szStringS_l0_ev l (by omega) hs 0 (by omega) (n - (l.length : Int)) (by omega) (by omega)
    refine ⟨r, ev_neg hneg hr, ?_⟩
    rcases h1 with h1 | h1
    · exact .inl h1
    · exact .inr ⟨h1.1, by have := h1.2; simp at this; omega⟩
theorem laws_toStringS_l0_ev (l : List ByteArray) (hl : l.length ≤ 1048576) : ∀ i : Nat, i ≤ l.length → ∀ x : List ByteArray, x.length = l.length → (∀ j, j < i → x[j]? = l[j]?) → Ev (fun k => laws_toStringS.l0 k l x i) l := by
  refine down l.length ?_ ?_
  · intro i h hi x hx hj
    apply ev_succ
    simp only [laws_toStringS.l0]
    exact ev_neg (by omega) (ev_now (all_known hx (fun j h' => hj j (by omega))))
  · intro i h ih hi x hx hj
    apply ev_succ
    simp only [laws_toStringS.l0]
    rw [rdOf_get h, wrap64_id (n := (i : Int) + 1) (by omega) (by omega), succ_cast, show (i : Int).toNat = i by omega]
    exact ev_pos (by omega) (ev_pos (by omega) (ev_pos (by omega) (ih (by omega) _ (by simpa using hx) (set_known h hx rfl hj))))
theorem laws_toStringS_ev (l : List ByteArray) (hl : l.length ≤ 1048576) : Ev (fun k => laws_toStringS.f k l) l := by
  unfold laws_toStringS.f
  exact ev_pos (by omega) (ev_pos (by omega) (laws_toStringS_l0_ev l hl 0 (by omega) _ (by simp) (by intro j hj; omega)))
theorem laws_eqStringS_l0_ev (a b : List ByteArray) (hl : a.length = b.length) (hb : a.length ≤ 9223372036854775806) : ∀ i : Nat, i ≤ a.length → Ev (fun k => laws_eqStringS.l0 k a b i) (decide (a.drop i = b.drop i)) := by
  refine down a.length ?_ ?_
  · intro i h hi
    apply ev_succ
    simp only [laws_eqStringS.l0]
    refine ev_neg (by omega) (ev_now ?_)
    rw [List.drop_eq_nil_of_le h, List.drop_eq_nil_of_le (by omega)]
    simp
  · intro i h ih hi
    have h' : i < b.length := by omega
    apply ev_succ
    simp only [laws_eqStringS.l0]
    rw [rdOf_get h, rdOf_get h', wrap64_id (n := (i : Int) + 1) (by omega) (by omega), succ_cast, List.drop_eq_getElem_cons h, List.drop_eq_getElem_cons h']
    refine ev_pos (by omega) (ev_pos (by omega) (ev_pos (by omega) ?_))
    by_cases he : a[i].toList = b[i].toList
    · refine ev_pos he (ev_eq (ih (by omega)) ?_)
      rw [toList_inj] at he
      rw [he]
      simp [-List.getElem_cons_drop]
    · refine ev_neg he (ev_now ?_)
      rw [toList_inj] at he
      symm
      simp only [decide_eq_false_iff_not, List.cons.injEq]
      exact fun h => he h.1
theorem laws_eqStringS_ev (a b : List ByteArray) (hb : a.length ≤ 9223372036854775806) : Ev (fun k => laws_eqStringS.f k a b) (decide (a = b)) := by
  unfold laws_eqStringS.f
  by_cases h : a.length = b.length
  · exact ev_pos (by omega) (ev_eq (laws_eqStringS_l0_ev a b h hb 0 (by omega)) (by simp))
  · exact ev_neg (by omega) (ev_now (by symm; simp; intro e; exact h (by rw [e])))

/-! ### once -/
/-- Each word once, in order. -/
def onceM : List ByteArray → List ByteArray → List ByteArray
  | acc, [] => acc
  | acc, s :: r => if s ∈ acc then onceM acc r else onceM (acc ++ [s]) r
theorem onceM_length : ∀ (l acc : List ByteArray), (onceM acc l).length ≤ acc.length + l.length
  | [], acc => by simp [onceM]
  | s :: r, acc => by
    unfold onceM
    split
    · have := onceM_length r acc
      simp only [List.length_cons]; omega
    · have := onceM_length r (acc ++ [s])
      simp only [List.length_cons, List.length_append, List.length_nil] at this ⊢; omega
theorem spec_HasWord_l0_ev (l : List ByteArray) (w : ByteArray) (hl : l.length ≤ 9223372036854775806) : ∀ i : Nat, i ≤ l.length → Ev (fun k => spec_HasWord.l0 k l w i) (decide (w ∈ l.drop i)) := by
  refine down l.length ?_ ?_
  · intro i h hi
    apply ev_succ
    simp only [spec_HasWord.l0]
    exact ev_neg (by omega) (ev_now (by rw [List.drop_eq_nil_of_le h]; simp))
  · intro i h ih hi
    apply ev_succ
    simp only [spec_HasWord.l0]
    rw [rdOf_get h, wrap64_id (n := (i : Int) + 1) (by omega) (by omega), succ_cast, List.drop_eq_getElem_cons h]
    refine ev_pos (by omega) (ev_pos (by omega) ?_)
    by_cases he : l[i].toList = w.toList
    · exact ev_pos he (ev_now (by simp [-List.getElem_cons_drop, toList_inj.1 he]))
    · refine ev_neg he (ev_eq (ih (by omega)) ?_)
      rw [toList_inj] at he
      simp [-List.getElem_cons_drop, show ¬ w = l[i] from fun e => he e.symm]
theorem spec_HasWord_ev (l : List ByteArray) (w : ByteArray) (hl : l.length ≤ 9223372036854775806) : Ev (fun k => spec_HasWord.f k l w) (decide (w ∈ l)) := by
  unfold spec_HasWord.f
  exact ev_eq (spec_HasWord_l0_ev l w hl 0 (by omega)) (by simp)
theorem slices_Index_string_string_l0_ev (l : List ByteArray) (w : ByteArray) (hl : l.length ≤ 9223372036854775806) : ∀ i : Nat, i ≤ l.length → ∃ r : Int, Ev (fun k => slices_Index_string_string.l0 k l w l.length i) r ∧ decide (r ≥ 0) = decide (w ∈ l.drop i) := by
  refine down l.length ?_ ?_
  · intro i h hi
    refine ⟨-1, ?_, by rw [List.drop_eq_nil_of_le h]; simp⟩
    apply ev_succ
    simp only [slices_Index_string_string.l0]
    exact ev_neg (by omega) (ev_now rfl)
  · intro i h ih hi
    by_cases he : w.toList = l[i].toList
    · refine ⟨i, ?_, by rw [List.drop_eq_getElem_cons h]; simp [-List.getElem_cons_drop, toList_inj.1 he]⟩
      apply ev_succ
      simp only [slices_Index_string_string.l0]
      rw [rdOf_get h]
      exact ev_pos (by omega) (ev_pos (by omega) (ev_pos (by omega) (ev_pos he (ev_now rfl))))
    · obtain ⟨r, hr, h1⟩ := ih (by omega)
      refine ⟨r, ?_, ?_⟩
      · apply ev_succ
        simp only [slices_Index_string_string.l0]
        rw [rdOf_get h, wrap64_id (n := (i : Int) + 1) (by omega) (by omega), succ_cast]
        exact ev_pos (by omega) (ev_pos (by omega) (ev_pos (by omega) (ev_neg he hr)))
      · rw [toList_inj] at he
        rw [h1, List.drop_eq_getElem_cons h]
        simp [-List.getElem_cons_drop, he]
theorem slices_Contains_string_string_ev (l : List ByteArray) (w : ByteArray) (hl : l.length ≤ 9223372036854775806) : Ev (fun k => slices_Contains_string_string.f k l w) (decide (w ∈ l)) := by
  unfold slices_Contains_string_string.f slices_Index_string_string.f
  obtain ⟨r, hr, h⟩ := slices_Index_string_string_l0_ev l w hl 0 (by omega)
  exact ev_bind hr (ev_now (by simpa using h))
theorem impl_once_l0_ev (l : List ByteArray) (hl : l.length ≤ 1048576) : ∀ i : Nat, i ≤ l.length → ∀ acc : List ByteArray, acc.length ≤ i → Ev (fun k => impl_once.l0 k acc l l.length i) (onceM acc (l.drop i)) := by
  refine down l.length ?_ ?_
  · intro i h hi acc ha
    apply ev_succ
    simp only [impl_once.l0]
    exact ev_neg (by omega) (ev_now (by rw [List.drop_eq_nil_of_le h]; rfl))
  · intro i h ih hi acc ha
    apply ev_succ
    simp only [impl_once.l0]
    rw [rdOf_get h, wrap64_id (n := (i : Int) + 1) (by omega) (by omega), succ_cast, List.drop_eq_getElem_cons h]
    unfold onceM
    refine ev_pos (by omega) (ev_pos (by omega) (ev_pos (by omega) (ev_bind (slices_Contains_string_string_ev acc l[i] (by omega)) ?_)))
    by_cases hm : l[i] ∈ acc
    · rw [if_pos hm]
      exact ev_pos (by simp [hm]) (ih (by omega) acc (by omega))
    · rw [if_neg hm]
      exact ev_neg (by simp [hm]) (ev_pos (by omega) (ih (by omega) (acc ++ [l[i]]) (by simp; omega)))
theorem impl_once_ev (l : List ByteArray) (hl : l.length ≤ 1048576) : Ev (fun k => impl_once.f k l) (onceM [] l) := by
  unfold impl_once.f
  exact ev_eq (impl_once_l0_ev l hl 0 (by omega) [] (by simp)) (by simp)

/-! ### repeats -/
/-- How many words of a list stood there before. -/
def repM : List ByteArray → List ByteArray → Nat
  | _, [] => 0
  | pre, s :: r => (if s ∈ pre then 1 else 0) + repM (pre ++ [s]) r
theorem repM_le : ∀ (l pre : List ByteArray), repM pre l ≤ l.length
  | [], _ => by simp [repM]
  | s :: r, pre => by
    unfold repM
    have := repM_le r (pre ++ [s])
    simp only [List.length_cons]
    split <;> omega
theorem repM_once : ∀ (l pre acc : List ByteArray), (∀ s, s ∈ pre ↔ s ∈ acc) → repM pre l + (onceM acc l).length = acc.length + l.length
  | [], _, _, _ => by simp [repM, onceM]
  | s :: r, pre, acc, h => by
    unfold repM onceM
    by_cases hs : s ∈ acc
    · rw [if_pos hs, if_pos ((h s).2 hs)]
      have := repM_once r (pre ++ [s]) acc (by
        intro t
        simp only [List.mem_append, List.mem_singleton, h]
        constructor
        · rintro (h1 | h1)
          · exact h1
          · rw [h1]; exact hs
        · exact .inl)
      simp only [List.length_cons]; omega
    · rw [if_neg hs, if_neg (fun x => hs ((h s).1 x))]
      have := repM_once r (pre ++ [s]) (acc ++ [s]) (by intro t; simp [h])
      simp only [List.length_cons, List.length_append, List.length_nil] at this ⊢; omega
theorem spec_RepeatsIn_l0_ev (l : List ByteArray) (hl : l.length ≤ 1048576) : ∀ i : Nat, i ≤ l.length → ∀ n : Int, 0 ≤ n → n ≤ i → Ev (fun k => spec_RepeatsIn.l0 k l n i) (n + repM (l.take i) (l.drop i)) := by
  refine down l.length ?_ ?_
  · intro i h hi n h0 hn
    apply ev_succ
    simp only [spec_RepeatsIn.l0]
    exact ev_neg (by omega) (ev_now (by rw [List.drop_eq_nil_of_le h]; simp [repM]))
  · intro i h ih hi n h0 hn
    apply ev_succ
    simp only [spec_RepeatsIn.l0]
    rw [rdOf_get h, wrap64_id (n := (i : Int) + 1) (by omega) (by omega), wrap64_id (n := n + 1) (by omega) (by omega), succ_cast, show (i : Int).toNat = i by omega, List.drop_eq_getElem_cons h]
    unfold repM
    rw [show l.take i ++ [l[i]] = l.take (i + 1) by rw [List.take_succ_eq_append_getElem h]]
    refine ev_pos (by omega) (ev_pos (by omega) (ev_pos (by omega) (ev_bind (spec_HasWord_ev (l.take i) l[i] (by simp; omega)) ?_)))
    by_cases hm : l[i] ∈ l.take i
    · rw [if_pos hm]
      exact ev_pos (by simp [hm]) (ev_eq (ih (by omega) (n + 1) (by omega) (by omega)) (by simp; omega))
    · rw [if_neg hm]
      exact ev_neg (by simp [hm]) (ev_eq (ih (by omega) n (by omega) (by omega)) (by simp))
theorem spec_RepeatsIn_ev (l : List ByteArray) (hl : l.length ≤ 1048576) : Ev (fun k => spec_RepeatsIn.f k l) (repM [] l : Int) := by
  unfold spec_RepeatsIn.f
  exact ev_eq (spec_RepeatsIn_l0_ev l hl 0 (by omega) 0 (by omega) (by omega)) (by simp)
theorem impl_RepeatsIn_ev (l : List ByteArray) (hl : l.length ≤ 1048576) : Ev (fun k => impl_RepeatsIn.f k l) (repM [] l : Int) := by
  unfold impl_RepeatsIn.f
  have h := repM_once l [] [] (by simp)
  have h2 := onceM_length l []
  simp only [List.length_nil] at h h2
  refine ev_bind (impl_once_ev l hl) (ev_now ?_)
  rw [wrap64_id (by omega) (by omega)]
  omega

/-! ### the law -/
theorem FnExactRepeatsIn (l : List ByteArray) (hl : l.length ≤ 9223372036854775807) (hs : ∀ s ∈ l, s.size ≤ maxLen) : ∃ k, laws_FnExactRepeatsIn.f k l = some true := by
  unfold maxLen at hs
  apply Ev.rounds
  unfold laws_FnExactRepeatsIn.f
  obtain ⟨r, hr, h1⟩ := laws_szStringS_ev l hl hs 1048576 (by omega) (by omega)
  refine ev_bind hr ?_
  rcases h1 with h1 | h1
  · exact ev_pos h1 (ev_now rfl)
  · have hl : l.length ≤ 1048576 := by omega
    exact ev_neg (by omega) (ev_bind (laws_toStringS_ev l hl) (ev_bind (spec_RepeatsIn_ev l hl) (ev_bind (laws_toStringS_ev l hl) (ev_bind (impl_RepeatsIn_ev l hl) (ev_pos rfl
      (ev_bind (laws_toStringS_ev l hl) (ev_bind (laws_eqStringS_ev l l (by omega)) (ev_pos (by simp) (ev_now rfl)))))))))

end Go.Proofs.Ytgmhjinlpikpjaa.Pure
