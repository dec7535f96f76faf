
/-
  The law FnFilled over numbers and lists: for every code, the fills that are found are right fills, each once, and pruned candidates have all of their words.
  Conditions: none.
-/
import Derived.Test.YtodcckiphdnjeaaQFnFilledx
import Derived.Lib.Join
import Derived.Lib.SplitLaws
namespace Go.Proofs.Ytodcckiphdnjeaa.Pure
open Go.RowKit Go.Proofs.Ytodcckiphdnjeaa.QFnFilled Go.Proofs.YtodcckiphdnjeaaW.PrintWords Go.Proofs.YtodcckiphdnjeaaW.PrintLast Go.Proofs.YtodcckiphdnjeaaW.PrintMore
set_option linter.unusedVariables false
set_option linter.unusedSimpArgs false

/-! ### base -/
theorem wrap64_id {n : Int} (h : -9223372036854775808 ≤ n) (h' : n ≤ 9223372036854775807) : wrap64 n = n := by
  unfold wrap64
  omega
section
variable {α β : Type}
theorem ev_succ {g : Nat → Option α} {r : α} (h : Ev (fun k => g (k + 1)) r) : Ev g r := Ev.step (fun _ => rfl) h
theorem ev_pos {c : Prop} [Decidable c] {g f : Nat → Option α} {r : α} (h : c) (k : Ev g r) : Ev (fun n => if c then g n else f n) r := by
  simpa only [if_pos h] using k
theorem ev_neg {c : Prop} [Decidable c] {g f : Nat → Option α} {r : α} (h : ¬ c) (k : Ev f r) : Ev (fun n => if c then g n else f n) r := by
  simpa only [if_neg h] using k
theorem ev_now {a r : α} (h : a = r) : Ev (fun _ => some a) r := h ▸ Ev.now a
theorem ev_let {o : Option β} {a : β} {f : Nat → β → Option α} {r : α} (h : o = some a) (k : Ev (fun n => f n a) r) : Ev (fun n => o.bind (f n)) r := by
  subst h
  exact k
theorem ev_bind {g : Nat → Option β} {f : Nat → β → Option α} {a : β} {r : α} (h : Ev g a) (k : Ev (fun n => f n a) r) : Ev (fun n => (g n).bind (f n)) r := Ev.bind h k
theorem ev_eq {g : Nat → Option α} {a r : α} (h : Ev g a) (e : a = r) : Ev g r := e ▸ h
end
/-- From the end of a loop back to a round: P holds from n on, and a round below n may use the next. -/
theorem down {P : Nat → Prop} (n : Nat) (hend : ∀ i, n ≤ i → P i) (hstep : ∀ i, i < n → P (i + 1) → P i) : ∀ i, P i := by
  intro i
  rcases Nat.lt_or_ge i n with h | h
  · obtain ⟨d, hd⟩ : ∃ d, n = i + d := ⟨n - i, by omega⟩
    induction d generalizing i with
    | zero => omega
    | succ d ih =>
      refine hstep i h ?_
      rcases Nat.lt_or_ge (i + 1) n with h1 | h1
      · exact ih (i + 1) h1 (by omega)
      · exact hend _ h1
  · exact hend i h
theorem range_cons {i n : Nat} (h : i < n) : List.range' i (n - i) = i :: List.range' (i + 1) (n - (i + 1)) := by
  obtain ⟨d, hd⟩ : ∃ d, n - i = d + 1 := ⟨n - i - 1, by omega⟩
  rw [hd, List.range'_succ, show n - (i + 1) = d by omega]
theorem range_nil {i n : Nat} (h : n ≤ i) : List.range' i (n - i) = [] := by
  rw [show n - i = 0 by omega]
  rfl
theorem succ_cast (i : Nat) : ((i : Int) + 1) = ((i + 1 : Nat) : Int) := by omega

/-! ### search -/
section
variable {F W : Type}
/-- Each slot from k on (d of them) has a word that fits. -/
def openM (fit : Nat → F → W → Bool) (D : List W) (d k : Nat) (f : F) : Bool := (List.range' k d).all fun j => D.any fun w => fit j f w
variable [DecidableEq W]
def srchI (fit : Nat → F → W → Bool) (wr : Nat → F → W → F) (D : List W) (most : Nat) : Nat → Nat → F → List W → List F → List F
  | 0, _, f, _, out => out ++ [f]
  | d + 1, k, f, used, out => if openM fit D (d + 1) k f = true then D.foldl (fun o w => if o.length = most then o else if fit k f w = true ∧ w ∉ used then srchI fit wr D most d (k + 1) (wr k f w) (used ++ [w]) o else o) out else out
theorem srchI_length (fit : Nat → F → W → Bool) (wr : Nat → F → W → F) (D : List W) (most : Nat) : ∀ (d k : Nat) (f : F) (used : List W) (out : List F), out.length < most → (srchI fit wr D most d k f used out).length ≤ most
  | 0, k, f, used, out, h => by simp [srchI]; omega
  | d + 1, k, f, used, out, h => by
    unfold srchI
    split
    · have aux : ∀ (l : List W) (o : List F), o.length ≤ most → (l.foldl (fun o w => if o.length = most then o else if fit k f w = true ∧ w ∉ used then srchI fit wr D most d (k + 1) (wr k f w) (used ++ [w]) o else o) o).length ≤ most := by
        intro l
        induction l with
        | nil => intro o ho; exact ho
        | cons w l ih =>
          intro o ho
          rw [List.foldl_cons]
          refine ih _ ?_
          split
          · exact ho
          · split
            · exact srchI_length fit wr D most d (k + 1) _ _ o (by omega)
            · exact ho
      exact aux D out (by omega)
    · omega
end

/-! ### allfills -/
/-! The search without a bound: what it finds, each once. -/
section
variable {F W : Type} [DecidableEq W]
/-- All fills. -/
def allI (fit : Nat → F → W → Bool) (wr : Nat → F → W → F) (D : List W) : Nat → Nat → F → List W → List F
  | 0, _, f, _ => [f]
  | d + 1, k, f, used => if openM fit D (d + 1) k f = true then D.flatMap (fun w => if fit k f w = true ∧ w ∉ used then allI fit wr D d (k + 1) (wr k f w) (used ++ [w]) else []) else []
theorem srchI_take (fit : Nat → F → W → Bool) (wr : Nat → F → W → F) (D : List W) (most : Nat) : ∀ (d k : Nat) (f : F) (used : List W) (out : List F), out.length < most → srchI fit wr D most d k f used out = out ++ (allI fit wr D d k f used).take (most - out.length)
  | 0, k, f, used, out, h => by
    unfold srchI allI
    rw [List.take_of_length_le (by simp; omega)]
  | d + 1, k, f, used, out, h => by
    unfold srchI allI
    by_cases ho : openM fit D (d + 1) k f = true
    · rw [if_pos ho, if_pos ho]
      have aux : ∀ (l : List W) (o : List F), o.length ≤ most → l.foldl (fun o w => if o.length = most then o else if fit k f w = true ∧ w ∉ used then srchI fit wr D most d (k + 1) (wr k f w) (used ++ [w]) o else o) o = o ++ (l.flatMap (fun w => if fit k f w = true ∧ w ∉ used then allI fit wr D d (k + 1) (wr k f w) (used ++ [w]) else [])).take (most - o.length) := by
        intro l
        induction l with
        | nil => intro o _; simp
        | cons w l ih =>
          intro o ho
          rw [List.foldl_cons, List.flatMap_cons]
          by_cases hm : o.length = most
          · rw [if_pos hm, ih o ho, show most - o.length = 0 by omega, List.take_zero, List.take_zero]
          · rw [if_neg hm]
            by_cases hc : fit k f w = true ∧ w ∉ used
            · rw [if_pos hc, if_pos hc]
              have e := srchI_take fit wr D most d (k + 1) (wr k f w) (used ++ [w]) o (by omega)
              have hl := srchI_length fit wr D most d (k + 1) (wr k f w) (used ++ [w]) o (by omega)
              rw [ih _ hl, e, List.append_assoc, List.take_append]
              congr 2
              rw [List.length_append, List.length_take]
              by_cases h1 : (allI fit wr D d (k + 1) (wr k f w) (used ++ [w])).length ≤ most - o.length
              · rw [Nat.min_eq_right h1, Nat.sub_sub]
              · rw [Nat.min_eq_left (by omega), show most - (o.length + (most - o.length)) = 0 by omega, show most - o.length - (allI fit wr D d (k + 1) (wr k f w) (used ++ [w])).length = 0 by omega]
            · rw [if_neg hc, if_neg hc, List.nil_append]
              exact ih o ho
      exact aux D out (by omega)
    · rw [if_neg ho, if_neg ho]
      simp
/-- What holds of each step holds of all that is found. -/
theorem allI_all (fit : Nat → F → W → Bool) (wr : Nat → F → W → F) (D : List W) (n : Nat) (P : Nat → F → List W → Prop) (hs : ∀ k f used w, k < n → P k f used → w ∈ D → fit k f w = true → w ∉ used → P (k + 1) (wr k f w) (used ++ [w])) : ∀ (d k : Nat) (f : F) (used : List W), k + d = n → P k f used → ∀ x ∈ allI fit wr D d k f used, ∃ t, P n x (used ++ t)
  | 0, k, f, used, hk, hp, x, hx => by
    unfold allI at hx
    rw [List.mem_singleton] at hx
    subst hx
    refine ⟨[], ?_⟩
    rw [List.append_nil, ← hk]
    exact hp
  | d + 1, k, f, used, hk, hp, x, hx => by
    unfold allI at hx
    split at hx
    · obtain ⟨w, hw, hx⟩ := List.mem_flatMap.1 hx
      split at hx
      · rename_i hc
        obtain ⟨t, ht⟩ := allI_all fit wr D n P hs d (k + 1) _ _ (by omega) (hs k f used w (by omega) hp hw hc.1 hc.2) x hx
        exact ⟨[w] ++ t, by rw [← List.append_assoc]; exact ht⟩
      · cases hx
    · cases hx
/-- No fill is found twice. -/
theorem allI_nodup (fit : Nat → F → W → Bool) (wr : Nat → F → W → F) (D : List W) (n : Nat) (P : Nat → F → List W → Prop) (hs : ∀ k f used w, k < n → P k f used → w ∈ D → fit k f w = true → w ∉ used → P (k + 1) (wr k f w) (used ++ [w])) (hD : D.Nodup) (hlen : ∀ k f used, P k f used → used.length = k) (key : Nat → F → W) (hkey : ∀ x U, P n x U → ∀ k (h : k < U.length), key k x = U[k]) : ∀ (d k : Nat) (f : F) (used : List W), k + d = n → P k f used → (allI fit wr D d k f used).Nodup
  | 0, k, f, used, hk, hp => by
    unfold allI
    simp
  | d + 1, k, f, used, hk, hp => by
    unfold allI
    split
    · have hkw : ∀ w ∈ D, ∀ x ∈ (if fit k f w = true ∧ w ∉ used then allI fit wr D d (k + 1) (wr k f w) (used ++ [w]) else []), key k x = w := by
        intro w hw x hx
        split at hx
        · rename_i hc
          obtain ⟨t, ht⟩ := allI_all fit wr D n P hs d (k + 1) _ _ (by omega) (hs k f used w (by omega) hp hw hc.1 hc.2) x hx
          have hl := hlen k f used hp
          rw [hkey x _ ht k (by simp; omega), List.getElem_append_left (by simp; omega), List.getElem_append_right (by omega)]
          simp
        · cases hx
      refine List.pairwise_flatMap.2 ⟨fun w hw => ?_, ?_⟩
      · split
        · rename_i hc
          exact allI_nodup fit wr D n P hs hD hlen key hkey d (k + 1) _ _ (by omega) (hs k f used w (by omega) hp hw hc.1 hc.2)
        · exact List.Pairwise.nil
      · refine List.Pairwise.imp_of_mem ?_ hD
        intro a b ha hb hab x hx y hy e
        exact hab ((hkw a ha x hx).symm.trans (e ▸ hkw b hb y hy))
    · exact List.Pairwise.nil
end

/-! ### lists -/
theorem rdOf_get {α : Type} {d : α} {l : List α} {i : Nat} (h : i < l.length) : rdOf d l (i : Int) = l[i] := by
  unfold rdOf
  simp [h]
theorem rd_get {l : List Int} {i : Nat} (h : i < l.length) : rd l (i : Int) = l[i] := by
  unfold rd
  simp [h]
theorem toList_eq (s : ByteArray) : s.toList = s.data.toList := Go.ByteArray.toList_eq s
instance lawfulBA : LawfulBEq ByteArray where
  eq_of_beq {a b} h := ByteArray.ext (eq_of_beq (α := Array UInt8) h)
  rfl {a} := by
    show (a.data == a.data) = true
    simp
theorem toList_inj {a b : ByteArray} : a.toList = b.toList ↔ a = b := by
  constructor
  · intro h
    rw [toList_eq, toList_eq] at h
    cases a
    cases b
    simp only [ByteArray.mk.injEq]
    exact Array.toList_inj.1 h
  · intro h
    rw [h]
/-! ### word -/
/-- A byte is a small letter. -/
def isL (c : Int) : Bool := decide (97 ≤ c ∧ c ≤ 122)
/-- A word: one to eight small letters. -/
def wordM (s : ByteArray) : Bool := decide (1 ≤ s.size ∧ s.size ≤ 8) && (List.range' 0 (s.size - 0)).all fun j => isL (bt s j)
theorem spec_l1In_eq (a b c : Int) : spec_l1In.f a b c = some (decide (b ≤ a ∧ a ≤ c)) := by
  unfold spec_l1In.f
  by_cases h : b ≤ a
  · rw [if_pos h]; simp [h]
  · rw [if_neg h]; simp [h]
theorem impl_InRange_eq (a b c : Int) : impl_InRange.f a b c = some (decide (b ≤ a ∧ a ≤ c)) := by
  unfold impl_InRange.f
  by_cases h : b ≤ a
  · rw [if_pos h]; simp [h]
  · rw [if_neg h]; simp [h]
theorem impl_isLetter_eq (c : Int) : impl_isLetter.f c = some (isL c) := by
  unfold impl_isLetter.f isL
  by_cases h : c ≥ 97
  · rw [if_pos h]; congr 1; simp; omega
  · rw [if_neg h]; congr 1; simp; omega
theorem spec_IsWord_l0_ev (s : ByteArray) (hs : s.size ≤ 140737488351232) : ∀ i : Nat, i ≤ s.size → Ev (fun k => spec_IsWord.l0 k s i) ((List.range' i (s.size - i)).all fun j => isL (bt s j)) := by
  refine down s.size ?_ ?_
  · intro i h hi
    apply ev_succ
    simp only [spec_IsWord.l0]
    refine ev_neg (by omega) (ev_now ?_)
    rw [range_nil h]; rfl
  · intro i h ih hi
    apply ev_succ
    simp only [spec_IsWord.l0]
    rw [range_cons h, List.all_cons, wrap64_id (by omega) (by omega), succ_cast]
    refine ev_pos (by omega) (ev_pos (by omega) ?_)
    by_cases h1 : bt s i < 97
    · exact ev_pos h1 (ev_now (by simp [isL]; omega))
    · refine ev_neg h1 ?_
      by_cases h2 : bt s i > 122
      · exact ev_pos h2 (ev_now (by simp [isL]; omega))
      · refine ev_neg h2 (ev_eq (ih (by omega)) ?_)
        rw [show isL (bt s i) = true by simp [isL]; omega, Bool.true_and]
theorem impl_IsWord_l0_ev (s : ByteArray) (hs : s.size ≤ 140737488351232) : ∀ i : Nat, i ≤ s.size → Ev (fun k => impl_IsWord.l0 k s s.size i) ((List.range' i (s.size - i)).all fun j => isL (bt s j)) := by
  refine down s.size ?_ ?_
  · intro i h hi
    apply ev_succ
    simp only [impl_IsWord.l0]
    refine ev_neg (by omega) (ev_now ?_)
    rw [range_nil h]; rfl
  · intro i h ih hi
    apply ev_succ
    simp only [impl_IsWord.l0]
    rw [range_cons h, List.all_cons, wrap64_id (by omega) (by omega), succ_cast]
    refine ev_pos (by omega) (ev_pos (by omega) (ev_pos (by omega) (ev_let (impl_isLetter_eq _) ?_)))
    cases isL (bt s i)
    · exact ev_neg (by simp) (ev_now (by simp))
    · exact ev_pos rfl (ev_eq (ih (by omega)) (by simp))
theorem spec_IsWord_ev (s : ByteArray) (hs : s.size ≤ 140737488351232) : Ev (fun k => spec_IsWord.f k s) (wordM s) := by
  simp only [spec_IsWord.f]
  refine ev_let (spec_l1In_eq _ _ _) ?_
  by_cases h : 1 ≤ s.size ∧ s.size ≤ 8
  · refine ev_pos (by simp; omega) (ev_eq (spec_IsWord_l0_ev s hs 0 (by omega)) ?_)
    simp [wordM, h]
  · refine ev_neg (by simp; omega) (ev_now ?_)
    simp [wordM, h]
theorem impl_IsWord_ev (s : ByteArray) (hs : s.size ≤ 140737488351232) : Ev (fun k => impl_IsWord.f k s) (wordM s) := by
  simp only [impl_IsWord.f]
  refine ev_let (impl_InRange_eq _ _ _) ?_
  by_cases h : 1 ≤ s.size ∧ s.size ≤ 8
  · refine ev_pos (by simp; omega) (ev_eq (impl_IsWord_l0_ev s hs 0 (by omega)) ?_)
    simp [wordM, h]
  · refine ev_neg (by simp; omega) (ev_now ?_)
    simp [wordM, h]
/-! ### grid -/
/-- A cell's sign. -/
def isC (c : Int) : Bool := decide (c = 35) || decide (c = 46)
/-- A grid: 2 to 6 rows and columns, its cells black or white. -/
def gridM (r c : Int) (s : ByteArray) : Bool := decide (2 ≤ r ∧ r ≤ 6) && decide (2 ≤ c ∧ c ≤ 6) && decide ((s.size : Int) = r * c) && (List.range' 0 (s.size - 0)).all fun j => isC (bt s j)
theorem gridM_nat {r c : Int} {s : ByteArray} (h : gridM r c s = true) : ∃ R C : Nat, r = R ∧ c = C ∧ 2 ≤ R ∧ R ≤ 6 ∧ 2 ≤ C ∧ C ≤ 6 ∧ s.size = R * C := by
  simp only [gridM, Bool.and_eq_true, decide_eq_true_eq] at h
  obtain ⟨⟨⟨hr, hc⟩, hs⟩, _⟩ := h
  obtain ⟨R, rfl⟩ := Int.eq_ofNat_of_zero_le (show 0 ≤ r by omega)
  obtain ⟨C, rfl⟩ := Int.eq_ofNat_of_zero_le (show 0 ≤ c by omega)
  exact ⟨R, C, rfl, rfl, by omega, by omega, by omega, by omega, by exact_mod_cast hs⟩
theorem bounds36 {R C : Nat} (hR : R ≤ 6) (hC : C ≤ 6) : R * C ≤ 36 := Nat.mul_le_mul hR hC
theorem spec_IsGrid_l0_ev (r c : Int) (s : ByteArray) (hs : s.size ≤ 140737488351232) : ∀ i : Nat, i ≤ s.size → Ev (fun k => spec_IsGrid.l0 k i r c s) ((List.range' i (s.size - i)).all fun j => isC (bt s j)) := by
  refine down s.size ?_ ?_
  · intro i h hi
    apply ev_succ
    simp only [spec_IsGrid.l0]
    refine ev_neg (by omega) (ev_now ?_)
    rw [range_nil h]; rfl
  · intro i h ih hi
    apply ev_succ
    simp only [spec_IsGrid.l0]
    rw [range_cons h, List.all_cons, wrap64_id (by omega) (by omega), succ_cast]
    refine ev_pos (by omega) (ev_pos (by omega) ?_)
    by_cases h1 : bt s i = 35
    · exact ev_pos h1 (ev_eq (ih (by omega)) (by simp [isC, h1]))
    · refine ev_neg h1 ?_
      by_cases h2 : bt s i = 46
      · exact ev_pos h2 (ev_eq (ih (by omega)) (by simp [isC, h2]))
      · exact ev_neg h2 (ev_now (by simp [isC, h1, h2]))
theorem impl_IsGrid_l0_ev (r c : Int) (s : ByteArray) (hs : s.size ≤ 140737488351232) : ∀ i : Nat, i ≤ s.size → Ev (fun k => impl_IsGrid.l0 k s.size i r c s) ((List.range' i (s.size - i)).all fun j => isC (bt s j)) := by
  refine down s.size ?_ ?_
  · intro i h hi
    apply ev_succ
    simp only [impl_IsGrid.l0]
    refine ev_neg (by omega) (ev_now ?_)
    rw [range_nil h]; rfl
  · intro i h ih hi
    apply ev_succ
    simp only [impl_IsGrid.l0]
    rw [range_cons h, List.all_cons, wrap64_id (by omega) (by omega), succ_cast]
    refine ev_pos (by omega) (ev_pos (by omega) (ev_pos (by omega) ?_))
    by_cases h1 : bt s i = 35
    · exact ev_pos h1 (ev_eq (ih (by omega)) (by simp [isC, h1]))
    · refine ev_neg h1 ?_
      by_cases h2 : bt s i = 46
      · exact ev_pos h2 (ev_eq (ih (by omega)) (by simp [isC, h2]))
      · exact ev_neg h2 (ev_now (by simp [isC, h1, h2]))
theorem wrap_mul {r c : Int} (hr : 2 ≤ r ∧ r ≤ 6) (hc : 2 ≤ c ∧ c ≤ 6) : wrap64 (r * c) = r * c := by
  have h1 : 0 ≤ r * c := Int.mul_nonneg (by omega) (by omega)
  have h2 : r * c ≤ 6 * 6 := Int.mul_le_mul hr.2 hc.2 (by omega) (by omega)
  exact wrap64_id (by omega) (by omega)
theorem spec_IsGrid_ev (r c : Int) (s : ByteArray) (hs : s.size ≤ 140737488351232) : Ev (fun k => spec_IsGrid.f k r c s) (gridM r c s) := by
  unfold spec_IsGrid.f
  refine ev_let (spec_l1In_eq _ _ _) ?_
  by_cases hr : 2 ≤ r ∧ r ≤ 6
  · refine ev_pos (by simpa using hr) (ev_let (spec_l1In_eq _ _ _) ?_)
    by_cases hc : 2 ≤ c ∧ c ≤ 6
    · refine ev_pos (by simpa using hc) ?_
      rw [wrap_mul hr hc]
      apply ev_succ
      simp only [spec_IsGrid.j0]
      by_cases hn : (s.size : Int) = r * c
      · refine ev_neg (by simp [hn]) (ev_eq (spec_IsGrid_l0_ev r c s hs 0 (by omega)) ?_)
        simp [gridM, hr, hc, hn]
      · exact ev_pos (by simp [hn]) (ev_now (by simp [gridM, hn]))
    · refine ev_neg (by simpa using hc) (ev_succ ?_)
      simp only [spec_IsGrid.j0]
      exact ev_pos (by simp) (ev_now (by simp [gridM, hc]))
  · refine ev_neg (by simpa using hr) (ev_succ ?_)
    simp only [spec_IsGrid.j0]
    exact ev_pos (by simp) (ev_now (by simp [gridM, hr]))
theorem impl_IsGrid_ev (r c : Int) (s : ByteArray) (hs : s.size ≤ 140737488351232) : Ev (fun k => impl_IsGrid.f k r c s) (gridM r c s) := by
  unfold impl_IsGrid.f
  refine ev_let (impl_InRange_eq _ _ _) ?_
  by_cases hr : 2 ≤ r ∧ r ≤ 6
  · refine ev_pos (by simpa using hr) (ev_let (impl_InRange_eq _ _ _) ?_)
    by_cases hc : 2 ≤ c ∧ c ≤ 6
    · refine ev_pos (by simpa using hc) ?_
      rw [wrap_mul hr hc]
      apply ev_succ
      simp only [impl_IsGrid.j0]
      by_cases hn : (s.size : Int) = r * c
      · refine ev_neg (by simp [hn]) (ev_eq (impl_IsGrid_l0_ev r c s hs 0 (by omega)) ?_)
        simp [gridM, hr, hc, hn]
      · exact ev_pos (by simp [hn]) (ev_now (by simp [gridM, hn]))
    · refine ev_neg (by simpa using hc) (ev_succ ?_)
      simp only [impl_IsGrid.j0]
      exact ev_pos (by simp) (ev_now (by simp [gridM, hc]))
  · refine ev_neg (by simpa using hr) (ev_succ ?_)
    simp only [impl_IsGrid.j0]
    exact ev_pos (by simp) (ev_now (by simp [gridM, hr]))

/-! ### slots -/
/-- How many cells follow one another from a cell on, white ones, at most m. -/
def runLen (s : ByteArray) (step : Nat) : Nat → Nat → Nat
  | _, 0 => 0
  | i, m + 1 => if bt s i = 46 then 1 + runLen s step (i + step) m else 0
def stepM (C : Nat) (dn : Bool) : Nat := if dn then C else 1
def atM (C : Nat) (dn : Bool) (i : Nat) : Nat := if dn then i / C else i % C
def mostM (R C : Nat) (dn : Bool) : Nat := if dn then R else C
/-- The length of the part of white cells that begins at a cell; 0 if none begins there. -/
def runM (R C : Nat) (s : ByteArray) (i : Nat) (dn : Bool) : Nat :=
  if bt s i = 46 ∧ ¬ (0 < atM C dn i ∧ bt s (i - stepM C dn : Nat) = 46) then runLen s (stepM C dn) i (mostM R C dn - atM C dn i) else 0
theorem runLen_le (s : ByteArray) (step : Nat) : ∀ m i, runLen s step i m ≤ m
  | 0, _ => Nat.le_refl _
  | m + 1, i => by
    unfold runLen
    split
    · have := runLen_le s step m (i + step)
      omega
    · omega
theorem cell_lt {R C : Nat} {i j : Nat} {dn : Bool} (hC : 0 < C) (hi : i < R * C) (hj : atM C dn i + j < mostM R C dn) : i + j * stepM C dn < R * C := by
  cases dn with
  | true =>
    simp only [atM, mostM, stepM, if_true] at hj ⊢
    have h1 := Nat.div_add_mod i C
    have h2 := Nat.mod_lt i hC
    have h3 : C * (i / C + j + 1) ≤ C * R := Nat.mul_le_mul_left _ (by omega)
    rw [Nat.mul_comm R C]
    rw [Nat.mul_add, Nat.mul_add, Nat.mul_one] at h3
    rw [Nat.mul_comm j C]
    omega
  | false =>
    simp only [atM, mostM, stepM, Bool.false_eq_true, if_false] at hj ⊢
    have h1 := Nat.div_add_mod i C
    have h4 : i / C < R := (Nat.div_lt_iff_lt_mul hC).2 hi
    have h3 : C * (i / C + 1) ≤ C * R := Nat.mul_le_mul_left _ h4
    rw [Nat.mul_comm R C]
    rw [Nat.mul_add, Nat.mul_one] at h3
    omega
theorem mul_bound {j C : Nat} (hj : j ≤ 6) (hC : C ≤ 6) : j * C ≤ 36 := Nat.mul_le_mul hj hC
theorem stepM_le {C : Nat} (hC : C ≤ 6) (h0 : 0 < C) (dn : Bool) : 1 ≤ stepM C dn ∧ stepM C dn ≤ 6 := by
  unfold stepM
  split <;> omega
theorem mostM_le {R C : Nat} (hR : R ≤ 6) (hC : C ≤ 6) (dn : Bool) : mostM R C dn ≤ 6 := by
  unfold mostM
  split <;> omega
theorem spec_l8From_l0_ev (R C : Nat) (s : ByteArray) (r c : Int) (hR : R ≤ 6) (hC : C ≤ 6) (h0 : 0 < C) (hs : s.size = R * C) (i : Nat) (dn : Bool) (hi : i < R * C) : ∀ n : Nat, atM C dn i + n ≤ mostM R C dn →
    Ev (fun k => spec_l8From.l0 k i (stepM C dn) (atM C dn i) (mostM R C dn) n r c s) (n + runLen s (stepM C dn) (i + n * stepM C dn) (mostM R C dn - atM C dn i - n) : Nat) := by
  have hm := mostM_le hR hC dn
  have hst := stepM_le hC h0 dn
  have h36 := bounds36 hR hC
  refine down (mostM R C dn - atM C dn i) ?_ ?_
  · intro n h hn
    apply ev_succ
    simp only [spec_l8From.l0]
    rw [wrap64_id (n := (atM C dn i : Int) + n) (by omega) (by omega)]
    refine ev_neg (by omega) (ev_now ?_)
    rw [show mostM R C dn - atM C dn i - n = 0 by omega]
    rfl
  · intro n h ih hn
    have hlt := cell_lt h0 hi (show atM C dn i + n < mostM R C dn by omega)
    have hb := mul_bound (show n ≤ 6 by omega) (show stepM C dn ≤ 6 by omega)
    have hcast : ((n : Int) * (stepM C dn : Int)) = ((n * stepM C dn : Nat) : Int) := by rw [Int.natCast_mul]
    apply ev_succ
    simp only [spec_l8From.l0]
    rw [wrap64_id (n := (atM C dn i : Int) + n) (by omega) (by omega), hcast, wrap64_id (n := ((n * stepM C dn : Nat) : Int)) (by omega) (by omega), wrap64_id (n := (i : Int) + _) (by omega) (by omega), wrap64_id (n := (n : Int) + 1) (by omega) (by omega), succ_cast]
    rw [show mostM R C dn - atM C dn i - n = (mostM R C dn - atM C dn i - (n + 1)) + 1 by omega]
    unfold runLen
    rw [show ((i : Int) + ((n * stepM C dn : Nat) : Int)) = ((i + n * stepM C dn : Nat) : Int) by omega]
    refine ev_pos (by omega) (ev_pos (by omega) (ev_pos (by omega) ?_))
    by_cases hw : bt s (i + n * stepM C dn : Nat) = 46
    · rw [if_pos hw]
      refine ev_pos hw (ev_eq (ih (by omega)) ?_)
      rw [show i + (n + 1) * stepM C dn = i + n * stepM C dn + stepM C dn by rw [Nat.add_mul, Nat.one_mul, Nat.add_assoc]]
      omega
    · rw [if_neg hw]
      exact ev_neg hw (ev_now (by simp))
theorem spec_l8From_ev (R C : Nat) (s : ByteArray) (hR : R ≤ 6) (hC : C ≤ 6) (h0 : 0 < C) (hs : s.size = R * C) (i : Nat) (dn : Bool) (hi : i < R * C) :
    Ev (fun k => spec_l8From.f k R C s i dn) (runM R C s i dn : Nat) := by
  have hst := stepM_le hC h0 dn
  have h36 := bounds36 hR hC
  have hl0 := spec_l8From_l0_ev R C s R C hR hC h0 hs i dn hi 0
  have key : Ev (fun k => spec_l8From.j0 k i (stepM C dn) (atM C dn i) (mostM R C dn) R C s) (runM R C s i dn : Nat) := by
    have hat : atM C dn i ≤ i ∧ (0 < atM C dn i → stepM C dn ≤ i) ∧ atM C dn i ≤ mostM R C dn := by
      cases dn with
      | true =>
        simp only [atM, stepM, mostM, if_true]
        refine ⟨Nat.div_le_self _ _, fun h => ?_, ?_⟩
        · exact (Nat.div_pos_iff.1 h).2
        · exact Nat.le_of_lt ((Nat.div_lt_iff_lt_mul h0).2 hi)
      | false =>
        simp only [atM, stepM, mostM, Bool.false_eq_true, if_false]
        have := Nat.mod_le i C
        have := Nat.mod_lt i h0
        omega
    have hj1 : ∀ b : Bool, (b = true → Ev (fun k => spec_l8From.j1 k i (stepM C dn) (atM C dn i) (mostM R C dn) b R C s) 0) ∧
        (b = false → Ev (fun k => spec_l8From.j1 k i (stepM C dn) (atM C dn i) (mostM R C dn) b R C s) (runLen s (stepM C dn) i (mostM R C dn - atM C dn i) : Nat)) := by
      intro b
      refine ⟨fun hb => ?_, fun hb => ?_⟩
      · apply ev_succ
        simp only [spec_l8From.j1]
        exact ev_pos hb (ev_now rfl)
      · apply ev_succ
        simp only [spec_l8From.j1]
        exact ev_neg (by simp [hb]) (by simpa using hl0 (by omega))
    apply ev_succ
    simp only [spec_l8From.j0]
    refine ev_pos (by omega) (ev_pos (by omega) ?_)
    unfold runM
    by_cases hw : bt s i = 46
    · refine ev_pos hw ?_
      by_cases ha : 0 < atM C dn i
      · have h2 := hat.2.1 ha
        rw [wrap64_id (n := (i : Int) - _) (by omega) (by omega), show ((i : Int) - (stepM C dn : Nat)) = ((i - stepM C dn : Nat) : Int) by omega]
        refine ev_pos (by omega) (ev_pos (by omega) (ev_pos (by omega) ?_))
        by_cases hp : bt s (i - stepM C dn : Nat) = 46
        · rw [if_neg (by simp [ha, hp])]
          exact (hj1 _).1 (by simp [hp])
        · rw [if_pos ⟨hw, fun x => hp x.2⟩]
          exact (hj1 _).2 (by simp [hp])
      · rw [if_pos ⟨hw, fun x => ha x.1⟩]
        exact ev_neg (by omega) ((hj1 false).2 rfl)
    · rw [if_neg (fun x => hw x.1)]
      exact ev_neg hw ((hj1 true).1 rfl)
  unfold spec_l8From.f
  refine ev_neg (by omega) ?_
  cases dn with
  | true =>
    refine ev_pos rfl ?_
    have e : Int.tdiv (i : Int) (C : Int) = ((i / C : Nat) : Int) := Int.ofNat_tdiv i C |>.symm
    have hd := Nat.div_le_self i C
    have hq := Int.natCast_nonneg (i / C)
    rw [e, wrap64_id (by omega) (by omega)]
    simpa only [stepM, atM, mostM, if_true] using key
  | false =>
    refine ev_neg (by simp) ?_
    have e : Int.tmod (i : Int) (C : Int) = ((i % C : Nat) : Int) := Int.ofNat_tmod i C |>.symm
    rw [e]
    simpa [stepM, atM, mostM] using key

theorem impl_run_l0_ev (R C : Nat) (s : ByteArray) (r c : Int) (hR : R ≤ 6) (hC : C ≤ 6) (h0 : 0 < C) (hs : s.size = R * C) (i : Nat) (dn : Bool) (hi : i < R * C) : ∀ n : Nat, atM C dn i + n ≤ mostM R C dn →
    Ev (fun k => impl_run.l0 k i (stepM C dn) (atM C dn i) (mostM R C dn) n r c s) (n + runLen s (stepM C dn) (i + n * stepM C dn) (mostM R C dn - atM C dn i - n) : Nat) := by
  have hm := mostM_le hR hC dn
  have hst := stepM_le hC h0 dn
  have h36 := bounds36 hR hC
  refine down (mostM R C dn - atM C dn i) ?_ ?_
  · intro n h hn
    apply ev_succ
    simp only [impl_run.l0]
    rw [wrap64_id (n := (atM C dn i : Int) + n) (by omega) (by omega)]
    refine ev_neg (by omega) (ev_now ?_)
    rw [show mostM R C dn - atM C dn i - n = 0 by omega]
    rfl
  · intro n h ih hn
    have hlt := cell_lt h0 hi (show atM C dn i + n < mostM R C dn by omega)
    have hb := mul_bound (show n ≤ 6 by omega) (show stepM C dn ≤ 6 by omega)
    have hcast : ((n : Int) * (stepM C dn : Int)) = ((n * stepM C dn : Nat) : Int) := by rw [Int.natCast_mul]
    apply ev_succ
    simp only [impl_run.l0]
    rw [wrap64_id (n := (atM C dn i : Int) + n) (by omega) (by omega), hcast, wrap64_id (n := ((n * stepM C dn : Nat) : Int)) (by omega) (by omega), wrap64_id (n := (i : Int) + _) (by omega) (by omega), wrap64_id (n := (n : Int) + 1) (by omega) (by omega), succ_cast]
    rw [show mostM R C dn - atM C dn i - n = (mostM R C dn - atM C dn i - (n + 1)) + 1 by omega]
    unfold runLen
    rw [show ((i : Int) + ((n * stepM C dn : Nat) : Int)) = ((i + n * stepM C dn : Nat) : Int) by omega]
    refine ev_pos (by omega) (ev_pos (by omega) (ev_pos (by omega) ?_))
    by_cases hw : bt s (i + n * stepM C dn : Nat) = 46
    · rw [if_pos hw]
      refine ev_pos hw (ev_eq (ih (by omega)) ?_)
      rw [show i + (n + 1) * stepM C dn = i + n * stepM C dn + stepM C dn by rw [Nat.add_mul, Nat.one_mul, Nat.add_assoc]]
      omega
    · rw [if_neg hw]
      exact ev_neg hw (ev_now (by simp))
theorem impl_run_ev (R C : Nat) (s : ByteArray) (hR : R ≤ 6) (hC : C ≤ 6) (h0 : 0 < C) (hs : s.size = R * C) (i : Nat) (dn : Bool) (hi : i < R * C) :
    Ev (fun k => impl_run.f k R C s i dn) (runM R C s i dn : Nat) := by
  have hst := stepM_le hC h0 dn
  have h36 := bounds36 hR hC
  have hl0 := impl_run_l0_ev R C s R C hR hC h0 hs i dn hi 0
  have key : Ev (fun k => impl_run.j0 k i (stepM C dn) (atM C dn i) (mostM R C dn) R C s) (runM R C s i dn : Nat) := by
    have hat : atM C dn i ≤ i ∧ (0 < atM C dn i → stepM C dn ≤ i) ∧ atM C dn i ≤ mostM R C dn := by
      cases dn with
      | true =>
        simp only [atM, stepM, mostM, if_true]
        refine ⟨Nat.div_le_self _ _, fun h => ?_, ?_⟩
        · exact (Nat.div_pos_iff.1 h).2
        · exact Nat.le_of_lt ((Nat.div_lt_iff_lt_mul h0).2 hi)
      | false =>
        simp only [atM, stepM, mostM, Bool.false_eq_true, if_false]
        have := Nat.mod_le i C
        have := Nat.mod_lt i h0
        omega
    have hj1 : ∀ b : Bool, (b = true → Ev (fun k => impl_run.j1 k i (stepM C dn) (atM C dn i) (mostM R C dn) b R C s) 0) ∧
        (b = false → Ev (fun k => impl_run.j1 k i (stepM C dn) (atM C dn i) (mostM R C dn) b R C s) (runLen s (stepM C dn) i (mostM R C dn - atM C dn i) : Nat)) := by
      intro b
      refine ⟨fun hb => ?_, fun hb => ?_⟩
      · apply ev_succ
        simp only [impl_run.j1]
        exact ev_pos hb (ev_now rfl)
      · apply ev_succ
        simp only [impl_run.j1]
        exact ev_neg (by simp [hb]) (by simpa using hl0 (by omega))
    apply ev_succ
    simp only [impl_run.j0]
    refine ev_pos (by omega) (ev_pos (by omega) ?_)
    unfold runM
    by_cases hw : bt s i = 46
    · refine ev_pos hw ?_
      by_cases ha : 0 < atM C dn i
      · have h2 := hat.2.1 ha
        rw [wrap64_id (n := (i : Int) - _) (by omega) (by omega), show ((i : Int) - (stepM C dn : Nat)) = ((i - stepM C dn : Nat) : Int) by omega]
        refine ev_pos (by omega) (ev_pos (by omega) (ev_pos (by omega) ?_))
        by_cases hp : bt s (i - stepM C dn : Nat) = 46
        · rw [if_neg (by simp [ha, hp])]
          exact (hj1 _).1 (by simp [hp])
        · rw [if_pos ⟨hw, fun x => hp x.2⟩]
          exact (hj1 _).2 (by simp [hp])
      · rw [if_pos ⟨hw, fun x => ha x.1⟩]
        exact ev_neg (by omega) ((hj1 false).2 rfl)
    · rw [if_neg (fun x => hw x.1)]
      exact ev_neg hw ((hj1 true).1 rfl)
  unfold impl_run.f
  refine ev_neg (by omega) ?_
  cases dn with
  | true =>
    refine ev_pos rfl ?_
    have e : Int.tdiv (i : Int) (C : Int) = ((i / C : Nat) : Int) := Int.ofNat_tdiv i C |>.symm
    have hd := Nat.div_le_self i C
    have hq := Int.natCast_nonneg (i / C)
    rw [e, wrap64_id (by omega) (by omega)]
    simpa only [stepM, atM, mostM, if_true] using key
  | false =>
    refine ev_neg (by simp) ?_
    have e : Int.tmod (i : Int) (C : Int) = ((i % C : Nat) : Int) := Int.ofNat_tmod i C |>.symm
    rw [e]
    simpa [stepM, atM, mostM] using key

/-! ### slotsof -/
abbrev ISlot := S65
theorem rd_Slot_get {l : List ISlot} {i : Nat} (h : i < l.length) : rd_T65 l (i : Int) = l[i] := by
  unfold rd_T65
  simp [h]
/-- The slots that begin at a cell, under a number. -/
def slotsOne (R C : Nat) (s : ByteArray) (i : Nat) (n : Int) : List ISlot :=
  (if 2 ≤ runM R C s i false then [⟨n, false, i, runM R C s i false⟩] else []) ++ (if 2 ≤ runM R C s i true then [⟨n, true, i, runM R C s i true⟩] else [])
def numOne (R C : Nat) (s : ByteArray) (i : Nat) (n : Int) : Int := if 2 ≤ runM R C s i false ∨ 2 ≤ runM R C s i true then n + 1 else n
def slotsGo (R C : Nat) (s : ByteArray) : List Nat → Int → List ISlot
  | [], _ => []
  | i :: l, n => slotsOne R C s i (numOne R C s i n) ++ slotsGo R C s l (numOne R C s i n)
/-- The slots of a grid; none of what is no grid. -/
def slotsM (r c : Int) (s : ByteArray) : List ISlot := if gridM r c s then slotsGo r.toNat c.toNat s (List.range' 0 (s.size - 0)) 0 else []
theorem slotsOne_length (R C : Nat) (s : ByteArray) (i : Nat) (n : Int) : (slotsOne R C s i n).length ≤ 2 := by
  unfold slotsOne
  split <;> split <;> simp
theorem slotsGo_length (R C : Nat) (s : ByteArray) : ∀ (l : List Nat) (n : Int), (slotsGo R C s l n).length ≤ 2 * l.length
  | [], _ => by simp [slotsGo]
  | i :: l, n => by
    unfold slotsGo
    have h1 := slotsOne_length R C s i (numOne R C s i n)
    have h2 := slotsGo_length R C s l (numOne R C s i n)
    simp only [List.length_append, List.length_cons]
    omega
theorem slotsM_length (r c : Int) (s : ByteArray) : (slotsM r c s).length ≤ 72 := by
  unfold slotsM
  split
  · rename_i h
    obtain ⟨R, C, rfl, rfl, _, hR, _, hC, hs⟩ := gridM_nat h
    have := slotsGo_length R C s (List.range' 0 (s.size - 0)) 0
    have h36 := bounds36 hR hC
    rw [List.length_range'] at this
    simp only [Int.toNat_natCast]
    omega
  · simp
theorem spec_SlotsOf_j3_ev {acc : List ISlot} {n : Int} {i a d : Nat} {r c : Int} {s : ByteArray} {ρ : List ISlot} (ha : acc.length ≤ 72) (hi : i ≤ 100)
    (h : Ev (fun k => spec_SlotsOf.l0 k (acc ++ ((if 2 ≤ a then [⟨n, false, i, a⟩] else []) ++ (if 2 ≤ d then [⟨n, true, i, d⟩] else []))) n (i + 1 : Nat) r c s) ρ) : Ev (fun k => spec_SlotsOf.j3 k acc n i a d r c s) ρ := by
  apply ev_succ
  simp only [spec_SlotsOf.j3]
  rw [wrap64_id (n := (i : Int) + 1) (by omega) (by omega), succ_cast]
  by_cases h1 : 2 ≤ a
  · rw [if_pos h1] at h
    refine ev_pos (by omega) (ev_pos (by omega) (ev_let rfl ?_))
    by_cases h2 : 2 ≤ d
    · rw [if_pos h2] at h
      exact ev_pos (by omega) (ev_pos (by simp; omega) (by simpa using h))
    · rw [if_neg h2] at h
      exact ev_neg (by omega) (by simpa using h)
  · rw [if_neg h1] at h
    refine ev_neg (by omega) ?_
    by_cases h2 : 2 ≤ d
    · rw [if_pos h2] at h
      exact ev_pos (by omega) (ev_pos (by omega) (by simpa using h))
    · rw [if_neg h2] at h
      exact ev_neg (by omega) (by simpa using h)
theorem spec_SlotsOf_l0_ev (R C : Nat) (s : ByteArray) (hR : 2 ≤ R ∧ R ≤ 6) (hC : 2 ≤ C ∧ C ≤ 6) (hg : gridM R C s = true) (hs : s.size = R * C) : ∀ i : Nat, i ≤ s.size → ∀ (acc : List ISlot) (n : Int), acc.length ≤ 2 * i → 0 ≤ n → n ≤ i →
    Ev (fun k => spec_SlotsOf.l0 k acc n i R C s) (acc ++ slotsGo R C s (List.range' i (s.size - i)) n) := by
  have h36 := bounds36 hR.2 hC.2
  refine down s.size ?_ ?_
  · intro i h hi acc n ha h0 hn
    apply ev_succ
    simp only [spec_SlotsOf.l0]
    refine ev_neg (by omega) (ev_succ ?_)
    simp only [spec_SlotsOf.j1]
    rw [range_nil h]
    exact ev_neg (by simp) (ev_now (by simp [slotsGo]))
  · intro i h ih hi acc n ha h0 hn
    apply ev_succ
    simp only [spec_SlotsOf.l0]
    refine ev_pos (by omega) (ev_bind (spec_IsGrid_ev R C s (by omega)) (ev_succ ?_))
    simp only [spec_SlotsOf.j1]
    refine ev_pos hg (ev_bind (spec_l8From_ev R C s hR.2 hC.2 (by omega) hs i false (by omega)) (ev_bind (spec_l8From_ev R C s hR.2 hC.2 (by omega) hs i true (by omega)) ?_))
    rw [range_cons h]
    unfold slotsGo
    have hnum : numOne R C s i n ≤ i + 1 ∧ 0 ≤ numOne R C s i n := by
      unfold numOne
      split <;> omega
    have hl := slotsOne_length R C s i (numOne R C s i n)
    have hnext := ih (by omega) (acc ++ slotsOne R C s i (numOne R C s i n)) (numOne R C s i n) (by simp; omega) hnum.2 (by omega)
    rw [List.append_assoc] at hnext
    have key : ∀ b : Bool, b = decide (2 ≤ runM R C s i false ∨ 2 ≤ runM R C s i true) → Ev (fun k => spec_SlotsOf.j2 k acc n i (runM R C s i false : Nat) (runM R C s i true : Nat) b R C s) (acc ++ (slotsOne R C s i (numOne R C s i n) ++ slotsGo R C s (List.range' (i + 1) (s.size - (i + 1))) (numOne R C s i n))) := by
      intro b hb
      apply ev_succ
      simp only [spec_SlotsOf.j2]
      rw [wrap64_id (n := n + 1) (by omega) (by omega)]
      by_cases hc : 2 ≤ runM R C s i false ∨ 2 ≤ runM R C s i true
      · have e : numOne R C s i n = n + 1 := if_pos hc
        rw [e] at hnext ⊢
        exact ev_pos (by rw [hb]; simpa using hc) (spec_SlotsOf_j3_ev (by omega) (by omega) hnext)
      · have e : numOne R C s i n = n := if_neg hc
        rw [e] at hnext ⊢
        exact ev_neg (by rw [hb]; simpa using hc) (spec_SlotsOf_j3_ev (by omega) (by omega) hnext)
    by_cases h1 : 2 ≤ runM R C s i false
    · exact ev_pos (by omega) (key true (decide_eq_true (.inl h1)).symm)
    · exact ev_neg (by omega) (key _ (decide_eq_decide.2 (by omega)))
theorem spec_SlotsOf_ev (r c : Int) (s : ByteArray) (hs : s.size ≤ 1048576) : Ev (fun k => spec_SlotsOf.f k r c s) (slotsM r c s) := by
  unfold spec_SlotsOf.f slotsM
  by_cases hg : gridM r c s = true
  · rw [if_pos hg]
    obtain ⟨R, C, rfl, rfl, h1, h2, h3, h4, h5⟩ := gridM_nat hg
    simpa using spec_SlotsOf_l0_ev R C s ⟨h1, h2⟩ ⟨h3, h4⟩ hg h5 0 (by omega) [] 0 (by simp) (by omega) (by omega)
  · rw [if_neg hg]
    have hj : Ev (fun k => spec_SlotsOf.j1 k [] 0 0 false r c s) [] := by
      apply ev_succ
      simp only [spec_SlotsOf.j1]
      exact ev_neg (by simp) (ev_now rfl)
    apply ev_succ
    simp only [spec_SlotsOf.l0]
    by_cases h : (0 : Int) < (s.size : Int)
    · refine ev_pos h (ev_bind (spec_IsGrid_ev r c s (by omega)) ?_)
      rw [Bool.not_eq_true] at hg
      rw [hg]
      exact hj
    · exact ev_neg h hj
theorem impl_SlotsOf_j2_ev {acc : List ISlot} {n : Int} {i a d m : Nat} {r c : Int} {s : ByteArray} {ρ : List ISlot} (ha : acc.length ≤ 72) (hi : i ≤ 100)
    (h : Ev (fun k => impl_SlotsOf.l0 k (acc ++ ((if 2 ≤ a then [⟨n, false, i, a⟩] else []) ++ (if 2 ≤ d then [⟨n, true, i, d⟩] else []))) n m (i + 1 : Nat) r c s) ρ) : Ev (fun k => impl_SlotsOf.j2 k acc n i a d m i r c s) ρ := by
  apply ev_succ
  simp only [impl_SlotsOf.j2]
  rw [wrap64_id (n := (i : Int) + 1) (by omega) (by omega), succ_cast]
  by_cases h1 : 2 ≤ a
  · rw [if_pos h1] at h
    refine ev_pos (by omega) (ev_pos (by omega) (ev_let rfl ?_))
    by_cases h2 : 2 ≤ d
    · rw [if_pos h2] at h
      exact ev_pos (by omega) (ev_pos (by simp; omega) (by simpa using h))
    · rw [if_neg h2] at h
      exact ev_neg (by omega) (by simpa using h)
  · rw [if_neg h1] at h
    refine ev_neg (by omega) ?_
    by_cases h2 : 2 ≤ d
    · rw [if_pos h2] at h
      exact ev_pos (by omega) (ev_pos (by omega) (by simpa using h))
    · rw [if_neg h2] at h
      exact ev_neg (by omega) (by simpa using h)
theorem impl_SlotsOf_l0_ev (R C : Nat) (s : ByteArray) (hR : 2 ≤ R ∧ R ≤ 6) (hC : 2 ≤ C ∧ C ≤ 6) (hs : s.size = R * C) : ∀ i : Nat, i ≤ s.size → ∀ (acc : List ISlot) (n : Int), acc.length ≤ 2 * i → 0 ≤ n → n ≤ i →
    Ev (fun k => impl_SlotsOf.l0 k acc n s.size i R C s) (acc ++ slotsGo R C s (List.range' i (s.size - i)) n) := by
  have h36 := bounds36 hR.2 hC.2
  refine down s.size ?_ ?_
  · intro i h hi acc n ha h0 hn
    apply ev_succ
    simp only [impl_SlotsOf.l0]
    rw [range_nil h]
    exact ev_neg (by omega) (ev_now (by simp [slotsGo]))
  · intro i h ih hi acc n ha h0 hn
    apply ev_succ
    simp only [impl_SlotsOf.l0]
    refine ev_pos (by omega) (ev_bind (impl_run_ev R C s hR.2 hC.2 (by omega) hs i false (by omega)) (ev_bind (impl_run_ev R C s hR.2 hC.2 (by omega) hs i true (by omega)) ?_))
    rw [range_cons h]
    unfold slotsGo
    have hnum : numOne R C s i n ≤ i + 1 ∧ 0 ≤ numOne R C s i n := by
      unfold numOne
      split <;> omega
    have hl := slotsOne_length R C s i (numOne R C s i n)
    have hnext := ih (by omega) (acc ++ slotsOne R C s i (numOne R C s i n)) (numOne R C s i n) (by simp; omega) hnum.2 (by omega)
    rw [List.append_assoc] at hnext
    have key : ∀ b : Bool, b = decide (2 ≤ runM R C s i false ∨ 2 ≤ runM R C s i true) → Ev (fun k => impl_SlotsOf.j1 k acc n i (runM R C s i false : Nat) (runM R C s i true : Nat) s.size i b R C s) (acc ++ (slotsOne R C s i (numOne R C s i n) ++ slotsGo R C s (List.range' (i + 1) (s.size - (i + 1))) (numOne R C s i n))) := by
      intro b hb
      apply ev_succ
      simp only [impl_SlotsOf.j1]
      rw [wrap64_id (n := n + 1) (by omega) (by omega)]
      by_cases hc : 2 ≤ runM R C s i false ∨ 2 ≤ runM R C s i true
      · have e : numOne R C s i n = n + 1 := if_pos hc
        rw [e] at hnext ⊢
        exact ev_pos (by rw [hb]; simpa using hc) (impl_SlotsOf_j2_ev (by omega) (by omega) hnext)
      · have e : numOne R C s i n = n := if_neg hc
        rw [e] at hnext ⊢
        exact ev_neg (by rw [hb]; simpa using hc) (impl_SlotsOf_j2_ev (by omega) (by omega) hnext)
    by_cases h1 : 2 ≤ runM R C s i false
    · exact ev_pos (by omega) (key true (decide_eq_true (.inl h1)).symm)
    · exact ev_neg (by omega) (key _ (decide_eq_decide.2 (by omega)))
theorem impl_SlotsOf_ev (r c : Int) (s : ByteArray) (hs : s.size ≤ 1048576) : Ev (fun k => impl_SlotsOf.f k r c s) (slotsM r c s) := by
  unfold impl_SlotsOf.f slotsM
  refine ev_bind (impl_IsGrid_ev r c s (by omega)) ?_
  by_cases hg : gridM r c s = true
  · rw [if_pos hg]
    obtain ⟨R, C, rfl, rfl, h1, h2, h3, h4, h5⟩ := gridM_nat hg
    exact ev_pos hg (by simpa using impl_SlotsOf_l0_ev R C s ⟨h1, h2⟩ ⟨h3, h4⟩ h5 0 (by omega) [] 0 (by simp) (by omega) (by omega))
  · rw [if_neg hg]
    exact ev_neg hg (ev_now rfl)

/-! ### cells -/
theorem slot_ext_iff {a b : ISlot} : (a.f0 = b.f0 ∧ a.f1 = b.f1 ∧ a.f2 = b.f2 ∧ a.f3 = b.f3) ↔ a = b := by
  cases a
  cases b
  simp
instance decSlot : DecidableEq ISlot := fun a b => decidable_of_iff _ slot_ext_iff
/-- The cells of a slot. -/
def cellsM (C : Nat) (x : ISlot) : List Int := (List.range' 0 (x.f3.toNat - 0)).map fun k : Nat => x.f2 + (k : Int) * (stepM C x.f1 : Int)
def okSlot (R C : Nat) (s : ByteArray) (x : ISlot) : Prop := ∃ i : Nat, i < R * C ∧ x.f2 = i ∧ x.f3 = runM R C s i x.f1 ∧ 2 ≤ runM R C s i x.f1
theorem slotsOne_mem {R C : Nat} {s : ByteArray} {i : Nat} {n : Int} {x : ISlot} (h : x ∈ slotsOne R C s i n) : x.f0 = n ∧ x.f2 = i ∧ x.f3 = runM R C s i x.f1 ∧ 2 ≤ runM R C s i x.f1 := by
  unfold slotsOne at h
  rcases List.mem_append.1 h with h | h
  · split at h
    · rename_i h2
      rw [List.mem_singleton] at h
      subst h
      exact ⟨rfl, rfl, rfl, h2⟩
    · cases h
  · split at h
    · rename_i h2
      rw [List.mem_singleton] at h
      subst h
      exact ⟨rfl, rfl, rfl, h2⟩
    · cases h
theorem slotsGo_mem {R C : Nat} {s : ByteArray} {x : ISlot} : ∀ {l : List Nat} {n : Int}, x ∈ slotsGo R C s l n → ∃ i ∈ l, x.f2 = i ∧ x.f3 = runM R C s i x.f1 ∧ 2 ≤ runM R C s i x.f1
  | [], _, h => by cases h
  | i :: l, n, h => by
    unfold slotsGo at h
    rcases List.mem_append.1 h with h | h
    · exact ⟨i, List.mem_cons_self, (slotsOne_mem h).2⟩
    · obtain ⟨j, hj, h2⟩ := slotsGo_mem h
      exact ⟨j, List.mem_cons_of_mem _ hj, h2⟩
theorem slotsM_ok {r c : Int} {s : ByteArray} {x : ISlot} (h : x ∈ slotsM r c s) : ∃ R C : Nat, r = R ∧ c = C ∧ 2 ≤ R ∧ R ≤ 6 ∧ 2 ≤ C ∧ C ≤ 6 ∧ s.size = R * C ∧ gridM r c s = true ∧ okSlot R C s x := by
  unfold slotsM at h
  split at h
  · rename_i hg
    obtain ⟨R, C, rfl, rfl, h1, h2, h3, h4, h5⟩ := gridM_nat hg
    obtain ⟨i, hi, h6⟩ := slotsGo_mem h
    rw [List.mem_range'] at hi
    obtain ⟨j, hj, rfl⟩ := hi
    refine ⟨R, C, rfl, rfl, h1, h2, h3, h4, h5, hg, _, ?_, h6⟩
    omega
  · cases h
def slotLt (a b : ISlot) : Prop := a.f2 < b.f2 ∨ (a.f2 = b.f2 ∧ a.f1 = false ∧ b.f1 = true)
theorem slotLt_ne {a b : ISlot} (h : slotLt a b) : a ≠ b := by
  rintro rfl
  rcases h with h | ⟨_, h1, h2⟩
  · omega
  · rw [h1] at h2
    cases h2
theorem slotsGo_pairwise {R C : Nat} {s : ByteArray} : ∀ {l : List Nat} {n : Int}, l.Pairwise (· < ·) → (slotsGo R C s l n).Pairwise slotLt
  | [], _, _ => by simp [slotsGo]
  | i :: l, n, h => by
    unfold slotsGo
    rw [List.pairwise_append]
    refine ⟨?_, slotsGo_pairwise (List.pairwise_cons.1 h).2, ?_⟩
    · unfold slotsOne
      rw [List.pairwise_append]
      refine ⟨by split <;> simp, by split <;> simp, ?_⟩
      intro a ha b hb
      split at ha
      · split at hb
        · rw [List.mem_singleton] at ha hb
          subst ha hb
          exact .inr ⟨rfl, rfl, rfl⟩
        · cases hb
      · cases ha
    · intro a ha b hb
      have h1 := (slotsOne_mem ha).2.1
      obtain ⟨j, hj, h2, _⟩ := slotsGo_mem hb
      have := (List.pairwise_cons.1 h).1 j hj
      exact .inl (by omega)
theorem slotsM_pairwise (r c : Int) (s : ByteArray) : (slotsM r c s).Pairwise slotLt := by
  unfold slotsM
  split
  · exact slotsGo_pairwise (List.pairwise_lt_range' (step := 1) (by omega))
  · simp
theorem slotsM_nodup (r c : Int) (s : ByteArray) : (slotsM r c s).Nodup := (slotsM_pairwise r c s).imp slotLt_ne
theorem okSlot_bounds {R C : Nat} {s : ByteArray} {x : ISlot} (hR : R ≤ 6) (hC : C ≤ 6) (h : okSlot R C s x) : 0 ≤ x.f2 ∧ x.f2 < 36 ∧ 2 ≤ x.f3 ∧ x.f3 ≤ 6 ∧ x.f3.toNat ≤ 6 := by
  obtain ⟨i, hi, h2, h3, h4⟩ := h
  have h36 := bounds36 hR hC
  have h5 : runM R C s i x.f1 ≤ 6 := by
    unfold runM
    split
    · have := runLen_le s (stepM C x.f1) (mostM R C x.f1 - atM C x.f1 i) i
      have := mostM_le hR hC x.f1
      omega
    · omega
  omega
/-- What CellsOf answers. -/
def cellsOfM (r c : Int) (s : ByteArray) (x : ISlot) : List Int := if x ∈ slotsM r c s then cellsM c.toNat x else []
theorem cellsM_length (C : Nat) (x : ISlot) : (cellsM C x).length = x.f3.toNat := by simp [cellsM]
theorem cellsOfM_length (r c : Int) (s : ByteArray) (x : ISlot) : (cellsOfM r c s x).length ≤ 6 := by
  unfold cellsOfM
  split
  · rename_i h
    obtain ⟨R, C, rfl, rfl, _, h2, _, h4, _, _, hk⟩ := slotsM_ok h
    have := okSlot_bounds h2 h4 hk
    rw [cellsM_length]
    omega
  · simp
theorem cell_wrap {C : Nat} {x : ISlot} {k : Nat} (hC : C ≤ 6) (_ : 0 < C) (hk : k ≤ 6) (h1 : 0 ≤ x.f2) (h2 : x.f2 < 36) : wrap64 ((k : Int) * (C : Int)) = (k : Int) * (C : Int) ∧ wrap64 (x.f2 + (k : Int) * (C : Int)) = x.f2 + (k : Int) * (C : Int) := by
  have hb := mul_bound hk hC
  have hcast : ((k : Int) * (C : Int)) = ((k * C : Nat) : Int) := by rw [Int.natCast_mul]
  rw [hcast]
  exact ⟨wrap64_id (by omega) (by omega), wrap64_id (by omega) (by omega)⟩
theorem spec_CellsOf_l1_ev {l : List ISlot} {j : Nat} {R C : Nat} {s : ByteArray} {x : ISlot} {ρ : List Int} (hl : l.length ≤ 1048576) (hj : j < l.length) (hC : C ≤ 6) (h0 : 0 < C) (hx : 0 ≤ x.f2 ∧ x.f2 < 36 ∧ 0 ≤ x.f3 ∧ x.f3.toNat ≤ 6) : ∀ n : Nat, n ≤ x.f3.toNat → ∀ acc : List Int, acc.length ≤ 1000000 + n →
    Ev (fun k => spec_CellsOf.l0 k (acc ++ (List.range' n (x.f3.toNat - n)).map fun k : Nat => x.f2 + (k : Int) * (stepM C x.f1 : Int)) l (j + 1 : Nat) R C s x.f0 x.f1 x.f2 x.f3) ρ → Ev (fun k => spec_CellsOf.l1 k acc l j n R C s x.f0 x.f1 x.f2 x.f3) ρ := by
  refine down x.f3.toNat ?_ ?_
  · intro n h hn acc ha hρ
    apply ev_succ
    simp only [spec_CellsOf.l1]
    rw [wrap64_id (n := (j : Int) + 1) (by omega) (by omega), succ_cast]
    rw [range_nil h] at hρ
    exact ev_neg (by omega) (by simpa using hρ)
  · intro n h ih hn acc ha hρ
    apply ev_succ
    simp only [spec_CellsOf.l1]
    rw [wrap64_id (n := (n : Int) + 1) (by omega) (by omega), succ_cast]
    rw [range_cons h, List.map_cons] at hρ
    have hw := cell_wrap (x := x) hC h0 (show n ≤ 6 by omega) hx.1 hx.2.1
    refine ev_pos (by omega) ?_
    cases hd : x.f1 with
    | true =>
      refine ev_pos rfl (ev_pos (by omega) ?_)
      rw [hw.1, hw.2]
      have := ih (by omega) (acc ++ [x.f2 + (n : Int) * (C : Int)]) (by simp; omega)
      rw [hd] at this hρ
      exact this (by simpa [stepM] using hρ)
    | false =>
      refine ev_neg (by simp) (ev_pos (by omega) ?_)
      rw [wrap64_id (n := x.f2 + n) (by omega) (by omega)]
      have := ih (by omega) (acc ++ [x.f2 + (n : Int)]) (by simp; omega)
      rw [hd] at this hρ
      exact this (by simpa [stepM] using hρ)
theorem spec_CellsOf_l0_ev (R C : Nat) (s : ByteArray) (x : ISlot) (l : List ISlot) (hl : l.length ≤ 1000) (hC : C ≤ 6) (h0 : 0 < C) (hx : x ∈ l → 0 ≤ x.f2 ∧ x.f2 < 36 ∧ 0 ≤ x.f3 ∧ x.f3.toNat ≤ 6) : ∀ i : Nat, i ≤ l.length → ∀ acc : List Int, acc.length ≤ 6 * i →
    Ev (fun k => spec_CellsOf.l0 k acc l i R C s x.f0 x.f1 x.f2 x.f3) (acc ++ (l.drop i).flatMap fun y => if y = x then cellsM C x else []) := by
  refine down l.length ?_ ?_
  · intro i h hi acc ha
    apply ev_succ
    simp only [spec_CellsOf.l0]
    exact ev_neg (by omega) (ev_now (by rw [List.drop_eq_nil_of_le h]; simp))
  · intro i h ih hi acc ha
    apply ev_succ
    simp only [spec_CellsOf.l0]
    rw [rd_Slot_get h, wrap64_id (n := (i : Int) + 1) (by omega) (by omega), succ_cast, List.drop_eq_getElem_cons h, List.flatMap_cons]
    refine ev_pos (by omega) (ev_pos (by omega) ?_)
    by_cases he : l[i] = x
    · have hm : x ∈ l := he ▸ List.getElem_mem h
      have hb := hx hm
      rw [if_pos he]
      refine ev_neg (by rw [he]; simp) ?_
      have := ih (by omega) (acc ++ cellsM C x) (by rw [List.length_append, cellsM_length]; omega)
      exact spec_CellsOf_l1_ev (by omega) h hC h0 hb 0 (by omega) acc (by omega) (by simpa [cellsM] using this)
    · rw [if_neg he]
      refine ev_pos ?_ (by simpa using ih (by omega) acc (by omega))
      rw [← slot_ext_iff] at he
      simp only [Bool.or_eq_true, Bool.not_eq_true', beq_eq_false_iff_ne, ne_eq]
      by_cases a : l[i].f0 = x.f0 <;> by_cases b : l[i].f1 = x.f1 <;> by_cases c : l[i].f2 = x.f2 <;> simp_all
theorem flatMap_one {l : List ISlot} {x : ISlot} {v : List Int} (h : l.Nodup) : (l.flatMap fun y => if y = x then v else []) = if x ∈ l then v else [] := by
  induction l with
  | nil => simp
  | cons a l ih =>
    rw [List.nodup_cons] at h
    rw [List.flatMap_cons, ih h.2]
    by_cases e : a = x
    · subst e
      simp [h.1]
    · simp [e, show ¬ x = a from fun h => e h.symm]
theorem spec_CellsOf_ev (r c : Int) (s : ByteArray) (x : ISlot) (hs : s.size ≤ 1048576) : Ev (fun k => spec_CellsOf.f k r c s x.f0 x.f1 x.f2 x.f3) (cellsOfM r c s x) := by
  unfold spec_CellsOf.f
  refine ev_bind (spec_SlotsOf_ev r c s hs) ?_
  by_cases hg : gridM r c s = true
  · obtain ⟨R, C, rfl, rfl, h1, h2, h3, h4, h5⟩ := gridM_nat hg
    have hl := slotsM_length R C s
    refine ev_eq (spec_CellsOf_l0_ev R C s x (slotsM R C s) (by omega) h4 (by omega) ?_ 0 (by omega) [] (by simp)) ?_
    · intro hm
      obtain ⟨R', C', e1, e2, _, h7, _, h9, _, _, hk⟩ := slotsM_ok hm
      have := okSlot_bounds h7 h9 hk
      omega
    · rw [List.drop_zero, flatMap_one (slotsM_nodup _ _ _)]
      simp [cellsOfM]
  · have e : slotsM r c s = [] := by
      unfold slotsM
      rw [if_neg hg]
    unfold cellsOfM
    rw [e]
    apply ev_succ
    simp only [spec_CellsOf.l0]
    exact ev_neg (by simp) (ev_now (by simp))
theorem impl_cells_l0_ev (C : Nat) (x : ISlot) (hC : C ≤ 6) (h0 : 0 < C) (hx : 0 ≤ x.f2 ∧ x.f2 < 36 ∧ 0 ≤ x.f3 ∧ x.f3.toNat ≤ 6) : ∀ n : Nat, n ≤ x.f3.toNat → ∀ acc : List Int, acc.length ≤ n →
    Ev (fun k => impl_cells.l0 k (stepM C x.f1) acc x.f3 n x.f0 x.f1 x.f2 x.f3) (acc ++ (List.range' n (x.f3.toNat - n)).map fun k : Nat => x.f2 + (k : Int) * (stepM C x.f1 : Int)) := by
  refine down x.f3.toNat ?_ ?_
  · intro n h hn acc ha
    apply ev_succ
    simp only [impl_cells.l0]
    rw [range_nil h]
    exact ev_neg (by omega) (ev_now (by simp))
  · intro n h ih hn acc ha
    have hst := stepM_le hC h0 x.f1
    have hw := cell_wrap (C := stepM C x.f1) (x := x) hst.2 (by omega) (show n ≤ 6 by omega) hx.1 hx.2.1
    apply ev_succ
    simp only [impl_cells.l0]
    rw [wrap64_id (n := (n : Int) + 1) (by omega) (by omega), succ_cast, hw.1, hw.2, range_cons h, List.map_cons]
    exact ev_pos (by omega) (ev_pos (by omega) (ev_eq (ih (by omega) _ (by simp; omega)) (by simp)))
theorem impl_cells_ev (R : Int) (C : Nat) (s : ByteArray) (x : ISlot) (hC : C ≤ 6) (h0 : 0 < C) (hx : 0 ≤ x.f2 ∧ x.f2 < 36 ∧ 0 ≤ x.f3 ∧ x.f3.toNat ≤ 6) : Ev (fun k => impl_cells.f k R C s x.f0 x.f1 x.f2 x.f3) (cellsM C x) := by
  have key : Ev (fun k => impl_cells.j0 k (stepM C x.f1) x.f0 x.f1 x.f2 x.f3) (cellsM C x) := by
    apply ev_succ
    simp only [impl_cells.j0]
    simpa [cellsM] using impl_cells_l0_ev C x hC h0 hx 0 (by omega) [] (by simp)
  unfold impl_cells.f
  cases hd : x.f1 with
  | true =>
    rw [hd] at key
    exact ev_pos rfl (by simpa [stepM] using key)
  | false =>
    rw [hd] at key
    exact ev_neg (by simp) (by simpa [stepM] using key)

/-! ### ints -/
/-- Where a number stands first; -1 where it does not. -/
def placeM (n : Int) : List Int → Nat → Int
  | [], _ => -1
  | a :: l, i => if a = n then i else placeM n l (i + 1)
theorem placeM_nonneg {n : Int} : ∀ {l : List Int} {i : Nat}, (0 ≤ placeM n l i ↔ n ∈ l)
  | [], i => by simp [placeM]
  | a :: l, i => by
    unfold placeM
    by_cases h : a = n
    · simp [h]
    · rw [if_neg h, placeM_nonneg]
      simp [show ¬ n = a from fun e => h e.symm]
theorem slices_Index_int_int_l0_ev (l : List Int) (n : Int) (hl : l.length ≤ 9223372036854775806) : ∀ i : Nat, i ≤ l.length → Ev (fun k => slices_Index_int_int.l0 k l n l.length i) (placeM n (l.drop i) i) := by
  refine down l.length ?_ ?_
  · intro i h hi
    apply ev_succ
    simp only [slices_Index_int_int.l0]
    exact ev_neg (by omega) (ev_now (by rw [List.drop_eq_nil_of_le h]; rfl))
  · intro i h ih hi
    apply ev_succ
    simp only [slices_Index_int_int.l0]
    rw [rd_get h, wrap64_id (n := (i : Int) + 1) (by omega) (by omega), succ_cast, List.drop_eq_getElem_cons h]
    unfold placeM
    refine ev_pos (by omega) (ev_pos (by omega) (ev_pos (by omega) ?_))
    by_cases he : n = l[i]
    · exact ev_pos he (ev_now (by rw [if_pos he.symm]))
    · exact ev_neg he (ev_eq (ih (by omega)) (by rw [if_neg (fun e => he e.symm)]))
theorem slices_Index_int_int_ev (l : List Int) (n : Int) (hl : l.length ≤ 9223372036854775806) : Ev (fun k => slices_Index_int_int.f k l n) (placeM n l 0) := by
  unfold slices_Index_int_int.f
  exact ev_eq (slices_Index_int_int_l0_ev l n hl 0 (by omega)) (by simp)

/-! ### slotsat -/
theorem rd_ints_get {l : List (List Int)} {i : Nat} (h : i < l.length) : rd_L3 l (i : Int) = l[i] := by
  unfold rd_L3
  simp [h]
/-- The places, from i on, of the slots that hold a cell. -/
def atGo (C : Nat) (cell : Int) : List ISlot → Nat → List Int
  | [], _ => []
  | x :: l, i => if cell ∈ cellsM C x then (i : Int) :: atGo C cell l (i + 1) else atGo C cell l (i + 1)
def slotsAtM (r c : Int) (s : ByteArray) (cell : Int) : List Int := atGo c.toNat cell (slotsM r c s) 0
theorem slotsM_elem {r c : Int} {s : ByteArray} {i : Nat} (h : i < (slotsM r c s).length) : ∃ R C : Nat, r = R ∧ c = C ∧ C ≤ 6 ∧ 0 < C ∧ 0 ≤ (slotsM r c s)[i].f2 ∧ (slotsM r c s)[i].f2 < 36 ∧ 0 ≤ (slotsM r c s)[i].f3 ∧ (slotsM r c s)[i].f3.toNat ≤ 6 := by
  obtain ⟨R, C, h1, h2, h3, h4, h5, h6, _, _, hk⟩ := slotsM_ok (List.getElem_mem h)
  have := okSlot_bounds h4 h6 hk
  exact ⟨R, C, h1, h2, h6, by omega, by omega, by omega, by omega, by omega⟩
theorem cellsOfM_elem {r c : Int} {s : ByteArray} {i : Nat} (h : i < (slotsM r c s).length) : cellsOfM r c s (slotsM r c s)[i] = cellsM c.toNat (slotsM r c s)[i] := by
  unfold cellsOfM
  rw [if_pos (List.getElem_mem h)]
theorem cellsM_length_elem {r c : Int} {s : ByteArray} {i : Nat} (h : i < (slotsM r c s).length) : (cellsM c.toNat (slotsM r c s)[i]).length ≤ 6 := by
  rw [← cellsOfM_elem h]
  exact cellsOfM_length _ _ _ _
theorem impl_layout_l0_ev (r c : Int) (s : ByteArray) : ∀ i : Nat, i ≤ (slotsM r c s).length → ∀ acc : List (List Int), acc.length ≤ i →
    Ev (fun k => impl_layout.l0 k acc (slotsM r c s) (slotsM r c s).length i r c s) (acc ++ ((slotsM r c s).drop i).map (cellsM c.toNat)) := by
  have hl := slotsM_length r c s
  refine down (slotsM r c s).length ?_ ?_
  · intro i h hi acc ha
    apply ev_succ
    simp only [impl_layout.l0]
    exact ev_neg (by omega) (ev_now (by rw [List.drop_eq_nil_of_le h]; simp))
  · intro i h ih hi acc ha
    obtain ⟨R, C, h1, h2, h3, h4, h5, h6, h7, h8⟩ := slotsM_elem h
    have e : c.toNat = C := by omega
    have hcells := impl_cells_ev r C s (slotsM r c s)[i] h3 h4 ⟨h5, h6, h7, h8⟩
    apply ev_succ
    simp only [impl_layout.l0]
    rw [rd_Slot_get h, wrap64_id (n := (i : Int) + 1) (by omega) (by omega), succ_cast, List.drop_eq_getElem_cons h, List.map_cons]
    refine ev_pos (by omega) (ev_pos (by omega) (ev_pos (by omega) (ev_bind (a := cellsM C (slotsM r c s)[i]) ?_ (ev_pos (by omega) ?_))))
    · rw [← h2] at hcells
      exact hcells
    · exact ev_eq (ih (by omega) _ (by simp; omega)) (by rw [e]; simp)
def layoutM (r c : Int) (s : ByteArray) : List (List Int) := (slotsM r c s).map (cellsM c.toNat)
theorem layoutM_length (r c : Int) (s : ByteArray) : (layoutM r c s).length = (slotsM r c s).length := by simp [layoutM]
theorem layoutM_get {r c : Int} {s : ByteArray} {i : Nat} (h : i < (slotsM r c s).length) : (layoutM r c s)[i]'(by rw [layoutM_length]; exact h) = cellsM c.toNat (slotsM r c s)[i] := by simp [layoutM]
theorem impl_layout_ev (r c : Int) (s : ByteArray) (hs : s.size ≤ 1048576) : Ev (fun k => impl_layout.f k r c s) (layoutM r c s) := by
  unfold impl_layout.f
  exact ev_bind (impl_SlotsOf_ev r c s hs) (ev_eq (impl_layout_l0_ev r c s 0 (by omega) [] (by simp)) (by simp [layoutM]))
/-! ### slotfacts -/
theorem runLen_white {s : ByteArray} {step : Nat} : ∀ {m i k : Nat}, k < runLen s step i m → bt s (i + k * step : Nat) = 46
  | 0, i, k, h => by simp [runLen] at h
  | m + 1, i, k, h => by
    unfold runLen at h
    split at h
    · rename_i hw
      cases k with
      | zero => simpa using hw
      | succ k =>
        have := runLen_white (s := s) (step := step) (m := m) (i := i + step) (k := k) (by omega)
        rw [show i + (k + 1) * step = i + step + k * step by rw [Nat.add_mul, Nat.one_mul]; omega]
        exact this
    · omega
theorem cellsM_mem {C : Nat} {x : ISlot} {c : Int} : c ∈ cellsM C x ↔ ∃ k : Nat, k < x.f3.toNat ∧ c = x.f2 + (k : Int) * (stepM C x.f1 : Int) := by
  unfold cellsM
  rw [List.mem_map]
  constructor
  · rintro ⟨k, hk, rfl⟩
    rw [List.mem_range'] at hk
    obtain ⟨j, hj, rfl⟩ := hk
    exact ⟨_, by omega, rfl⟩
  · rintro ⟨k, hk, rfl⟩
    exact ⟨k, by rw [List.mem_range']; exact ⟨k, by omega, by omega⟩, rfl⟩
/-- A slot's cell: its place, that it lies in the grid, that it is white. -/
theorem okSlot_cell {R C : Nat} {s : ByteArray} {x : ISlot} {c : Int} (h0 : 0 < C) (h : okSlot R C s x) (hc : c ∈ cellsM C x) :
    ∃ i k : Nat, x.f2 = i ∧ x.f3 = runM R C s i x.f1 ∧ i < R * C ∧ c = ((i + k * stepM C x.f1 : Nat) : Int) ∧ k < runM R C s i x.f1 ∧ atM C x.f1 i + k < mostM R C x.f1 ∧ i + k * stepM C x.f1 < R * C ∧ bt s c = 46 ∧ ¬ (0 < atM C x.f1 i ∧ bt s (i - stepM C x.f1 : Nat) = 46) := by
  obtain ⟨i, hi, h2, h3, h4⟩ := h
  obtain ⟨k, hk, rfl⟩ := cellsM_mem.1 hc
  have hk' : k < runM R C s i x.f1 := by omega
  have hk0 := hk'
  unfold runM at hk'
  split at hk'
  · rename_i hs
    have hle := runLen_le s (stepM C x.f1) (mostM R C x.f1 - atM C x.f1 i) i
    have hw := runLen_white hk'
    have hat : atM C x.f1 i + k < mostM R C x.f1 := by omega
    have hcast : x.f2 + (k : Int) * (stepM C x.f1 : Int) = ((i + k * stepM C x.f1 : Nat) : Int) := by
      rw [h2, Int.natCast_add, Int.natCast_mul]
    refine ⟨i, k, h2, h3, hi, hcast, hk0, hat, cell_lt h0 hi hat, ?_, hs.2⟩
    rw [hcast]
    exact hw
  · omega
theorem atM_add {C : Nat} {dn : Bool} {i d : Nat} {R : Nat} (h0 : 0 < C) (h : atM C dn i + d < mostM R C dn) : atM C dn (i + d * stepM C dn) = atM C dn i + d := by
  cases dn with
  | true =>
    simp only [atM, stepM, if_true]
    rw [Nat.add_mul_div_right _ _ h0]
  | false =>
    simp only [atM, stepM, mostM, Bool.false_eq_true, if_false, Nat.mul_one] at h ⊢
    rw [Nat.add_mod, Nat.mod_eq_of_lt (show d < C by omega), Nat.mod_eq_of_lt h]
/-- Two slots of one direction that share a cell begin at one cell. -/
theorem slot_one {R C : Nat} {s : ByteArray} {x y : ISlot} {c : Int} (h0 : 0 < C) (hx : okSlot R C s x) (hy : okSlot R C s y) (hd : x.f1 = y.f1) (h1 : c ∈ cellsM C x) (h2 : c ∈ cellsM C y) : x.f2 = y.f2 := by
  have aux : ∀ x y : ISlot, okSlot R C s x → okSlot R C s y → x.f1 = y.f1 → c ∈ cellsM C x → c ∈ cellsM C y → ¬ x.f2 < y.f2 := by
    intro x y hx hy hd h1 h2 hlt
    obtain ⟨i, a, e1, _, _, e2, ha, hat, _, _, _⟩ := okSlot_cell h0 hx h1
    obtain ⟨j, b, e3, _, _, e4, hb, hat2, _, _, hst⟩ := okSlot_cell h0 hy h2
    rw [← hd] at e4 hb hat2 hst
    have hij : i < j := by omega
    have hst' : 0 < stepM C x.f1 := by
      unfold stepM
      split <;> omega
    have e5 : i + a * stepM C x.f1 = j + b * stepM C x.f1 := by omega
    have hab : b < a := by
      apply Classical.byContradiction
      intro hn
      have := Nat.mul_le_mul_right (stepM C x.f1) (show a ≤ b by omega)
      omega
    obtain ⟨d, rfl⟩ : ∃ d, a = b + (d + 1) := ⟨a - b - 1, by omega⟩
    have e6 : j = i + (d + 1) * stepM C x.f1 := by
      rw [Nat.add_mul] at e5
      omega
    have e7 : atM C x.f1 j = atM C x.f1 i + (d + 1) := by
      rw [e6]
      exact atM_add (R := R) h0 (by omega)
    have hr : d < runM R C s i x.f1 := by omega
    have hw : bt s (i + d * stepM C x.f1 : Nat) = 46 := by
      unfold runM at hr
      split at hr
      · exact runLen_white hr
      · omega
    refine hst ⟨by omega, ?_⟩
    rw [show j - stepM C x.f1 = i + d * stepM C x.f1 by rw [e6, Nat.add_mul, Nat.one_mul]; omega]
    exact hw
  have := aux x y hx hy hd h1 h2
  have := aux y x hy hx hd.symm h2 h1
  omega
/-- The slots that hold a cell. -/
def holdersM (r c : Int) (s : ByteArray) (cell : Int) : List ISlot := (slotsM r c s).filter fun x => decide (cell ∈ cellsM c.toNat x)
theorem holders_dirs (r c : Int) (s : ByteArray) (cell : Int) : (holdersM r c s cell).Pairwise fun a b => a.f1 ≠ b.f1 := by
  unfold holdersM
  have hp := (slotsM_pairwise r c s).filter fun x => decide (cell ∈ cellsM c.toNat x)
  refine List.Pairwise.imp_of_mem ?_ hp
  intro a b ha hb hlt he
  rw [List.mem_filter, decide_eq_true_eq] at ha hb
  obtain ⟨R, C, rfl, rfl, _, _, h3, _, _, _, hka⟩ := slotsM_ok ha.1
  obtain ⟨R', C', e1, e2, _, _, _, _, _, _, hkb⟩ := slotsM_ok hb.1
  have e1' : R' = R := by omega
  have e2' : C' = C := by omega
  subst e1' e2'
  have := slot_one (by omega) hka hkb he ha.2 hb.2
  rcases hlt with h | ⟨_, h1, h2⟩
  · omega
  · rw [h1, h2] at he
    cases he
theorem holders_two (r c : Int) (s : ByteArray) (cell : Int) : (holdersM r c s cell).length ≤ 2 := by
  have h := holders_dirs r c s cell
  match holdersM r c s cell, h with
  | [], _ => simp
  | [_], _ => simp
  | [_, _], _ => simp
  | a :: b :: d :: l, h =>
    simp only [List.pairwise_cons] at h
    have h1 := h.1 b (by simp)
    have h2 := h.1 d (by simp)
    have h3 := h.2.1 d (by simp)
    cases ha : a.f1 <;> cases hb : b.f1 <;> cases hd : d.f1 <;> simp_all
theorem atGo_holders (C : Nat) (cell : Int) : ∀ (l : List ISlot) (i : Nat), (atGo C cell l i).length = (l.filter fun x => decide (cell ∈ cellsM C x)).length
  | [], _ => rfl
  | x :: l, i => by
    unfold atGo
    by_cases h : cell ∈ cellsM C x
    · simp [h, atGo_holders C cell l (i + 1)]
    · simp [h, atGo_holders C cell l (i + 1)]
theorem slotsAtM_two (r c : Int) (s : ByteArray) (cell : Int) : (slotsAtM r c s cell).length ≤ 2 := by
  have := holders_two r c s cell
  unfold slotsAtM
  rw [atGo_holders]
  exact this
theorem slotsAtM_white {r c : Int} {s : ByteArray} {cell : Int} (h : 0 < (slotsAtM r c s cell).length) : bt s cell = 46 := by
  unfold slotsAtM at h
  rw [atGo_holders] at h
  obtain ⟨x, hx⟩ := List.exists_mem_of_length_pos h
  rw [List.mem_filter, decide_eq_true_eq] at hx
  obtain ⟨R, C, rfl, rfl, _, _, h3, _, _, _, hk⟩ := slotsM_ok hx.1
  obtain ⟨_, _, _, _, _, _, _, _, _, hw, _⟩ := okSlot_cell (by omega) hk hx.2
  exact hw
theorem slotsM_nil {r c : Int} {s : ByteArray} (h : ¬ gridM r c s = true) : slotsM r c s = [] := by
  unfold slotsM
  rw [if_neg h]

/-! ### unchecked -/
/-! ### alone -/
theorem grid_le36 {r c : Int} {s : ByteArray} (h : gridM r c s = true) : s.size ≤ 36 := by
  obtain ⟨R, C, _, _, _, h2, _, h4, h5⟩ := gridM_nat h
  have := bounds36 h2 h4
  omega
theorem layout_row {r c : Int} {s : ByteArray} {l : List Int} (h : l ∈ layoutM r c s) : l.length ≤ 6 ∧ ∀ x ∈ l, 0 ≤ x ∧ x < 36 ∧ x < s.size := by
  unfold layoutM at h
  obtain ⟨x, hx, rfl⟩ := List.mem_map.1 h
  obtain ⟨i, hi, rfl⟩ := List.getElem_of_mem hx
  refine ⟨cellsM_length_elem hi, fun y hy => ?_⟩
  obtain ⟨R, C, rfl, rfl, _, h2, h3, h4, h5, _, hk⟩ := slotsM_ok hx
  obtain ⟨i, k, _, _, _, e, _, _, h, _⟩ := okSlot_cell (by omega) hk hy
  have := bounds36 h2 h4
  omega
/-- Is there a white cell in no slot, without a letter? -/
def aloneAllM (r c : Int) (s f : ByteArray) : Bool := (List.range' 0 s.size).any (aloneAt (layoutM r c s).flatten s f)
theorem impl_alone_ev (r c : Int) (s f : ByteArray) (hs : s.size ≤ 1048576) (hf : s.size ≤ f.size) (hf2 : f.size ≤ 1000000) : Ev (fun k => impl_alone.f k r c s f) (aloneAllM r c s f) := by
  have hl := slotsM_length r c s
  have hL := layoutM_length r c s
  unfold impl_alone.f aloneAllM
  refine ev_bind (impl_layout_ev r c s hs) (ev_pos ⟨⟨by omega, fun l h => ?_⟩, hf, hf2⟩ (ev_now rfl))
  obtain ⟨h1, h2⟩ := layout_row h
  exact ⟨by omega, fun x hx => by have := h2 x hx; omega⟩
theorem in_layout {r c : Int} {s : ByteArray} {cell : Int} : cell ∈ (layoutM r c s).flatten ↔ 0 < (slotsAtM r c s cell).length := by
  unfold slotsAtM layoutM
  rw [atGo_holders, List.mem_flatten]
  constructor
  · rintro ⟨l, hl, hc⟩
    obtain ⟨x, hx, rfl⟩ := List.mem_map.1 hl
    exact List.length_pos_of_mem (List.mem_filter.2 ⟨hx, by simpa using hc⟩)
  · intro h
    obtain ⟨x, hx⟩ := List.exists_mem_of_length_pos h
    rw [List.mem_filter, decide_eq_true_eq] at hx
    exact ⟨_, List.mem_map.2 ⟨x, hx.1, rfl⟩, hx.2⟩

/-! ### fill -/
/-- May this sign stand in a fill over this cell of a grid? -/
def fillC (g f : Int) : Bool := (decide (g = 35) == decide (f = 35)) && (decide (f = 35) || decide (f = 63) || isL f)
def fillM (r c : Int) (s f : ByteArray) : Bool := gridM r c s && (decide (f.size = s.size) && (List.range' 0 (f.size - 0)).all fun j => fillC (bt s j) (bt f j))
theorem gridM_cell {r c : Int} {s : ByteArray} (h : gridM r c s = true) (i : Nat) (hi : i < s.size) : bt s i = 35 ∨ bt s i = 46 := by
  simp only [gridM, Bool.and_eq_true, List.all_eq_true] at h
  have := h.2 i (by rw [List.mem_range']; exact ⟨i, by omega, by omega⟩)
  simpa [isC] using this
theorem spec_IsFill_l0_ev (r c : Int) (s f : ByteArray) (hg : gridM r c s = true) (hf : f.size ≤ 140737488351232) (he : f.size = s.size) : ∀ i : Nat, i ≤ f.size → Ev (fun k => spec_IsFill.l0 k f i r c s) ((List.range' i (f.size - i)).all fun j => fillC (bt s j) (bt f j)) := by
  refine down f.size ?_ ?_
  · intro i h hi
    apply ev_succ
    simp only [spec_IsFill.l0]
    refine ev_neg (by omega) (ev_now ?_)
    rw [range_nil h]; rfl
  · intro i h ih hi
    have hc := gridM_cell hg i (by omega)
    apply ev_succ
    simp only [spec_IsFill.l0]
    rw [range_cons h, List.all_cons, wrap64_id (by omega) (by omega), succ_cast]
    refine ev_pos (by omega) (ev_pos (by omega) ?_)
    have ih' := ih (by omega)
    by_cases h1 : bt f i = 63
    · refine ev_pos h1 (ev_pos (by omega) ?_)
      rcases hc with hc | hc
      · exact ev_pos hc (ev_neg (by omega) (ev_now (by simp [fillC, hc, h1])))
      · exact ev_neg (by omega) (ev_pos hc (ev_eq ih' (by simp [fillC, hc, h1])))
    · refine ev_neg h1 ?_
      by_cases h2 : bt f i ≥ 97
      · refine ev_pos h2 (ev_pos (by omega) ?_)
        rcases hc with hc | hc
        · exact ev_pos hc (ev_neg (by omega) (ev_now (by simp [fillC, hc, show ¬ bt f i = 35 by omega])))
        · refine ev_neg (by omega) (ev_pos hc ?_)
          by_cases h3 : bt f i ≤ 122
          · exact ev_pos h3 (ev_eq ih' (by simp [fillC, isL, hc, show ¬ bt f i = 35 by omega, h1, h2, h3]))
          · exact ev_neg h3 (ev_now (by simp [fillC, isL, hc, show ¬ bt f i = 35 by omega, h1, h2, h3]))
      · refine ev_neg h2 (ev_pos (by omega) ?_)
        rcases hc with hc | hc
        · refine ev_pos hc ?_
          by_cases h3 : bt f i = 35
          · exact ev_pos h3 (ev_neg (by omega) (ev_eq ih' (by simp [fillC, hc, h3])))
          · exact ev_neg h3 (ev_now (by simp [fillC, hc, h3]))
        · refine ev_neg (by omega) (ev_pos hc (ev_now ?_))
          have : fillC (bt s i) (bt f i) = false := by
            unfold fillC isL
            rw [hc]
            by_cases h3 : bt f i = 35
            · simp [h3]
            · simp [h3, h1]; omega
          simp [this]
theorem impl_IsFill_l0_ev (r c : Int) (s f : ByteArray) (hg : gridM r c s = true) (hf : f.size ≤ 140737488351232) (he : f.size = s.size) : ∀ i : Nat, i ≤ f.size → Ev (fun k => impl_IsFill.l0 k f f.size i r c s) ((List.range' i (f.size - i)).all fun j => fillC (bt s j) (bt f j)) := by
  refine down f.size ?_ ?_
  · intro i h hi
    apply ev_succ
    simp only [impl_IsFill.l0]
    refine ev_neg (by omega) (ev_now ?_)
    rw [range_nil h]; rfl
  · intro i h ih hi
    have hc := gridM_cell hg i (by omega)
    apply ev_succ
    simp only [impl_IsFill.l0]
    rw [range_cons h, List.all_cons, wrap64_id (by omega) (by omega), succ_cast]
    refine ev_pos (by omega) (ev_pos (by omega) (ev_pos (by omega) (ev_pos (by omega) ?_)))
    have ih' := ih (by omega)
    rcases hc with hc | hc
    · refine ev_pos hc ?_
      by_cases h1 : bt f i = 35
      · exact ev_pos h1 (ev_eq ih' (by simp [fillC, hc, h1]))
      · exact ev_neg h1 (ev_now (by simp [fillC, hc, h1]))
    · refine ev_neg (by omega) ?_
      by_cases h1 : bt f i = 35
      · exact ev_pos h1 (ev_now (by simp [fillC, hc, h1]))
      · refine ev_neg h1 ?_
        by_cases h2 : bt f i = 63
        · exact ev_pos h2 (ev_eq ih' (by simp [fillC, hc, h2]))
        · refine ev_neg h2 (ev_let (impl_isLetter_eq _) ?_)
          cases hl : isL (bt f i)
          · exact ev_neg (by simp) (ev_now (by simp [fillC, hc, h1, h2, hl]))
          · exact ev_pos rfl (ev_eq ih' (by simp [fillC, hc, h1, h2, hl]))
theorem spec_IsFill_ev (r c : Int) (s f : ByteArray) (hs : s.size ≤ 140737488351232) (hf : f.size ≤ 140737488351232) : Ev (fun k => spec_IsFill.f k r c s f) (fillM r c s f) := by
  unfold spec_IsFill.f fillM
  refine ev_bind (spec_IsGrid_ev r c s hs) ?_
  cases hg : gridM r c s
  · refine ev_neg (by simp) (ev_succ ?_)
    simp only [spec_IsFill.j0]
    exact ev_pos (by simp) (ev_now rfl)
  · refine ev_pos rfl (ev_succ ?_)
    simp only [spec_IsFill.j0]
    by_cases he : f.size = s.size
    · exact ev_neg (by simp [he]) (ev_eq (spec_IsFill_l0_ev r c s f hg hf he 0 (by omega)) (by simp [he]))
    · exact ev_pos (by simp; omega) (ev_now (by simp [he]))
theorem impl_IsFill_ev (r c : Int) (s f : ByteArray) (hs : s.size ≤ 140737488351232) (hf : f.size ≤ 140737488351232) : Ev (fun k => impl_IsFill.f k r c s f) (fillM r c s f) := by
  unfold impl_IsFill.f fillM
  refine ev_bind (impl_IsGrid_ev r c s hs) ?_
  cases hg : gridM r c s
  · refine ev_neg (by simp) (ev_succ ?_)
    simp only [impl_IsFill.j0]
    exact ev_pos (by simp) (ev_now rfl)
  · refine ev_pos rfl (ev_succ ?_)
    simp only [impl_IsFill.j0]
    by_cases he : f.size = s.size
    · exact ev_neg (by simp [he]) (ev_eq (impl_IsFill_l0_ev r c s f hg hf he 0 (by omega)) (by simp [he]))
    · exact ev_pos (by simp; omega) (ev_now (by simp [he]))

/-! ### pattern -/
/-- The signs of a fill at some cells. -/
def patM (f : ByteArray) (l : List Int) : ByteArray := strOfNums (l.map fun x => bt f x)
theorem strOfNums_size (l : List Int) : (strOfNums l).size = l.length := by
  simp [strOfNums, ByteArray.size]
theorem strOfNums_snoc (l : List Int) (f : ByteArray) (j : Nat) (hj : j < f.size) : strOfNums l ++ f.extract j (j + 1) = strOfNums (l ++ [bt f j]) := by
  apply ByteArray.ext
  apply Array.ext'
  have h1 : (f.extract j (j + 1)).data.toList = [f[j]] := by
    rw [ByteArray.data_extract, Array.toList_extract, List.extract_eq_take_drop]
    have hl : j < f.data.toList.length := by rw [Array.length_toList]; exact hj
    rw [show j + 1 - j = 1 by omega, List.drop_eq_getElem_cons hl]
    simp [ByteArray.getElem_eq_getElem_data]
  rw [ByteArray.toList_data_append, h1]
  simp [strOfNums, bt, hj]
theorem slot_cells_in {r c : Int} {s : ByteArray} {x : ISlot} {cell : Int} (hx : x ∈ slotsM r c s) (hc : cell ∈ cellsM c.toNat x) : 0 ≤ cell ∧ cell < s.size := by
  obtain ⟨R, C, rfl, rfl, _, _, h3, _, h5, _, hk⟩ := slotsM_ok hx
  obtain ⟨i, k, _, _, _, e, _, _, h, _⟩ := okSlot_cell (by omega) hk hc
  omega
theorem impl_readCells_l0_ev (f : ByteArray) (l : List Int) (hl : l.length ≤ 1000) (hc : ∀ x ∈ l, 0 ≤ x ∧ x < f.size) : ∀ i : Nat, i ≤ l.length → ∀ acc : List Int, acc.length ≤ i → Ev (fun k => impl_readCells.l0 k f acc l l.length i) (strOfNums (acc ++ (l.drop i).map fun x => bt f x)) := by
  refine down l.length ?_ ?_
  · intro i h hi acc ha
    apply ev_succ
    simp only [impl_readCells.l0]
    exact ev_neg (by omega) (ev_now (by rw [List.drop_eq_nil_of_le h]; simp))
  · intro i h ih hi acc ha
    have hb := hc l[i] (List.getElem_mem h)
    apply ev_succ
    simp only [impl_readCells.l0]
    rw [rd_get h, wrap64_id (n := (i : Int) + 1) (by omega) (by omega), succ_cast, List.drop_eq_getElem_cons h, List.map_cons]
    exact ev_pos (by omega) (ev_pos (by omega) (ev_pos (by omega) (ev_pos hb.1 (ev_pos hb.2 (ev_pos (by omega) (ev_eq (ih (by omega) _ (by simp; omega)) (by simp)))))))
theorem impl_readCells_ev (f : ByteArray) (l : List Int) (hl : l.length ≤ 1000) (hc : ∀ x ∈ l, 0 ≤ x ∧ x < f.size) : Ev (fun k => impl_readCells.f k f l) (patM f l) := by
  unfold impl_readCells.f patM
  exact ev_eq (impl_readCells_l0_ev f l hl hc 0 (by omega) [] (by simp)) (by simp)
theorem fillM_size {r c : Int} {s f : ByteArray} (h : fillM r c s f = true) : gridM r c s = true ∧ f.size = s.size := by
  simp only [fillM, Bool.and_eq_true, decide_eq_true_eq] at h
  exact ⟨h.1, h.2.1⟩
def patternsM (r c : Int) (s f : ByteArray) : List ByteArray := if fillM r c s f then (layoutM r c s).map (patM f) else []
theorem patternsM_length (r c : Int) (s f : ByteArray) : (patternsM r c s f).length ≤ 72 := by
  have := slotsM_length r c s
  unfold patternsM
  split
  · rw [List.length_map, layoutM_length]
    omega
  · simp
/-- What SlotPattern answers. -/
def patternM (r c : Int) (s f : ByteArray) (slot : Int) : ByteArray := if 0 ≤ slot ∧ slot < (patternsM r c s f).length then (patternsM r c s f).getD slot.toNat ⟨#[]⟩ else ⟨#[]⟩
theorem impl_patterns_l0_ev (r c : Int) (s f : ByteArray) (hs : f.size = s.size) : ∀ i : Nat, i ≤ (slotsM r c s).length → ∀ acc : List ByteArray, acc.length ≤ i →
    Ev (fun k => impl_patterns.l0 k f acc (layoutM r c s) (layoutM r c s).length i) (acc ++ ((layoutM r c s).drop i).map (patM f)) := by
  have hl := slotsM_length r c s
  have hL := layoutM_length r c s
  refine down (slotsM r c s).length ?_ ?_
  · intro i h hi acc ha
    apply ev_succ
    simp only [impl_patterns.l0]
    exact ev_neg (by omega) (ev_now (by rw [List.drop_eq_nil_of_le (by omega)]; simp))
  · intro i h ih hi acc ha
    have h6 := cellsM_length_elem h
    have hi' : i < (layoutM r c s).length := by omega
    have hr := impl_readCells_ev f (cellsM c.toNat (slotsM r c s)[i]) (by omega) (fun x hx => by have := slot_cells_in (List.getElem_mem h) hx; omega)
    apply ev_succ
    simp only [impl_patterns.l0]
    rw [rd_ints_get hi', layoutM_get h, wrap64_id (n := (i : Int) + 1) (by omega) (by omega), succ_cast, List.drop_eq_getElem_cons hi', List.map_cons, layoutM_get h]
    exact ev_pos (by omega) (ev_pos (by omega) (ev_pos (by omega) (ev_bind hr (ev_pos (by omega) (ev_eq (ih (by omega) _ (by simp; omega)) (by simp))))))
theorem impl_patterns_ev (r c : Int) (s f : ByteArray) (hs : s.size ≤ 1048576) (hf : f.size ≤ 1048576) : Ev (fun k => impl_patterns.f k r c s f) (patternsM r c s f) := by
  unfold impl_patterns.f patternsM
  refine ev_bind (impl_IsFill_ev r c s f (by omega) (by omega)) ?_
  by_cases h : fillM r c s f = true
  · rw [if_pos h]
    exact ev_pos h (ev_bind (impl_layout_ev r c s hs) (ev_eq (impl_patterns_l0_ev r c s f (fillM_size h).2 0 (by omega) [] (by simp)) (by simp)))
  · rw [if_neg h]
    exact ev_neg h (ev_now rfl)
theorem spec_SlotPattern_l0_ev (f : ByteArray) (l : List Int) (hf : f.size ≤ 1048576) (hl : l.length ≤ 1000) (hc : ∀ x ∈ l, 0 ≤ x ∧ x < f.size) : ∀ i : Nat, i ≤ l.length → ∀ acc : List Int, acc.length ≤ i → Ev (fun k => spec_SlotPattern.l0 k f (strOfNums acc) l i) (strOfNums (acc ++ (l.drop i).map fun x => bt f x)) := by
  refine down l.length ?_ ?_
  · intro i h hi acc ha
    apply ev_succ
    simp only [spec_SlotPattern.l0]
    exact ev_neg (by omega) (ev_now (by rw [List.drop_eq_nil_of_le h]; simp))
  · intro i h ih hi acc ha
    have hb := hc l[i] (List.getElem_mem h)
    obtain ⟨j, hj⟩ := Int.eq_ofNat_of_zero_le hb.1
    have hjf : j < f.size := by omega
    have hsn := strOfNums_snoc acc f j hjf
    apply ev_succ
    simp only [spec_SlotPattern.l0]
    rw [rd_get h, wrap64_id (n := (i : Int) + 1) (by omega) (by omega), succ_cast, List.drop_eq_getElem_cons h, List.map_cons, hj, wrap64_id (n := (j : Int) + 1) (by omega) (by omega), show ((j : Int) + 1).toNat = j + 1 by omega, show (j : Int).toNat = j by omega, hsn]
    refine ev_pos (by omega) (ev_pos (by omega) (ev_pos (by omega) (ev_pos (by omega) (ev_pos (by omega) (ev_pos ?_ (ev_eq (ih (by omega) _ (by simp; omega)) (by simp)))))))
    rw [strOfNums_size]
    simp [ByteArray.size_extract]
    omega
theorem spec_SlotPattern_ev (r c : Int) (s f : ByteArray) (slot : Int) (hs : s.size ≤ 1048576) (hf : f.size ≤ 1048576) : Ev (fun k => spec_SlotPattern.f k r c s f slot) (patternM r c s f slot) := by
  have hl := slotsM_length r c s
  have hL := layoutM_length r c s
  have hno : Ev (fun k => spec_SlotPattern.j0 k f slot (slotsM r c s) true r c s) ⟨#[]⟩ := by
    apply ev_succ
    simp only [spec_SlotPattern.j0]
    exact ev_pos (by simp) (ev_now rfl)
  unfold spec_SlotPattern.f patternM
  refine ev_bind (spec_SlotsOf_ev r c s hs) (ev_bind (spec_IsFill_ev r c s f (by omega) (by omega)) ?_)
  by_cases h : fillM r c s f = true
  · refine ev_pos h (ev_let (spec_l1In_eq _ _ _) ?_)
    have e : patternsM r c s f = (layoutM r c s).map (patM f) := if_pos h
    have el : (patternsM r c s f).length = (slotsM r c s).length := by rw [e, List.length_map, hL]
    rw [wrap64_id (by omega) (by omega)]
    by_cases hb : 0 ≤ slot ∧ slot < (slotsM r c s).length
    · obtain ⟨j, rfl⟩ := Int.eq_ofNat_of_zero_le hb.1
      have hj : j < (slotsM r c s).length := by omega
      have h6 := cellsM_length_elem hj
      rw [if_pos (by rw [el]; exact hb)]
      apply ev_succ
      simp only [spec_SlotPattern.j0]
      rw [rd_Slot_get hj]
      refine ev_neg (by simp; omega) (ev_pos (by omega) (ev_pos (by omega) (ev_bind (spec_CellsOf_ev r c s _ hs) ?_)))
      rw [cellsOfM_elem hj]
      refine ev_eq (spec_SlotPattern_l0_ev f _ hf (by omega) (fun x hx => by have := slot_cells_in (List.getElem_mem hj) hx; have := (fillM_size h).2; omega) 0 (by omega) [] (by simp)) ?_
      rw [e]
      simp only [List.drop_zero, List.nil_append, Int.toNat_natCast]
      rw [List.getD_eq_getElem?_getD, List.getElem?_map, List.getElem?_eq_getElem (by omega), layoutM_get hj]
      rfl
    · rw [if_neg (by rw [el]; exact hb)]
      rw [show (!decide (0 ≤ slot ∧ slot ≤ ((slotsM r c s).length : Int) - 1)) = true by simp; omega]
      exact hno
  · have e : patternsM r c s f = [] := if_neg h
    refine ev_neg h ?_
    rw [e]
    exact ev_eq hno (by simp)

/-! ### fits -/
def isQ (c : Int) : Bool := decide (c = 63) || isL c
/-- A pattern: one to eight small letters and question marks. -/
def patOk (p : ByteArray) : Bool := decide (1 ≤ p.size ∧ p.size ≤ 8) && (List.range' 0 (p.size - 0)).all fun j => isQ (bt p j)
/-- A word fits a pattern. -/
def fitsM (p w : ByteArray) : Bool := patOk p && (wordM w && (decide (p.size = w.size) && (List.range' 0 (p.size - 0)).all fun j => decide (bt p j = 63 ∨ bt p j = bt w j)))
theorem spec_IsPattern_l0_ev (s : ByteArray) (hs : s.size ≤ 140737488351232) : ∀ i : Nat, i ≤ s.size → Ev (fun k => spec_IsPattern.l0 k s i) ((List.range' i (s.size - i)).all fun j => isQ (bt s j)) := by
  refine down s.size ?_ ?_
  · intro i h hi
    apply ev_succ
    simp only [spec_IsPattern.l0]
    refine ev_neg (by omega) (ev_now ?_)
    rw [range_nil h]; rfl
  · intro i h ih hi
    apply ev_succ
    simp only [spec_IsPattern.l0]
    rw [range_cons h, List.all_cons, wrap64_id (by omega) (by omega), succ_cast]
    refine ev_pos (by omega) (ev_pos (by omega) ?_)
    by_cases h0 : bt s i = 63
    · exact ev_pos h0 (ev_eq (ih (by omega)) (by simp [isQ, h0]))
    · refine ev_neg h0 ?_
      by_cases h1 : bt s i < 97
      · exact ev_pos h1 (ev_now (by simp [isQ, isL, h0]; omega))
      · refine ev_neg h1 ?_
        by_cases h2 : bt s i > 122
        · exact ev_pos h2 (ev_now (by simp [isQ, isL, h0]; omega))
        · refine ev_neg h2 (ev_eq (ih (by omega)) ?_)
          rw [show isQ (bt s i) = true by simp [isQ, isL]; omega, Bool.true_and]
theorem spec_IsPattern_ev (s : ByteArray) (hs : s.size ≤ 140737488351232) : Ev (fun k => spec_IsPattern.f k s) (patOk s) := by
  unfold spec_IsPattern.f patOk
  refine ev_let (spec_l1In_eq _ _ _) ?_
  by_cases h : 1 ≤ s.size ∧ s.size ≤ 8
  · rw [decide_eq_true h, Bool.true_and]
    exact ev_pos (by simp; omega) (spec_IsPattern_l0_ev s hs 0 (by omega))
  · rw [decide_eq_false h, Bool.false_and]
    exact ev_neg (by simp; omega) (ev_now rfl)
theorem impl_IsPattern_l0_ev (s : ByteArray) (hs : s.size ≤ 140737488351232) : ∀ i : Nat, i ≤ s.size → Ev (fun k => impl_IsPattern.l0 k s s.size i) ((List.range' i (s.size - i)).all fun j => isQ (bt s j)) := by
  refine down s.size ?_ ?_
  · intro i h hi
    apply ev_succ
    simp only [impl_IsPattern.l0]
    refine ev_neg (by omega) (ev_now ?_)
    rw [range_nil h]; rfl
  · intro i h ih hi
    apply ev_succ
    simp only [impl_IsPattern.l0]
    rw [range_cons h, List.all_cons, wrap64_id (by omega) (by omega), succ_cast]
    refine ev_pos (by omega) (ev_pos (by omega) (ev_pos (by omega) ?_))
    by_cases h0 : bt s i = 63
    · exact ev_pos h0 (ev_eq (ih (by omega)) (by simp [isQ, h0]))
    · refine ev_neg h0 (ev_let (impl_isLetter_eq _) ?_)
      by_cases h1 : isL (bt s i) = true
      · exact ev_pos h1 (ev_eq (ih (by omega)) (by simp [isQ, h1]))
      · exact ev_neg h1 (ev_now (by simp [isQ, h0, h1]))
theorem impl_IsPattern_ev (s : ByteArray) (hs : s.size ≤ 140737488351232) : Ev (fun k => impl_IsPattern.f k s) (patOk s) := by
  unfold impl_IsPattern.f patOk
  refine ev_let (impl_InRange_eq _ _ _) ?_
  by_cases h : 1 ≤ s.size ∧ s.size ≤ 8
  · rw [decide_eq_true h, Bool.true_and]
    exact ev_pos (by simp; omega) (impl_IsPattern_l0_ev s hs 0 (by omega))
  · rw [decide_eq_false h, Bool.false_and]
    exact ev_neg (by simp; omega) (ev_now rfl)
theorem spec_FitsPattern_l0_ev (p w : ByteArray) (he : p.size = w.size) (hs : p.size ≤ 1000) : ∀ i : Nat, i ≤ p.size → Ev (fun k => spec_FitsPattern.l0 k p w i) ((List.range' i (p.size - i)).all fun j => decide (bt p j = 63 ∨ bt p j = bt w j)) := by
  refine down p.size ?_ ?_
  · intro i h hi
    apply ev_succ
    simp only [spec_FitsPattern.l0]
    refine ev_neg (by omega) (ev_now ?_)
    rw [range_nil h]; rfl
  · intro i h ih hi
    apply ev_succ
    simp only [spec_FitsPattern.l0]
    rw [range_cons h, List.all_cons, wrap64_id (by omega) (by omega), succ_cast]
    refine ev_pos (by omega) (ev_pos (by omega) ?_)
    by_cases h0 : bt p i = 63
    · exact ev_pos h0 (ev_eq (ih (by omega)) (by simp [h0]))
    · refine ev_neg h0 (ev_pos (by omega) ?_)
      by_cases h1 : bt p i = bt w i
      · exact ev_pos h1 (ev_eq (ih (by omega)) (by simp [h1]))
      · exact ev_neg h1 (ev_now (by simp [h0, h1]))
theorem spec_FitsPattern_ev (p w : ByteArray) (hp : p.size ≤ 140737488351232) (hw : w.size ≤ 140737488351232) : Ev (fun k => spec_FitsPattern.f k p w) (fitsM p w) := by
  have hno : Ev (fun k => spec_FitsPattern.j0 k p w true) false := by
    apply ev_succ
    simp only [spec_FitsPattern.j0]
    exact ev_pos (by simp) (ev_now rfl)
  unfold spec_FitsPattern.f fitsM
  refine ev_bind (spec_IsPattern_ev p hp) ?_
  by_cases h1 : patOk p = true
  · have h8 : p.size ≤ 8 := by
      unfold patOk at h1
      simp only [Bool.and_eq_true, decide_eq_true_eq] at h1
      exact h1.1.2
    refine ev_pos h1 (ev_bind (spec_IsWord_ev w hw) ?_)
    rw [h1, Bool.true_and]
    by_cases h2 : wordM w = true
    · refine ev_pos h2 ?_
      rw [h2, Bool.true_and]
      by_cases h3 : p.size = w.size
      · rw [decide_eq_true h3, Bool.true_and]
        apply ev_succ
        simp only [spec_FitsPattern.j0]
        exact ev_neg (by simp [h3]) (spec_FitsPattern_l0_ev p w h3 (by omega) 0 (by omega))
      · rw [decide_eq_false h3, Bool.false_and]
        rw [show ((p.size : Int) != (w.size : Int)) = true by simp; omega]
        exact hno
    · refine ev_neg h2 (ev_eq hno ?_)
      rw [Bool.not_eq_true] at h2
      rw [h2, Bool.false_and]
  · refine ev_neg h1 (ev_eq hno ?_)
    rw [Bool.not_eq_true] at h1
    rw [h1, Bool.false_and]
theorem impl_FitsPattern_l0_ev (p w : ByteArray) (he : p.size = w.size) (hs : p.size ≤ 1000) : ∀ i : Nat, i ≤ p.size → Ev (fun k => impl_FitsPattern.l0 k p w p.size i) ((List.range' i (p.size - i)).all fun j => decide (bt p j = 63 ∨ bt p j = bt w j)) := by
  refine down p.size ?_ ?_
  · intro i h hi
    apply ev_succ
    simp only [impl_FitsPattern.l0]
    refine ev_neg (by omega) (ev_now ?_)
    rw [range_nil h]; rfl
  · intro i h ih hi
    apply ev_succ
    simp only [impl_FitsPattern.l0]
    rw [range_cons h, List.all_cons, wrap64_id (by omega) (by omega), succ_cast]
    refine ev_pos (by omega) (ev_pos (by omega) (ev_pos (by omega) ?_))
    by_cases h0 : bt p i = 63
    · exact ev_pos h0 (ev_eq (ih (by omega)) (by simp [h0]))
    · refine ev_neg h0 (ev_pos (by omega) ?_)
      by_cases h1 : bt p i = bt w i
      · exact ev_pos h1 (ev_eq (ih (by omega)) (by simp [h1]))
      · exact ev_neg h1 (ev_now (by simp [h0, h1]))
theorem impl_FitsPattern_ev (p w : ByteArray) (hp : p.size ≤ 140737488351232) (hw : w.size ≤ 140737488351232) : Ev (fun k => impl_FitsPattern.f k p w) (fitsM p w) := by
  have hno : Ev (fun k => impl_FitsPattern.j0 k p w true) false := by
    apply ev_succ
    simp only [impl_FitsPattern.j0]
    exact ev_pos (by simp) (ev_now rfl)
  unfold impl_FitsPattern.f fitsM
  refine ev_bind (impl_IsPattern_ev p hp) ?_
  by_cases h1 : patOk p = true
  · have h8 : p.size ≤ 8 := by
      unfold patOk at h1
      simp only [Bool.and_eq_true, decide_eq_true_eq] at h1
      exact h1.1.2
    refine ev_pos h1 (ev_bind (impl_IsWord_ev w hw) ?_)
    rw [h1, Bool.true_and]
    by_cases h2 : wordM w = true
    · refine ev_pos h2 ?_
      rw [h2, Bool.true_and]
      by_cases h3 : p.size = w.size
      · rw [decide_eq_true h3, Bool.true_and]
        apply ev_succ
        simp only [impl_FitsPattern.j0]
        exact ev_neg (by simp [h3]) (impl_FitsPattern_l0_ev p w h3 (by omega) 0 (by omega))
      · rw [decide_eq_false h3, Bool.false_and]
        rw [show ((p.size : Int) != (w.size : Int)) = true by simp; omega]
        exact hno
    · refine ev_neg h2 (ev_eq hno ?_)
      rw [Bool.not_eq_true] at h2
      rw [h2, Bool.false_and]
  · refine ev_neg h1 (ev_eq hno ?_)
    rw [Bool.not_eq_true] at h1
    rw [h1, Bool.false_and]

/-! ### putword -/
theorem splice (f w : ByteArray) (a i : Nat) (ha : a < f.size) (hi : i < w.size) : (f.extract 0 a ++ w.extract i (i + 1)) ++ f.extract (a + 1) f.size = ⟨f.data.setIfInBounds a (w.data.toList.getD i 0)⟩ := by
  have hl : i < w.data.toList.length := by simpa using hi
  have hf : a < f.data.toList.length := by simpa using ha
  apply ByteArray.ext
  apply Array.ext'
  rw [ByteArray.data_append, ByteArray.data_append, Array.toList_append, Array.toList_append, ByteArray.data_extract, ByteArray.data_extract, ByteArray.data_extract, Array.toList_extract, Array.toList_extract, Array.toList_extract, Array.toList_setIfInBounds, List.set_eq_take_append_cons_drop, if_pos hf]
  simp only [List.extract]
  rw [show i + 1 - i = 1 by omega, List.drop_eq_getElem_cons hl, List.getD_eq_getElem?_getD, List.getElem?_eq_getElem hl]
  have : (List.drop (a + 1) f.data.toList).take (f.size - (a + 1)) = List.drop (a + 1) f.data.toList := by
    apply List.take_of_length_le
    simp
    try exact Nat.le_refl _
  rw [this]
  simp
/-- A word put into a slot. -/
def putM (r c : Int) (s f : ByteArray) (slot : Int) (w : ByteArray) : ByteArray × Bool := if fitsM (patternM r c s f slot) w = true then (⟨writeGo w ((layoutM r c s).getD slot.toNat []) 0 f.data⟩, true) else (f, false)
theorem fitsM_facts {r c : Int} {s f : ByteArray} {slot : Int} {w : ByteArray} (h : fitsM (patternM r c s f slot) w = true) : ∃ j : Nat, slot = j ∧ ∃ hj : j < (slotsM r c s).length, fillM r c s f = true ∧ patternM r c s f slot = patM f (cellsM c.toNat (slotsM r c s)[j]) ∧ (cellsM c.toNat (slotsM r c s)[j]).length = w.size ∧ w.size ≤ 8 := by
  unfold fitsM at h
  simp only [Bool.and_eq_true, decide_eq_true_eq] at h
  obtain ⟨hp, hw, he, _⟩ := h
  unfold patOk at hp
  simp only [Bool.and_eq_true, decide_eq_true_eq] at hp
  have hsz := hp.1
  have hne : patternM r c s f slot ≠ ⟨#[]⟩ := by
    intro e
    rw [e] at hsz
    simp [ByteArray.size] at hsz
  by_cases hb : 0 ≤ slot ∧ slot < (patternsM r c s f).length
  · obtain ⟨j, hj⟩ := Int.eq_ofNat_of_zero_le hb.1
    have hfill : fillM r c s f = true := by
      by_cases hf : fillM r c s f = true
      · exact hf
      · have : patternsM r c s f = [] := if_neg hf
        rw [this] at hb
        simp at hb
        omega
    have e : patternsM r c s f = (layoutM r c s).map (patM f) := if_pos hfill
    have hlen : j < (slotsM r c s).length := by
      have := hb.2
      rw [e, List.length_map, layoutM_length] at this
      omega
    have hpm : patternM r c s f slot = patM f (cellsM c.toNat (slotsM r c s)[j]) := by
      unfold patternM
      rw [if_pos hb, e, hj]
      have h1 : j < (layoutM r c s).length := by rw [layoutM_length]; exact hlen
      simp only [Int.toNat_natCast]
      rw [List.getD_eq_getElem?_getD, List.getElem?_map, List.getElem?_eq_getElem h1, layoutM_get hlen]
      rfl
    refine ⟨j, hj, hlen, hfill, hpm, ?_, ?_⟩
    · rw [← he, hpm]
      unfold patM
      rw [strOfNums_size, List.length_map]
    · omega
  · exact absurd (by unfold patternM; rw [if_neg hb]) hne
theorem layout_in {r c : Int} {s : ByteArray} {j : Nat} (hj : j < (slotsM r c s).length) : ∀ x ∈ cellsM c.toNat (slotsM r c s)[j], 0 ≤ x ∧ x < s.size := fun _ hx => slot_cells_in (List.getElem_mem hj) hx
theorem layout_getD {r c : Int} {s : ByteArray} {j : Nat} (hj : j < (slotsM r c s).length) : (layoutM r c s).getD j [] = cellsM c.toNat (slotsM r c s)[j] := by
  have h1 : j < (layoutM r c s).length := by rw [layoutM_length]; exact hj
  rw [List.getD_eq_getElem?_getD, List.getElem?_eq_getElem h1, layoutM_get hj]
  rfl
theorem patternsM_size (r c : Int) (s f : ByteArray) : ∀ p ∈ patternsM r c s f, p.size ≤ 1000 := by
  intro p hm
  unfold patternsM at hm
  split at hm
  · obtain ⟨l, hl, rfl⟩ := List.mem_map.1 hm
    obtain ⟨x, hx, rfl⟩ := List.mem_map.1 hl
    obtain ⟨i, hi, rfl⟩ := List.getElem_of_mem hx
    have h6 := cellsM_length_elem hi
    unfold patM
    rw [strOfNums_size, List.length_map]
    omega
  · cases hm
theorem patternM_size (r c : Int) (s f : ByteArray) (slot : Int) (_ : s.size ≤ 1048576) : (patternM r c s f slot).size ≤ 1000 := by
  unfold patternM
  split
  · rename_i hb
    have hj : slot.toNat < (patternsM r c s f).length := by omega
    rw [List.getD_eq_getElem?_getD, List.getElem?_eq_getElem hj]
    exact patternsM_size r c s f _ (List.getElem_mem hj)
  · simp [ByteArray.size]
theorem spec_PutWord_l0_ev (w : ByteArray) (l : List Int) (n : Nat) (hn : n ≤ 1048576) (hc : ∀ x ∈ l, 0 ≤ x ∧ x < n) (hl : l.length = w.size) (h8 : w.size ≤ 8) : ∀ i : Nat, i ≤ l.length → ∀ f : ByteArray, f.size = n → Ev (fun k => spec_PutWord.l0 k f w l i) (⟨writeGo w (l.drop i) i f.data⟩, true) := by
  refine down l.length ?_ ?_
  · intro i h hi f hf
    apply ev_succ
    simp only [spec_PutWord.l0]
    exact ev_neg (by omega) (ev_now (by rw [List.drop_eq_nil_of_le h, writeGo_nil]))
  · intro i h ih hi f hf
    have hb := hc l[i] (List.getElem_mem h)
    obtain ⟨a, ha⟩ := Int.eq_ofNat_of_zero_le hb.1
    have haf : a < f.size := by omega
    have hsp := splice f w a i haf (by omega)
    have h1 : (f.extract 0 a).size + (w.extract i (i + 1)).size ≤ 9223372036854775807 := by
      rw [ByteArray.size_extract, ByteArray.size_extract]
      omega
    have h2 : ((f.extract 0 a) ++ (w.extract i (i + 1))).size + (f.extract (a + 1) f.size).size ≤ 9223372036854775807 := by
      rw [ByteArray.size_append, ByteArray.size_extract, ByteArray.size_extract, ByteArray.size_extract]
      omega
    apply ev_succ
    simp only [spec_PutWord.l0]
    rw [rd_get h, wrap64_id (n := (i : Int) + 1) (by omega) (by omega), succ_cast, ha, wrap64_id (n := (a : Int) + 1) (by omega) (by omega), succ_cast, Int.toNat_natCast, Int.toNat_natCast, Int.toNat_natCast, Int.toNat_natCast, hsp, List.drop_eq_getElem_cons h, writeGo_cons, ha, Int.toNat_natCast]
    refine ev_pos (by omega) (ev_pos (by omega) (ev_pos (by omega) (ev_pos (by omega) (ev_pos (by omega) (ev_pos (by omega) (ev_pos h1 (ev_pos (by omega) (ev_pos (by omega) (ev_pos h2 (ih (by omega) _ ?_))))))))))
    show (f.data.setIfInBounds a (w.data.toList.getD i 0)).size = n
    rw [Array.size_setIfInBounds]
    exact hf
theorem spec_PutWord_ev (r c : Int) (s f : ByteArray) (slot : Int) (w : ByteArray) (hs : s.size ≤ 1048576) (hf : f.size ≤ 1048576) (hw : w.size ≤ 1048576) : Ev (fun k => spec_PutWord.f k r c s f slot w) (putM r c s f slot w) := by
  unfold spec_PutWord.f putM
  have hps := patternM_size r c s f slot hs
  refine ev_bind (spec_SlotPattern_ev r c s f slot hs hf) (ev_bind (spec_FitsPattern_ev _ w (by omega) (by omega)) ?_)
  by_cases h : fitsM (patternM r c s f slot) w = true
  · obtain ⟨j, rfl, hj, hfill, _, hl, h8⟩ := fitsM_facts h
    have hsz := (fillM_size hfill).2
    have hin := layout_in hj
    refine ev_pos h (ev_bind (spec_SlotsOf_ev r c s hs) (ev_pos (by omega) (ev_pos (by omega) ?_)))
    rw [rd_Slot_get hj, if_pos h, Int.toNat_natCast, layout_getD hj]
    refine ev_bind (spec_CellsOf_ev r c s _ hs) ?_
    rw [cellsOfM_elem hj]
    exact spec_PutWord_l0_ev w _ f.size hf (fun x hx => by have := hin x hx; omega) hl h8 0 (by omega) f rfl
  · refine ev_neg h (ev_now ?_)
    rw [if_neg h]

/-! ### strs -/
/-! ### domains -/
/-- The words that fit a pattern. -/
def fittingM (l : List ByteArray) (p : ByteArray) : List ByteArray := l.filter fun w => fitsM p w
theorem fitGo_ev (p : ByteArray) (hp : p.size ≤ 140737488351232) : ∀ l : List ByteArray, (∀ w ∈ l, w.size ≤ 140737488351232) → Ev (fun k => fitGo k p l) (fittingM l p)
  | [], _ => by
    simp only [fitGo_nil]
    exact ev_now rfl
  | w :: l, h => by
    simp only [fitGo_cons]
    refine ev_bind (impl_FitsPattern_ev p w hp (h w (by simp))) (ev_bind (fitGo_ev p hp l (fun x hx => h x (by simp [hx]))) (ev_now ?_))
    unfold fittingM
    rw [List.filter_cons]
theorem impl_WordsFitting_ev (l : List ByteArray) (p : ByteArray) (hl : l.length ≤ 1048576) (hp : p.size ≤ 140737488351232) (h : ∀ w ∈ l, w.size ≤ 140737488351232) : Ev (fun k => impl_WordsFitting.f k l p) (fittingM l p) := by
  unfold impl_WordsFitting.f
  exact ev_pos hl (fitGo_ev p hp l h)
theorem spec_WordsFitting_l0_ev (l : List ByteArray) (p : ByteArray) (hl : l.length ≤ 1048576) (hp : p.size ≤ 140737488351232) (h : ∀ w ∈ l, w.size ≤ 140737488351232) : ∀ i : Nat, i ≤ l.length → ∀ acc : List ByteArray, acc.length ≤ i → Ev (fun k => spec_WordsFitting.l0 k l p acc i) (acc ++ fittingM (l.drop i) p) := by
  refine down l.length ?_ ?_
  · intro i hi _ acc ha
    apply ev_succ
    simp only [spec_WordsFitting.l0]
    refine ev_neg (by omega) (ev_now ?_)
    rw [List.drop_eq_nil_of_le hi]
    simp [fittingM]
  · intro i hi ih _ acc ha
    apply ev_succ
    simp only [spec_WordsFitting.l0]
    rw [rdOf_get hi, wrap64_id (n := (i : Int) + 1) (by omega) (by omega), succ_cast, List.drop_eq_getElem_cons hi]
    refine ev_pos (by omega) (ev_pos (by omega) (ev_bind (spec_FitsPattern_ev p l[i] hp (h _ (List.getElem_mem hi))) ?_))
    unfold fittingM
    rw [List.filter_cons]
    by_cases hf : fitsM p l[i] = true
    · rw [if_pos hf]
      exact ev_pos hf (ev_pos (by omega) (ev_eq (ih (by omega) _ (by simp; omega)) (by simp [fittingM])))
    · rw [if_neg hf]
      exact ev_neg hf (ih (by omega) acc (by omega))
theorem spec_WordsFitting_ev (l : List ByteArray) (p : ByteArray) (hl : l.length ≤ 1048576) (hp : p.size ≤ 140737488351232) (h : ∀ w ∈ l, w.size ≤ 140737488351232) : Ev (fun k => spec_WordsFitting.f k l p) (fittingM l p) := by
  unfold spec_WordsFitting.f
  exact ev_eq (spec_WordsFitting_l0_ev l p hl hp h 0 (by omega) [] (by simp)) (by simp)
theorem patternsM_small' (r c : Int) (s f : ByteArray) : ∀ p ∈ patternsM r c s f, p.size ≤ 1000 := by
  intro p hp
  unfold patternsM at hp
  split at hp
  · obtain ⟨l, hl, rfl⟩ := List.mem_map.1 hp
    unfold layoutM at hl
    obtain ⟨x, hx, rfl⟩ := List.mem_map.1 hl
    obtain ⟨i, hi, rfl⟩ := List.getElem_of_mem hx
    have := cellsM_length_elem hi
    unfold patM
    rw [strOfNums_size, List.length_map]
    omega
  · cases hp
def domainsM (r c : Int) (s f : ByteArray) (words : List ByteArray) : List (List ByteArray) := (patternsM r c s f).map (fittingM words)
theorem impl_DomainsOf_l0_ev (P words : List ByteArray) (hP : P.length ≤ 72) (hp : ∀ p ∈ P, p.size ≤ 1000) (hl : words.length ≤ 1048576) (h : ∀ w ∈ words, w.size ≤ 140737488351232) : ∀ i : Nat, i ≤ P.length → ∀ acc : List (List ByteArray), acc.length ≤ i → Ev (fun k => impl_DomainsOf.l0 k words acc P P.length i) (acc ++ (P.drop i).map (fittingM words)) := by
  refine down P.length ?_ ?_
  · intro i hi _ acc ha
    apply ev_succ
    simp only [impl_DomainsOf.l0]
    refine ev_neg (by omega) (ev_now ?_)
    rw [List.drop_eq_nil_of_le hi]
    simp
  · intro i hi ih _ acc ha
    have := hp _ (List.getElem_mem hi)
    apply ev_succ
    simp only [impl_DomainsOf.l0]
    rw [rdOf_get hi, wrap64_id (n := (i : Int) + 1) (by omega) (by omega), succ_cast, List.drop_eq_getElem_cons hi, List.map_cons]
    exact ev_pos (by omega) (ev_pos (by omega) (ev_pos (by omega) (ev_bind (impl_WordsFitting_ev words P[i] hl (by omega) h) (ev_pos (by omega) (ev_eq (ih (by omega) _ (by simp; omega)) (by simp))))))
theorem impl_DomainsOf_ev (r c : Int) (s f : ByteArray) (words : List ByteArray) (hs : s.size ≤ 1048576) (hf : f.size ≤ 1048576) (hl : words.length ≤ 1048576) (h : ∀ w ∈ words, w.size ≤ 140737488351232) : Ev (fun k => impl_DomainsOf.f k r c s f words) (domainsM r c s f words) := by
  unfold impl_DomainsOf.f domainsM
  exact ev_bind (impl_patterns_ev r c s f hs hf) (ev_eq (impl_DomainsOf_l0_ev _ words (patternsM_length r c s f) (fun p hp => patternsM_small' r c s f p hp) hl h 0 (by omega) [] (by simp)) (by simp))
theorem spec_DomainsOf_l0_ev (r c : Int) (s f : ByteArray) (words : List ByteArray) (hs : s.size ≤ 1048576) (hf : f.size ≤ 1048576) (hl : words.length ≤ 1048576) (h : ∀ w ∈ words, w.size ≤ 140737488351232) (hg : fillM r c s f = true) : ∀ i : Nat, i ≤ (slotsM r c s).length → ∀ acc : List (List ByteArray), acc.length ≤ i →
    Ev (fun k => spec_DomainsOf.l0 k f words acc (slotsM r c s) i r c s) (acc ++ ((patternsM r c s f).drop i).map (fittingM words)) := by
  have hlen := slotsM_length r c s
  have hP : (patternsM r c s f).length = (slotsM r c s).length := by
    unfold patternsM
    rw [if_pos hg, List.length_map, layoutM_length]
  refine down (slotsM r c s).length ?_ ?_
  · intro i hi _ acc ha
    apply ev_succ
    simp only [spec_DomainsOf.l0]
    refine ev_neg (by omega) (ev_succ ?_)
    simp only [spec_DomainsOf.j1]
    refine ev_neg (by simp) (ev_now ?_)
    rw [List.drop_eq_nil_of_le (by omega)]
    simp
  · intro i hi ih _ acc ha
    have hiP : i < (patternsM r c s f).length := by omega
    have hsm := patternsM_small' r c s f _ (List.getElem_mem hiP)
    have hpm : patternM r c s f (i : Int) = (patternsM r c s f)[i] := by
      unfold patternM
      rw [if_pos ⟨by omega, by omega⟩, Int.toNat_natCast, List.getD_eq_getElem?_getD, List.getElem?_eq_getElem hiP]
      rfl
    have hsp := spec_SlotPattern_ev r c s f i hs hf
    rw [hpm] at hsp
    apply ev_succ
    simp only [spec_DomainsOf.l0]
    refine ev_pos (by omega) (ev_bind (spec_IsFill_ev r c s f (by omega) (by omega)) (ev_succ ?_))
    simp only [spec_DomainsOf.j1]
    rw [wrap64_id (n := (i : Int) + 1) (by omega) (by omega), succ_cast, List.drop_eq_getElem_cons hiP, List.map_cons]
    exact ev_pos hg (ev_bind hsp (ev_bind (spec_WordsFitting_ev words _ hl (by omega) h) (ev_pos (by omega) (ev_eq (ih (by omega) _ (by simp; omega)) (by simp)))))
theorem spec_DomainsOf_ev (r c : Int) (s f : ByteArray) (words : List ByteArray) (hs : s.size ≤ 1048576) (hf : f.size ≤ 1048576) (hl : words.length ≤ 1048576) (h : ∀ w ∈ words, w.size ≤ 140737488351232) : Ev (fun k => spec_DomainsOf.f k r c s f words) (domainsM r c s f words) := by
  unfold spec_DomainsOf.f domainsM
  refine ev_bind (spec_SlotsOf_ev r c s hs) ?_
  by_cases hg : fillM r c s f = true
  · exact ev_eq (spec_DomainsOf_l0_ev r c s f words hs hf hl h hg 0 (by omega) [] (by simp)) (by simp)
  · have hn : patternsM r c s f = [] := by
      unfold patternsM
      rw [if_neg hg]
    rw [hn, List.map_nil]
    have hj : ∀ b : Bool, b = false → Ev (fun k => spec_DomainsOf.j1 k f words [] (slotsM r c s) 0 b r c s) [] := by
      intro b hb
      apply ev_succ
      simp only [spec_DomainsOf.j1]
      exact ev_neg (by simp [hb]) (ev_now rfl)
    apply ev_succ
    simp only [spec_DomainsOf.l0]
    by_cases hc : (0 : Int) < ((slotsM r c s).length : Int)
    · exact ev_pos hc (ev_bind (spec_IsFill_ev r c s f (by omega) (by omega)) (hj _ (by simpa using hg)))
    · exact ev_neg hc (hj _ rfl)

/-! ### fillfacts -/
/-! What a word put into a slot leaves in a fill. -/
theorem bt_set (d : Array UInt8) (a j : Nat) (u : UInt8) (ha : a < d.size) : bt ⟨d.setIfInBounds a u⟩ (j : Int) = if a = j then (u.toNat : Int) else bt ⟨d⟩ (j : Int) := by
  unfold bt
  simp only [Int.toNat_natCast]
  by_cases hj : j < d.size
  · rw [dif_pos (show j < (⟨d.setIfInBounds a u⟩ : ByteArray).size by show j < (d.setIfInBounds a u).size; rw [Array.size_setIfInBounds]; exact hj), dif_pos (show j < (⟨d⟩ : ByteArray).size from hj)]
    show (((d.setIfInBounds a u)[j]'(by rw [Array.size_setIfInBounds]; exact hj)).toNat : Int) = if a = j then (u.toNat : Int) else ((d[j]'hj).toNat : Int)
    rw [Array.getElem_setIfInBounds hj]
    split <;> rfl
  · rw [dif_neg (show ¬ j < (⟨d.setIfInBounds a u⟩ : ByteArray).size by show ¬ j < (d.setIfInBounds a u).size; rw [Array.size_setIfInBounds]; exact hj), dif_neg (show ¬ j < (⟨d⟩ : ByteArray).size from hj), if_neg (by omega)]
theorem bt_byte (w : ByteArray) (i : Nat) (h : i < w.size) : ((w.data.toList.getD i 0).toNat : Int) = bt w (i : Int) := by
  have hl : i < w.data.toList.length := by simpa using h
  rw [List.getD_eq_getElem?_getD, List.getElem?_eq_getElem hl]
  unfold bt
  rw [dif_pos (by simpa using h)]
  rfl
theorem writeGo_at (w : ByteArray) : ∀ (l : List Int) (i : Nat) (d : Array UInt8) (j : Nat), (∀ x ∈ l, 0 ≤ x ∧ x < (d.size : Int)) → i + l.length ≤ w.size → (bt ⟨writeGo w l i d⟩ (j : Int) = bt ⟨d⟩ (j : Int) ∧ (j : Int) ∉ l) ∨ ∃ q : Nat, ∃ h : q < l.length, l[q] = (j : Int) ∧ bt ⟨writeGo w l i d⟩ (j : Int) = bt w ((i + q : Nat) : Int)
  | [], i, d, j, _, _ => .inl ⟨rfl, by simp⟩
  | c :: l, i, d, j, hc, hw => by
    rw [List.length_cons] at hw
    obtain ⟨h0, h1⟩ := hc c (by simp)
    rw [writeGo_cons]
    rcases writeGo_at w l (i + 1) (d.setIfInBounds c.toNat (w.data.toList.getD i 0)) j (fun x hx => by rw [Array.size_setIfInBounds]; exact hc x (by simp [hx])) (by omega) with ⟨e, hn⟩ | ⟨q, hq, e1, e2⟩
    · rw [bt_set d c.toNat j _ (by omega)] at e
      by_cases hcj : c.toNat = j
      · rw [if_pos hcj, bt_byte w i (by omega)] at e
        exact .inr ⟨0, by simp, by show c = (j : Int); omega, e⟩
      · rw [if_neg hcj] at e
        refine .inl ⟨e, ?_⟩
        rw [List.mem_cons]
        rintro (h | h)
        · omega
        · exact hn h
    · refine .inr ⟨q + 1, by simp; exact hq, ?_, ?_⟩
      · rw [List.getElem_cons_succ]; exact e1
      · rw [e2, show i + 1 + q = i + (q + 1) by omega]
theorem bt_nums (l : List Int) (q : Nat) (h : q < l.length) (hb : 0 ≤ l[q] ∧ l[q] ≤ 255) : bt (strOfNums l) (q : Int) = l[q] := by
  have hs : q < (strOfNums l).size := by rw [strOfNums_size]; exact h
  rw [← bt_byte _ q hs]
  unfold strOfNums
  simp only [List.getD_eq_getElem?_getD, List.getElem?_map, List.getElem?_eq_getElem h, Option.map_some, Option.getD_some]
  rw [UInt8.toNat_ofNat']
  omega
theorem patM_size (f : ByteArray) (l : List Int) : (patM f l).size = l.length := by unfold patM; rw [strOfNums_size, List.length_map]
theorem patM_at (f : ByteArray) (l : List Int) (q : Nat) (h : q < l.length) : bt (patM f l) (q : Int) = bt f l[q] := by
  unfold patM
  rw [bt_nums _ q (by rw [List.length_map]; exact h) (by rw [List.getElem_map]; exact bt_range _ _), List.getElem_map]
theorem all_range {n : Nat} {p : Nat → Bool} : ((List.range' 0 (n - 0)).all p = true) ↔ ∀ j, j < n → p j = true := by
  rw [List.all_eq_true]
  constructor
  · intro h j hj
    exact h j (by rw [List.mem_range']; exact ⟨j, by omega, by omega⟩)
  · intro h j hj
    rw [List.mem_range'] at hj
    obtain ⟨q, hq, rfl⟩ := hj
    exact h _ (by omega)
theorem fillM_iff {r c : Int} {s f : ByteArray} : fillM r c s f = true ↔ gridM r c s = true ∧ f.size = s.size ∧ ∀ j, j < f.size → fillC (bt s (j : Int)) (bt f (j : Int)) = true := by
  unfold fillM
  rw [Bool.and_eq_true, Bool.and_eq_true, decide_eq_true_eq, all_range]
theorem wordM_iff {w : ByteArray} : wordM w = true ↔ (1 ≤ w.size ∧ w.size ≤ 8) ∧ ∀ j, j < w.size → isL (bt w (j : Int)) = true := by
  unfold wordM
  rw [Bool.and_eq_true, decide_eq_true_eq, all_range]
theorem patOk_iff {p : ByteArray} : patOk p = true ↔ (1 ≤ p.size ∧ p.size ≤ 8) ∧ ∀ j, j < p.size → isQ (bt p (j : Int)) = true := by
  unfold patOk
  rw [Bool.and_eq_true, decide_eq_true_eq, all_range]
theorem fitsM_iff {p w : ByteArray} : fitsM p w = true ↔ patOk p = true ∧ wordM w = true ∧ p.size = w.size ∧ ∀ j : Nat, j < p.size → bt p (j : Int) = 63 ∨ bt p (j : Int) = bt w (j : Int) := by
  unfold fitsM
  rw [Bool.and_eq_true, Bool.and_eq_true, Bool.and_eq_true, decide_eq_true_eq, all_range]
  simp only [decide_eq_true_eq]
/-- Does this word fit the slot k? -/
def fitK (L : List (List Int)) (k : Nat) (f w : ByteArray) : Bool := fitsM (patM f (L.getD k [])) w
def wrK (L : List (List Int)) (k : Nat) (f w : ByteArray) : ByteArray := ⟨writeGo w (L.getD k []) 0 f.data⟩
theorem fitK_iff {L : List (List Int)} {k : Nat} {f w : ByteArray} : fitK L k f w = true ↔ patOk (patM f (L.getD k [])) = true ∧ wordM w = true ∧ (L.getD k []).length = w.size ∧ ∀ j (h : j < (L.getD k []).length), bt f (L.getD k [])[j] = 63 ∨ bt f (L.getD k [])[j] = bt w (j : Int) := by
  unfold fitK
  rw [fitsM_iff, patM_size]
  constructor
  · rintro ⟨h1, h2, h3, h4⟩
    exact ⟨h1, h2, h3, fun j h => by rw [← patM_at f _ j h]; exact h4 j h⟩
  · rintro ⟨h1, h2, h3, h4⟩
    exact ⟨h1, h2, h3, fun j h => by rw [patM_at f _ j h]; exact h4 j h⟩
theorem row_mem {L : List (List Int)} {k : Nat} (h : k < L.length) : L.getD k [] ∈ L := by
  rw [List.getD_eq_getElem?_getD, List.getElem?_eq_getElem h, Option.getD_some]
  exact List.getElem_mem h
theorem row_white {r c : Int} {s : ByteArray} {k : Nat} (h : k < (layoutM r c s).length) {x : Int} (hx : x ∈ (layoutM r c s).getD k []) : bt s x = 46 := slotsAtM_white (in_layout.1 (List.mem_flatten.2 ⟨_, row_mem h, hx⟩))
theorem wrK_at {r c : Int} {s f w : ByteArray} {k : Nat} (hk : k < (layoutM r c s).length) (hv : fillM r c s f = true) (hf : fitK (layoutM r c s) k f w = true) (j : Nat) : (bt (wrK (layoutM r c s) k f w) (j : Int) = bt f (j : Int) ∧ (j : Int) ∉ (layoutM r c s).getD k []) ∨ ∃ q : Nat, ∃ h : q < ((layoutM r c s).getD k []).length, ((layoutM r c s).getD k [])[q] = (j : Int) ∧ bt (wrK (layoutM r c s) k f w) (j : Int) = bt w (q : Int) := by
  obtain ⟨_, _, hsz, _⟩ := fitK_iff.1 hf
  obtain ⟨_, hin⟩ := layout_row (row_mem hk)
  have he := (fillM_iff.1 hv).2.1
  have h := writeGo_at w ((layoutM r c s).getD k []) 0 f.data j (fun x hx => by
    have h1 := hin x hx
    have h2 : f.data.size = f.size := rfl
    omega) (by omega)
  simp only [Nat.zero_add] at h
  exact h
theorem wrK_size (L : List (List Int)) (k : Nat) (f w : ByteArray) : (wrK L k f w).size = f.size := by
  show (writeGo w (L.getD k []) 0 f.data).size = f.data.size
  have : ∀ (l : List Int) (i : Nat) (d : Array UInt8), (writeGo w l i d).size = d.size := by
    intro l
    induction l with
    | nil => intro i d; rfl
    | cons x l ih => intro i d; rw [writeGo_cons, ih, Array.size_setIfInBounds]
  exact this _ _ _
theorem wrK_fill {r c : Int} {s f w : ByteArray} {k : Nat} (hk : k < (layoutM r c s).length) (hv : fillM r c s f = true) (hf : fitK (layoutM r c s) k f w = true) : fillM r c s (wrK (layoutM r c s) k f w) = true := by
  obtain ⟨hg, hs, ha⟩ := fillM_iff.1 hv
  refine fillM_iff.2 ⟨hg, by rw [wrK_size]; exact hs, fun j hj => ?_⟩
  rw [wrK_size] at hj
  rcases wrK_at hk hv hf j with ⟨e, _⟩ | ⟨q, hq, e1, e2⟩
  · rw [e]; exact ha j hj
  · obtain ⟨_, hw, hsz, _⟩ := fitK_iff.1 hf
    have hl := (wordM_iff.1 hw).2 q (by omega)
    have hb := row_white hk (List.getElem_mem hq)
    rw [e1] at hb
    rw [e2, hb]
    unfold fillC
    unfold isL at hl
    rw [decide_eq_true_eq] at hl
    have h1 : ¬ bt w (q : Int) = 35 := by omega
    simp [isL, h1, hl]
theorem fillM_white {r c : Int} {s f : ByteArray} (hv : fillM r c s f = true) {x : Int} (h0 : 0 ≤ x ∧ x < s.size) (hb : bt s x = 46) : bt f x = 63 ∨ isL (bt f x) = true := by
  obtain ⟨_, hs, ha⟩ := fillM_iff.1 hv
  obtain ⟨j, rfl⟩ := Int.eq_ofNat_of_zero_le h0.1
  have h := ha j (by omega)
  rw [hb] at h
  unfold fillC at h
  by_cases h1 : bt f (j : Int) = 35
  · simp [h1] at h
  · simpa [h1] using h
theorem row_two {r c : Int} {s : ByteArray} {k : Nat} (h : k < (layoutM r c s).length) : 1 ≤ ((layoutM r c s).getD k []).length := by
  have h' : k < (slotsM r c s).length := by rw [← layoutM_length]; exact h
  obtain ⟨R, C, _, _, _, _, _, _, _, _, i, _, _, h3, h2⟩ := slotsM_ok (List.getElem_mem h')
  rw [layout_getD h']
  unfold cellsM
  rw [List.length_map, List.length_range']
  omega
theorem row_pat {r c : Int} {s f : ByteArray} {k : Nat} (hk : k < (layoutM r c s).length) (hv : fillM r c s f = true) : patOk (patM f ((layoutM r c s).getD k [])) = true := by
  obtain ⟨h6, hin⟩ := layout_row (row_mem hk)
  have h1 := row_two hk
  refine patOk_iff.2 ⟨by rw [patM_size]; omega, fun j hj => ?_⟩
  rw [patM_size] at hj
  rw [patM_at f _ j hj]
  have hx := List.getElem_mem hj
  have hi := hin _ hx
  unfold isQ
  rcases fillM_white hv ⟨hi.1, hi.2.2⟩ (row_white hk hx) with h | h
  · rw [h]; rfl
  · rw [h]; simp
theorem cellsM_nodup {C : Nat} (h : 1 ≤ C) (x : ISlot) : (cellsM C x).Nodup := by
  unfold cellsM
  have hs : 1 ≤ stepM C x.f1 := by unfold stepM; split <;> omega
  refine List.pairwise_map.2 ((List.pairwise_lt_range' (s := 0) (n := x.f3.toNat - 0)).imp ?_)
  intro a b hab e
  have h1 : (a : Int) * (stepM C x.f1 : Int) < (b : Int) * (stepM C x.f1 : Int) := Int.mul_lt_mul_of_pos_right (by omega) (by omega)
  omega
theorem row_nodup {r c : Int} {s : ByteArray} {k : Nat} (h : k < (layoutM r c s).length) : ((layoutM r c s).getD k []).Nodup := by
  have h' : k < (slotsM r c s).length := by rw [← layoutM_length]; exact h
  obtain ⟨R, C, _, rfl, _, _, h3, _⟩ := slotsM_ok (List.getElem_mem h')
  rw [layout_getD h']
  exact cellsM_nodup (by omega) _

/-! ### once -/
/-- Each word once, in order. -/
def onceM : List ByteArray → List ByteArray → List ByteArray
  | acc, [] => acc
  | acc, s :: r => if s ∈ acc then onceM acc r else onceM (acc ++ [s]) r
theorem onceM_length : ∀ (l acc : List ByteArray), (onceM acc l).length ≤ acc.length + l.length
  | [], acc => by simp [onceM]
  | s :: r, acc => by
    unfold onceM
    split
    · have := onceM_length r acc
      simp only [List.length_cons]; omega
    · have := onceM_length r (acc ++ [s])
      simp only [List.length_cons, List.length_append, List.length_nil] at this ⊢; omega
theorem slices_Index_string_string_l0_ev (l : List ByteArray) (w : ByteArray) (hl : l.length ≤ 9223372036854775806) : ∀ i : Nat, i ≤ l.length → ∃ r : Int, Ev (fun k => slices_Index_string_string.l0 k l w l.length i) r ∧ decide (r ≥ 0) = decide (w ∈ l.drop i) := by
  refine down l.length ?_ ?_
  · intro i h hi
    refine ⟨-1, ?_, by rw [List.drop_eq_nil_of_le h]; simp⟩
    apply ev_succ
    simp only [slices_Index_string_string.l0]
    exact ev_neg (by omega) (ev_now rfl)
  · intro i h ih hi
    by_cases he : w.toList = l[i].toList
    · refine ⟨i, ?_, by rw [List.drop_eq_getElem_cons h]; simp [-List.getElem_cons_drop, toList_inj.1 he]⟩
      apply ev_succ
      simp only [slices_Index_string_string.l0]
      rw [rdOf_get h]
      exact ev_pos (by omega) (ev_pos (by omega) (ev_pos (by omega) (ev_pos he (ev_now rfl))))
    · obtain ⟨r, hr, h1⟩ := ih (by omega)
      refine ⟨r, ?_, ?_⟩
      · apply ev_succ
        simp only [slices_Index_string_string.l0]
        rw [rdOf_get h, wrap64_id (n := (i : Int) + 1) (by omega) (by omega), succ_cast]
        exact ev_pos (by omega) (ev_pos (by omega) (ev_pos (by omega) (ev_neg he hr)))
      · rw [toList_inj] at he
        rw [h1, List.drop_eq_getElem_cons h]
        simp [-List.getElem_cons_drop, he]
theorem slices_Contains_string_string_ev (l : List ByteArray) (w : ByteArray) (hl : l.length ≤ 9223372036854775806) : Ev (fun k => slices_Contains_string_string.f k l w) (decide (w ∈ l)) := by
  unfold slices_Contains_string_string.f slices_Index_string_string.f
  obtain ⟨r, hr, h⟩ := slices_Index_string_string_l0_ev l w hl 0 (by omega)
  exact ev_bind hr (ev_now (by simpa using h))
theorem impl_once_l0_ev (l : List ByteArray) (hl : l.length ≤ 1048576) : ∀ i : Nat, i ≤ l.length → ∀ acc : List ByteArray, acc.length ≤ i → Ev (fun k => impl_once.l0 k acc l l.length i) (onceM acc (l.drop i)) := by
  refine down l.length ?_ ?_
  · intro i h hi acc ha
    apply ev_succ
    simp only [impl_once.l0]
    exact ev_neg (by omega) (ev_now (by rw [List.drop_eq_nil_of_le h]; rfl))
  · intro i h ih hi acc ha
    apply ev_succ
    simp only [impl_once.l0]
    rw [rdOf_get h, wrap64_id (n := (i : Int) + 1) (by omega) (by omega), succ_cast, List.drop_eq_getElem_cons h]
    unfold onceM
    refine ev_pos (by omega) (ev_pos (by omega) (ev_pos (by omega) (ev_bind (slices_Contains_string_string_ev acc l[i] (by omega)) ?_)))
    by_cases hm : l[i] ∈ acc
    · rw [if_pos hm]
      exact ev_pos (by simp [hm]) (ih (by omega) acc (by omega))
    · rw [if_neg hm]
      exact ev_neg (by simp [hm]) (ev_pos (by omega) (ih (by omega) (acc ++ [l[i]]) (by simp; omega)))
theorem impl_once_ev (l : List ByteArray) (hl : l.length ≤ 1048576) : Ev (fun k => impl_once.f k l) (onceM [] l) := by
  unfold impl_once.f
  exact ev_eq (impl_once_l0_ev l hl 0 (by omega) [] (by simp)) (by simp)

/-! ### fillsof -/
/-! The letters that a word leaves in a fill. -/
/-- All fills with these words, as many as most. -/
def fillsM (r c : Int) (s f : ByteArray) (ws : List ByteArray) (most : Int) : List ByteArray := if fillM r c s f = true ∧ aloneAllM r c s f = false ∧ (1 ≤ most ∧ most ≤ 30) then srchI (fitK (layoutM r c s)) (wrK (layoutM r c s)) (onceM [] ws) most.toNat (layoutM r c s).length 0 f [] [] else []
theorem onceM_mem : ∀ (l acc : List ByteArray) (w : ByteArray), w ∈ onceM acc l ↔ w ∈ acc ∨ w ∈ l
  | [], acc, w => by simp [onceM]
  | x :: l, acc, w => by
    unfold onceM
    split
    · rename_i h
      rw [onceM_mem l acc w, List.mem_cons]
      constructor
      · rintro (h1 | h1)
        · exact .inl h1
        · exact .inr (.inr h1)
      · rintro (h1 | rfl | h1)
        · exact .inl h1
        · exact .inl h
        · exact .inr h1
    · rw [onceM_mem l _ w, List.mem_append, List.mem_singleton, List.mem_cons, or_assoc]
theorem fillsM_length (r c : Int) (s f : ByteArray) (ws : List ByteArray) (most : Int) : (fillsM r c s f ws most).length ≤ most.toNat := by
  unfold fillsM
  split
  · rename_i h
    exact srchI_length _ _ _ _ _ _ _ _ _ (by rw [List.length_nil]; omega)
  · simp
/-! The program's search. -/
theorem flIdx_ev (p : ByteArray) (hp : p.size ≤ 1000) : ∀ (l : List ByteArray) (i : Nat), (∀ w ∈ l, w.size ≤ 140737488351232) → ∃ r : Int, Ev (fun k => flIdx k p l i) r ∧ decide (0 ≤ r) = l.any fun w => fitsM p w
  | [], i, _ => ⟨-1, ev_now rfl, rfl⟩
  | x :: l, i, h => by
    simp only [flIdx_cons, List.any_cons]
    obtain ⟨r, hr, he⟩ := flIdx_ev p hp l (i + 1) (fun w hw => h w (by simp [hw]))
    have hx := impl_FitsPattern_ev p x (by omega) (h x (by simp))
    cases hf : fitsM p x with
    | true => exact ⟨i, ev_bind (ev_eq hx hf) (ev_pos rfl (ev_now rfl)), by simp⟩
    | false => exact ⟨r, ev_bind (ev_eq hx hf) (ev_neg (by simp) hr), by simpa using he⟩
theorem flAny_ev (p : ByteArray) (hp : p.size ≤ 1000) (l : List ByteArray) (h : ∀ w ∈ l, w.size ≤ 140737488351232) : Ev (fun k => flAny k p l) (l.any fun w => fitsM p w) := by
  unfold flAny
  obtain ⟨r, hr, he⟩ := flIdx_ev p hp l 0 h
  exact ev_bind hr (ev_now he)
theorem replicate_getD {α : Type} (n i : Nat) (a d : α) (h : i < n) : (List.replicate n a).getD i d = a := by
  rw [List.getD_eq_getElem?_getD, List.getElem?_replicate, if_pos h, Option.getD_some]
theorem flHope_ev (r c : Int) (s f : ByteArray) (o : List ByteArray) (hv : fillM r c s f = true) (h : ∀ w ∈ o, w.size ≤ 140737488351232) : ∀ d i, i + d = (layoutM r c s).length → Ev (fun k => flHope k (layoutM r c s) (List.replicate (layoutM r c s).length o) f d i) (!openM (fitK (layoutM r c s)) o d i f)
  | 0, i, _ => ev_now (by simp [openM])
  | d + 1, i, hi => by
    have hl : i < (layoutM r c s).length := by omega
    obtain ⟨h6, hin⟩ := layout_row (row_mem hl)
    have he := (fillM_iff.1 hv).2.1
    simp only [flHope_succ]
    rw [replicate_getD _ _ _ _ hl]
    have h1 := impl_readCells_ev f ((layoutM r c s).getD i []) (by omega) (fun x hx => by have := hin x hx; omega)
    have h2 := flAny_ev (patM f ((layoutM r c s).getD i [])) (by rw [patM_size]; omega) o h
    refine ev_bind h1 (ev_bind h2 ?_)
    have e : openM (fitK (layoutM r c s)) o (d + 1) i f = ((o.any fun w => fitsM (patM f ((layoutM r c s).getD i [])) w) && openM (fitK (layoutM r c s)) o d (i + 1) f) := by
      unfold openM
      rw [List.range'_succ, List.all_cons]
      rfl
    rw [e]
    cases hA : (o.any fun w => fitsM (patM f ((layoutM r c s).getD i [])) w) with
    | true => exact ev_pos rfl (ev_eq (flHope_ev r c s f o hv h d (i + 1) (by omega)) (by simp))
    | false => exact ev_neg (by simp) (ev_now (by simp))
theorem flLoop_ev (most : Nat) (p : ByteArray) (hp : p.size ≤ 1000) (used : List ByteArray) (hu : used.length ≤ 1000) (g : Nat → ByteArray → List ByteArray → Option (List ByteArray)) (G : ByteArray → List ByteArray → List ByteArray) (cc : ByteArray → Prop) (inst : DecidablePred cc) (hcc : ∀ w, cc w ↔ fitsM p w = true ∧ w ∉ used) : ∀ l out, (∀ w ∈ l, w.size ≤ 140737488351232) → out.length ≤ most → (∀ x ∈ l, ∀ o : List ByteArray, o.length < most → fitsM p x = true → Ev (fun k => g k x o) (G x o) ∧ (G x o).length ≤ most) →
    Ev (fun k => flLoop k (most : Int) p used (g k) l out) (l.foldl (fun o w => if o.length = most then o else if cc w then G w o else o) out)
  | [], out, _, _, _ => ev_now rfl
  | x :: l, out, hw, ho, hg => by
    simp only [flLoop_cons, List.foldl_cons]
    by_cases hm : out.length = most
    · rw [if_pos hm]
      refine ev_pos (by omega) (ev_now ?_)
      have : ∀ (l : List ByteArray) (o : List ByteArray), o.length = most → l.foldl (fun o w => if o.length = most then o else if cc w then G w o else o) o = o := by
        intro l
        induction l with
        | nil => intro o _; rfl
        | cons x l ih => intro o h; rw [List.foldl_cons, if_pos h]; exact ih o h
      exact (this l out hm).symm
    · rw [if_neg hm]
      refine ev_neg (by omega) (ev_bind (impl_FitsPattern_ev p x (by omega) (hw x (by simp))) ?_)
      have IH := fun o ho => flLoop_ev most p hp used hu g G cc inst hcc l o (fun w h => hw w (by simp [h])) ho (fun y hy => hg y (by simp [hy]))
      by_cases hf : fitsM p x = true
      · refine ev_pos hf (ev_bind (slices_Contains_string_string_ev used x (by omega)) ?_)
        by_cases hc : x ∈ used
        · rw [if_neg (show ¬ cc x from fun h => ((hcc x).1 h).2 hc)]
          exact ev_pos (decide_eq_true hc) (IH out ho)
        · obtain ⟨h1, h2⟩ := hg x (by simp) out (by omega) hf
          rw [if_pos (show cc x from (hcc x).2 ⟨hf, hc⟩)]
          exact ev_neg (by simpa using hc) (ev_bind h1 (IH _ h2))
      · rw [if_neg (show ¬ cc x from fun h => hf ((hcc x).1 h).1)]
        exact ev_neg hf (IH out ho)
theorem flSrch_ev (r c : Int) (s : ByteArray) (o : List ByteArray) (most : Nat) (hm : most ≤ 30) (hn : (layoutM r c s).length ≤ 72) (hs : s.size ≤ 1048576) (h : ∀ w ∈ o, w.size ≤ 140737488351232) : ∀ d i (f : ByteArray) (used out : List ByteArray), i + d = (layoutM r c s).length → fillM r c s f = true → used.length = i → out.length < most → Ev (fun k => flSrch k (layoutM r c s) (List.replicate (layoutM r c s).length o) (most : Int) d i f used out) (srchI (fitK (layoutM r c s)) (wrK (layoutM r c s)) o most d i f used out)
  | 0, i, f, used, out, _, _, _, ho => by
    simp only [flSrch_zero]
    exact ev_pos (by omega) (ev_now rfl)
  | d + 1, i, f, used, out, hi, hv, hu, ho => by
    have hl : i < (layoutM r c s).length := by omega
    obtain ⟨h6, hin⟩ := layout_row (row_mem hl)
    have he := (fillM_iff.1 hv).2.1
    simp only [flSrch_succ]
    refine ev_bind (flHope_ev r c s f o hv h (d + 1) i hi) ?_
    unfold srchI
    by_cases hop : openM (fitK (layoutM r c s)) o (d + 1) i f = true
    · rw [if_pos hop, replicate_getD _ _ _ _ hl]
      refine ev_neg (by rw [hop]; simp) (ev_bind (impl_readCells_ev f ((layoutM r c s).getD i []) (by omega) (fun x hx => by have := hin x hx; omega)) ?_)
      refine flLoop_ev most (patM f ((layoutM r c s).getD i [])) (by rw [patM_size]; omega) used (by omega) (fun k x o_ => (impl_writeCells.f f ((layoutM r c s).getD i []) x).bind fun nf => if used.length < 1048576 then flSrch k (layoutM r c s) (List.replicate (layoutM r c s).length o) (most : Int) d (i + 1) nf (used ++ [x]) o_ else none) (fun x o_ => srchI (fitK (layoutM r c s)) (wrK (layoutM r c s)) o most d (i + 1) (wrK (layoutM r c s) i f x) (used ++ [x]) o_) _ _ (fun _ => Iff.rfl) o out h (by omega) (fun x hx o_ ho_ hf => ⟨?_, srchI_length _ _ _ _ _ _ _ _ _ ho_⟩)
      have hfk : fitK (layoutM r c s) i f x = true := hf
      have hsz := (fitK_iff.1 hfk).2.2.1
      refine ev_let (a := wrK (layoutM r c s) i f x) ?_ (ev_pos (by omega) (flSrch_ev r c s o most hm hn hs h d (i + 1) _ _ o_ (by omega) (wrK_fill hl hv hfk) (by simp [hu]) ho_))
      unfold impl_writeCells.f
      rw [if_pos ⟨fun x hx => by have := hin x hx; omega, by omega, by omega, by omega⟩]
      rfl
    · rw [if_neg hop]
      refine ev_pos ?_ (ev_now rfl)
      rw [Bool.not_eq_true] at hop
      rw [hop]
      rfl
theorem impl_FillsOf_ev (r c : Int) (s f : ByteArray) (ws : List ByteArray) (most : Int) (hs : s.size ≤ 1048576) (hf : f.size ≤ 1048576) (hl : ws.length ≤ 1048576) (h : ∀ w ∈ ws, w.size ≤ 140737488351232) : Ev (fun k => impl_FillsOf.f k r c s f ws most) (fillsM r c s f ws most) := by
  have hL := slotsM_length r c s
  have hL2 := layoutM_length r c s
  unfold impl_FillsOf.f fillsM
  refine ev_bind (impl_IsFill_ev r c s f (by omega) (by omega)) ?_
  by_cases h1 : fillM r c s f = true
  · have he := fillM_size h1
    have h36 := grid_le36 he.1
    refine ev_pos h1 (ev_bind (impl_alone_ev r c s f hs (by omega) (by omega)) ?_)
    by_cases h2 : aloneAllM r c s f = true
    · rw [if_neg (show ¬ (fillM r c s f = true ∧ aloneAllM r c s f = false ∧ (1 ≤ most ∧ most ≤ 30)) from fun h => by rw [h2] at h; exact absurd h.2.1 (by simp))]
      exact ev_pos h2 (ev_now rfl)
    · refine ev_neg h2 (ev_let (impl_InRange_eq _ _ _) ?_)
      by_cases h3 : 1 ≤ most ∧ most ≤ 30
      · rw [if_pos (show fillM r c s f = true ∧ aloneAllM r c s f = false ∧ (1 ≤ most ∧ most ≤ 30) from ⟨h1, by rw [Bool.not_eq_true] at h2; exact h2, h3⟩)]
        refine ev_pos (decide_eq_true h3) ?_
        unfold flStart
        have ho := onceM_length ws []
        rw [List.length_nil] at ho
        obtain ⟨m, hm⟩ := Int.eq_ofNat_of_zero_le (show 0 ≤ most by omega)
        subst hm
        exact ev_bind (impl_layout_ev r c s hs) (ev_bind (impl_once_ev ws hl) (ev_pos (by omega) (ev_pos (by omega) (flSrch_ev r c s (onceM [] ws) m (by omega) (by omega) hs (fun w hw => h w (((onceM_mem ws [] w).1 hw).resolve_left (by simp))) _ 0 f [] [] (by omega) h1 rfl (by rw [List.length_nil]; omega)))))
      · rw [if_neg (show ¬ (fillM r c s f = true ∧ aloneAllM r c s f = false ∧ (1 ≤ most ∧ most ≤ 30)) from fun h => h3 h.2.2)]
        exact ev_neg (by simpa using h3) (ev_now rfl)
  · rw [if_neg (show ¬ (fillM r c s f = true ∧ aloneAllM r c s f = false ∧ (1 ≤ most ∧ most ≤ 30)) from fun h => h1 h.1)]
    exact ev_neg h1 (ev_now rfl)
/-! The reference's search. -/
theorem alone_fill {r c : Int} {s f : ByteArray} (hv : fillM r c s f = true) : aloneAllM r c s f = ((List.range' 0 f.size).any fun i => decide (bt f (i : Int) = 63) && decide ((slotsAtM r c s (i : Int)).length = 0)) := by
  obtain ⟨hg, hs, ha⟩ := fillM_iff.1 hv
  unfold aloneAllM
  rw [hs, Bool.eq_iff_iff, List.any_eq_true, List.any_eq_true]
  have key : ∀ i : Nat, i < s.size → (aloneAt (layoutM r c s).flatten s f i = (decide (bt f (i : Int) = 63) && decide ((slotsAtM r c s (i : Int)).length = 0))) := by
    intro i hi
    have hc := ha i (by omega)
    have hw := gridM_cell hg i hi
    have e : ((i : Int) ∉ (layoutM r c s).flatten) ↔ (slotsAtM r c s (i : Int)).length = 0 := by rw [in_layout]; omega
    unfold aloneAt
    have e2 : ∀ [inst : Decidable ((i : Int) ∉ (layoutM r c s).flatten)], @decide _ inst = decide ((slotsAtM r c s (i : Int)).length = 0) := by intro inst; exact decide_eq_decide.2 e
    rw [e2]
    unfold fillC at hc
    rcases hw with hw | hw
    · rw [hw] at hc
      have h1 : bt f (i : Int) = 35 := by
        by_cases h1 : bt f (i : Int) = 35
        · exact h1
        · simp [h1] at hc
      rw [decide_eq_false (show ¬ bt s (i : Int) = 46 by omega), decide_eq_false (show ¬ bt f (i : Int) = 63 by omega)]
      rfl
    · rw [hw] at hc
      rw [decide_eq_true hw, Bool.true_and]
      have h1 : ¬ bt f (i : Int) = 35 := by
        intro h1
        simp [h1] at hc
      by_cases h2 : bt f (i : Int) = 63
      · have h3 : aloneL (bt f (i : Int)) = false := by rw [h2]; rfl
        rw [h3, decide_eq_true h2]
        simp
      · have h3 : isL (bt f (i : Int)) = true := by simpa [h1, h2] using hc
        have h4 : aloneL (bt f (i : Int)) = true := h3
        rw [h4, decide_eq_false h2]
        simp
  constructor
  · rintro ⟨i, hi, h⟩
    refine ⟨i, hi, ?_⟩
    rw [List.mem_range'] at hi
    obtain ⟨q, hq, rfl⟩ := hi
    rw [← key _ (by omega)]
    exact h
  · rintro ⟨i, hi, h⟩
    refine ⟨i, hi, ?_⟩
    rw [List.mem_range'] at hi
    obtain ⟨q, hq, rfl⟩ := hi
    rw [key _ (by omega)]
    exact h
/-! ### draw -/
/-! What is drawn of a code: bounds alone. -/
theorem and255 (y : Int) : 0 ≤ Go.bits .and .i64 y 255 ∧ Go.bits .and .i64 y 255 ≤ 255 := by
  have h := @Nat.and_le_right (BitVec.ofInt 64 y).toNat (BitVec.ofInt 64 255).toNat
  have e : (BitVec.ofInt 64 255).toNat = 255 := by decide
  have hb : Go.bits .and .i64 y 255 = IntKind.i64.wrap (((BitVec.ofInt 64 y).toNat &&& (BitVec.ofInt 64 255).toNat : Nat) : Int) := by
    show IntKind.i64.wrap (((BitVec.ofInt 64 y) &&& (BitVec.ofInt 64 255)).toNat : Int) = _
    rw [BitVec.toNat_and]
  rw [hb]
  rw [e] at h ⊢
  generalize (BitVec.ofInt 64 y).toNat &&& 255 = n at h ⊢
  simp [IntKind.wrap, IntKind.bits, IntKind.signed]
  omega
theorem spec_l1Byte_some (l : List Int) (i h : Int) (h0 : 0 ≤ i ∧ i ≤ l.length) (hl : l.length ≤ 1048576) : ∃ x i' h' : Int, spec_l1Byte.f l i h = some (x, i', h') ∧ (0 ≤ x ∧ x ≤ 255) ∧ (0 ≤ i' ∧ i' ≤ l.length) := by
  unfold spec_l1Byte.f
  by_cases hi : i < (l.length : Int)
  · rw [if_pos hi, if_pos h0.1]
    exact ⟨_, _, _, rfl, and255 _, by rw [wrap64_id (by omega) (by omega)]; omega⟩
  · rw [if_neg hi]
    exact ⟨_, _, _, rfl, and255 _, h0⟩
theorem spec_l1Below_some (l : List Int) (i h n : Int) (h0 : 0 ≤ i ∧ i ≤ l.length) (hl : l.length ≤ 1048576) (hn : n ≤ 16777216) : ∃ x i' h' : Int, spec_l1Below.f l i h n = some (x, i', h') ∧ (0 ≤ x ∧ (0 < n → x < n) ∧ (n ≤ 0 → x = 0)) ∧ (0 ≤ i' ∧ i' ≤ l.length) := by
  unfold spec_l1Below.f
  by_cases h1 : n ≤ 0
  · rw [if_pos h1]
    exact ⟨_, _, _, rfl, ⟨by omega, fun h => by omega, fun _ => rfl⟩, h0⟩
  · rw [if_neg h1]
    obtain ⟨x, i1, g1, e1, hx, hi1⟩ := spec_l1Byte_some l i h h0 hl
    by_cases h2 : n ≤ 256
    · rw [if_pos h2, e1, Option.bind_some, if_neg (by omega)]
      refine ⟨_, _, _, rfl, ⟨Int.tmod_nonneg _ hx.1, fun h => Int.tmod_lt_of_pos _ h, fun h => by omega⟩, hi1⟩
    · obtain ⟨y, i2, g2, e2, hy, hi2⟩ := spec_l1Byte_some l i1 g1 hi1 hl
      obtain ⟨z, i3, g3, e3, hz, hi3⟩ := spec_l1Byte_some l i2 g2 hi2 hl
      rw [if_neg h2, e1, Option.bind_some]
      show ∃ x i' h' : Int, ((spec_l1Byte.f l i1 g1).bind _) = _ ∧ _
      rw [e2, Option.bind_some]
      show ∃ x i' h' : Int, ((spec_l1Byte.f l i2 g2).bind _) = _ ∧ _
      rw [e3, Option.bind_some, if_neg (by omega)]
      have ew : wrap64 (wrap64 (wrap64 (x * 65536) + wrap64 (y * 256)) + z) = x * 65536 + y * 256 + z := by
        rw [wrap64_id (n := x * 65536) (by omega) (by omega), wrap64_id (n := y * 256) (by omega) (by omega), wrap64_id (n := x * 65536 + y * 256) (by omega) (by omega), wrap64_id (by omega) (by omega)]
      refine ⟨_, _, _, rfl, ?_, hi3⟩
      show 0 ≤ (wrap64 (wrap64 (wrap64 (x * 65536) + wrap64 (y * 256)) + z)).tmod n ∧ _
      rw [ew]
      exact ⟨Int.tmod_nonneg _ (by omega), fun h => Int.tmod_lt_of_pos _ h, fun h => by omega⟩
theorem spec_l1Str_some (l : List Int) (i h : Int) (L : List ByteArray) (h0 : 0 ≤ i ∧ i ≤ l.length) (hl : l.length ≤ 1048576) (hL : 0 < L.length) (hL2 : L.length ≤ 1000) : ∃ (s : ByteArray) (i' h' : Int), spec_l1Str.f l i h L = some (s, i', h') ∧ s ∈ L ∧ (0 ≤ i' ∧ i' ≤ l.length) := by
  unfold spec_l1Str.f
  obtain ⟨x, i1, g1, e1, hx, hi1⟩ := spec_l1Below_some l i h (L.length : Int) h0 hl (by omega)
  obtain ⟨j, rfl⟩ := Int.eq_ofNat_of_zero_le hx.1
  have hj : j < L.length := by have := hx.2.1 (by omega); omega
  rw [e1, Option.bind_some, if_pos hx.1, if_pos (by show (j : Int) < _; omega)]
  refine ⟨_, _, _, rfl, ?_, hi1⟩
  show rdOf ByteArray.empty L (j : Int) ∈ L
  rw [rdOf_get hj]
  exact List.getElem_mem hj
theorem spec_l1New_ev (l : List Int) (hl : l.length ≤ 1048576) : ∃ h : Int, Ev (fun k => spec_l1New.f k l) (l, 0, h) := by
  have main : ∀ (d i : Nat) (x : Int), i + d = l.length → ∃ h : Int, Ev (fun k => spec_l1New.l0 k l x i) (l, 0, h) := by
    intro d
    induction d with
    | zero =>
      intro i x hi
      refine ⟨x, ev_succ ?_⟩
      simp only [spec_l1New.l0]
      exact ev_neg (by omega) (ev_now rfl)
    | succ d ih =>
      intro i x hi
      by_cases h4 : (i : Int) < 4000
      · obtain ⟨h, hh⟩ := ih (i + 1) (Go.bits .and .i64 (wrap64 ((wrap64 ((wrap64 (x * 137)) + (wrap64 (rd l i)))) + 11)) 1073741823) (by omega)
        refine ⟨h, ev_succ ?_⟩
        simp only [spec_l1New.l0]
        rw [wrap64_id (n := (i : Int) + 1) (by omega) (by omega), succ_cast]
        exact ev_pos (by omega) (ev_pos h4 (ev_pos (by omega) hh))
      · refine ⟨x, ev_succ ?_⟩
        simp only [spec_l1New.l0]
        exact ev_pos (by omega) (ev_neg h4 (ev_now rfl))
  unfold spec_l1New.f
  exact main l.length 0 _ (by omega)
theorem spec_l4Word_some (l : List Int) (i h : Int) (h0 : 0 ≤ i ∧ i ≤ l.length) (hl : l.length ≤ 1048576) : ∃ (s : ByteArray) (i' h' : Int), spec_l4Word.f l i h = some (s, i', h') ∧ s.size ≤ 5 ∧ (0 ≤ i' ∧ i' ≤ l.length) := by
  unfold spec_l4Word.f spec_l4Words.f
  rw [Option.bind_some]
  obtain ⟨s, i1, g1, e1, hs, hi1⟩ := spec_l1Str_some l i h (L := [(⟨#[99, 97, 116]⟩ : ByteArray), (⟨#[97, 99, 116]⟩ : ByteArray), (⟨#[116, 97, 99]⟩ : ByteArray), (⟨#[97, 114, 99]⟩ : ByteArray), (⟨#[99, 97, 114]⟩ : ByteArray), (⟨#[101, 114, 97]⟩ : ByteArray), (⟨#[97, 114, 101]⟩ : ByteArray), (⟨#[101, 97, 114]⟩ : ByteArray), (⟨#[97, 116, 101]⟩ : ByteArray), (⟨#[116, 101, 97]⟩ : ByteArray), (⟨#[101, 97, 116]⟩ : ByteArray), (⟨#[115, 101, 97]⟩ : ByteArray), (⟨#[116, 97, 114]⟩ : ByteArray), (⟨#[114, 97, 116]⟩ : ByteArray), (⟨#[97, 114, 116]⟩ : ByteArray), (⟨#[97, 110, 116]⟩ : ByteArray), (⟨#[116, 97, 110]⟩ : ByteArray), (⟨#[110, 101, 116]⟩ : ByteArray), (⟨#[116, 101, 110]⟩ : ByteArray), (⟨#[114, 101, 115, 116]⟩ : ByteArray), (⟨#[116, 114, 101, 101]⟩ : ByteArray), (⟨#[115, 116, 97, 114]⟩ : ByteArray), (⟨#[114, 97, 116, 115]⟩ : ByteArray), (⟨#[97, 114, 116, 115]⟩ : ByteArray), (⟨#[101, 97, 115, 116]⟩ : ByteArray), (⟨#[115, 101, 97, 116]⟩ : ByteArray), (⟨#[116, 101, 97, 115]⟩ : ByteArray), (⟨#[110, 101, 116, 115]⟩ : ByteArray), (⟨#[116, 101, 110, 115]⟩ : ByteArray), (⟨#[115, 101, 110, 116]⟩ : ByteArray), (⟨#[116, 114, 97, 99, 101]⟩ : ByteArray), (⟨#[114, 101, 97, 99, 116]⟩ : ByteArray), (⟨#[99, 114, 97, 116, 101]⟩ : ByteArray), (⟨#[115, 116, 97, 114, 101]⟩ : ByteArray), (⟨#[116, 101, 97, 114, 115]⟩ : ByteArray)]) h0 hl (by decide) (by decide)
  rw [e1, Option.bind_some]
  refine ⟨_, _, _, rfl, ?_, hi1⟩
  have hall : ∀ x ∈ [(⟨#[99, 97, 116]⟩ : ByteArray), (⟨#[97, 99, 116]⟩ : ByteArray), (⟨#[116, 97, 99]⟩ : ByteArray), (⟨#[97, 114, 99]⟩ : ByteArray), (⟨#[99, 97, 114]⟩ : ByteArray), (⟨#[101, 114, 97]⟩ : ByteArray), (⟨#[97, 114, 101]⟩ : ByteArray), (⟨#[101, 97, 114]⟩ : ByteArray), (⟨#[97, 116, 101]⟩ : ByteArray), (⟨#[116, 101, 97]⟩ : ByteArray), (⟨#[101, 97, 116]⟩ : ByteArray), (⟨#[115, 101, 97]⟩ : ByteArray), (⟨#[116, 97, 114]⟩ : ByteArray), (⟨#[114, 97, 116]⟩ : ByteArray), (⟨#[97, 114, 116]⟩ : ByteArray), (⟨#[97, 110, 116]⟩ : ByteArray), (⟨#[116, 97, 110]⟩ : ByteArray), (⟨#[110, 101, 116]⟩ : ByteArray), (⟨#[116, 101, 110]⟩ : ByteArray), (⟨#[114, 101, 115, 116]⟩ : ByteArray), (⟨#[116, 114, 101, 101]⟩ : ByteArray), (⟨#[115, 116, 97, 114]⟩ : ByteArray), (⟨#[114, 97, 116, 115]⟩ : ByteArray), (⟨#[97, 114, 116, 115]⟩ : ByteArray), (⟨#[101, 97, 115, 116]⟩ : ByteArray), (⟨#[115, 101, 97, 116]⟩ : ByteArray), (⟨#[116, 101, 97, 115]⟩ : ByteArray), (⟨#[110, 101, 116, 115]⟩ : ByteArray), (⟨#[116, 101, 110, 115]⟩ : ByteArray), (⟨#[115, 101, 110, 116]⟩ : ByteArray), (⟨#[116, 114, 97, 99, 101]⟩ : ByteArray), (⟨#[114, 101, 97, 99, 116]⟩ : ByteArray), (⟨#[99, 114, 97, 116, 101]⟩ : ByteArray), (⟨#[115, 116, 97, 114, 101]⟩ : ByteArray), (⟨#[116, 101, 97, 114, 115]⟩ : ByteArray)], x.size ≤ 5 := by decide
  exact hall s hs
theorem spec_l4Any_some (l : List Int) (i h : Int) (h0 : 0 ≤ i ∧ i ≤ l.length) (hl : l.length ≤ 1048576) : ∃ (s : ByteArray) (i' h' : Int), spec_l4Any.f l i h = some (s, i', h') ∧ s.size ≤ 10 ∧ (0 ≤ i' ∧ i' ≤ l.length) := by
  unfold spec_l4Any.f
  obtain ⟨w, i1, g1, e1, hw, hi1⟩ := spec_l4Word_some l i h h0 hl
  rw [e1, Option.bind_some, if_pos (by show w.size + 1 ≤ _; omega)]
  obtain ⟨s, i2, g2, e2, hs, hi2⟩ := spec_l1Str_some l i1 g1 [w, w, w, w, w, (⟨#[]⟩ : ByteArray), (⟨#[65]⟩ : ByteArray), (⟨#[97, 32, 98]⟩ : ByteArray), (⟨#[116, 111, 111, 108, 111, 110, 103, 101, 114]⟩ : ByteArray), (⟨#[116, 111, 111, 108, 111, 110, 103]⟩ : ByteArray), w ++ (⟨#[63]⟩ : ByteArray), (⟨#[122]⟩ : ByteArray)] hi1 hl (by simp) (by simp)
  show ∃ (s : ByteArray) (i' h' : Int), ((spec_l1Str.f l i1 g1 [w, w, w, w, w, (⟨#[]⟩ : ByteArray), (⟨#[65]⟩ : ByteArray), (⟨#[97, 32, 98]⟩ : ByteArray), (⟨#[116, 111, 111, 108, 111, 110, 103, 101, 114]⟩ : ByteArray), (⟨#[116, 111, 111, 108, 111, 110, 103]⟩ : ByteArray), w ++ (⟨#[63]⟩ : ByteArray), (⟨#[122]⟩ : ByteArray)]).bind _) = _ ∧ _
  rw [e2, Option.bind_some]
  refine ⟨_, _, _, rfl, ?_, hi2⟩
  show s.size ≤ 10
  simp only [List.mem_cons, List.not_mem_nil, or_false] at hs
  rcases hs with rfl | rfl | rfl | rfl | rfl | rfl | rfl | rfl | rfl | rfl | rfl | rfl
  · omega
  · omega
  · omega
  · omega
  · omega
  · decide
  · decide
  · decide
  · decide
  · decide
  · rw [ByteArray.size_append]
    have : (⟨#[63]⟩ : ByteArray).size = 1 := rfl
    omega
  · decide
theorem laws_big_eq (l : List Int) : laws_big.f l = some (decide ((l.length : Int) > 1048576)) := rfl

/-! ### gridtext -/
def rowM (s : ByteArray) (C i : Nat) : ByteArray := s.extract (i * C) ((i + 1) * C)
/-- The text of a grid's first rows. -/
def txtM (s : ByteArray) (C : Nat) : Nat → List UInt8
  | 0 => []
  | i + 1 => txtM s C i ++ (if 0 < i then [47] else []) ++ (rowM s C i).data.toList
theorem row_size (s : ByteArray) (C i : Nat) : (rowM s C i).size ≤ s.size := by
  unfold rowM
  rw [ByteArray.size_extract]
  omega
theorem txtM_length (s : ByteArray) (C : Nat) (h : s.size ≤ 36) : ∀ n : Nat, (txtM s C n).length ≤ n * 37
  | 0 => by simp [txtM]
  | n + 1 => by
    have h1 := txtM_length s C h n
    have h2 := row_size s C n
    have h3 : (rowM s C n).data.toList.length = (rowM s C n).size := by simp
    have h4 : (if 0 < n then [(47 : UInt8)] else []).length ≤ 1 := by split <;> simp
    unfold txtM
    rw [List.length_append, List.length_append]
    omega
def textM (r c : Int) (s : ByteArray) : ByteArray := if gridM r c s = true then ⟨(txtM s c.toNat r.toNat).toArray⟩ else ⟨#[]⟩
theorem gridM_dims {r c : Int} {s : ByteArray} (h : gridM r c s = true) : ∃ R C : Nat, r = R ∧ c = C ∧ 2 ≤ R ∧ R ≤ 6 ∧ 2 ≤ C ∧ C ≤ 6 ∧ s.size = R * C ∧ R * C ≤ 36 := by
  unfold gridM at h
  simp only [Bool.and_eq_true, decide_eq_true_eq] at h
  obtain ⟨⟨⟨hr, hc⟩, hs⟩, _⟩ := h
  obtain ⟨R, rfl⟩ := Int.eq_ofNat_of_zero_le (show 0 ≤ r by omega)
  obtain ⟨C, rfl⟩ := Int.eq_ofNat_of_zero_le (show 0 ≤ c by omega)
  refine ⟨R, C, rfl, rfl, by omega, by omega, by omega, by omega, ?_, ?_⟩
  · have : ((R * C : Nat) : Int) = (R : Int) * (C : Int) := by simp
    omega
  · have : R * C ≤ 6 * 6 := Nat.mul_le_mul (by omega) (by omega)
    omega
theorem txt_next (s : ByteArray) (C i : Nat) (h : 0 < i) : ((⟨(txtM s C i).toArray⟩ : ByteArray) ++ (⟨#[47]⟩ : ByteArray)) ++ rowM s C i = ⟨(txtM s C (i + 1)).toArray⟩ := by
  apply ByteArray.ext
  apply Array.ext'
  rw [ByteArray.data_append, ByteArray.data_append, Array.toList_append, Array.toList_append]
  simp [txtM, h]
theorem txt_first (s : ByteArray) (C : Nat) : (⟨(txtM s C 0).toArray⟩ : ByteArray) ++ rowM s C 0 = ⟨(txtM s C 1).toArray⟩ := by
  apply ByteArray.ext
  apply Array.ext'
  rw [ByteArray.data_append, Array.toList_append]
  simp [txtM]
theorem spec_GridText_l0_ev (s : ByteArray) (R C : Nat) (hg : gridM R C s = true) (hs : s.size = R * C) (h36 : s.size ≤ 36) (hR : R ≤ 6) (hC : 2 ≤ C) (hC6 : C ≤ 6) : ∀ i : Nat, i ≤ R → Ev (fun k => spec_GridText.l0 k (⟨(txtM s C i).toArray⟩ : ByteArray) i R C s) (⟨(txtM s C R).toArray⟩ : ByteArray) := by
  have hstop : ∀ (x : ByteArray) (i : Nat), Ev (fun k => spec_GridText.j1 k x i false R C s) x := by
    intro x i
    apply ev_succ
    simp only [spec_GridText.j1]
    exact ev_neg (by simp) (ev_now rfl)
  refine down R ?_ ?_
  · intro i h hi
    have e : i = R := by omega
    subst e
    apply ev_succ
    simp only [spec_GridText.l0]
    exact ev_neg (by omega) (hstop _ _)
  · intro i h ih hi
    have hm : (i + 1) * C ≤ R * C := Nat.mul_le_mul_right _ h
    have hm2 : (i + 1) * C = i * C + C := Nat.succ_mul i C
    have hl := txtM_length s C h36 i
    have hrow := row_size s C i
    have e1 : (i : Int) * (C : Int) = ((i * C : Nat) : Int) := by simp
    have e2 : ((i + 1 : Nat) : Int) * (C : Int) = (((i + 1) * C : Nat) : Int) := by simp
    have hx : ((⟨(txtM s C i).toArray⟩ : ByteArray)).size = (txtM s C i).length := by simp [ByteArray.size]
    have h47 : ((⟨(txtM s C i).toArray⟩ : ByteArray) ++ (⟨#[47]⟩ : ByteArray)).size = (txtM s C i).length + 1 := by
      rw [ByteArray.size_append, hx]
      rfl
    apply ev_succ
    simp only [spec_GridText.l0]
    refine ev_pos (by omega) (ev_bind (spec_IsGrid_ev R C s (by omega)) ?_)
    rw [hg]
    apply ev_succ
    simp only [spec_GridText.j1]
    rw [wrap64_id (n := (i : Int) + 1) (by omega) (by omega), succ_cast, e1, e2, wrap64_id (n := ((i * C : Nat) : Int)) (by omega) (by omega), wrap64_id (n := (((i + 1) * C : Nat) : Int)) (by omega) (by omega), Int.toNat_natCast, Int.toNat_natCast]
    refine ev_pos (by trivial) ?_
    have ih' := ih (by omega)
    by_cases h0 : 0 < i
    · rw [← txt_next s C i h0] at ih'
      refine ev_pos (by omega) (ev_pos (by rw [hx]; omega) (ev_pos (by omega) (ev_pos (by omega) (ev_pos (by omega) (ev_pos ?_ ih')))))
      rw [h47]
      have : (s.extract (i * C) ((i + 1) * C)).size ≤ s.size := hrow
      omega
    · have e0 : i = 0 := by omega
      subst e0
      rw [← txt_first s C] at ih'
      refine ev_neg (by omega) (ev_pos (by omega) (ev_pos (by omega) (ev_pos (by omega) (ev_pos ?_ ih'))))
      rw [hx]
      have : (s.extract (0 * C) ((0 + 1) * C)).size ≤ s.size := hrow
      omega
theorem spec_GridText_ev (r c : Int) (s : ByteArray) (hs : s.size ≤ 1048576) : Ev (fun k => spec_GridText.f k r c s) (textM r c s) := by
  unfold spec_GridText.f textM
  by_cases hg : gridM r c s = true
  · obtain ⟨R, C, rfl, rfl, h1, h2, h3, h4, h5, h6⟩ := gridM_dims hg
    rw [if_pos hg]
    exact spec_GridText_l0_ev s R C hg h5 (by omega) h2 h3 h4 0 (by omega)
  · rw [if_neg hg]
    rw [Bool.not_eq_true] at hg
    have hstop : Ev (fun k => spec_GridText.j1 k (⟨#[]⟩ : ByteArray) 0 false r c s) ⟨#[]⟩ := by
      apply ev_succ
      simp only [spec_GridText.j1]
      exact ev_neg (by simp) (ev_now rfl)
    apply ev_succ
    simp only [spec_GridText.l0]
    by_cases h0 : (0 : Int) < r
    · refine ev_pos h0 (ev_bind (spec_IsGrid_ev r c s (by omega)) ?_)
      rw [hg]
      exact hstop
    · exact ev_neg h0 hstop

/-! ### parsegrid -/
/-- A text cut at its strokes. -/
def cutL : List UInt8 → List (List UInt8)
  | [] => [[]]
  | b :: l => if b = 47 then [] :: cutL l else (b :: (cutL l).headD []) :: (cutL l).tail
theorem cutL_cons (b : UInt8) (l : List UInt8) : cutL (b :: l) = if b = 47 then [] :: cutL l else (b :: (cutL l).headD []) :: (cutL l).tail := rfl
theorem cutL_length : ∀ l : List UInt8, 1 ≤ (cutL l).length ∧ (cutL l).length ≤ l.length + 1
  | [] => by simp [cutL]
  | b :: l => by
    have := cutL_length l
    rw [cutL_cons]
    split
    · simp only [List.length_cons]
      omega
    · simp only [List.length_cons, List.length_tail]
      omega
theorem cutL_flat_cons {b : UInt8} (h : ¬ b = 47) (l : List UInt8) : (cutL (b :: l)).flatten = b :: (cutL l).flatten := by
  have h1 := (cutL_length l).1
  rw [cutL_cons, if_neg h]
  cases hc : cutL l with
  | nil => rw [hc] at h1; simp at h1
  | cons x t => simp
def zeroG : Int × Int × ByteArray × Bool := (0, 0, ⟨#[]⟩, false)
/-- What a text that is cut says of a grid. -/
def finM (s : ByteArray) (R C : Int) (cells : ByteArray) : Int × Int × ByteArray × Bool := if (textM R C cells).toList = s.toList then (if gridM R C cells = true then (R, C, cells, true) else zeroG) else zeroG
def parseM (s : ByteArray) : Int × Int × ByteArray × Bool := finM s (cutL s.data.toList).length ((cutL s.data.toList).headD []).length ⟨(cutL s.data.toList).flatten.toArray⟩
theorem bt_lt {s : ByteArray} {i : Nat} (h : i < s.data.toList.length) : bt s (i : Int) = ((s.data.toList[i]).toNat : Int) := by
  have h' : i < s.size := by simpa using h
  unfold bt
  rw [dif_pos (by simpa using h')]
  rfl
theorem spec_ParseGrid_ev (s : ByteArray) (hs : s.size ≤ 1048576) : Ev (fun k => spec_ParseGrid.f k s) (parseM s) := by
  have hL : s.data.toList.length = s.size := by simp
  have main : ∀ i : Nat, i ≤ s.size → ∀ (R C : Int) (cells : ByteArray), 1 ≤ R → R ≤ i + 1 → (R = 1 → C = i) → (¬ R = 1 → 0 ≤ C ∧ C ≤ i) → cells.size ≤ i → Ev (fun k => spec_ParseGrid.l0 k s i R C cells) (finM s (R + (((cutL (s.data.toList.drop i)).length : Int) - 1)) (if R = 1 then (i : Int) + ((cutL (s.data.toList.drop i)).headD []).length else C) (cells ++ ⟨(cutL (s.data.toList.drop i)).flatten.toArray⟩)) := by
    refine down s.size ?_ ?_
    · intro i h hi R C cells h1 h2 h3 h4 h5
      apply ev_succ
      simp only [spec_ParseGrid.l0]
      have e : s.data.toList.drop i = [] := List.drop_eq_nil_of_le (by omega)
      rw [e]
      have e1 : (R + (((cutL []).length : Int) - 1)) = R := by
        show R + ((1 : Int) - 1) = R
        omega
      have e2 : (if R = 1 then (i : Int) + (((cutL []).headD []).length : Int) else C) = C := by
        split
        · rename_i hR
          rw [h3 hR]
          show (i : Int) + 0 = i
          omega
        · rfl
      have e3 : cells ++ (⟨(cutL []).flatten.toArray⟩ : ByteArray) = cells := by
        apply ByteArray.ext
        apply Array.ext'
        rw [ByteArray.data_append, Array.toList_append]
        simp [cutL]
      rw [e1, e2, e3]
      refine ev_neg (by omega) (ev_bind (spec_GridText_ev R C cells (by omega)) ?_)
      unfold finM zeroG
      by_cases ht : (textM R C cells).toList = s.toList
      · rw [if_pos ht]
        refine ev_pos ht (ev_bind (spec_IsGrid_ev R C cells (by omega)) ?_)
        by_cases hg : gridM R C cells = true
        · exact ev_pos hg (ev_now (by rw [if_pos hg]))
        · exact ev_neg hg (ev_now (by rw [if_neg hg]))
      · rw [if_neg ht]
        exact ev_neg ht (ev_now rfl)
    · intro i h ih hi R C cells h1 h2 h3 h4 h5
      have hl : i < s.data.toList.length := by omega
      have hb := bt_lt hl
      have hlen := (cutL_length (s.data.toList.drop (i + 1))).1
      have hdr := List.drop_eq_getElem_cons hl
      apply ev_succ
      simp only [spec_ParseGrid.l0]
      rw [hb, wrap64_id (n := (i : Int) + 1) (by omega) (by omega), wrap64_id (n := R + 1) (by omega) (by omega), succ_cast, Int.toNat_natCast, Int.toNat_natCast, hdr]
      generalize hu : s.data.toList[i] = u at hdr
      refine ev_pos (by omega) (ev_pos (by omega) ?_)
      by_cases h47 : u = 47
      · have e1 : R + (((cutL (u :: s.data.toList.drop (i + 1))).length : Int) - 1) = (R + 1) + (((cutL (s.data.toList.drop (i + 1))).length : Int) - 1) := by
          rw [cutL_cons, if_pos h47, List.length_cons]
          omega
        have e2 : (if R = 1 then (i : Int) + (((cutL (u :: s.data.toList.drop (i + 1))).headD []).length : Int) else C) = (if R + 1 = 1 then ((i + 1 : Nat) : Int) + (((cutL (s.data.toList.drop (i + 1))).headD []).length : Int) else C) := by
          rw [if_neg (show ¬ R + 1 = 1 by omega), cutL_cons, if_pos h47]
          split
          · rename_i hR
            rw [h3 hR]
            show (i : Int) + 0 = i
            omega
          · rfl
        have e3 : (cutL (u :: s.data.toList.drop (i + 1))).flatten = (cutL (s.data.toList.drop (i + 1))).flatten := by
          rw [cutL_cons, if_pos h47]
          simp
        rw [e1, e2, e3]
        refine ev_pos (by rw [h47]; rfl) (ev_neg (by omega) (ih (by omega) (R + 1) C cells (by omega) (by omega) (by omega) (fun _ => ?_) (by omega)))
        by_cases hR : R = 1
        · rw [h3 hR]; omega
        · have := h4 hR; omega
      · have hne : ¬ ((u.toNat : Int) = 47) := fun e => h47 (UInt8.toNat_inj.1 (by show u.toNat = 47; omega))
        have e1 : ((cutL (u :: s.data.toList.drop (i + 1))).length : Int) = ((cutL (s.data.toList.drop (i + 1))).length : Int) := by
          rw [cutL_cons, if_neg h47, List.length_cons, List.length_tail]
          omega
        have e2 : (if R = 1 then (i : Int) + (((cutL (u :: s.data.toList.drop (i + 1))).headD []).length : Int) else C) = (if R = 1 then ((i + 1 : Nat) : Int) + (((cutL (s.data.toList.drop (i + 1))).headD []).length : Int) else C) := by
          rw [cutL_cons, if_neg h47, List.headD_cons, List.length_cons]
          split <;> omega
        have e3 : cells ++ (⟨(cutL (u :: s.data.toList.drop (i + 1))).flatten.toArray⟩ : ByteArray) = (cells ++ s.extract i (i + 1)) ++ ⟨(cutL (s.data.toList.drop (i + 1))).flatten.toArray⟩ := by
          rw [cutL_flat_cons h47]
          apply ByteArray.ext
          apply Array.ext'
          rw [ByteArray.data_append, ByteArray.data_append, ByteArray.data_append, Array.toList_append, Array.toList_append, Array.toList_append, ByteArray.data_extract, Array.toList_extract]
          simp only [List.extract]
          rw [show i + 1 - i = 1 by omega, hdr]
          simp
        have hsz : (cells ++ s.extract i (i + 1)).size ≤ i + 1 := by
          rw [ByteArray.size_append, ByteArray.size_extract]
          omega
        rw [e1, e2, e3]
        refine ev_neg hne (ev_pos (by omega) (ev_pos (by omega) (ev_pos (by rw [ByteArray.size_extract]; omega) ?_)))
        by_cases hR : R = 1
        · refine ev_pos hR ?_
          have := ih (by omega) R ((i + 1 : Nat) : Int) (cells ++ s.extract i (i + 1)) h1 (by omega) (fun _ => rfl) (fun h => absurd hR h) hsz
          rw [if_pos hR] at this ⊢
          exact this
        · refine ev_neg hR (ih (by omega) R C (cells ++ s.extract i (i + 1)) h1 (by omega) (fun h => absurd h hR) (fun _ => ?_) hsz)
          have := h4 hR
          omega
  have h0 := main 0 (by omega) 1 0 ⟨#[]⟩ (by omega) (by omega) (fun _ => rfl) (fun h => absurd rfl h) (by simp [ByteArray.size])
  unfold spec_ParseGrid.f parseM
  rw [List.drop_zero, if_pos rfl] at h0
  have e1 : (1 : Int) + (((cutL s.data.toList).length : Int) - 1) = ((cutL s.data.toList).length : Int) := by omega
  have e2 : ((0 : Nat) : Int) + (((cutL s.data.toList).headD []).length : Int) = (((cutL s.data.toList).headD []).length : Int) := by omega
  have e3 : (⟨#[]⟩ : ByteArray) ++ (⟨(cutL s.data.toList).flatten.toArray⟩ : ByteArray) = ⟨(cutL s.data.toList).flatten.toArray⟩ := by
    apply ByteArray.ext
    apply Array.ext'
    rw [ByteArray.data_append, Array.toList_append]
    rfl
  rw [e1, e2, e3] at h0
  exact h0

/-! ### drawgrid -/
theorem spec_l1Int_some (l : List Int) (i h : Int) (L : List Int) (h0 : 0 ≤ i ∧ i ≤ l.length) (hl : l.length ≤ 1048576) (hL : 0 < L.length) (hL2 : L.length ≤ 1000) : ∃ x i' h' : Int, spec_l1Int.f l i h L = some (x, i', h') ∧ x ∈ L ∧ (0 ≤ i' ∧ i' ≤ l.length) := by
  unfold spec_l1Int.f
  obtain ⟨x, i1, g1, e1, hx, hi1⟩ := spec_l1Below_some l i h (L.length : Int) h0 hl (by omega)
  obtain ⟨j, rfl⟩ := Int.eq_ofNat_of_zero_le hx.1
  have hj : j < L.length := by have := hx.2.1 (by omega); omega
  rw [e1, Option.bind_some, if_pos hx.1, if_pos (by show (j : Int) < _; omega)]
  refine ⟨_, _, _, rfl, ?_, hi1⟩
  show rd L (j : Int) ∈ L
  rw [rd_get hj]
  exact List.getElem_mem hj
/-- A text that says a grid. -/
def okText (x : ByteArray) : Bool := gridM ((cutL x.data.toList).length : Int) (((cutL x.data.toList).headD []).length : Int) ⟨(cutL x.data.toList).flatten.toArray⟩ && (decide (textM ((cutL x.data.toList).length : Int) (((cutL x.data.toList).headD []).length : Int) ⟨(cutL x.data.toList).flatten.toArray⟩ = x) && decide (1 ≤ (cutL x.data.toList).flatten.length ∧ (cutL x.data.toList).flatten.length ≤ 36 ∧ (cutL x.data.toList).length ≤ 6 ∧ ((cutL x.data.toList).headD []).length ≤ 6))
/-! ### emptyfill -/
theorem gridM_cell2 {r c : Int} {s : ByteArray} (h : gridM r c s = true) (i : Nat) (hi : i < s.size) : bt s i = 35 ∨ bt s i = 46 := by
  simp only [gridM, Bool.and_eq_true, List.all_eq_true] at h
  have := h.2 i (by rw [List.mem_range']; exact ⟨i, by omega, by omega⟩)
  simpa [isC] using this
def subB (b : UInt8) : UInt8 := if b = 46 then 63 else b
def emptyM (r c : Int) (s : ByteArray) : ByteArray := if gridM r c s = true then ⟨(s.data.toList.map subB).toArray⟩ else ⟨#[]⟩
theorem bt_list {s : ByteArray} {i : Nat} (h : i < s.data.toList.length) : bt s (i : Int) = ((s.data.toList[i]).toNat : Int) := by
  have h' : i < s.size := by simpa using h
  unfold bt
  rw [dif_pos (by simpa using h')]
  rfl
theorem u8_of (b : UInt8) (n : Nat) (hn : n < 256) (h : (b.toNat : Int) = n) : b = UInt8.ofNat n := by
  apply UInt8.toNat_inj.1
  rw [UInt8.toNat_ofNat']
  omega
def fillTo (s : ByteArray) (i : Nat) : ByteArray := ⟨((s.data.toList.take i).map subB).toArray⟩
theorem fillTo_size (s : ByteArray) (i : Nat) : (fillTo s i).size ≤ s.size := by
  have : (fillTo s i).size = ((s.data.toList.take i).map subB).length := by
    show ((s.data.toList.take i).map subB).toArray.size = _
    rw [List.size_toArray]
  rw [this, List.length_map, List.length_take]
  have : s.data.toList.length = s.size := by simp
  omega
theorem fillTo_next (s : ByteArray) (i : Nat) (h : i < s.data.toList.length) (b : UInt8) (hb : subB (s.data.toList[i]) = b) : fillTo s i ++ ⟨#[b]⟩ = fillTo s (i + 1) := by
  apply ByteArray.ext
  apply Array.ext'
  rw [ByteArray.data_append, Array.toList_append]
  unfold fillTo
  rw [List.take_succ_eq_append_getElem h, List.map_append, List.map_cons, List.map_nil, hb]
theorem spec_EmptyFill_l0_ev (r c : Int) (s : ByteArray) (hg : gridM r c s = true) (hs : s.size ≤ 1048576) : ∀ i : Nat, i ≤ s.size → Ev (fun k => spec_EmptyFill.l0 k (fillTo s i) i r c s) (fillTo s s.size) := by
  refine down s.size ?_ ?_
  · intro i h hi
    have e : i = s.size := by omega
    subst e
    apply ev_succ
    simp only [spec_EmptyFill.l0]
    refine ev_neg (by omega) (ev_succ ?_)
    simp only [spec_EmptyFill.j1]
    exact ev_neg (by simp) (ev_now rfl)
  · intro i h ih hi
    have hl : i < s.data.toList.length := by simpa using h
    have hb := bt_list hl
    have hcell := gridM_cell2 hg i h
    have hsz := fillTo_size s i
    apply ev_succ
    simp only [spec_EmptyFill.l0]
    refine ev_pos (by omega) (ev_bind (spec_IsGrid_ev r c s (by omega)) ?_)
    rw [hg]
    apply ev_succ
    simp only [spec_EmptyFill.j1]
    rw [wrap64_id (n := (i : Int) + 1) (by omega) (by omega), succ_cast]
    refine ev_pos (by trivial) (ev_pos (by omega) (ev_pos (by omega) ?_))
    by_cases h1 : bt s (i : Int) = 35
    · have e : s.data.toList[i] = 35 := u8_of _ 35 (by decide) (by omega)
      rw [fillTo_next s i hl 35 (by rw [e]; rfl)]
      exact ev_pos h1 (ev_pos (by omega) (ih (by omega)))
    · have e : s.data.toList[i] = 46 := u8_of _ 46 (by decide) (by omega)
      rw [fillTo_next s i hl 63 (by rw [e]; rfl)]
      exact ev_neg h1 (ev_pos (by omega) (ih (by omega)))
theorem fillTo_all (s : ByteArray) : fillTo s s.size = ⟨(s.data.toList.map subB).toArray⟩ := by
  unfold fillTo
  rw [List.take_of_length_le (by simp)]
theorem spec_EmptyFill_ev (r c : Int) (s : ByteArray) (hs : s.size ≤ 1048576) : Ev (fun k => spec_EmptyFill.f k r c s) (emptyM r c s) := by
  unfold spec_EmptyFill.f emptyM
  by_cases hg : gridM r c s = true
  · rw [if_pos hg, ← fillTo_all]
    exact spec_EmptyFill_l0_ev r c s hg hs 0 (by omega)
  · rw [if_neg hg]
    rw [Bool.not_eq_true] at hg
    have hstop : Ev (fun k => spec_EmptyFill.j1 k (⟨#[]⟩ : ByteArray) 0 false r c s) ⟨#[]⟩ := by
      apply ev_succ
      simp only [spec_EmptyFill.j1]
      exact ev_neg (by simp) (ev_now rfl)
    apply ev_succ
    simp only [spec_EmptyFill.l0]
    by_cases h0 : (0 : Int) < (s.size : Int)
    · refine ev_pos h0 (ev_bind (spec_IsGrid_ev r c s (by omega)) ?_)
      rw [hg]
      exact hstop
    · exact ev_neg h0 hstop

/-! ### drawfill -/
/-! What is drawn for a fill: a grid that is one, a fill with letters, and the rest in bounds. -/
theorem okText_grid {x : ByteArray} (h : okText x = true) : ∃ (R C : Int) (s : ByteArray), parseM x = (R, C, s, true) ∧ (1 ≤ s.size ∧ s.size ≤ 36) ∧ gridM R C s = true := by
  unfold okText at h
  rw [Bool.and_eq_true, Bool.and_eq_true, decide_eq_true_eq, decide_eq_true_eq] at h
  obtain ⟨hg, ht, h1, h2, h3, h4⟩ := h
  refine ⟨((cutL x.data.toList).length : Int), (((cutL x.data.toList).headD []).length : Int), ⟨(cutL x.data.toList).flatten.toArray⟩, ?_, ?_, hg⟩
  · unfold parseM finM
    rw [if_pos (by rw [ht]), if_pos hg]
  · show 1 ≤ (cutL x.data.toList).flatten.toArray.size ∧ (cutL x.data.toList).flatten.toArray.size ≤ 36
    rw [List.size_toArray]
    exact ⟨h1, h2⟩
theorem emptyM_size (r c : Int) (s : ByteArray) : (emptyM r c s).size ≤ s.size := by
  unfold emptyM
  split
  · show (s.data.toList.map subB).toArray.size ≤ s.size
    rw [List.size_toArray, List.length_map, Array.length_toList]
    exact Nat.le_refl _
  · exact Nat.zero_le _
theorem put_size (r c : Int) (s f : ByteArray) (slot : Int) (w : ByteArray) : (putM r c s f slot w).1.size = f.size := by
  unfold putM
  split
  · exact wrK_size (layoutM r c s) slot.toNat f w
  · rfl

/-! ### marks -/

/-! ### wordsin -/
theorem patternsM_small (r c : Int) (s f : ByteArray) : ∀ p ∈ patternsM r c s f, p.size ≤ 1000 := by
  intro p hm
  unfold patternsM at hm
  split at hm
  · obtain ⟨l, hl, rfl⟩ := List.mem_map.1 hm
    obtain ⟨x, hx, rfl⟩ := List.mem_map.1 hl
    obtain ⟨i, hi, rfl⟩ := List.getElem_of_mem hx
    have h6 := cellsM_length_elem hi
    unfold patM
    rw [strOfNums_size, List.length_map]
    omega
  · cases hm
/-- The words of the slots that are closed. -/
def wordsInM (r c : Int) (s f : ByteArray) : List ByteArray := (patternsM r c s f).filter closedM
theorem impl_WordsIn_ev (r c : Int) (s f : ByteArray) (hs : s.size ≤ 1048576) (hf : f.size ≤ 1048576) : Ev (fun k => impl_WordsIn.f k r c s f) (wordsInM r c s f) := by
  unfold impl_WordsIn.f wordsInM
  have h1 := patternsM_length r c s f
  exact ev_bind (impl_patterns_ev r c s f hs hf) (ev_pos ⟨by omega, fun p hp => by have := patternsM_small r c s f p hp; omega⟩ (ev_now rfl))

/-! ### athas -/
/-! ### fnfills -/
/-! What the law FnFills says of a word that is put, of an empty fill and of a full one. -/
theorem bt_ext {a b : ByteArray} (hs : a.size = b.size) (h : ∀ j : Nat, j < a.size → bt a (j : Int) = bt b (j : Int)) : a = b := by
  apply ByteArray.ext
  refine Array.ext hs fun i h1 h2 => ?_
  have h3 := h i h1
  unfold bt at h3
  simp only [Int.toNat_natCast] at h3
  rw [dif_pos (show i < a.size from h1), dif_pos (show i < b.size from h2)] at h3
  exact UInt8.toNat_inj.1 (Int.ofNat.inj h3)
theorem wr_in {r c : Int} {s f w : ByteArray} {k : Nat} (hk : k < (layoutM r c s).length) (hv : fillM r c s f = true) (hf : fitK (layoutM r c s) k f w = true) {q : Nat} (hq : q < ((layoutM r c s).getD k []).length) : bt (wrK (layoutM r c s) k f w) ((layoutM r c s).getD k [])[q] = bt w (q : Int) := by
  have hi := (layout_row (row_mem hk)).2 _ (List.getElem_mem hq)
  obtain ⟨a, ha⟩ := Int.eq_ofNat_of_zero_le hi.1
  rcases wrK_at hk hv hf a with ⟨_, hn⟩ | ⟨p, hp, e1, e2⟩
  · exact absurd (ha ▸ List.getElem_mem hq) hn
  · have e : p = q := by
      rcases Nat.lt_trichotomy p q with h | h | h
      · exact absurd (e1.trans ha.symm) (List.pairwise_iff_getElem.1 (row_nodup hk) p q hp hq h)
      · exact h
      · exact absurd (ha.trans e1.symm) (List.pairwise_iff_getElem.1 (row_nodup hk) q p hq hp h)
    subst e
    rw [ha]
    exact e2
theorem wr_pat {r c : Int} {s f w : ByteArray} {k : Nat} (hk : k < (layoutM r c s).length) (hv : fillM r c s f = true) (hf : fitK (layoutM r c s) k f w = true) : patM (wrK (layoutM r c s) k f w) ((layoutM r c s).getD k []) = w :=
  bt_ext (by rw [patM_size]; exact (fitK_iff.1 hf).2.2.1) fun j hj => by
    rw [patM_size] at hj
    rw [patM_at _ _ j hj]
    exact wr_in hk hv hf hj
theorem wr_agrees {r c : Int} {s f w : ByteArray} {k : Nat} (hk : k < (layoutM r c s).length) (hv : fillM r c s f = true) (hf : fitK (layoutM r c s) k f w = true) (j : Nat) : bt f (j : Int) = 63 ∨ bt (wrK (layoutM r c s) k f w) (j : Int) = bt f (j : Int) := by
  rcases wrK_at hk hv hf j with ⟨e, _⟩ | ⟨q, hq, e1, e2⟩
  · exact .inr e
  · have h := (fitK_iff.1 hf).2.2.2 q hq
    rw [e1] at h
    rcases h with h | h
    · exact .inl h
    · exact .inr (e2.trans h.symm)
theorem closed_of {p : ByteArray} (h : ∀ j : Nat, j < p.size → ¬ bt p (j : Int) = 63) : closedM p = true := by
  unfold closedM openN
  rw [beq_iff_eq, List.countP_eq_zero]
  intro j hj
  rw [List.mem_range'] at hj
  obtain ⟨q, hq, rfl⟩ := hj
  have h2 := h (0 + 1 * q) (by omega)
  simpa using h2
theorem word_closed {w : ByteArray} (h : wordM w = true) : closedM w = true := closed_of fun j hj => by
  have h2 := (wordM_iff.1 h).2 j hj
  unfold isL at h2
  rw [decide_eq_true_eq] at h2
  omega
/-! ### fnfilled -/
/-! What the law FnFilled says of the fills that are found. -/
/-- What stands when the first slots have their words. -/
structure Put (r c : Int) (s f : ByteArray) (D : List ByteArray) (k : Nat) (g : ByteArray) (U : List ByteArray) : Prop where
  len : U.length = k
  fill : fillM r c s g = true
  mem : ∀ w ∈ U, w ∈ D
  word : ∀ w ∈ U, wordM w = true
  nd : U.Nodup
  pat : ∀ i (h : i < U.length), patM g ((layoutM r c s).getD i []) = U[i]
  kept : ∀ j : Nat, bt f (j : Int) = 63 ∨ bt g (j : Int) = bt f (j : Int)
  free : ∀ j : Nat, (j : Int) ∉ (layoutM r c s).flatten → bt g (j : Int) = bt f (j : Int)
theorem word_bt {w : ByteArray} (h : wordM w = true) {q : Nat} (hq : q < w.size) : ¬ bt w (q : Int) = 63 := by
  have h2 := (wordM_iff.1 h).2 q hq
  unfold isL at h2
  rw [decide_eq_true_eq] at h2
  omega
theorem put_step {r c : Int} {s f : ByteArray} {D : List ByteArray} (k : Nat) (g : ByteArray) (U : List ByteArray) (w : ByteArray) (hk : k < (layoutM r c s).length) (hp : Put r c s f D k g U) (hw : w ∈ D) (hf : fitK (layoutM r c s) k g w = true) (hn : w ∉ U) : Put r c s f D (k + 1) (wrK (layoutM r c s) k g w) (U ++ [w]) where
  len := by rw [List.length_append, hp.len]; rfl
  fill := wrK_fill hk hp.fill hf
  mem := fun y hy => by
    rcases List.mem_append.1 hy with hy | hy
    · exact hp.mem y hy
    · rw [List.mem_singleton] at hy
      exact hy ▸ hw
  word := fun y hy => by
    rcases List.mem_append.1 hy with hy | hy
    · exact hp.word y hy
    · rw [List.mem_singleton] at hy
      exact hy ▸ (fitK_iff.1 hf).2.1
  nd := by
    rw [List.nodup_append]
    refine ⟨hp.nd, by simp, fun a ha b hb e => ?_⟩
    rw [List.mem_singleton] at hb
    exact hn (hb ▸ e ▸ ha)
  pat := fun i h => by
    rw [List.length_append, hp.len] at h
    by_cases hi : i < U.length
    · rw [List.getElem_append_left hi]
      have e := hp.pat i hi
      have hsz : ((layoutM r c s).getD i []).length = U[i].size := by rw [← e, patM_size]
      rw [← e]
      refine bt_ext (by rw [patM_size, patM_size]) fun q hq => ?_
      rw [patM_size] at hq
      have hik : i < (layoutM r c s).length := by have := hp.len; omega
      have hu : ¬ bt U[i] (q : Int) = 63 := word_bt (hp.word _ (List.getElem_mem hi)) (by omega)
      rw [← e, patM_at _ _ q hq] at hu
      rw [patM_at _ _ q hq, patM_at _ _ q hq]
      have hin := (layout_row (row_mem hik)).2 _ (List.getElem_mem hq)
      obtain ⟨a, ha⟩ := Int.eq_ofNat_of_zero_le hin.1
      rw [ha] at hu ⊢
      exact (wr_agrees hk hp.fill hf a).resolve_left hu
    · obtain rfl : i = k := by have := hp.len; simp at h; omega
      rw [List.getElem_append_right (by omega), wr_pat hk hp.fill hf]
      simp [hp.len]
  kept := fun j => by
    rcases hp.kept j with h | h
    · exact .inl h
    · rcases wr_agrees hk hp.fill hf j with h2 | h2
      · exact .inl (h ▸ h2)
      · exact .inr (h2.trans h)
  free := fun j hj => by
    rcases wrK_at hk hp.fill hf j with ⟨e, _⟩ | ⟨q, hq, e1, _⟩
    · exact e.trans (hp.free j hj)
    · exact absurd (e1 ▸ List.mem_flatten.2 ⟨_, row_mem hk, List.getElem_mem hq⟩) hj
theorem put_none {r c : Int} {s f : ByteArray} {D : List ByteArray} (hv : fillM r c s f = true) : Put r c s f D 0 f [] where
  len := rfl
  fill := hv
  mem := fun _ h => by cases h
  word := fun _ h => by cases h
  nd := List.Pairwise.nil
  pat := fun i h => absurd h (Nat.not_lt_zero _)
  kept := fun _ => .inr rfl
  free := fun _ _ => rfl
/-- All fills, and what is known of each. -/
def allM (r c : Int) (s f : ByteArray) (ws : List ByteArray) : List ByteArray := allI (fitK (layoutM r c s)) (wrK (layoutM r c s)) (onceM [] ws) (layoutM r c s).length 0 f []
theorem fillsM_take {r c : Int} {s f : ByteArray} (ws : List ByteArray) (most : Int) (h : fillM r c s f = true ∧ aloneAllM r c s f = false ∧ (1 ≤ most ∧ most ≤ 30)) : fillsM r c s f ws most = (allM r c s f ws).take most.toNat := by
  unfold fillsM allM
  rw [if_pos h, srchI_take _ _ _ _ _ _ _ _ _ (by rw [List.length_nil]; omega), List.nil_append, List.length_nil, Nat.sub_zero]
theorem allM_put {r c : Int} {s f : ByteArray} (ws : List ByteArray) (hv : fillM r c s f = true) : ∀ x ∈ allM r c s f ws, ∃ U, Put r c s f (onceM [] ws) (layoutM r c s).length x U := by
  intro x hx
  obtain ⟨t, ht⟩ := allI_all _ _ _ (layoutM r c s).length (Put r c s f (onceM [] ws)) (fun k g U w hk hp hw hf hn => put_step k g U w hk hp hw hf hn) _ 0 f [] (by omega) (put_none hv) x hx
  exact ⟨_, ht⟩
theorem onceM_nodup : ∀ (l acc : List ByteArray), acc.Nodup → (onceM acc l).Nodup
  | [], acc, h => h
  | w :: l, acc, h => by
    unfold onceM
    split
    · exact onceM_nodup l acc h
    · rename_i hn
      refine onceM_nodup l _ ?_
      rw [List.nodup_append]
      refine ⟨h, by simp, fun a ha b hb e => ?_⟩
      rw [List.mem_singleton] at hb
      exact hn (hb ▸ e ▸ ha)
theorem allM_nodup {r c : Int} {s f : ByteArray} (ws : List ByteArray) (hv : fillM r c s f = true) : (allM r c s f ws).Nodup :=
  allI_nodup _ _ _ (layoutM r c s).length (Put r c s f (onceM [] ws)) (fun k g U w hk hp hw hf hn => put_step k g U w hk hp hw hf hn) (onceM_nodup ws [] List.Pairwise.nil) (fun _ _ _ hp => hp.len) (fun k x => patM x ((layoutM r c s).getD k [])) (fun x U hp k h => hp.pat k h) _ 0 f [] (by omega) (put_none hv)
theorem put_patterns {r c : Int} {s f x : ByteArray} {D U : List ByteArray} (hp : Put r c s f D (layoutM r c s).length x U) : patternsM r c s x = U := by
  rw [show patternsM r c s x = (layoutM r c s).map (patM x) from if_pos hp.fill]
  refine List.ext_getElem (by rw [List.length_map, hp.len]) fun i h1 h2 => ?_
  rw [List.length_map] at h1
  rw [List.getElem_map, ← hp.pat i h2, List.getD_eq_getElem?_getD, List.getElem?_eq_getElem h1, Option.getD_some]
theorem put_words {r c : Int} {s f x : ByteArray} {D U : List ByteArray} (hp : Put r c s f D (layoutM r c s).length x U) : wordsInM r c s x = U := by
  unfold wordsInM
  rw [put_patterns hp, List.filter_eq_self]
  exact fun w hw => word_closed (hp.word w hw)
theorem put_full {r c : Int} {s f x : ByteArray} {D U : List ByteArray} (hv : fillM r c s f = true) (hal : aloneAllM r c s f = false) (hp : Put r c s f D (layoutM r c s).length x U) : openN x 0 = 0 := by
  unfold openN
  rw [List.countP_eq_zero]
  intro j hj
  rw [List.mem_range'] at hj
  obtain ⟨q, hq, rfl⟩ := hj
  rw [Nat.zero_add, Nat.one_mul, beq_iff_eq]
  intro hb
  by_cases hin : ((q : Nat) : Int) ∈ (layoutM r c s).flatten
  · obtain ⟨l, hl, hc⟩ := List.mem_flatten.1 hin
    obtain ⟨i, hi, rfl⟩ := List.getElem_of_mem hl
    obtain ⟨p, hpp, e⟩ := List.getElem_of_mem hc
    have hu : i < U.length := by rw [hp.len]; exact hi
    have e2 := hp.pat i hu
    rw [List.getD_eq_getElem?_getD, List.getElem?_eq_getElem hi, Option.getD_some] at e2
    have hw := word_bt (hp.word _ (List.getElem_mem hu)) (q := p) (by rw [← e2, patM_size]; exact hpp)
    rw [← e2, patM_at _ _ p hpp, e] at hw
    exact hw hb
  · rw [hp.free q hin] at hb
    have hz := (fillM_iff.1 hv).2.1
    have hz2 := (fillM_iff.1 hp.fill).2.1
    have h1 := alone_fill hv
    rw [hal, eq_comm, List.any_eq_false] at h1
    refine h1 q (by rw [List.mem_range']; exact ⟨q, by omega, by omega⟩) ?_
    rw [in_layout] at hin
    rw [Bool.and_eq_true, decide_eq_true_eq, decide_eq_true_eq]
    exact ⟨hb, by omega⟩

/-! ### crossings -/
abbrev ICross := S114
/-- The slots, from place i on, that hold a cell: each with its place and the cell's place in it. -/
def holdGo (C : Nat) (cell : Int) : List ISlot → Nat → List (Int × Int)
  | [], _ => []
  | x :: l, i => if cell ∈ cellsM C x then ((i : Int), placeM cell (cellsM C x) 0) :: holdGo C cell l (i + 1) else holdGo C cell l (i + 1)
theorem holdGo_at (C : Nat) (cell : Int) : ∀ (l : List ISlot) (i : Nat), atGo C cell l i = (holdGo C cell l i).map (·.1)
  | [], _ => rfl
  | x :: l, i => by
    unfold atGo holdGo
    by_cases h : cell ∈ cellsM C x
    · simp [h, holdGo_at C cell l (i + 1)]
    · simp [h, holdGo_at C cell l (i + 1)]
theorem holdGo_mem (C : Nat) (cell : Int) : ∀ (l : List ISlot) (i : Nat) (h : Int × Int), h ∈ holdGo C cell l i → ∃ j : Nat, ∃ hj : j < l.length, h.1 = ((i + j : Nat) : Int) ∧ cell ∈ cellsM C l[j] ∧ h.2 = placeM cell (cellsM C l[j]) 0
  | [], _, h, hm => by cases hm
  | x :: l, i, h, hm => by
    unfold holdGo at hm
    have rest : h ∈ holdGo C cell l (i + 1) → ∃ j : Nat, ∃ hj : j < (x :: l).length, h.1 = ((i + j : Nat) : Int) ∧ cell ∈ cellsM C (x :: l)[j] ∧ h.2 = placeM cell (cellsM C (x :: l)[j]) 0 := by
      intro hr
      obtain ⟨j, hj, h1, h2, h3⟩ := holdGo_mem C cell l (i + 1) h hr
      exact ⟨j + 1, by simpa using hj, by rw [h1]; omega, by simpa using h2, by simpa using h3⟩
    split at hm
    · rename_i hc
      rcases List.mem_cons.1 hm with rfl | hm
      · exact ⟨0, by simp, by simp, by simpa using hc, by simp⟩
      · exact rest hm
    · exact rest hm
def holdM (r c : Int) (s : ByteArray) (cell : Int) : List (Int × Int) := holdGo c.toNat cell (slotsM r c s) 0
theorem holdM_at (r c : Int) (s : ByteArray) (cell : Int) : slotsAtM r c s cell = (holdM r c s cell).map (·.1) := holdGo_at _ _ _ _
theorem holdM_two (r c : Int) (s : ByteArray) (cell : Int) : (holdM r c s cell).length ≤ 2 := by
  have := slotsAtM_two r c s cell
  rw [holdM_at, List.length_map] at this
  exact this
def crossOne (cell : Int) : List (Int × Int) → List ICross
  | [a, b] => [⟨a.1, b.1, a.2, b.2, cell⟩]
  | _ => []
def crossGo (r c : Int) (s : ByteArray) : List Nat → List ICross
  | [] => []
  | i :: l => crossOne i (holdM r c s i) ++ crossGo r c s l
/-- What CrossingsOf answers. -/
def crossM (r c : Int) (s : ByteArray) : List ICross := if gridM r c s then crossGo r c s (List.range' 0 (s.size - 0)) else []
theorem crossOne_length (cell : Int) (h : List (Int × Int)) : (crossOne cell h).length ≤ 1 := by
  unfold crossOne
  split <;> simp
theorem crossGo_length (r c : Int) (s : ByteArray) : ∀ l : List Nat, (crossGo r c s l).length ≤ l.length
  | [] => by simp [crossGo]
  | i :: l => by
    unfold crossGo
    have := crossOne_length i (holdM r c s i)
    have := crossGo_length r c s l
    simp only [List.length_append, List.length_cons]
    omega
theorem grid36 {r c : Int} {s : ByteArray} (h : gridM r c s = true) : s.size ≤ 36 := by
  obtain ⟨R, C, _, _, _, h2, _, h4, h5⟩ := gridM_nat h
  have := bounds36 h2 h4
  omega
theorem crossM_length (r c : Int) (s : ByteArray) : (crossM r c s).length ≤ 36 := by
  unfold crossM
  split
  · rename_i h
    have := grid36 h
    have := crossGo_length r c s (List.range' 0 (s.size - 0))
    rw [List.length_range'] at this
    omega
  · simp
def crossStep (cell : Int) : Int → Int → List ICross → List (Int × Int) → List ICross
  | _, _, acc, [] => acc
  | first, place, acc, h :: r => if first < 0 then crossStep cell h.1 h.2 acc r else crossStep cell first place (acc ++ [⟨first, h.1, place, h.2, cell⟩]) r
theorem crossStep_one (cell : Int) (acc : List ICross) (H : List (Int × Int)) (h2 : H.length ≤ 2) (h0 : ∀ h ∈ H, 0 ≤ h.1) : crossStep cell (-1) 0 acc H = acc ++ crossOne cell H := by
  match H, h2, h0 with
  | [], _, _ => simp [crossStep, crossOne]
  | [a], _, _ => simp [crossStep, crossOne]
  | [a, b], _, h0 =>
    have := h0 a (by simp)
    simp only [crossStep, crossOne]
    rw [if_pos (by omega), if_neg (by omega)]
theorem impl_CrossingsOf_l1_ev (r c : Int) (s : ByteArray) (cell : Nat) (m : Int) (ρ : List ICross) : ∀ i : Nat, i ≤ (slotsM r c s).length → ∀ (acc : List ICross) (first place : Int), acc.length ≤ 100000 + i → cell ≤ 1000 →
    Ev (fun k => impl_CrossingsOf.l0 k (layoutM r c s) (crossStep cell first place acc (holdGo c.toNat cell ((slotsM r c s).drop i) i)) m (cell + 1 : Nat)) ρ →
    Ev (fun k => impl_CrossingsOf.l1 k (layoutM r c s) acc cell first place m cell (layoutM r c s) (layoutM r c s).length i) ρ := by
  have hl := slotsM_length r c s
  have hL := layoutM_length r c s
  refine down (slotsM r c s).length ?_ ?_
  · intro i h hi acc first place ha hc hρ
    apply ev_succ
    simp only [impl_CrossingsOf.l1]
    rw [wrap64_id (n := (cell : Int) + 1) (by omega) (by omega), succ_cast]
    rw [List.drop_eq_nil_of_le h] at hρ
    exact ev_neg (by omega) hρ
  · intro i h ih hi acc first place ha hc hρ
    have h6 := cellsM_length_elem h
    apply ev_succ
    simp only [impl_CrossingsOf.l1]
    rw [rd_ints_get (show i < (layoutM r c s).length by omega), layoutM_get h, wrap64_id (n := (i : Int) + 1) (by omega) (by omega), succ_cast]
    rw [List.drop_eq_getElem_cons h] at hρ
    unfold holdGo at hρ
    refine ev_pos (by omega) (ev_pos (by omega) (ev_pos (by omega) (ev_bind (slices_Index_int_int_ev _ cell (by omega)) ?_)))
    have hn := placeM_nonneg (n := (cell : Int)) (l := cellsM c.toNat (slotsM r c s)[i]) (i := 0)
    by_cases hm : (cell : Int) ∈ cellsM c.toNat (slotsM r c s)[i]
    · rw [if_pos hm] at hρ
      unfold crossStep at hρ
      have := hn.2 hm
      refine ev_neg (by omega) ?_
      by_cases hf : first < 0
      · rw [if_pos hf] at hρ
        exact ev_pos hf (ih (by omega) acc _ _ (by omega) hc hρ)
      · rw [if_neg hf] at hρ
        exact ev_neg hf (ev_pos (by omega) (ih (by omega) _ _ _ (by simp; omega) hc hρ))
    · rw [if_neg hm] at hρ
      have : ¬ 0 ≤ placeM (cell : Int) (cellsM c.toNat (slotsM r c s)[i]) 0 := fun x => hm (hn.1 x)
      exact ev_pos (by omega) (ih (by omega) acc _ _ (by omega) hc hρ)
theorem impl_CrossingsOf_l0_ev (r c : Int) (s : ByteArray) (h36 : s.size ≤ 36) : ∀ i : Nat, i ≤ s.size → ∀ acc : List ICross, acc.length ≤ i →
    Ev (fun k => impl_CrossingsOf.l0 k (layoutM r c s) acc s.size i) (acc ++ crossGo r c s (List.range' i (s.size - i))) := by
  refine down s.size ?_ ?_
  · intro i h hi acc ha
    apply ev_succ
    simp only [impl_CrossingsOf.l0]
    rw [range_nil h]
    exact ev_neg (by omega) (ev_now (by simp [crossGo]))
  · intro i h ih hi acc ha
    apply ev_succ
    simp only [impl_CrossingsOf.l0]
    rw [range_cons h]
    unfold crossGo
    have h1 := crossOne_length i (holdM r c s i)
    have hmem := holdGo_mem c.toNat (i : Int) (slotsM r c s) 0
    refine ev_pos (by omega) (impl_CrossingsOf_l1_ev r c s i s.size _ 0 (by omega) acc (-1) 0 (by omega) (by omega) ?_)
    rw [List.drop_zero, show holdGo c.toNat (i : Int) (slotsM r c s) 0 = holdM r c s i from rfl, crossStep_one _ _ _ (holdM_two r c s i) (fun h hh => by obtain ⟨j, _, e, _⟩ := hmem h hh; omega)]
    exact ev_eq (ih (by omega) _ (by rw [List.length_append]; have : (crossOne (i : Int) (holdGo c.toNat (i : Int) (slotsM r c s) 0)).length ≤ 1 := h1; omega)) (by simp [holdM])
theorem impl_CrossingsOf_l0_no (r c : Int) (s : ByteArray) (hs : s.size ≤ 1048576) (hg : ¬ gridM r c s = true) : ∀ i : Nat, i ≤ s.size → Ev (fun k => impl_CrossingsOf.l0 k (layoutM r c s) [] s.size i) [] := by
  have hn : layoutM r c s = [] := by
    unfold layoutM
    rw [slotsM_nil hg]
    rfl
  rw [hn]
  refine down s.size ?_ ?_
  · intro i h hi
    apply ev_succ
    simp only [impl_CrossingsOf.l0]
    exact ev_neg (by omega) (ev_now rfl)
  · intro i h ih hi
    apply ev_succ
    simp only [impl_CrossingsOf.l0]
    refine ev_pos (by omega) (ev_succ ?_)
    simp only [impl_CrossingsOf.l1]
    rw [wrap64_id (n := (i : Int) + 1) (by omega) (by omega), succ_cast]
    exact ev_neg (by simp) (ih (by omega))
theorem impl_CrossingsOf_ev (r c : Int) (s : ByteArray) (hs : s.size ≤ 1048576) : Ev (fun k => impl_CrossingsOf.f k r c s) (crossM r c s) := by
  unfold impl_CrossingsOf.f crossM
  refine ev_bind (impl_layout_ev r c s hs) ?_
  by_cases hg : gridM r c s = true
  · rw [if_pos hg]
    exact ev_eq (impl_CrossingsOf_l0_ev r c s (grid36 hg) 0 (by omega) [] (by simp)) (by simp)
  · rw [if_neg hg]
    exact impl_CrossingsOf_l0_no r c s hs hg 0 (by omega)

/-! ### choices -/
theorem rd_rows_get {l : List (List ByteArray)} {i : Nat} (h : i < l.length) : rd_L7 l (i : Int) = l[i] := by
  unfold rd_L7
  simp [h]

/-! ### support -/
theorem placeM_lt {n : Int} : ∀ {l : List Int} {i : Nat}, n ∈ l → (i : Int) ≤ placeM n l i ∧ placeM n l i < i + l.length
  | [], _, h => by cases h
  | a :: l, i, h => by
    unfold placeM
    by_cases e : a = n
    · rw [if_pos e]
      simp
      omega
    · rw [if_neg e]
      have := placeM_lt (l := l) (i := i + 1) (by
        rcases List.mem_cons.1 h with h | h
        · exact absurd h.symm e
        · exact h)
      rw [List.length_cons]
      omega
theorem holdGo_asc (C : Nat) (cell : Int) : ∀ (l : List ISlot) (i : Nat), (holdGo C cell l i).Pairwise fun a b => a.1 < b.1
  | [], _ => by simp [holdGo]
  | x :: l, i => by
    unfold holdGo
    have ih := holdGo_asc C cell l (i + 1)
    split
    · rw [List.pairwise_cons]
      refine ⟨fun b hb => ?_, ih⟩
      obtain ⟨j, _, e, _⟩ := holdGo_mem C cell l (i + 1) b hb
      rw [e]
      show (i : Int) < _
      omega
    · exact ih
/-- What a crossing tells: two slots, and two places in them. -/
def crossOk (sl : List ISlot) (x : ICross) : Prop := ∃ p q : Nat, ∃ (hp : p < sl.length) (hq : q < sl.length), x.f0 = p ∧ x.f1 = q ∧ p < q ∧ (0 ≤ x.f2 ∧ x.f2 < sl[p].f3) ∧ (0 ≤ x.f3 ∧ x.f3 < sl[q].f3)
theorem crossOne_ok (r c : Int) (s : ByteArray) (cell : Int) (x : ICross) (h : x ∈ crossOne cell (holdM r c s cell)) : crossOk (slotsM r c s) x ∧ x.f4 = cell := by
  have hm := holdGo_mem c.toNat cell (slotsM r c s) 0
  have ha := holdGo_asc c.toNat cell (slotsM r c s) 0
  rw [show holdGo c.toNat cell (slotsM r c s) 0 = holdM r c s cell from rfl] at hm ha
  match hh : holdM r c s cell, h, hm, ha with
  | [], h, _, _ => cases h
  | [a], h, _, _ => cases h
  | [a, b], h, hm, ha =>
    simp only [crossOne, List.mem_singleton] at h
    obtain ⟨p, hp, e1, c1, e2⟩ := hm a (by simp)
    obtain ⟨q, hq, e3, c2, e4⟩ := hm b (by simp)
    have hlt : a.1 < b.1 := by simpa using ha
    have l1 := placeM_lt (i := 0) c1
    have l2 := placeM_lt (i := 0) c2
    rw [cellsM_length] at l1 l2
    have b1 := (slotsM_elem hp).choose_spec.choose_spec
    have b2 := (slotsM_elem hq).choose_spec.choose_spec
    subst h
    refine ⟨⟨p, q, hp, hq, by rw [e1]; simp, by rw [e3]; simp, by omega, ?_, ?_⟩, rfl⟩
    · show 0 ≤ a.2 ∧ a.2 < _
      rw [e2]
      omega
    · show 0 ≤ b.2 ∧ b.2 < _
      rw [e4]
      omega
  | a :: b :: d :: l, h, _, _ => cases h
theorem crossGo_ok (r c : Int) (s : ByteArray) : ∀ (l : List Nat) (x : ICross), x ∈ crossGo r c s l → crossOk (slotsM r c s) x
  | [], _, h => by cases h
  | i :: l, x, h => by
    unfold crossGo at h
    rcases List.mem_append.1 h with h | h
    · exact (crossOne_ok r c s i x h).1
    · exact crossGo_ok r c s l x h
theorem crossM_ok {r c : Int} {s : ByteArray} {x : ICross} (h : x ∈ crossM r c s) : crossOk (slotsM r c s) x := by
  unfold crossM at h
  split at h
  · exact crossGo_ok r c s _ x h
  · cases h
/-- A word has support: each crossing's other slot has a word with its letter. -/
def supM (X : List ICross) (D : List (List ByteArray)) (slot : Int) (word : ByteArray) : Bool := X.all fun x => if slot = x.f0 then (D.getD x.f1.toNat []).any (supAt x.f3 x.f2 word) else if slot = x.f1 then (D.getD x.f0.toNat []).any (supAt x.f2 x.f3 word) else true
theorem slot_f3_le {r c : Int} {s : ByteArray} {i : Nat} (h : i < (slotsM r c s).length) : 0 ≤ (slotsM r c s)[i].f3 ∧ (slotsM r c s)[i].f3 ≤ 6 := by
  obtain ⟨_, _, _, _, _, _, _, _, h7, h8⟩ := slotsM_elem h
  omega
theorem supGo_eq (sl : List ISlot) (D : List (List ByteArray)) (slot : Int) (word : ByteArray) (hD : D.length = sl.length) (hrow : ∀ d ∈ D, d.length ≤ 1048576) (hf : ∀ i (h : i < sl.length), sl[i].f3 ≤ 6) (hw : ∀ i (h : i < sl.length), slot = i → (word.size : Int) = sl[i].f3) :
    ∀ X : List ICross, (∀ x ∈ X, crossOk sl x) → supGo D slot word X = some (supM X D slot word)
  | [], _ => rfl
  | x :: X, h => by
    have ih := supGo_eq sl D slot word hD hrow hf hw X (fun y hy => h y (by simp [hy]))
    obtain ⟨p, q, hp, hq, e0, e1, hpq, h2, h3⟩ := h x (by simp)
    have fp := hf p hp
    have fq := hf q hq
    have rw_ : ∀ j : Nat, j < sl.length → (D.getD j []).length ≤ 1048576 := fun j hj => by
      have hj' : j < D.length := by omega
      rw [List.getD_eq_getElem?_getD, List.getElem?_eq_getElem hj']
      exact hrow _ (List.getElem_mem hj')
    unfold supM
    rw [List.all_cons, supGo_cons]
    by_cases hA : slot = x.f0
    · have hs := hw p hp (by omega)
      have r1 := rw_ q hq
      rw [if_pos hA, if_pos hA]
      unfold supLet
      rw [if_pos ⟨⟨⟨by omega, by omega⟩, ⟨h2.1, by omega⟩⟩, ⟨⟨h3.1, by omega⟩, by rw [e1, Int.toNat_natCast]; exact r1⟩⟩, Option.bind_some]
      cases (D.getD x.f1.toNat []).any (supAt x.f3 x.f2 word)
      · rw [if_neg (by simp)]
        rfl
      · rw [if_pos rfl, ih]
        rfl
    · rw [if_neg hA, if_neg hA]
      by_cases hB : slot = x.f1
      · have hs := hw q hq (by omega)
        have r1 := rw_ p hp
        rw [if_pos hB, if_pos hB]
        unfold supLet
        rw [if_pos ⟨⟨⟨by omega, by omega⟩, ⟨h3.1, by omega⟩⟩, ⟨⟨h2.1, by omega⟩, by rw [e0, Int.toNat_natCast]; exact r1⟩⟩, Option.bind_some]
        cases (D.getD x.f0.toNat []).any (supAt x.f2 x.f3 word)
        · rw [if_neg (by simp)]
          rfl
        · rw [if_pos rfl, ih]
          rfl
      · rw [if_neg hB, if_neg hB, ih]
        rfl
theorem impl_supported_eq (r c : Int) (s : ByteArray) (D : List (List ByteArray)) (slot : Int) (word : ByteArray) (hD : D.length = (slotsM r c s).length) (hrow : ∀ d ∈ D, d.length ≤ 1048576) (hw : ∀ i (h : i < (slotsM r c s).length), slot = i → (word.size : Int) = (slotsM r c s)[i].f3) :
    impl_supported.f (crossM r c s) D slot word = some (supM (crossM r c s) D slot word) := by
  have := crossM_length r c s
  unfold impl_supported.f
  rw [if_pos (by omega)]
  exact supGo_eq (slotsM r c s) D slot word hD hrow (fun i h => (slot_f3_le h).2) hw _ (fun x hx => crossM_ok hx)
/-! ### crosscells -/
theorem place_at {n : Int} : ∀ {l : List Int} (i : Nat), n ∈ l → ∃ k : Nat, ∃ h : k < l.length, placeM n l i = ((i + k : Nat) : Int) ∧ l[k] = n
  | [], _, h => by cases h
  | a :: l, i, h => by
    unfold placeM
    by_cases e : a = n
    · rw [if_pos e]
      exact ⟨0, by simp, by rw [Nat.add_zero], e⟩
    · rw [if_neg e]
      have hm : n ∈ l := by
        rcases List.mem_cons.1 h with h2 | h2
        · exact absurd h2.symm e
        · exact h2
      obtain ⟨k, hk, h1, h2⟩ := place_at (i + 1) hm
      exact ⟨k + 1, by simpa using hk, by rw [h1]; omega, by simpa using h2⟩
theorem crossGo_mem {r c : Int} {s : ByteArray} {e : ICross} : ∀ {l : List Nat}, e ∈ crossGo r c s l → ∃ i ∈ l, ∃ h1 h2 : Int × Int, holdM r c s (i : Int) = [h1, h2] ∧ e = ⟨h1.1, h2.1, h1.2, h2.2, i⟩
  | [], h => by cases h
  | i :: l, h => by
    unfold crossGo at h
    rcases List.mem_append.1 h with h | h
    · unfold crossOne at h
      split at h
      · rename_i a b hab
        rw [List.mem_singleton] at h
        exact ⟨i, List.mem_cons_self, a, b, hab, h⟩
      · cases h
    · obtain ⟨j, hj, h1, h2, h3⟩ := crossGo_mem h
      exact ⟨j, List.mem_cons_of_mem _ hj, h1, h2, h3⟩
/-- A crossing's cell stands at both its places. -/
theorem cross_cells {r c : Int} {s : ByteArray} {e : ICross} (h : e ∈ crossM r c s) : ∃ p p2 u v : Nat, ∃ hp : p < (slotsM r c s).length, ∃ hp2 : p2 < (slotsM r c s).length, e.f0 = p ∧ e.f1 = p2 ∧ e.f2 = u ∧ e.f3 = v ∧ (∃ hu : u < (cellsM c.toNat (slotsM r c s)[p]).length, (cellsM c.toNat (slotsM r c s)[p])[u] = e.f4) ∧ (∃ hv : v < (cellsM c.toNat (slotsM r c s)[p2]).length, (cellsM c.toNat (slotsM r c s)[p2])[v] = e.f4) := by
  unfold crossM at h
  split at h
  · obtain ⟨i, _, h1, h2, hh, rfl⟩ := crossGo_mem h
    have m1 := holdGo_mem c.toNat (i : Int) (slotsM r c s) 0 h1 (by show h1 ∈ holdM r c s (i : Int); rw [hh]; simp)
    have m2 := holdGo_mem c.toNat (i : Int) (slotsM r c s) 0 h2 (by show h2 ∈ holdM r c s (i : Int); rw [hh]; simp)
    obtain ⟨p, hp, e1, c1, p1⟩ := m1
    obtain ⟨p2, hp2, e2, c2, q1⟩ := m2
    obtain ⟨u, hu, u1, u2⟩ := place_at 0 c1
    obtain ⟨v, hv, v1, v2⟩ := place_at 0 c2
    rw [Nat.zero_add] at e1 e2 u1 v1
    exact ⟨p, p2, u, v, hp, hp2, e1, e2, p1.trans u1, q1.trans v1, ⟨hu, u2⟩, ⟨hv, v2⟩⟩
  · cases h

/-! ### marksss -/

/-! ### prune -/
def tM (X : List ICross) (D : List (List ByteArray)) (i : Nat) (len : Int) (w : ByteArray) : Bool := wordM w && (decide ((w.size : Int) = len) && supM X D i w)
def keepM (X : List ICross) (D : List (List ByteArray)) (i : Nat) (len : Int) (row : List ByteArray) : List ByteArray := row.filter (tM X D i len)
/-- One round of pruning, from slot i on. -/
def inM (X : List ICross) : List ISlot → Nat → List (List ByteArray) → Bool → List (List ByteArray) × Bool
  | [], _, D, b => (D, b)
  | s :: l, i, D, b => if (keepM X D i s.f3 (D.getD i [])).length < (D.getD i []).length then inM X l (i + 1) (D.set i (keepM X D i s.f3 (D.getD i []))) true else inM X l (i + 1) D b
theorem inM_cons (X : List ICross) (s : ISlot) (l : List ISlot) (i : Nat) (D : List (List ByteArray)) (b : Bool) : inM X (s :: l) i D b = if (keepM X D i s.f3 (D.getD i [])).length < (D.getD i []).length then inM X l (i + 1) (D.set i (keepM X D i s.f3 (D.getD i []))) true else inM X l (i + 1) D b := rfl
def outM (X : List ICross) (sl : List ISlot) : Nat → List (List ByteArray) → List (List ByteArray)
  | 0, D => D
  | n + 1, D => if (inM X sl 0 D false).2 = true then outM X sl n (inM X sl 0 D false).1 else (inM X sl 0 D false).1
theorem outM_succ (X : List ICross) (sl : List ISlot) (n : Nat) (D : List (List ByteArray)) : outM X sl (n + 1) D = if (inM X sl 0 D false).2 = true then outM X sl n (inM X sl 0 D false).1 else (inM X sl 0 D false).1 := rfl
def sumL (D : List (List ByteArray)) : Nat := (D.map List.length).sum
theorem sumL_set : ∀ (D : List (List ByteArray)) (i : Nat) (q : List ByteArray), i < D.length → sumL (D.set i q) + (D.getD i []).length = sumL D + q.length
  | [], i, q, h => by simp at h
  | d :: D, 0, q, h => by simp [sumL]; omega
  | d :: D, i + 1, q, h => by
    have := sumL_set D i q (by simpa using h)
    simp only [sumL, List.set_cons_succ, List.map_cons, List.sum_cons, List.getD_cons_succ] at this ⊢
    omega
/-- Rows, and words, of bounded size. -/
def Dom (n : Nat) (D : List (List ByteArray)) : Prop := D.length = n ∧ ∀ d ∈ D, d.length ≤ 1048576 ∧ ∀ w ∈ d, w.size ≤ 1048576
theorem Dom.row {n : Nat} {D : List (List ByteArray)} (h : Dom n D) (i : Nat) : (D.getD i []).length ≤ 1048576 ∧ ∀ w ∈ D.getD i [], w.size ≤ 1048576 := by
  by_cases hi : i < D.length
  · rw [List.getD_eq_getElem?_getD, List.getElem?_eq_getElem hi]
    exact h.2 _ (List.getElem_mem hi)
  · rw [List.getD_eq_getElem?_getD, List.getElem?_eq_none (by omega)]
    simp
theorem Dom.set {n : Nat} {D : List (List ByteArray)} (h : Dom n D) (X : List ICross) (i : Nat) (len : Int) : Dom n (D.set i (keepM X D i len (D.getD i []))) := by
  refine ⟨by rw [List.length_set]; exact h.1, fun d hd => ?_⟩
  rcases List.mem_or_eq_of_mem_set hd with hd | rfl
  · exact h.2 d hd
  · obtain ⟨h1, h2⟩ := h.row i
    exact ⟨Nat.le_trans (List.length_filter_le _ _) h1, fun w hw => h2 w (List.mem_filter.1 hw).1⟩
theorem inM_facts {n : Nat} (X : List ICross) : ∀ (l : List ISlot) (i : Nat) (D : List (List ByteArray)) (b : Bool), Dom n D → i + l.length ≤ n → Dom n (inM X l i D b).1 ∧ sumL (inM X l i D b).1 ≤ sumL D ∧ ((inM X l i D b).2 = true → b = true ∨ sumL (inM X l i D b).1 < sumL D)
  | [], i, D, b, h, _ => ⟨h, Nat.le_refl _, fun e => .inl e⟩
  | s :: l, i, D, b, h, hi => by
    rw [List.length_cons] at hi
    rw [inM_cons]
    have hl := h.1
    split
    · rename_i hlt
      have hs := sumL_set D i (keepM X D i s.f3 (D.getD i [])) (by omega)
      obtain ⟨h1, h2, h3⟩ := inM_facts X l (i + 1) _ true (h.set X i s.f3) (by omega)
      exact ⟨h1, by omega, fun _ => .inr (by omega)⟩
    · exact inM_facts X l (i + 1) D b h (by omega)
theorem outM_facts {n0 : Nat} (X : List ICross) (sl : List ISlot) (hsl : sl.length ≤ n0) : ∀ (n : Nat) (D : List (List ByteArray)), Dom n0 D → Dom n0 (outM X sl n D) ∧ sumL (outM X sl n D) ≤ sumL D
  | 0, D, h => ⟨h, Nat.le_refl _⟩
  | n + 1, D, h => by
    rw [outM_succ]
    obtain ⟨h1, h2, _⟩ := inM_facts X sl 0 D false h (by omega)
    split
    · obtain ⟨h3, h4⟩ := outM_facts X sl hsl n _ h1
      exact ⟨h3, by omega⟩
    · exact ⟨h1, h2⟩
def pruneM (r c : Int) (s : ByteArray) (D : List (List ByteArray)) : List (List ByteArray) := if D.length = (slotsM r c s).length then outM (crossM r c s) (slotsM r c s) (sumL D + 1) D else D
theorem pruneM_facts {r c : Int} {s : ByteArray} {D : List (List ByteArray)} (h : Dom D.length D) : Dom D.length (pruneM r c s D) ∧ sumL (pruneM r c s D) ≤ sumL D := by
  unfold pruneM
  split
  · rename_i he
    exact outM_facts _ _ (by omega) _ _ h
  · exact ⟨h, Nat.le_refl _⟩
theorem prTest_ev (r c : Int) (s : ByteArray) (D : List (List ByteArray)) (i : Nat) (x : ByteArray) (hD : Dom (slotsM r c s).length D) (hi : i < (slotsM r c s).length) (hx : x.size ≤ 1048576) : Ev (fun k => prTest k (crossM r c s) D i (slotsM r c s)[i].f3 x) (tM (crossM r c s) D i (slotsM r c s)[i].f3 x) := by
  unfold prTest tM
  refine ev_bind (impl_IsWord_ev x (by omega)) ?_
  by_cases h1 : wordM x = true
  · by_cases h2 : (x.size : Int) = (slotsM r c s)[i].f3
    · refine ev_pos h1 (ev_pos h2 ?_)
      rw [h1, decide_eq_true h2, Bool.true_and, Bool.true_and, impl_supported_eq r c s D i x hD.1 (fun d hd => (hD.2 d hd).1) (fun j hj e => by obtain rfl : j = i := (by omega); exact h2)]
      exact ev_now rfl
    · exact ev_pos h1 (ev_neg h2 (ev_now (by rw [h1, decide_eq_false h2]; rfl)))
  · exact ev_neg h1 (ev_now (by rw [Bool.not_eq_true] at h1; rw [h1]; rfl))
theorem prKeep_ev (r c : Int) (s : ByteArray) (D : List (List ByteArray)) (i : Nat) (hD : Dom (slotsM r c s).length D) (hi : i < (slotsM r c s).length) : ∀ row : List ByteArray, (∀ w ∈ row, w.size ≤ 1048576) → Ev (fun k => prKeep k (crossM r c s) D i (slotsM r c s)[i].f3 row) (keepM (crossM r c s) D i (slotsM r c s)[i].f3 row)
  | [], _ => by
    simp only [prKeep_nil]
    exact ev_now rfl
  | x :: row, h => by
    simp only [prKeep_cons]
    refine ev_bind (prTest_ev r c s D i x hD hi (h x (by simp))) (ev_bind (prKeep_ev r c s D i hD hi row (fun w hw => h w (by simp [hw]))) (ev_now ?_))
    unfold keepM
    rw [List.filter_cons]
theorem prIn_ev (r c : Int) (s : ByteArray) : ∀ i : Nat, i ≤ (slotsM r c s).length → ∀ (D : List (List ByteArray)) (b : Bool), Dom (slotsM r c s).length D → Ev (fun k => prIn k (crossM r c s) ((slotsM r c s).drop i) i D b) (inM (crossM r c s) ((slotsM r c s).drop i) i D b) := by
  refine down (slotsM r c s).length ?_ ?_
  · intro i h hi D b hD
    rw [List.drop_eq_nil_of_le h]
    simp only [prIn_nil]
    exact ev_now rfl
  · intro i h ih hi D b hD
    obtain ⟨h1, h2⟩ := hD.row i
    rw [List.drop_eq_getElem_cons h]
    simp only [prIn_cons, inM_cons]
    refine ev_pos ⟨by rw [hD.1]; exact h, h1⟩ (ev_bind (prKeep_ev r c s D i hD h _ h2) ?_)
    by_cases hc : (keepM (crossM r c s) D i (slotsM r c s)[i].f3 (D.getD i [])).length < (D.getD i []).length
    · rw [if_pos hc]
      exact ev_pos hc (ih (by omega) _ _ (hD.set _ _ _))
    · rw [if_neg hc]
      exact ev_neg hc (ih (by omega) _ _ hD)
theorem prOut_ev (r c : Int) (s : ByteArray) : ∀ (n : Nat) (D : List (List ByteArray)), sumL D < n → Dom (slotsM r c s).length D → Ev (fun k => prOut (crossM r c s) (slotsM r c s) k D) (outM (crossM r c s) (slotsM r c s) n D)
  | 0, D, h, _ => by omega
  | n + 1, D, h, hD => by
    apply ev_succ
    simp only [prOut_succ, outM_succ]
    have hin := prIn_ev r c s 0 (by omega) D false hD
    rw [List.drop_zero] at hin
    obtain ⟨h1, h2, h3⟩ := inM_facts (crossM r c s) (slotsM r c s) 0 D false hD (by omega)
    refine ev_bind hin ?_
    by_cases hb : (inM (crossM r c s) (slotsM r c s) 0 D false).2 = true
    · rw [if_pos hb]
      refine ev_pos hb (prOut_ev r c s n _ ?_ h1)
      rcases h3 hb with h4 | h4
      · cases h4
      · omega
    · rw [if_neg hb]
      exact ev_neg hb (ev_now rfl)
theorem impl_copyDomains_l0_ev (l : List (List ByteArray)) (hl : l.length ≤ 1048576) (hr : ∀ d ∈ l, d.length ≤ 1048576) : ∀ i : Nat, i ≤ l.length → ∀ acc : List (List ByteArray), acc.length ≤ i → Ev (fun k => impl_copyDomains.l0 k acc l l.length i) (acc ++ l.drop i) := by
  refine down l.length ?_ ?_
  · intro i h hi acc ha
    apply ev_succ
    simp only [impl_copyDomains.l0]
    exact ev_neg (by omega) (ev_now (by rw [List.drop_eq_nil_of_le h]; simp))
  · intro i h ih hi acc ha
    have hrow := hr _ (List.getElem_mem h)
    apply ev_succ
    simp only [impl_copyDomains.l0]
    rw [rd_rows_get h, wrap64_id (n := (i : Int) + 1) (by omega) (by omega), succ_cast]
    refine ev_pos (by omega) (ev_pos (by omega) (ev_pos (by omega) (ev_let (a := l[i]) ?_ (ev_pos (by omega) (ev_eq (ih (by omega) _ (by simp; omega)) (by simp))))))
    unfold slices_Clone_string_string.f
    rw [if_pos (by omega)]
theorem impl_copyDomains_ev (l : List (List ByteArray)) (hl : l.length ≤ 1048576) (hr : ∀ d ∈ l, d.length ≤ 1048576) : Ev (fun k => impl_copyDomains.f k l) l := by
  unfold impl_copyDomains.f
  exact ev_eq (impl_copyDomains_l0_ev l hl hr 0 (by omega) [] (by simp)) (by simp)
theorem impl_Prune_ev (r c : Int) (s : ByteArray) (D : List (List ByteArray)) (hs : s.size ≤ 1048576) (hl : D.length ≤ 1048576) (hD : Dom D.length D) : Ev (fun k => impl_Prune.f k r c s D) (pruneM r c s D) := by
  unfold impl_Prune.f pruneM
  refine ev_bind (impl_copyDomains_ev D hl (fun d hd => (hD.2 d hd).1)) (ev_bind (impl_SlotsOf_ev r c s hs) ?_)
  by_cases h : D.length = (slotsM r c s).length
  · rw [if_pos h]
    exact ev_pos h (ev_bind (impl_CrossingsOf_ev r c s hs) (prOut_ev r c s _ D (by omega) (h ▸ hD)))
  · rw [if_neg h]
    exact ev_neg h (ev_now rfl)

/-! ### fnfilledp -/
/-! Pruning leaves the words of each fill. -/
theorem put_at {r c : Int} {s f x : ByteArray} {D U : List ByteArray} (hp : Put r c s f D (layoutM r c s).length x U) {a : Nat} (ha : a < (slotsM r c s).length) {q : Nat} (hq : q < (cellsM c.toNat (slotsM r c s)[a]).length) : ∃ h : a < U.length, U[a].size = (cellsM c.toNat (slotsM r c s)[a]).length ∧ bt U[a] (q : Int) = bt x (cellsM c.toNat (slotsM r c s)[a])[q] := by
  have h : a < U.length := by rw [hp.len, layoutM_length]; exact ha
  have e := hp.pat a h
  rw [layout_getD ha] at e
  exact ⟨h, by rw [← e, patM_size], by rw [← e, patM_at _ _ q hq]⟩
theorem put_sup {r c : Int} {s f x : ByteArray} {D0 U : List ByteArray} (hp : Put r c s f D0 (layoutM r c s).length x U) (D : List (List ByteArray)) (hD : ∀ i (h : i < U.length), U[i] ∈ D.getD i []) (i : Nat) (hi : i < U.length) : supM (crossM r c s) D (i : Int) U[i] = true := by
  unfold supM
  rw [List.all_eq_true]
  intro e he
  obtain ⟨p, p2, u, v, hp1, hp2, f0, f1, f2, f3, ⟨hu, eu⟩, ⟨hv, ev⟩⟩ := cross_cells he
  obtain ⟨k1, z1, b1⟩ := put_at hp hp1 hu
  obtain ⟨k2, z2, b2⟩ := put_at hp hp2 hv
  rw [eu] at b1
  rw [ev] at b2
  rw [f0, f1, f2, f3, Int.toNat_natCast, Int.toNat_natCast]
  split
  · rename_i h
    obtain rfl : i = p := by omega
    refine List.any_eq_true.2 ⟨U[p2], hD p2 k2, ?_⟩
    unfold supAt
    rw [Bool.and_eq_true, decide_eq_true_eq, beq_iff_eq]
    exact ⟨by omega, b2.trans b1.symm⟩
  · split
    · rename_i h
      obtain rfl : i = p2 := by omega
      refine List.any_eq_true.2 ⟨U[p], hD p k1, ?_⟩
      unfold supAt
      rw [Bool.and_eq_true, decide_eq_true_eq, beq_iff_eq]
      exact ⟨by omega, b1.trans b2.symm⟩
    · rfl
theorem put_tM {r c : Int} {s f x : ByteArray} {D0 U : List ByteArray} (hp : Put r c s f D0 (layoutM r c s).length x U) (D : List (List ByteArray)) (hD : ∀ i (h : i < U.length), U[i] ∈ D.getD i []) (i : Nat) (hi : i < U.length) (hs : i < (slotsM r c s).length) : tM (crossM r c s) D i (slotsM r c s)[i].f3 U[i] = true := by
  have hw := hp.word _ (List.getElem_mem hi)
  have e := hp.pat i hi
  rw [layout_getD hs] at e
  have hz : U[i].size = (slotsM r c s)[i].f3.toNat := by rw [← e, patM_size, cellsM_length]
  have h3 := slot_f3_le hs
  unfold tM
  rw [hw, put_sup hp D hD i hi, decide_eq_true (by omega)]
  rfl
theorem in_keeps {r c : Int} {s f x : ByteArray} {D0 U : List ByteArray} (hp : Put r c s f D0 (layoutM r c s).length x U) : ∀ (l : List ISlot) (i : Nat) (D : List (List ByteArray)) (b : Bool), (slotsM r c s).drop i = l → D.length = U.length → (∀ j (h : j < U.length), U[j] ∈ D.getD j []) → (inM (crossM r c s) l i D b).1.length = U.length ∧ ∀ j (h : j < U.length), U[j] ∈ (inM (crossM r c s) l i D b).1.getD j []
  | [], i, D, b, _, hl, hD => ⟨hl, hD⟩
  | x :: l, i, D, b, hi, hl, hD => by
    have h : i < (slotsM r c s).length := by
      rcases Nat.lt_or_ge i (slotsM r c s).length with h2 | h2
      · exact h2
      · rw [List.drop_eq_nil_of_le h2] at hi
        cases hi
    rw [List.drop_eq_getElem_cons h] at hi
    obtain ⟨rfl, hi2⟩ := List.cons.inj hi
    rw [inM_cons]
    split
    · refine in_keeps hp l (i + 1) _ true hi2 (by rw [List.length_set]; exact hl) fun j hj => ?_
      by_cases hij : i = j
      · subst hij
        rw [List.getD_eq_getElem?_getD, List.getElem?_set_self (by omega), Option.getD_some]
        exact List.mem_filter.2 ⟨hD i hj, put_tM hp D hD i hj h⟩
      · rw [List.getD_eq_getElem?_getD, List.getElem?_set_ne hij, ← List.getD_eq_getElem?_getD]
        exact hD j hj
    · exact in_keeps hp l (i + 1) D b hi2 hl hD
theorem out_keeps {r c : Int} {s f x : ByteArray} {D0 U : List ByteArray} (hp : Put r c s f D0 (layoutM r c s).length x U) : ∀ (n : Nat) (D : List (List ByteArray)), D.length = U.length → (∀ j (h : j < U.length), U[j] ∈ D.getD j []) → ∀ j (h : j < U.length), U[j] ∈ (outM (crossM r c s) (slotsM r c s) n D).getD j []
  | 0, D, _, hD => hD
  | n + 1, D, hl, hD => by
    obtain ⟨h1, h2⟩ := in_keeps hp (slotsM r c s) 0 D false (List.drop_zero ..) hl hD
    rw [outM_succ]
    split
    · exact out_keeps hp n _ h1 h2
    · exact h2
theorem prune_keeps {r c : Int} {s f x : ByteArray} {D0 U : List ByteArray} (hp : Put r c s f D0 (layoutM r c s).length x U) (D : List (List ByteArray)) (hl : D.length = U.length) (hD : ∀ j (h : j < U.length), U[j] ∈ D.getD j []) : ∀ j (h : j < U.length), U[j] ∈ (pruneM r c s D).getD j [] := by
  unfold pruneM
  split
  · exact out_keeps hp _ D hl hD
  · exact hD
theorem put_domains {r c : Int} {s f x : ByteArray} {ws U : List ByteArray} (hv : fillM r c s f = true) (hp : Put r c s f (onceM [] ws) (layoutM r c s).length x U) : (domainsM r c s f ws).length = U.length ∧ ∀ j (h : j < U.length), U[j] ∈ (domainsM r c s f ws).getD j [] := by
  have e : domainsM r c s f ws = ((layoutM r c s).map (patM f)).map (fun p => fittingM ws p) := by
    unfold domainsM
    rw [show patternsM r c s f = (layoutM r c s).map (patM f) from if_pos hv]
  refine ⟨by rw [e, List.length_map, List.length_map, hp.len], fun j h => ?_⟩
  have hj : j < (layoutM r c s).length := by rw [← hp.len]; exact h
  have hw := hp.word _ (List.getElem_mem h)
  have e2 := hp.pat j h
  have hsz : U[j].size = ((layoutM r c s).getD j []).length := by rw [← e2, patM_size]
  rw [e, List.getD_eq_getElem?_getD, List.getElem?_map, List.getElem?_map, List.getElem?_eq_getElem hj, Option.map_some, Option.map_some, Option.getD_some]
  unfold fittingM
  refine List.mem_filter.2 ⟨((onceM_mem ws [] _).1 (hp.mem _ (List.getElem_mem h))).resolve_left (by simp), ?_⟩
  have e3 : (layoutM r c s)[j] = (layoutM r c s).getD j [] := by rw [List.getD_eq_getElem?_getD, List.getElem?_eq_getElem hj, Option.getD_some]
  rw [e3]
  refine fitK_iff.2 ⟨row_pat hj hv, hw, hsz.symm, fun q hq => ?_⟩
  have hin := (layout_row (row_mem hj)).2 _ (List.getElem_mem hq)
  obtain ⟨a, ha⟩ := Int.eq_ofNat_of_zero_le hin.1
  rcases hp.kept a with h1 | h1
  · exact .inl (by rw [ha]; exact h1)
  · refine .inr ?_
    rw [← e2, patM_at _ _ q hq, ha]
    exact h1.symm

/-! ### drawl13 -/
theorem once_some (l : List Int) (i h n : Int) (h0 : 0 ≤ i ∧ i ≤ l.length) (hl : l.length ≤ 1048576) (hn : n ≤ 16777216) : ∃ (b : Bool) (i' h' : Int), spec_l1Once.f l i h n = some (b, i', h') ∧ (0 ≤ i' ∧ i' ≤ l.length) := by
  obtain ⟨x, i1, h1, e1, _, b1⟩ := spec_l1Below_some l i h n h0 hl hn
  unfold spec_l1Once.f
  rw [e1]
  exact ⟨_, _, _, rfl, b1⟩
theorem snoc_size {acc : List ByteArray} {w : ByteArray} {n : Nat} (h : ∀ y ∈ acc, y.size ≤ n) (hw : w.size ≤ n) : ∀ y ∈ acc ++ [w], y.size ≤ n := fun y hy => by
  rcases List.mem_append.1 hy with hy | hy
  · exact h y hy
  · rw [List.mem_singleton] at hy
    subst hy
    exact hw
theorem spec_l13Words_l0_ev (L : List ByteArray) (hL : L.length ≤ 100) (hs : ∀ y ∈ L, y.size ≤ 100) (l : List Int) (hl : l.length ≤ 1048576) : ∀ (d i : Nat) (acc : List ByteArray) (p h : Int), i + d = L.length → acc.length ≤ i → (∀ y ∈ acc, y.size ≤ 100) → (0 ≤ p ∧ p ≤ l.length) → ∃ (W : List ByteArray) (p' h' : Int), Ev (fun k => spec_l13Words.l0 k L acc i l p h) (W, p', h') ∧ (W.length ≤ 101 ∧ ∀ y ∈ W, y.size ≤ 100) ∧ (0 ≤ p' ∧ p' ≤ l.length)
  | 0, i, acc, p, h, hi, ha, hs2, h0 => by
    obtain ⟨b, p1, h1, e1, b1⟩ := once_some l p h 6 h0 hl (by omega)
    cases b with
    | true =>
      obtain ⟨w, p2, h2, e2, w2, b2⟩ := spec_l4Any_some l p1 h1 b1 hl
      refine ⟨acc ++ [w], p2, h2, ev_succ ?_, ⟨by simp; omega, snoc_size hs2 (by omega)⟩, b2⟩
      simp only [spec_l13Words.l0]
      exact ev_neg (by omega) (ev_let e1 (ev_pos rfl (ev_let e2 (ev_pos (by omega) (ev_now rfl)))))
    | false =>
      refine ⟨acc, p1, h1, ev_succ ?_, ⟨by omega, hs2⟩, b1⟩
      simp only [spec_l13Words.l0]
      exact ev_neg (by omega) (ev_let e1 (ev_neg (by simp) (ev_now rfl)))
  | d + 1, i, acc, p, h, hi, ha, hs2, h0 => by
    have hil : i < L.length := by omega
    obtain ⟨b, p1, h1, e1, b1⟩ := once_some l p h 3 h0 hl (by omega)
    cases b with
    | true =>
      obtain ⟨W, p', h', e2, q1, q2⟩ := spec_l13Words_l0_ev L hL hs l hl d (i + 1) acc p1 h1 (by omega) (by omega) hs2 b1
      refine ⟨W, p', h', ev_succ ?_, q1, q2⟩
      simp only [spec_l13Words.l0]
      rw [wrap64_id (n := (i : Int) + 1) (by omega) (by omega), succ_cast]
      exact ev_pos (by omega) (ev_let e1 (ev_pos rfl e2))
    | false =>
      obtain ⟨W, p', h', e2, q1, q2⟩ := spec_l13Words_l0_ev L hL hs l hl d (i + 1) (acc ++ [L[i]]) p1 h1 (by omega) (by simp; omega) (snoc_size hs2 (hs _ (List.getElem_mem hil))) b1
      refine ⟨W, p', h', ev_succ ?_, q1, q2⟩
      simp only [spec_l13Words.l0]
      rw [rdOf_get hil, wrap64_id (n := (i : Int) + 1) (by omega) (by omega), succ_cast]
      exact ev_pos (by omega) (ev_let e1 (ev_neg (by simp) (ev_pos (by omega) (ev_pos (by omega) e2))))
theorem spec_l13Words_ev (l : List Int) (i h : Int) (h0 : 0 ≤ i ∧ i ≤ l.length) (hl : l.length ≤ 1048576) : ∃ (W : List ByteArray) (p' h' : Int), Ev (fun k => spec_l13Words.f k l i h) (W, p', h') ∧ (W.length ≤ 101 ∧ ∀ y ∈ W, y.size ≤ 100) ∧ (0 ≤ p' ∧ p' ≤ l.length) := by
  unfold spec_l13Words.f
  exact spec_l13Words_l0_ev _ (by decide) (by decide) l hl 23 0 [] i h (by decide) (by decide) (fun y hy => by cases hy) h0
theorem spec_l13Draw_stop (r c : Int) (s : ByteArray) (l : List Int) (W : List ByteArray) (n m i h : Int) (f : ByteArray) (hl : l.length ≤ 1048576) (hf : f.size ≤ 100) (h0 : 0 ≤ i ∧ i ≤ l.length) : ∃ (f' : ByteArray) (i' h' : Int), Ev (fun k => spec_l13Draw.j1 k W f n m false l i h r c s) (r, c, s, f', W, i', h') ∧ f'.size ≤ 101 ∧ (0 ≤ i' ∧ i' ≤ l.length) := by
  obtain ⟨b, p1, h1, e1, b1⟩ := once_some l i h 9 h0 hl (by omega)
  cases b with
  | true =>
    have n1 : (f ++ (⟨#[63]⟩ : ByteArray)).size = f.size + 1 := by rw [ByteArray.size_append]; rfl
    refine ⟨f ++ (⟨#[63]⟩ : ByteArray), p1, h1, ev_succ ?_, by omega, b1⟩
    simp only [spec_l13Draw.j1]
    exact ev_neg (by simp) (ev_let e1 (ev_pos rfl (ev_pos (by omega) (ev_now rfl))))
  | false =>
    refine ⟨f, p1, h1, ev_succ ?_, by omega, b1⟩
    simp only [spec_l13Draw.j1]
    exact ev_neg (by simp) (ev_let e1 (ev_neg (by simp) (ev_now rfl)))
theorem spec_l13Draw_l0_ev (r c : Int) (s : ByteArray) (l : List Int) (W : List ByteArray) (n : Int) (hs : s.size ≤ 1048576) (hl : l.length ≤ 1048576) (hn : n ≤ 1000) (hW : W.length ≤ 101) (hW2 : ∀ y ∈ W, y.size ≤ 100) : ∀ (m : Nat) (f : ByteArray) (i h : Int), m ≤ 100 → f.size ≤ 100 → (0 ≤ i ∧ i ≤ l.length) → ∃ (f' : ByteArray) (i' h' : Int), Ev (fun k => spec_l13Draw.l0 k W f n (m : Int) l i h r c s) (r, c, s, f', W, i', h') ∧ f'.size ≤ 101 ∧ (0 ≤ i' ∧ i' ≤ l.length)
  | 0, f, i, h, hm, hf, h0 => by
    obtain ⟨f', i', h', e, q⟩ := spec_l13Draw_stop r c s l W n ((0 : Nat) : Int) i h f hl hf h0
    refine ⟨f', i', h', ev_succ ?_, q⟩
    simp only [spec_l13Draw.l0]
    exact ev_neg (by omega) e
  | m + 1, f, i, h, hm, hf, h0 => by
    by_cases hn0 : n > 0
    · by_cases hw0 : (W.length : Int) > 0
      · obtain ⟨x, i1, h1, e1, x1, b1⟩ := spec_l1Below_some l i h n h0 hl (by omega)
        obtain ⟨z, i2, h2, e2, z1, b2⟩ := spec_l1Below_some l i1 h1 (W.length : Int) b1 hl (by omega)
        have z2 := z1.2.1 (by omega)
        obtain ⟨j, rfl⟩ := Int.eq_ofNat_of_zero_le z1.1
        have hj : j < W.length := by omega
        have hwj := hW2 _ (List.getElem_mem hj)
        have ep := spec_PutWord_ev r c s f x W[j] hs (by omega) (by omega)
        have ez := put_size r c s f x W[j]
        obtain ⟨f', i', h', e3, q⟩ := spec_l13Draw_l0_ev r c s l W n hs hl hn hW hW2 m (putM r c s f x W[j]).1 i2 h2 (by omega) (by omega) b2
        refine ⟨f', i', h', ev_succ ?_, q⟩
        simp only [spec_l13Draw.l0]
        refine ev_pos (by omega) (ev_pos hn0 (ev_succ ?_))
        simp only [spec_l13Draw.j1]
        rw [wrap64_id (n := ((m + 1 : Nat) : Int) - 1) (by omega) (by omega), show ((m + 1 : Nat) : Int) - 1 = (m : Int) by omega]
        refine ev_pos (decide_eq_true hw0) (ev_let e1 (ev_let e2 (ev_pos z1.1 (ev_pos z2 ?_))))
        show Ev (fun k => (spec_PutWord.f k r c s f x (rdOf ByteArray.empty W (j : Int))).bind fun bt => spec_l13Draw.l0 k W bt.1 n (m : Int) l i2 h2 r c s) _
        rw [rdOf_get hj]
        exact ev_bind ep e3
      · obtain ⟨f', i', h', e, q⟩ := spec_l13Draw_stop r c s l W n ((m + 1 : Nat) : Int) i h f hl hf h0
        refine ⟨f', i', h', ev_succ ?_, q⟩
        simp only [spec_l13Draw.l0]
        rw [decide_eq_false hw0]
        exact ev_pos (by omega) (ev_pos hn0 e)
    · obtain ⟨f', i', h', e, q⟩ := spec_l13Draw_stop r c s l W n ((m + 1 : Nat) : Int) i h f hl hf h0
      refine ⟨f', i', h', ev_succ ?_, q⟩
      simp only [spec_l13Draw.l0]
      exact ev_pos (by omega) (ev_neg hn0 e)
theorem spec_l13Draw_ev (l : List Int) (i h : Int) (h0 : 0 ≤ i ∧ i ≤ l.length) (hl : l.length ≤ 1048576) : ∃ (r c : Int) (s f : ByteArray) (W : List ByteArray) (i' h' : Int), Ev (fun k => spec_l13Draw.f k l i h) (r, c, s, f, W, i', h') ∧ (s.size ≤ 100 ∧ f.size ≤ 101 ∧ W.length ≤ 101 ∧ ∀ y ∈ W, y.size ≤ 100) ∧ (0 ≤ i' ∧ i' ≤ l.length) := by
  unfold spec_l13Draw.f spec_l13Texts.f
  have hall : ∀ x ∈ [(⟨#[46, 46, 47, 46, 46]⟩ : ByteArray), (⟨#[46, 46, 46, 47, 46, 46, 46]⟩ : ByteArray), (⟨#[46, 46, 46, 47, 35, 46, 35, 47, 46, 46, 46]⟩ : ByteArray), (⟨#[46, 46, 35, 47, 46, 46, 46, 47, 35, 46, 46]⟩ : ByteArray), (⟨#[46, 46, 46, 47, 46, 46, 46]⟩ : ByteArray)], okText x = true ∧ x.size ≤ 100 := by decide +kernel
  obtain ⟨x, i1, g1, e1, hx, b1⟩ := spec_l1Str_some l i h (L := [(⟨#[46, 46, 47, 46, 46]⟩ : ByteArray), (⟨#[46, 46, 46, 47, 46, 46, 46]⟩ : ByteArray), (⟨#[46, 46, 46, 47, 35, 46, 35, 47, 46, 46, 46]⟩ : ByteArray), (⟨#[46, 46, 35, 47, 46, 46, 46, 47, 35, 46, 46]⟩ : ByteArray), (⟨#[46, 46, 46, 47, 46, 46, 46]⟩ : ByteArray)]) h0 hl (by decide) (by decide)
  obtain ⟨hok, hxs⟩ := hall x hx
  obtain ⟨R, C, s, hp, hs, hg⟩ := okText_grid hok
  have hpe := spec_ParseGrid_ev x (by omega)
  rw [hp] at hpe
  obtain ⟨W, i2, g2, e2, ⟨hW, hW2⟩, b2⟩ := spec_l13Words_ev l i1 g1 b1 hl
  obtain ⟨z, i3, g3, e3, z1, b3⟩ := spec_l1Below_some l i2 g2 3 b2 hl (by omega)
  have z2 := z1.2.1 (by omega)
  obtain ⟨m, rfl⟩ := Int.eq_ofNat_of_zero_le z1.1
  have hlen := slotsM_length R C s
  have hz := emptyM_size R C s
  obtain ⟨f, i', h', e4, q1, q2⟩ := spec_l13Draw_l0_ev R C s l W ((slotsM R C s).length : Int) (by omega) hl (by omega) hW hW2 m (emptyM R C s) i3 g3 (by omega) (by omega) b3
  exact ⟨R, C, s, f, W, i', h', ev_let rfl (ev_let e1 (ev_bind hpe (ev_bind e2 (ev_bind (spec_EmptyFill_ev R C s (by omega)) (ev_bind (spec_SlotsOf_ev R C s (by omega)) (ev_let e3 e4)))))), ⟨by omega, q1, hW, hW2⟩, q2⟩
theorem spec_DrawFillsOf_ev (l : List Int) (hl : l.length ≤ 1048576) : ∃ (r c : Int) (s f : ByteArray) (W : List ByteArray) (most : Int), Ev (fun k => spec_DrawFillsOf.f k l) (r, c, s, f, W, most) ∧ (s.size ≤ 100 ∧ f.size ≤ 101 ∧ W.length ≤ 101 ∧ ∀ y ∈ W, y.size ≤ 100) := by
  obtain ⟨h, e1⟩ := spec_l1New_ev l hl
  obtain ⟨r, c, s, f, W, i1, h1, e2, q, b1⟩ := spec_l13Draw_ev l 0 h ⟨by omega, by omega⟩ hl
  obtain ⟨m, i2, h2, e3, _, b2⟩ := spec_l1Int_some l i1 h1 [1, 2, 5, 30, 31, 0, (-1)] b1 hl (by decide) (by decide)
  refine ⟨r, c, s, f, W, m, ?_, q⟩
  unfold spec_DrawFillsOf.f
  exact ev_bind e1 (ev_bind e2 (ev_let e3 (ev_now rfl)))

/-! ### fullfill -/
theorem laws_agrees_ev {x f : ByteArray} (hs : x.size = f.size) (hl : f.size ≤ 1048576) (h : ∀ j : Nat, bt f (j : Int) = 63 ∨ bt x (j : Int) = bt f (j : Int)) : Ev (fun k => laws_agrees.f k x f) true := by
  have main : ∀ i : Nat, i ≤ f.size → Ev (fun k => laws_agrees.l0 k x f i) true := by
    refine down f.size ?_ ?_
    · intro i hi _
      apply ev_succ
      simp only [laws_agrees.l0]
      exact ev_neg (by omega) (ev_now (by rw [hs]; simp))
    · intro i hi ih _
      apply ev_succ
      simp only [laws_agrees.l0]
      rw [wrap64_id (n := (i : Int) + 1) (by omega) (by omega), succ_cast]
      refine ev_pos (by omega) (ev_pos (by omega) ?_)
      by_cases h1 : bt f (i : Int) = 63
      · exact ev_pos h1 (ih (by omega))
      · exact ev_neg h1 (ev_neg (by omega) (ev_pos (by omega) (ev_pos ((h i).resolve_left h1) (ih (by omega)))))
  unfold laws_agrees.f
  exact main 0 (by omega)
theorem impl_openIn_ev (s : ByteArray) (hs : s.size ≤ 1048576) : Ev (fun k => impl_openIn.f k s) ((openN s 0 : Nat) : Int) := by
  have main : ∀ i : Nat, i ≤ s.size → ∀ n : Nat, n ≤ i → Ev (fun k => impl_openIn.l0 k s (n : Int) (s.size : Int) i) ((n + openN s i : Nat) : Int) := by
    refine down s.size ?_ ?_
    · intro i hi _ n hn
      apply ev_succ
      simp only [impl_openIn.l0]
      exact ev_neg (by omega) (ev_now (by rw [openN_end s i hi, Nat.add_zero]))
    · intro i hi ih _ n hn
      apply ev_succ
      simp only [impl_openIn.l0]
      rw [wrap64_id (n := (i : Int) + 1) (by omega) (by omega), wrap64_id (n := (n : Int) + 1) (by omega) (by omega), succ_cast i, succ_cast n, openN_step s i hi]
      refine ev_pos (by omega) (ev_pos (by omega) (ev_pos (by omega) ?_))
      by_cases hb : bt s (i : Int) = 63
      · exact ev_pos hb (ev_eq (ih (by omega) (n + 1) (by omega)) (by rw [if_pos hb]; omega))
      · exact ev_neg hb (ev_eq (ih (by omega) n (by omega)) (by rw [if_neg hb]; omega))
  unfold impl_openIn.f
  exact ev_eq (main 0 (by omega) 0 (Nat.le_refl _)) (by omega)
theorem impl_IsFull_ev (r c : Int) (s f : ByteArray) (hs : s.size ≤ 1048576) (hf : f.size ≤ 1048576) : Ev (fun k => impl_IsFull.f k r c s f) (fillM r c s f && decide (openN f 0 = 0)) := by
  have hi := impl_IsFill_ev r c s f (by omega) (by omega)
  unfold impl_IsFull.f
  by_cases hv : fillM r c s f = true
  · rw [hv] at hi ⊢
    refine ev_bind hi (ev_pos rfl (ev_bind (impl_openIn_ev f hf) (ev_now ?_)))
    by_cases ho : openN f 0 = 0
    · rw [ho]
      rfl
    · rw [decide_eq_false ho, Bool.and_false, beq_eq_false_iff_ne]
      omega
  · rw [Bool.not_eq_true] at hv
    rw [hv] at hi ⊢
    exact ev_bind hi (ev_neg (by simp) (ev_now (by simp)))
/-! ### repeats -/
/-- How many words of a list stood there before. -/
def repM : List ByteArray → List ByteArray → Nat
  | _, [] => 0
  | pre, s :: r => (if s ∈ pre then 1 else 0) + repM (pre ++ [s]) r
theorem repM_once : ∀ (l pre acc : List ByteArray), (∀ s, s ∈ pre ↔ s ∈ acc) → repM pre l + (onceM acc l).length = acc.length + l.length
  | [], _, _, _ => by simp [repM, onceM]
  | s :: r, pre, acc, h => by
    unfold repM onceM
    by_cases hs : s ∈ acc
    · rw [if_pos hs, if_pos ((h s).2 hs)]
      have := repM_once r (pre ++ [s]) acc (by
        intro t
        simp only [List.mem_append, List.mem_singleton, h]
        constructor
        · rintro (h1 | h1)
          · exact h1
          · rw [h1]; exact hs
        · exact .inl)
      simp only [List.length_cons]; omega
    · rw [if_neg hs, if_neg (fun x => hs ((h s).1 x))]
      have := repM_once r (pre ++ [s]) (acc ++ [s]) (by intro t; simp [h])
      simp only [List.length_cons, List.length_append, List.length_nil] at this ⊢; omega
theorem impl_RepeatsIn_ev (l : List ByteArray) (hl : l.length ≤ 1048576) : Ev (fun k => impl_RepeatsIn.f k l) (repM [] l : Int) := by
  unfold impl_RepeatsIn.f
  have h := repM_once l [] [] (by simp)
  have h2 := onceM_length l []
  simp only [List.length_nil] at h h2
  refine ev_bind (impl_once_ev l hl) (ev_now ?_)
  rw [wrap64_id (by omega) (by omega)]
  omega

/-! ### the law -/
theorem hasWordM_ev (n : ByteArray) {l : List ByteArray} (hl : l.length ≤ 2000000) : Ev (fun k => impl_HasWord.f k l n) (decide (n ∈ l)) := by
  unfold impl_HasWord.f
  exact ev_bind (slices_Contains_string_string_ev l n (by omega)) (ev_now rfl)
theorem within_ev {w ws : List ByteArray} (hl : ws.length ≤ 1000) (hw : w.length ≤ 1000) (hm : ∀ y ∈ w, y ∈ ws) : Ev (fun k => laws_within.f k w ws) true := by
  have main : ∀ i : Nat, i ≤ w.length → Ev (fun k => laws_within.l0 k w ws i) true := by
    refine down w.length ?_ ?_
    · intro i h _
      apply ev_succ
      simp only [laws_within.l0]
      exact ev_neg (by omega) (ev_now rfl)
    · intro i h ih _
      have e := hasWordM_ev w[i] (l := ws) (by omega)
      rw [decide_eq_true (hm _ (List.getElem_mem h))] at e
      apply ev_succ
      simp only [laws_within.l0]
      rw [rdOf_get h, wrap64_id (n := (i : Int) + 1) (by omega) (by omega), succ_cast]
      exact ev_pos (by omega) (ev_pos (by omega) (ev_bind e (ev_pos rfl (ih (by omega)))))
  unfold laws_within.f
  exact main 0 (by omega)
theorem rep_zero : ∀ (l pre : List ByteArray), l.Nodup → (∀ x ∈ l, x ∉ pre) → repM pre l = 0
  | [], _, _, _ => rfl
  | a :: l, pre, hn, hd => by
    obtain ⟨h1, h2⟩ := List.nodup_cons.1 hn
    unfold repM
    rw [if_neg (hd a List.mem_cons_self), rep_zero l (pre ++ [a]) h2 (fun x hx hm => by
      rcases List.mem_append.1 hm with hm | hm
      · exact hd x (List.mem_cons_of_mem _ hx) hm
      · rw [List.mem_singleton] at hm
        exact h1 (hm ▸ hx))]
theorem put_len {r c : Int} {s f x : ByteArray} {D U : List ByteArray} (hp : Put r c s f D (layoutM r c s).length x U) : U.length = (slotsM r c s).length ∧ U.length ≤ 72 := by
  have h1 := hp.len
  have h2 := slotsM_length r c s
  rw [layoutM_length] at h1
  omega
theorem filled_one {r c : Int} {s f : ByteArray} {ws L : List ByteArray} (hs : s.size ≤ 100) (hws : ws.length ≤ 101) (hv : fillM r c s f = true) (hal : aloneAllM r c s f = false) (hput : ∀ x ∈ L, ∃ U, Put r c s f (onceM [] ws) (layoutM r c s).length x U) (hnd : L.Nodup) (hL : L.length ≤ 1000) : ∀ (xs : List ByteArray) (i : Nat), L.drop i = xs → Ev (fun k => fdOne k r c s f ws L xs i) true
  | [], i, _ => ev_now rfl
  | x :: xs, i, hi => by
    have h : i < L.length := by
      rcases Nat.lt_or_ge i L.length with h2 | h2
      · exact h2
      · rw [List.drop_eq_nil_of_le h2] at hi
        cases hi
    rw [List.drop_eq_getElem_cons h] at hi
    obtain ⟨hx, hi2⟩ := List.cons.inj hi
    have hmem : x ∈ L := hx ▸ List.getElem_mem h
    obtain ⟨U, hp⟩ := hput x hmem
    obtain ⟨hU, hU2⟩ := put_len hp
    have z1 := (fillM_iff.1 hv).2.1
    have z2 := (fillM_iff.1 hp.fill).2.1
    have e1 := impl_WordsIn_ev r c s x (by omega) (by omega)
    rw [put_words hp] at e1
    have e2 := impl_IsFull_ev r c s x (by omega) (by omega)
    rw [hp.fill, decide_eq_true (put_full hv hal hp), Bool.and_self] at e2
    have e5 := impl_RepeatsIn_ev U (by omega)
    rw [rep_zero U [] hp.nd (fun _ _ h => by cases h)] at e5
    have e7 := hasWordM_ev x (l := L.take i) (by rw [List.length_take]; omega)
    have hnot : ¬ x ∈ L.take i := fun hm => by
      obtain ⟨j, hj, e⟩ := List.getElem_of_mem hm
      rw [List.length_take] at hj
      rw [List.getElem_take, ← hx] at e
      exact List.pairwise_iff_getElem.1 hnd j i (by omega) h (by omega) e
    rw [decide_eq_false hnot] at e7
    simp only [fdOne_cons]
    exact ev_bind e1 (ev_bind e2 (ev_bind (laws_agrees_ev (z2.trans z1.symm) (by omega) hp.kept) (ev_bind (impl_SlotsOf_ev r c s (by omega)) (ev_bind e5 (ev_bind (within_ev (by omega) (by omega) (fun y hy => ((onceM_mem ws [] y).1 (hp.mem y hy)).resolve_left (by simp))) (ev_bind e7 (ev_pos ⟨rfl, rfl, hU, rfl, rfl, rfl⟩ (filled_one hs hws hv hal hput hnd hL xs (i + 1) hi2))))))))
theorem filled_in {p : List (List ByteArray)} {U : List ByteArray} (hl : p.length = U.length) (hr : ∀ d ∈ p, d.length ≤ 1048576) (hm : ∀ j (h : j < U.length), U[j] ∈ p.getD j []) : ∀ (ys : List ByteArray) (j : Nat), U.drop j = ys → Ev (fun k => fdIn k p ys j) true
  | [], _, _ => ev_now rfl
  | y :: ys, j, hj => by
    have h : j < U.length := by
      rcases Nat.lt_or_ge j U.length with h2 | h2
      · exact h2
      · rw [List.drop_eq_nil_of_le h2] at hj
        cases hj
    rw [List.drop_eq_getElem_cons h] at hj
    obtain ⟨hy, hj2⟩ := List.cons.inj hj
    have hmm := hm j h
    rw [hy] at hmm
    have hp : j < p.length := by omega
    have hrow : (p.getD j []).length ≤ 1048576 := by
      rw [List.getD_eq_getElem?_getD, List.getElem?_eq_getElem hp]
      exact hr _ (List.getElem_mem hp)
    have e := hasWordM_ev y (l := p.getD j []) (by omega)
    rw [decide_eq_true hmm] at e
    simp only [fdIn_cons]
    exact ev_pos hp (ev_bind e (ev_pos rfl (filled_in hl hr hm ys (j + 1) hj2)))
theorem filled_out {r c : Int} {s f : ByteArray} {D : List ByteArray} {p : List (List ByteArray)} (hs : s.size ≤ 100) (hr : ∀ d ∈ p, d.length ≤ 1048576) : ∀ xs : List ByteArray, (∀ x ∈ xs, ∃ U, Put r c s f D (layoutM r c s).length x U ∧ p.length = U.length ∧ ∀ j (h : j < U.length), U[j] ∈ p.getD j []) → Ev (fun k => fdOut k r c s p xs) true
  | [], _ => ev_now rfl
  | x :: xs, h => by
    obtain ⟨U, hp, hl, hm⟩ := h x List.mem_cons_self
    have z2 := (fillM_iff.1 hp.fill).2.1
    have e1 := impl_WordsIn_ev r c s x (by omega) (by omega)
    rw [put_words hp] at e1
    simp only [fdOut_cons]
    exact ev_bind e1 (ev_bind (filled_in hl hr hm U 0 (List.drop_zero ..)) (filled_out hs hr xs fun y hy => h y (List.mem_cons_of_mem _ hy)))
theorem first_same {r c : Int} {s f : ByteArray} {ws : List ByteArray} {most : Int} (hm : 1 ≤ most ∧ most ≤ 30) : ((fillsM r c s f ws 1).length = 0 ↔ (fillsM r c s f ws most).length = 0) ∧ (0 < (fillsM r c s f ws 1).length → rdOf ByteArray.empty (fillsM r c s f ws 1) 0 = rdOf ByteArray.empty (fillsM r c s f ws most) 0) := by
  by_cases hc : fillM r c s f = true ∧ aloneAllM r c s f = false
  · rw [fillsM_take ws 1 ⟨hc.1, hc.2, by omega, by omega⟩, fillsM_take ws most ⟨hc.1, hc.2, hm⟩]
    obtain ⟨m, hm2⟩ : ∃ m, most.toNat = m + 1 := ⟨most.toNat - 1, by omega⟩
    rw [hm2, show (1 : Int).toNat = 0 + 1 from rfl]
    cases allM r c s f ws with
    | nil => simp
    | cons a l =>
      rw [List.take_succ_cons, List.take_succ_cons]
      exact ⟨by simp, fun _ => rfl⟩
  · have e : ∀ m : Int, fillsM r c s f ws m = [] := fun m => by
      unfold fillsM
      exact if_neg fun h => hc ⟨h.1, h.2.1⟩
    rw [e, e]
    exact ⟨Iff.rfl, fun h => absurd h (Nat.lt_irrefl 0)⟩
theorem filled_end {r c : Int} {s f : ByteArray} {ws : List ByteArray} {most : Int} (hs : s.size ≤ 100) (hf : f.size ≤ 101) (hws : ws.length ≤ 101) (hw2 : ∀ y ∈ ws, y.size ≤ 100) (hm : 1 ≤ most ∧ most ≤ 30) : Ev (fun k => fdEnd k r c s f ws most (fillsM r c s f ws most)) true := by
  have hsz : ∀ y ∈ ws, y.size ≤ 140737488351232 := fun y hy => by have := hw2 y hy; omega
  have e1 := impl_FillsOf_ev r c s f ws 1 (by omega) (by omega) (by omega) hsz
  have e2 := impl_FillsOf_ev r c s f ws 2 (by omega) (by omega) (by omega) hsz
  have hlen := fillsM_length r c s f ws most
  obtain ⟨s1, s2⟩ := first_same (r := r) (c := c) (s := s) (f := f) (ws := ws) hm
  have eu : Ev (fun k => impl_IsUniqueFill.f k r c s f ws) (((fillsM r c s f ws 2).length : Int) == 1) := by
    unfold impl_IsUniqueFill.f
    exact ev_bind e2 (ev_now rfl)
  unfold fdEnd
  by_cases h0 : (fillsM r c s f ws 1).length = 0
  · have eg : Ev (fun k => impl_FillGrid.f k r c s f ws) (⟨#[]⟩, false) := by
      unfold impl_FillGrid.f
      exact ev_bind e1 (ev_pos (by omega) (ev_now rfl))
    have h1 := s1.1 h0
    exact ev_bind eg (ev_bind eu (ev_bind e2 (ev_pos ⟨by rw [h1]; rfl, fun h => (by cases h), by omega, rfl⟩ (ev_now rfl))))
  · have eg : Ev (fun k => impl_FillGrid.f k r c s f ws) (rdOf ByteArray.empty (fillsM r c s f ws 1) 0, true) := by
      unfold impl_FillGrid.f
      exact ev_bind e1 (ev_neg (by omega) (ev_pos (by omega) (ev_now rfl)))
    have h1 : ¬ (fillsM r c s f ws most).length = 0 := fun h => h0 (s1.2 h)
    exact ev_bind eg (ev_bind eu (ev_bind e2 (ev_pos ⟨(decide_eq_true (by omega)).symm, fun _ => s2 (by omega), by omega, rfl⟩ (ev_now rfl))))
theorem FnFilled : laws_FnFilled.Pure := by
  intro l _ _ _
  apply Ev.rounds
  unfold laws_FnFilled.f
  refine ev_let (laws_big_eq l) ?_
  by_cases hb : (l.length : Int) > 1048576
  · exact ev_pos (decide_eq_true hb) (ev_now rfl)
  · obtain ⟨r, c, s, f, ws, most, hd, hs, hf, hws, hw2⟩ := spec_DrawFillsOf_ev l (by omega)
    refine ev_neg (by simpa using hb) (ev_bind hd ?_)
    have hsz : ∀ y ∈ ws, y.size ≤ 140737488351232 := fun y hy => by have := hw2 y hy; omega
    have e1 := impl_FillsOf_ev r c s f ws most (by omega) (by omega) (by omega) hsz
    unfold laws_FnFilled.g
    refine ev_bind e1 ?_
    have hone : Ev (fun k => fdOne k r c s f ws (fillsM r c s f ws most) (fillsM r c s f ws most) 0) true := by
      by_cases hc : fillM r c s f = true ∧ aloneAllM r c s f = false ∧ (1 ≤ most ∧ most ≤ 30)
      · have hlen := fillsM_length r c s f ws most
        refine filled_one hs hws hc.1 hc.2.1 ?_ ?_ (by omega) _ 0 (List.drop_zero ..)
        · rw [fillsM_take ws most hc]
          exact fun x hx => allM_put ws hc.1 x (List.mem_of_mem_take hx)
        · rw [fillsM_take ws most hc]
          exact (allM_nodup ws hc.1).sublist (List.take_sublist ..)
      · rw [show fillsM r c s f ws most = [] from if_neg hc]
        exact ev_now rfl
    refine ev_bind hone ?_
    by_cases hm : 1 ≤ most ∧ most ≤ 30
    · refine ev_pos hm ?_
      unfold fdMid
      have hD : Dom (domainsM r c s f ws).length (domainsM r c s f ws) := by
        refine ⟨rfl, fun d hd => ?_⟩
        obtain ⟨q, _, rfl⟩ := List.mem_map.1 hd
        exact ⟨by have := List.length_filter_le (fun w => fitsM q w) ws; unfold fittingM; omega, fun w hw => by have := hw2 w (List.mem_filter.1 hw).1; omega⟩
      obtain ⟨hP, _⟩ := pruneM_facts (r := r) (c := c) (s := s) hD
      have hpl := patternsM_length r c s f
      have hdl : (domainsM r c s f ws).length ≤ 72 := by unfold domainsM; rw [List.length_map]; exact hpl
      refine ev_bind (impl_DomainsOf_ev r c s f ws (by omega) (by omega) (by omega) hsz) (ev_bind (spec_DomainsOf_ev r c s f ws (by omega) (by omega) (by omega) hsz) (ev_bind (impl_Prune_ev r c s _ (by omega) (by omega) hD) (ev_bind (filled_out (f := f) (D := onceM [] ws) hs (fun d hd => (hP.2 d hd).1) _ ?_) (ev_pos rfl (filled_end hs hf hws hw2 hm)))))
      intro x hx
      by_cases hc : fillM r c s f = true ∧ aloneAllM r c s f = false ∧ (1 ≤ most ∧ most ≤ 30)
      · rw [fillsM_take ws most hc] at hx
        obtain ⟨U, hp⟩ := allM_put ws hc.1 x (List.mem_of_mem_take hx)
        obtain ⟨h1, h2⟩ := put_domains hc.1 hp
        exact ⟨U, hp, by rw [hP.1, h1], prune_keeps hp _ h1 h2⟩
      · rw [show fillsM r c s f ws most = [] from if_neg hc] at hx
        cases hx
    · refine ev_neg hm (ev_pos ?_ (ev_now rfl))
      rw [show fillsM r c s f ws most = [] from if_neg fun h => hm h.2.2]
      rfl

end Go.Proofs.Ytodcckiphdnjeaa.Pure
