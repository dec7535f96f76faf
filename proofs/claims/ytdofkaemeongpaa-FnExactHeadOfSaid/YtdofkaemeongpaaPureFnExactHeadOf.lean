/-
  The law FnExactHeadOf over numbers and lists: the program's HeadOf and the reference's answer alike for every string.
  Conditions: none.
-/
import Derived.Test.YtdofkaemeongpaaPFnExactHeadOfx
namespace Go.Proofs.Ytdofkaemeongpaa.Pure
open Go.RowKit Go.Proofs.Ytdofkaemeongpaa.PFnExactHeadOf Go.Proofs.YtdofkaemeongpaaW.PrintWords Go.Proofs.YtdofkaemeongpaaW.PrintLast Go.Proofs.YtdofkaemeongpaaW.PrintMore

/-! ### base -/
theorem wrap64_id {n : Int} (h : -9223372036854775808 ≤ n) (h' : n ≤ 9223372036854775807) : wrap64 n = n := by
  unfold wrap64
  omega
section
variable {α β : Type}
theorem ev_succ {g : Nat → Option α} {r : α} (h : Ev (fun k => g (k + 1)) r) : Ev g r := Ev.step (fun _ => rfl) h
theorem ev_pos {c : Prop} [Decidable c] {g f : Nat → Option α} {r : α} (h : c) (k : Ev g r) : Ev (fun n => if c then g n else f n) r := by
  simpa only [if_pos h] using k
theorem ev_neg {c : Prop} [Decidable c] {g f : Nat → Option α} {r : α} (h : ¬ c) (k : Ev f r) : Ev (fun n => if c then g n else f n) r := by
  simpa only [if_neg h] using k
theorem ev_now {a r : α} (h : a = r) : Ev (fun _ => some a) r := h ▸ Ev.now a
theorem ev_let {o : Option β} {a : β} {f : Nat → β → Option α} {r : α} (h : o = some a) (k : Ev (fun n => f n a) r) : Ev (fun n => o.bind (f n)) r := by
  subst h
  exact k
theorem ev_bind {g : Nat → Option β} {f : Nat → β → Option α} {a : β} {r : α} (h : Ev g a) (k : Ev (fun n => f n a) r) : Ev (fun n => (g n).bind (f n)) r := Ev.bind h k
theorem ev_eq {g : Nat → Option α} {a r : α} (h : Ev g a) (e : a = r) : Ev g r := e ▸ h
end
/-- From the end of a loop back to a round: P holds from n on, and a round below n may use the next. -/
theorem down {P : Nat → Prop} (n : Nat) (hend : ∀ i, n ≤ i → P i) (hstep : ∀ i, i < n → P (i + 1) → P i) : ∀ i, P i := by
  intro i
  rcases Nat.lt_or_ge i n with h | h
  · obtain ⟨d, hd⟩ : ∃ d, n = i + d := ⟨n - i, by omega⟩
    induction d generalizing i with
    | zero => omega
    | succ d ih =>
      refine hstep i h ?_
      rcases Nat.lt_or_ge (i + 1) n with h1 | h1
      · exact ih (i + 1) h1 (by omega)
      · exact hend _ h1
  · exact hend i h
theorem range_cons {i n : Nat} (h : i < n) : List.range' i (n - i) = i :: List.range' (i + 1) (n - (i + 1)) := by
  obtain ⟨d, hd⟩ : ∃ d, n - i = d + 1 := ⟨n - i - 1, by omega⟩
  rw [hd, List.range'_succ, show n - (i + 1) = d by omega]
theorem range_nil {i n : Nat} (h : n ≤ i) : List.range' i (n - i) = [] := by
  rw [show n - i = 0 by omega]
  rfl
theorem succ_cast (i : Nat) : ((i : Int) + 1) = ((i + 1 : Nat) : Int) := by omega

/-! ### word -/
/-- A byte is a small letter. -/
def isL (c : Int) : Bool := decide (97 ≤ c ∧ c ≤ 122)
/-- A word: one to eight small letters. -/
def wordM (s : ByteArray) : Bool := decide (1 ≤ s.size ∧ s.size ≤ 8) && (List.range' 0 (s.size - 0)).all fun j => isL (bt s j)
theorem spec_l1In_eq (a b c : Int) : spec_l1In.f a b c = some (decide (b ≤ a ∧ a ≤ c)) := by
  unfold spec_l1In.f
  by_cases h : b ≤ a
  · rw [if_pos h]; simp [h]
  · rw [if_neg h]; simp [h]
theorem impl_InRange_eq (a b c : Int) : impl_InRange.f a b c = some (decide (b ≤ a ∧ a ≤ c)) := by
  unfold impl_InRange.f
  by_cases h : b ≤ a
  · rw [if_pos h]; simp [h]
  · rw [if_neg h]; simp [h]
theorem impl_isLetter_eq (c : Int) : impl_isLetter.f c = some (isL c) := by
  unfold impl_isLetter.f isL
  by_cases h : c ≥ 97
  · rw [if_pos h]; congr 1; simp; omega
  · rw [if_neg h]; congr 1; simp; omega
theorem spec_IsWord_l0_ev (s : ByteArray) (hs : s.size ≤ 140737488351232) : ∀ i : Nat, i ≤ s.size → Ev (fun k => spec_IsWord.l0 k s i) ((List.range' i (s.size - i)).all fun j => isL (bt s j)) := by
  refine down s.size ?_ ?_
  · intro i h hi
    apply ev_succ
    simp only [spec_IsWord.l0]
    refine ev_neg (by omega) (ev_now ?_)
    rw [range_nil h]; rfl
  · intro i h ih hi
    apply ev_succ
    simp only [spec_IsWord.l0]
    rw [range_cons h, List.all_cons, wrap64_id (by omega) (by omega), succ_cast]
    refine ev_pos (by omega) (ev_pos (by omega) ?_)
    by_cases h1 : bt s i < 97
    · exact ev_pos h1 (ev_now (by simp [isL]; omega))
    · refine ev_neg h1 ?_
      by_cases h2 : bt s i > 122
      · exact ev_pos h2 (ev_now (by simp [isL]; omega))
      · refine ev_neg h2 (ev_eq (ih (by omega)) ?_)
        rw [show isL (bt s i) = true by simp [isL]; omega, Bool.true_and]
theorem impl_IsWord_l0_ev (s : ByteArray) (hs : s.size ≤ 140737488351232) : ∀ i : Nat, i ≤ s.size → Ev (fun k => impl_IsWord.l0 k s s.size i) ((List.range' i (s.size - i)).all fun j => isL (bt s j)) := by
  refine down s.size ?_ ?_
  · intro i h hi
    apply ev_succ
    simp only [impl_IsWord.l0]
    refine ev_neg (by omega) (ev_now ?_)
    rw [range_nil h]; rfl
  · intro i h ih hi
    apply ev_succ
    simp only [impl_IsWord.l0]
    rw [range_cons h, List.all_cons, wrap64_id (by omega) (by omega), succ_cast]
    refine ev_pos (by omega) (ev_pos (by omega) (ev_pos (by omega) (ev_let (impl_isLetter_eq _) ?_)))
    cases isL (bt s i)
    · exact ev_neg (by simp) (ev_now (by simp))
    · exact ev_pos rfl (ev_eq (ih (by omega)) (by simp))
theorem spec_IsWord_ev (s : ByteArray) (hs : s.size ≤ 140737488351232) : Ev (fun k => spec_IsWord.f k s) (wordM s) := by
  simp only [spec_IsWord.f]
  refine ev_let (spec_l1In_eq _ _ _) ?_
  by_cases h : 1 ≤ s.size ∧ s.size ≤ 8
  · refine ev_pos (by simp; omega) (ev_eq (spec_IsWord_l0_ev s hs 0 (by omega)) ?_)
    simp [wordM, h]
  · refine ev_neg (by simp; omega) (ev_now ?_)
    simp [wordM, h]
theorem impl_IsWord_ev (s : ByteArray) (hs : s.size ≤ 140737488351232) : Ev (fun k => impl_IsWord.f k s) (wordM s) := by
  simp only [impl_IsWord.f]
  refine ev_let (impl_InRange_eq _ _ _) ?_
  by_cases h : 1 ≤ s.size ∧ s.size ≤ 8
  · refine ev_pos (by simp; omega) (ev_eq (impl_IsWord_l0_ev s hs 0 (by omega)) ?_)
    simp [wordM, h]
  · refine ev_neg (by simp; omega) (ev_now ?_)
    simp [wordM, h]
theorem wordM_size {s : ByteArray} (h : wordM s = true) : 1 ≤ s.size ∧ s.size ≤ 8 := by
  simp only [wordM, Bool.and_eq_true, decide_eq_true_eq] at h
  exact h.1

/-! ### parts -/
def headM (s : ByteArray) : ByteArray := if wordM s then s.extract 0 1 else ⟨#[]⟩
theorem spec_HeadOf_ev (s : ByteArray) (hs : s.size ≤ 140737488351232) : Ev (fun k => spec_HeadOf.f k s) (headM s) := by
  unfold spec_HeadOf.f headM
  refine ev_bind (spec_IsWord_ev s hs) ?_
  by_cases h : wordM s = true
  · have := wordM_size h
    exact ev_pos h (ev_pos (by omega) (ev_pos (by omega) (ev_now (if_pos h).symm)))
  · exact ev_neg h (ev_now (if_neg h).symm)
theorem impl_HeadOf_ev (s : ByteArray) (hs : s.size ≤ 140737488351232) : Ev (fun k => impl_HeadOf.f k s) (headM s) := by
  unfold impl_HeadOf.f headM
  refine ev_bind (impl_IsWord_ev s hs) ?_
  by_cases h : wordM s = true
  · have := wordM_size h
    exact ev_pos h (ev_pos (by omega) (ev_pos (by omega) (ev_now (if_pos h).symm)))
  · exact ev_neg h (ev_now (if_neg h).symm)

/-! ### the law -/
theorem FnExactHeadOf : laws_FnExactHeadOf.Pure := by
  intro a h
  apply Ev.rounds
  unfold laws_FnExactHeadOf.f
  by_cases hb : (a.size : Int) > 1048576
  · exact ev_pos hb (ev_now rfl)
  · exact ev_neg hb (ev_bind (spec_HeadOf_ev a h) (ev_bind (impl_HeadOf_ev a h) (ev_pos rfl (ev_now rfl))))

end Go.Proofs.Ytdofkaemeongpaa.Pure
