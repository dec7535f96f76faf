/-
  The law FnExactIsPlain over numbers and lists: the program's IsPlain and the reference's answer alike for all steps.
  Conditions: none.
-/
import Derived.Test.YtgmhjinlpikpjacQFnExactIsPlainx
namespace Go.Proofs.Ytgmhjinlpikpjac.Pure
open Go.RowKit Go.Proofs.Ytgmhjinlpikpjac.QFnExactIsPlain Go.Proofs.YtgmhjinlpikpjacW.PrintWords Go.Proofs.YtgmhjinlpikpjacW.PrintLast Go.Proofs.YtgmhjinlpikpjacW.PrintMore
set_option linter.unusedVariables false
set_option linter.unusedSimpArgs false

/-! ### base -/
theorem wrap64_id {n : Int} (h : -9223372036854775808 ≤ n) (h' : n ≤ 9223372036854775807) : wrap64 n = n := by
  unfold wrap64
  omega
section
variable {α β : Type}
theorem ev_succ {g : Nat → Option α} {r : α} (h : Ev (fun k => g (k + 1)) r) : Ev g r := Ev.step (fun _ => rfl) h
theorem ev_pos {c : Prop} [Decidable c] {g f : Nat → Option α} {r : α} (h : c) (k : Ev g r) : Ev (fun n => if c then g n else f n) r := by
  simpa only [if_pos h] using k
theorem ev_neg {c : Prop} [Decidable c] {g f : Nat → Option α} {r : α} (h : ¬ c) (k : Ev f r) : Ev (fun n => if c then g n else f n) r := by
  simpa only [if_neg h] using k
theorem ev_now {a r : α} (h : a = r) : Ev (fun _ => some a) r := h ▸ Ev.now a
theorem ev_let {o : Option β} {a : β} {f : Nat → β → Option α} {r : α} (h : o = some a) (k : Ev (fun n => f n a) r) : Ev (fun n => o.bind (f n)) r := by
  subst h
  exact k
theorem ev_bind {g : Nat → Option β} {f : Nat → β → Option α} {a : β} {r : α} (h : Ev g a) (k : Ev (fun n => f n a) r) : Ev (fun n => (g n).bind (f n)) r := Ev.bind h k
theorem ev_eq {g : Nat → Option α} {a r : α} (h : Ev g a) (e : a = r) : Ev g r := e ▸ h
end
/-- From the end of a loop back to a round: P holds from n on, and a round below n may use the next. -/
theorem down {P : Nat → Prop} (n : Nat) (hend : ∀ i, n ≤ i → P i) (hstep : ∀ i, i < n → P (i + 1) → P i) : ∀ i, P i := by
  intro i
  rcases Nat.lt_or_ge i n with h | h
  · obtain ⟨d, hd⟩ : ∃ d, n = i + d := ⟨n - i, by omega⟩
    induction d generalizing i with
    | zero => omega
    | succ d ih =>
      refine hstep i h ?_
      rcases Nat.lt_or_ge (i + 1) n with h1 | h1
      · exact ih (i + 1) h1 (by omega)
      · exact hend _ h1
  · exact hend i h
theorem range_cons {i n : Nat} (h : i < n) : List.range' i (n - i) = i :: List.range' (i + 1) (n - (i + 1)) := by
  obtain ⟨d, hd⟩ : ∃ d, n - i = d + 1 := ⟨n - i - 1, by omega⟩
  rw [hd, List.range'_succ, show n - (i + 1) = d by omega]
theorem range_nil {i n : Nat} (h : n ≤ i) : List.range' i (n - i) = [] := by
  rw [show n - i = 0 by omega]
  rfl
theorem succ_cast (i : Nat) : ((i : Int) + 1) = ((i + 1 : Nat) : Int) := by omega

/-! ### lists -/
theorem rdOf_get {α : Type} {d : α} {l : List α} {i : Nat} (h : i < l.length) : rdOf d l (i : Int) = l[i] := by
  unfold rdOf
  simp [h]
theorem rd_get {l : List Int} {i : Nat} (h : i < l.length) : rd l (i : Int) = l[i] := by
  unfold rd
  simp [h]
theorem toList_eq (s : ByteArray) : s.toList = s.data.toList := Go.ByteArray.toList_eq s
instance lawfulBA : LawfulBEq ByteArray where
  eq_of_beq {a b} h := ByteArray.ext (eq_of_beq (α := Array UInt8) h)
  rfl {a} := by
    show (a.data == a.data) = true
    simp
theorem toList_inj {a b : ByteArray} : a.toList = b.toList ↔ a = b := by
  constructor
  · intro h
    rw [toList_eq, toList_eq] at h
    cases a
    cases b
    simp only [ByteArray.mk.injEq]
    exact Array.toList_inj.1 h
  · intro h
    rw [h]
theorem set_known {α : Type} {l x : List α} {i : Nat} {a : α} (hi : i < l.length) (hx : x.length = l.length) (ha : a = l[i]) (h : ∀ j, j < i → x[j]? = l[j]?) : ∀ j, j < i + 1 → (x.set i a)[j]? = l[j]? := by
  intro j hj
  by_cases e : j = i
  · subst e
    rw [List.getElem?_set_self (by omega), ha, List.getElem?_eq_getElem hi]
  · rw [List.getElem?_set_ne (Ne.symm e)]
    exact h j (by omega)
theorem all_known {α : Type} {l x : List α} (hx : x.length = l.length) (h : ∀ j, j < l.length → x[j]? = l[j]?) : x = l := by
  apply List.ext_getElem?
  intro j
  by_cases hj : j < l.length
  · exact h j hj
  · rw [List.getElem?_eq_none (by omega), List.getElem?_eq_none (by omega)]

/-! ### strs -/
def total (l : List ByteArray) : Nat := (l.map ByteArray.size).sum
theorem total_drop {l : List ByteArray} {i : Nat} (h : i < l.length) : total (l.drop i) = l[i].size + total (l.drop (i + 1)) := by
  rw [List.drop_eq_getElem_cons h]
  rfl

/-! ### word -/
/-- A byte is a small letter. -/
def isL (c : Int) : Bool := decide (97 ≤ c ∧ c ≤ 122)
/-- A word: one to eight small letters. -/
def wordM (s : ByteArray) : Bool := decide (1 ≤ s.size ∧ s.size ≤ 8) && (List.range' 0 (s.size - 0)).all fun j => isL (bt s j)
theorem spec_l1In_eq (a b c : Int) : spec_l1In.f a b c = some (decide (b ≤ a ∧ a ≤ c)) := by
  unfold spec_l1In.f
  by_cases h : b ≤ a
  · rw [if_pos h]; simp [h]
  · rw [if_neg h]; simp [h]
theorem impl_InRange_eq (a b c : Int) : impl_InRange.f a b c = some (decide (b ≤ a ∧ a ≤ c)) := by
  unfold impl_InRange.f
  by_cases h : b ≤ a
  · rw [if_pos h]; simp [h]
  · rw [if_neg h]; simp [h]
theorem impl_isLetter_eq (c : Int) : impl_isLetter.f c = some (isL c) := by
  unfold impl_isLetter.f isL
  by_cases h : c ≥ 97
  · rw [if_pos h]; congr 1; simp; omega
  · rw [if_neg h]; congr 1; simp; omega
theorem spec_IsWord_l0_ev (s : ByteArray) (hs : s.size ≤ 140737488351232) : ∀ i : Nat, i ≤ s.size → Ev (fun k => spec_IsWord.l0 k s i) ((List.range' i (s.size - i)).all fun j => isL (bt s j)) := by
  refine down s.size ?_ ?_
  · intro i h hi
    apply ev_succ
    simp only [spec_IsWord.l0]
    refine ev_neg (by omega) (ev_now ?_)
    rw [range_nil h]; rfl
  · intro i h ih hi
    apply ev_succ
    simp only [spec_IsWord.l0]
    rw [range_cons h, List.all_cons, wrap64_id (by omega) (by omega), succ_cast]
    refine ev_pos (by omega) (ev_pos (by omega) ?_)
    by_cases h1 : bt s i < 97
    · exact ev_pos h1 (ev_now (by simp [isL]; omega))
    · refine ev_neg h1 ?_
      by_cases h2 : bt s i > 122
      · exact ev_pos h2 (ev_now (by simp [isL]; omega))
      · refine ev_neg h2 (ev_eq (ih (by omega)) ?_)
        rw [show isL (bt s i) = true by simp [isL]; omega, Bool.true_and]
theorem impl_IsWord_l0_ev (s : ByteArray) (hs : s.size ≤ 140737488351232) : ∀ i : Nat, i ≤ s.size → Ev (fun k => impl_IsWord.l0 k s s.size i) ((List.range' i (s.size - i)).all fun j => isL (bt s j)) := by
  refine down s.size ?_ ?_
  · intro i h hi
    apply ev_succ
    simp only [impl_IsWord.l0]
    refine ev_neg (by omega) (ev_now ?_)
    rw [range_nil h]; rfl
  · intro i h ih hi
    apply ev_succ
    simp only [impl_IsWord.l0]
    rw [range_cons h, List.all_cons, wrap64_id (by omega) (by omega), succ_cast]
    refine ev_pos (by omega) (ev_pos (by omega) (ev_pos (by omega) (ev_let (impl_isLetter_eq _) ?_)))
    cases isL (bt s i)
    · exact ev_neg (by simp) (ev_now (by simp))
    · exact ev_pos rfl (ev_eq (ih (by omega)) (by simp))
theorem spec_IsWord_ev (s : ByteArray) (hs : s.size ≤ 140737488351232) : Ev (fun k => spec_IsWord.f k s) (wordM s) := by
  simp only [spec_IsWord.f]
  refine ev_let (spec_l1In_eq _ _ _) ?_
  by_cases h : 1 ≤ s.size ∧ s.size ≤ 8
  · refine ev_pos (by simp; omega) (ev_eq (spec_IsWord_l0_ev s hs 0 (by omega)) ?_)
    simp [wordM, h]
  · refine ev_neg (by simp; omega) (ev_now ?_)
    simp [wordM, h]
theorem impl_IsWord_ev (s : ByteArray) (hs : s.size ≤ 140737488351232) : Ev (fun k => impl_IsWord.f k s) (wordM s) := by
  simp only [impl_IsWord.f]
  refine ev_let (impl_InRange_eq _ _ _) ?_
  by_cases h : 1 ≤ s.size ∧ s.size ≤ 8
  · refine ev_pos (by simp; omega) (ev_eq (impl_IsWord_l0_ev s hs 0 (by omega)) ?_)
    simp [wordM, h]
  · refine ev_neg (by simp; omega) (ev_now ?_)
    simp [wordM, h]
theorem wordM_size {s : ByteArray} (h : wordM s = true) : 1 ≤ s.size ∧ s.size ≤ 8 := by
  simp only [wordM, Bool.and_eq_true, decide_eq_true_eq] at h
  exact h.1

/-! ### marks -/

/-! ### steps -/
abbrev LStep := S81
abbrev IStep := S38
def toI (x : LStep) : IStep := ⟨x.f0, x.f1, x.f2, x.f3⟩
theorem rd_L_get {l : List LStep} {i : Nat} (h : i < l.length) : rd_T81 l (i : Int) = l[i] := by
  unfold rd_T81
  simp [h]
theorem rd_I_get {l : List IStep} {i : Nat} (h : i < l.length) : rd_T38 l (i : Int) = l[i] := by
  unfold rd_T38
  simp [h]
def totalS (l : List LStep) : Nat := (l.map fun x => x.f1.size).sum
theorem totalS_drop {l : List LStep} {i : Nat} (h : i < l.length) : totalS (l.drop i) = l[i].f1.size + totalS (l.drop (i + 1)) := by
  rw [List.drop_eq_getElem_cons h]
  rfl
theorem laws_szStepS_l0_ev (l : List LStep) (hl : l.length ≤ 9223372036854775806) (hs : ∀ s ∈ l, s.f1.size ≤ 9223372036854775807) : ∀ i : Nat, i ≤ l.length → ∀ n : Int, 0 ≤ n → n ≤ 1048576 →
    ∃ r : Int, Ev (fun k => laws_szStepS.l0 k l n i) r ∧ (r < 0 ∨ 0 ≤ r ∧ r + totalS (l.drop i) = n) := by
  refine down l.length ?_ ?_
  · intro i h hi n h0 hn
    refine ⟨n, ?_, .inr ⟨h0, ?_⟩⟩
    · apply ev_succ
      simp only [laws_szStepS.l0]
      exact ev_neg (by omega) (ev_now rfl)
    · rw [List.drop_eq_nil_of_le h]
      simp [totalS]
  · intro i h ih hi n h0 hn
    have hb := hs l[i] (List.getElem_mem h)
    have ht := totalS_drop h
    by_cases hneg : n - (l[i].f1.size : Int) < 0
    · refine ⟨-1, ?_, .inl (by omega)⟩
      apply ev_succ
      simp only [laws_szStepS.l0, laws_szStep.f]
      rw [rd_L_get h, wrap64_id (n := n - _) (by omega) (by omega)]
      refine ev_pos (by omega) (ev_pos (by omega) (ev_let (a := -1) ?_ (ev_pos (by omega) (ev_now rfl))))
      rw [if_pos hneg]
    · obtain ⟨r, hr, h1⟩ := ih (by omega) (n - (l[i].f1.size : Int)) (by omega) (by omega)
      refine ⟨r, ?_, ?_⟩
      · apply ev_succ
        simp only [laws_szStepS.l0, laws_szStep.f]
        rw [rd_L_get h, wrap64_id (n := n - _) (by omega) (by omega), wrap64_id (n := (i : Int) + 1) (by omega) (by omega), succ_cast]
        refine ev_pos (by omega) (ev_pos (by omega) (ev_let (a := n - (l[i].f1.size : Int)) ?_ (ev_neg hneg hr)))
        rw [if_neg hneg]
      · rcases h1 with h1 | h1
        · exact .inl h1
        · exact .inr ⟨h1.1, by omega⟩
theorem laws_szStepS_ev (l : List LStep) (hl : l.length ≤ 9223372036854775807) (hs : ∀ s ∈ l, s.f1.size ≤ 9223372036854775807) (n : Int) (h0 : 0 ≤ n) (hn : n ≤ 1048576) :
    ∃ r : Int, Ev (fun k => laws_szStepS.f k l n) r ∧ (r < 0 ∨ 0 ≤ r ∧ r + l.length + totalS l = n) := by
  unfold laws_szStepS.f
  rw [wrap64_id (n := n - _) (by omega) (by omega)]
  by_cases hneg : n - (l.length : Int) < 0
  · exact ⟨-1, ev_pos hneg (ev_now rfl), .inl (by omega)⟩
  · obtain ⟨r, hr, h1⟩ := laws_szStepS_l0_ev l (by omega) hs 0 (by omega) (n - (l.length : Int)) (by omega) (by omega)
    refine ⟨r, ev_neg hneg hr, ?_⟩
    rcases h1 with h1 | h1
    · exact .inl h1
    · exact .inr ⟨h1.1, by have := h1.2; simp at this; omega⟩
theorem laws_toStepS_l0_ev (l : List LStep) (hl : l.length ≤ 1048576) : ∀ i : Nat, i ≤ l.length → ∀ x : List IStep, x.length = (l.map toI).length → (∀ j, j < i → x[j]? = (l.map toI)[j]?) → Ev (fun k => laws_toStepS.l0 k l x i) (l.map toI) := by
  refine down l.length ?_ ?_
  · intro i h hi x hx hj
    apply ev_succ
    simp only [laws_toStepS.l0]
    exact ev_neg (by omega) (ev_now (all_known hx (fun j h' => hj j (by simp at h'; omega))))
  · intro i h ih hi x hx hj
    have hx' : x.length = l.length := by simpa using hx
    apply ev_succ
    simp only [laws_toStepS.l0, laws_toStep.f]
    rw [rd_L_get h, wrap64_id (n := (i : Int) + 1) (by omega) (by omega), succ_cast, show (i : Int).toNat = i by omega]
    exact ev_pos (by omega) (ev_pos (by omega) (ev_let rfl (ev_pos (by omega) (ih (by omega) _ (by simpa using hx) (set_known (by simpa using h) hx (by simp [toI]) hj)))))
theorem laws_toStepS_ev (l : List LStep) (hl : l.length ≤ 1048576) : Ev (fun k => laws_toStepS.f k l) (l.map toI) := by
  unfold laws_toStepS.f
  exact ev_pos (by omega) (ev_pos (by omega) (laws_toStepS_l0_ev l hl 0 (by omega) _ (by simp) (by intro j hj; omega)))
theorem step_ext {a b : IStep} (h0 : a.f0 = b.f0) (h1 : a.f1 = b.f1) (h2 : a.f2 = b.f2) (h3 : a.f3 = b.f3) : a = b := by
  cases a
  cases b
  simp at h0 h1 h2 h3
  simp [h0, h1, h2, h3]
/-- Only what is equal is asked. -/
theorem laws_eqStepS_l0_ev (a : List IStep) (hb : a.length ≤ 9223372036854775806) : ∀ i : Nat, i ≤ a.length → Ev (fun k => laws_eqStepS.l0 k a a i) true := by
  refine down a.length ?_ ?_
  · intro i h hi
    apply ev_succ
    simp only [laws_eqStepS.l0]
    exact ev_neg (by omega) (ev_now rfl)
  · intro i h ih hi
    apply ev_succ
    simp only [laws_eqStepS.l0]
    rw [rd_I_get h, wrap64_id (n := (i : Int) + 1) (by omega) (by omega), succ_cast]
    refine ev_pos (by omega) (ev_pos (by omega) (ev_pos (by omega) (ev_let (a := true) ?_ (ev_pos rfl (ih (by omega))))))
    simp [laws_eqStep.f]
theorem laws_eqStepS_ev (a : List IStep) (hb : a.length ≤ 9223372036854775806) : Ev (fun k => laws_eqStepS.f k a a) true := by
  unfold laws_eqStepS.f
  exact ev_pos rfl (laws_eqStepS_l0_ev a hb 0 (by omega))

/-! ### play -/
def kindAt (l : List IStep) (a : Int) : Int := (l.getD a.toNat ⟨0, ⟨#[]⟩, 0, 0⟩).f0
/-- Is step number i of a play in order? -/
def stepOk (l : List IStep) (i : Nat) (x : IStep) : Bool :=
  if 1 ≤ x.f0 ∧ x.f0 ≤ 9 then
    if x.f0 = 1 then wordM x.f1 && (decide (x.f2 = 0) && decide (x.f3 = 0))
    else decide (x.f1 = ⟨#[]⟩) && (decide (0 ≤ x.f2 ∧ x.f2 < i) && ((decide (x.f0 = 4 ∨ x.f0 = 5 ∨ x.f0 = 2) || decide (kindAt l x.f2 = 1)) && (if x.f0 = 4 ∨ x.f0 = 5 then decide (0 ≤ x.f3 ∧ x.f3 < i) else decide (x.f3 = 0))))
  else false
def stepsFrom (l : List IStep) : List IStep → Nat → Bool
  | [], _ => true
  | x :: r, i => stepOk l i x && stepsFrom l r (i + 1)
def isPlayM (l : List IStep) : Bool := decide (1 ≤ l.length ∧ l.length ≤ 9) && stepsFrom l l 0
theorem kindAt_get {l : List IStep} {a : Nat} (h : a < l.length) : kindAt l (a : Int) = l[a].f0 := by
  unfold kindAt
  simp [h]
theorem empty_iff {s : ByteArray} : s.toList = [] ↔ s = ⟨#[]⟩ := by
  have : (⟨#[]⟩ : ByteArray).toList = [] := by rw [toList_eq]
  constructor
  · intro h
    exact toList_inj.1 (h.trans this.symm)
  · rintro rfl
    exact this
theorem wordM_empty : wordM ⟨#[]⟩ = false := by
  unfold wordM
  simp [ByteArray.size]
theorem spec_l15Ok_ev (l : List IStep) (i : Nat) (hi : i < l.length) (hl : l.length ≤ 9) (hw : l[i].f1.size ≤ 1048576) : Ev (fun k => spec_l15Ok.f k l i) (stepOk l i l[i]) := by
  unfold spec_l15Ok.f
  rw [rd_I_get hi]
  generalize l[i] = x at hw ⊢
  have hno : Ev (fun k => spec_l15Ok.j0 k l i true x.f0 x.f1 x.f2 x.f3) false := by
    apply ev_succ
    simp only [spec_l15Ok.j0]
    exact ev_pos (by simp) (ev_now rfl)
  have hj1 : ∀ b : Bool, b = decide (x.f0 = 4 ∨ x.f0 = 5) → ¬ x.f0 = 1 → Ev (fun k => spec_l15Ok.j1 k l i b x.f0 x.f1 x.f2 x.f3) (decide (0 ≤ x.f2 ∧ x.f2 < i) && ((decide (x.f0 = 4 ∨ x.f0 = 5 ∨ x.f0 = 2) || decide (kindAt l x.f2 = 1)) && (if x.f0 = 4 ∨ x.f0 = 5 then decide (0 ≤ x.f3 ∧ x.f3 < i) else decide (x.f3 = 0)))) := by
    intro b hb h1
    apply ev_succ
    simp only [spec_l15Ok.j1]
    rw [wrap64_id (by omega) (by omega)]
    refine ev_neg h1 (ev_let (spec_l1In_eq _ _ _) ?_)
    by_cases ha : 0 ≤ x.f2 ∧ x.f2 < i
    · refine ev_pos (by simp; omega) ?_
      rw [decide_eq_true ha, Bool.true_and]
      by_cases h2 : x.f0 = 4 ∨ x.f0 = 5
      · rw [if_pos h2, decide_eq_true (show x.f0 = 4 ∨ x.f0 = 5 ∨ x.f0 = 2 by omega), Bool.true_or, Bool.true_and]
        refine ev_pos (by rw [hb]; simpa using h2) (ev_let (spec_l1In_eq _ _ _) ?_)
        by_cases hb2 : 0 ≤ x.f3 ∧ x.f3 < i
        · rw [decide_eq_true hb2]
          exact ev_pos (by simp; omega) (ev_now rfl)
        · rw [decide_eq_false hb2]
          exact ev_neg (by simp; omega) (ev_now rfl)
      · rw [if_neg h2]
        refine ev_neg (by rw [hb]; simpa using h2) ?_
        by_cases h3 : x.f3 = 0
        · rw [decide_eq_true h3, Bool.and_true]
          refine ev_pos h3 ?_
          by_cases h4 : x.f0 = 2
          · rw [decide_eq_true (show x.f0 = 4 ∨ x.f0 = 5 ∨ x.f0 = 2 by omega), Bool.true_or]
            exact ev_pos h4 (ev_now rfl)
          · rw [decide_eq_false (show ¬ (x.f0 = 4 ∨ x.f0 = 5 ∨ x.f0 = 2) by omega), Bool.false_or]
            obtain ⟨a, ha2⟩ := Int.eq_ofNat_of_zero_le ha.1
            rw [ha2, rd_I_get (show a < l.length by omega), kindAt_get (show a < l.length by omega)]
            refine ev_neg h4 (ev_pos (by omega) (ev_pos (by omega) (ev_now ?_)))
            rfl
        · rw [decide_eq_false h3, Bool.and_false]
          exact ev_neg h3 (ev_now rfl)
    · rw [decide_eq_false ha, Bool.false_and]
      exact ev_neg (by simp; omega) (ev_now rfl)
  refine ev_pos (by omega) (ev_pos (by omega) (ev_let (spec_l1In_eq _ _ _) ?_))
  unfold stepOk
  by_cases hk : 1 ≤ x.f0 ∧ x.f0 ≤ 9
  · rw [if_pos hk]
    refine ev_pos (by simpa using hk) (ev_bind (spec_IsWord_ev x.f1 (by omega)) ?_)
    by_cases h1 : x.f0 = 1
    · rw [if_pos h1]
      refine ev_pos h1 ?_
      by_cases hwd : wordM x.f1 = true
      · refine ev_pos hwd (ev_succ ?_)
        simp only [spec_l15Ok.j0]
        refine ev_neg (by simp) (ev_neg (by omega) (ev_succ ?_))
        simp only [spec_l15Ok.j1]
        refine ev_pos h1 ?_
        rw [hwd, Bool.true_and]
        by_cases h2 : x.f2 = 0
        · exact ev_pos h2 (ev_now (by simp [h2]; rfl))
        · exact ev_neg h2 (ev_now (by simp [h2]))
      · refine ev_neg hwd (ev_eq hno ?_)
        rw [Bool.not_eq_true] at hwd
        simp [hwd]
    · rw [if_neg h1]
      refine ev_neg h1 ?_
      by_cases he : x.f1 = ⟨#[]⟩
      · rw [decide_eq_true he, Bool.true_and]
        refine ev_neg (by rw [he, wordM_empty]; simp) (ev_succ ?_)
        simp only [spec_l15Ok.j0]
        refine ev_neg (by rw [empty_iff.2 he]; simp) ?_
        by_cases h4 : x.f0 = 4
        · exact ev_pos h4 (hj1 true (by simp [h4]) h1)
        · exact ev_neg h4 (hj1 _ (by simp [h4]; rfl) h1)
      · rw [decide_eq_false he, Bool.false_and]
        by_cases hwd : wordM x.f1 = true
        · exact ev_pos hwd hno
        · refine ev_neg hwd ?_
          rw [show (x.f1.toList != ([] : List UInt8)) = true by rw [bne_iff_ne]; exact fun e => he (empty_iff.1 e)]
          exact hno
  · rw [if_neg hk]
    exact ev_neg (by simpa using hk) hno
theorem spec_IsPlay_l0_ev (l : List IStep) (hl : 1 ≤ l.length ∧ l.length ≤ 9) (hw : ∀ x ∈ l, x.f1.size ≤ 1048576) : ∀ i : Nat, i ≤ l.length → Ev (fun k => spec_IsPlay.l0 k l i) (stepsFrom l (l.drop i) i) := by
  refine down l.length ?_ ?_
  · intro i h hi
    apply ev_succ
    simp only [spec_IsPlay.l0]
    refine ev_neg (by omega) (ev_succ ?_)
    simp only [spec_IsPlay.j1]
    exact ev_neg (by simp) (ev_let (spec_l1In_eq _ _ _) (ev_now (by rw [List.drop_eq_nil_of_le h]; simp [stepsFrom]; omega)))
  · intro i h ih hi
    apply ev_succ
    simp only [spec_IsPlay.l0]
    refine ev_pos (by omega) (ev_succ ?_)
    simp only [spec_IsPlay.j1]
    rw [wrap64_id (n := (i : Int) + 1) (by omega) (by omega), succ_cast, List.drop_eq_getElem_cons h]
    unfold stepsFrom
    refine ev_pos (by simp; omega) (ev_bind (spec_l15Ok_ev l i h hl.2 (hw _ (List.getElem_mem h))) ?_)
    cases stepOk l i l[i] with
    | true => exact ev_pos rfl (ev_eq (ih (by omega)) (by simp))
    | false => exact ev_neg (by simp) (ev_now (by simp))
theorem spec_IsPlay_ev (l : List IStep) (hw : ∀ x ∈ l, x.f1.size ≤ 1048576) : Ev (fun k => spec_IsPlay.f k l) (isPlayM l) := by
  unfold spec_IsPlay.f isPlayM
  by_cases hl : 1 ≤ l.length ∧ l.length ≤ 9
  · rw [decide_eq_true hl, Bool.true_and]
    simpa using spec_IsPlay_l0_ev l hl hw 0 (by omega)
  · rw [decide_eq_false hl, Bool.false_and]
    have hj : Ev (fun k => spec_IsPlay.j1 k l 0 false) false := by
      apply ev_succ
      simp only [spec_IsPlay.j1]
      exact ev_neg (by simp) (ev_let (spec_l1In_eq _ _ _) (ev_now (by simp; omega)))
    apply ev_succ
    simp only [spec_IsPlay.l0]
    by_cases h0 : (0 : Int) < (l.length : Int)
    · rw [show decide ((l.length : Int) ≤ 9) = false by simp; omega]
      exact ev_pos h0 hj
    · exact ev_neg h0 hj
theorem impl_at_eq' (i n : Int) : impl_at.f i n = some (decide (0 ≤ i ∧ i < n)) := by
  unfold impl_at.f
  by_cases h : i ≥ 0
  · rw [if_pos h]
    simp [h]
  · rw [if_neg h]
    simp [h]
theorem impl_isPair_eq (n : Int) : impl_isPair.f n = some (decide (n = 4 ∨ n = 5)) := by
  unfold impl_isPair.f
  by_cases h : n = 4
  · rw [if_pos h]
    simp [h]
  · rw [if_neg h]
    simp [h]
    rfl
theorem impl_needsWord_eq (n : Int) : impl_needsWord.f n = some (decide (n = 3 ∨ 6 ≤ n)) := by
  unfold impl_needsWord.f
  by_cases h : n = 3
  · rw [if_pos h]
    simp [h]
  · rw [if_neg h]
    simp [h]
theorem impl_IsPlay_l0_ev (l : List IStep) (hl : l.length ≤ 9) (hw : ∀ x ∈ l, x.f1.size ≤ 1048576) : ∀ i : Nat, i ≤ l.length → Ev (fun k => impl_IsPlay.l0 k l l l.length i) (stepsFrom l (l.drop i) i) := by
  refine down l.length ?_ ?_
  · intro i h hi
    apply ev_succ
    simp only [impl_IsPlay.l0]
    exact ev_neg (by omega) (ev_now (by rw [List.drop_eq_nil_of_le h]; rfl))
  · intro i h ih hi
    have hwi := hw _ (List.getElem_mem h)
    apply ev_succ
    simp only [impl_IsPlay.l0]
    rw [rd_I_get h, wrap64_id (n := (i : Int) + 1) (by omega) (by omega), succ_cast, List.drop_eq_getElem_cons h]
    unfold stepsFrom
    have ih' := ih (by omega)
    generalize stepsFrom l (l.drop (i + 1)) (i + 1) = rest at ih' ⊢
    generalize l[i] = x at hwi ⊢
    refine ev_pos (by omega) (ev_pos (by omega) (ev_pos (by omega) (ev_let (impl_InRange_eq _ _ _) ?_)))
    unfold stepOk
    by_cases hk : 1 ≤ x.f0 ∧ x.f0 ≤ 9
    · rw [if_pos hk]
      refine ev_pos (by simpa using hk) ?_
      by_cases h1 : x.f0 = 1
      · rw [if_pos h1]
        refine ev_pos h1 (ev_bind (impl_IsWord_ev x.f1 (by omega)) ?_)
        cases wordM x.f1 with
        | false => exact ev_neg (by simp) (ev_now (by simp))
        | true =>
          refine ev_pos rfl ?_
          by_cases h2 : x.f2 = 0
          · refine ev_pos h2 ?_
            by_cases h3 : x.f3 = 0
            · exact ev_pos h3 (ev_eq ih' (by simp [h2, h3]))
            · exact ev_neg h3 (ev_now (by simp [h3]))
          · exact ev_neg h2 (ev_now (by simp [h2]))
      · rw [if_neg h1]
        refine ev_neg h1 ?_
        have hno : Ev (fun k => impl_IsPlay.j1 k l i l l.length i true x.f0 x.f1 x.f2 x.f3) false := by
          apply ev_succ
          simp only [impl_IsPlay.j1]
          exact ev_pos (by simp) (ev_now rfl)
        have hgo : Ev (fun k => impl_IsPlay.j1 k l i l l.length i false x.f0 x.f1 x.f2 x.f3) ((if x.f0 = 4 ∨ x.f0 = 5 then decide (0 ≤ x.f3 ∧ x.f3 < i) else decide (x.f3 = 0)) && rest) := by
          apply ev_succ
          simp only [impl_IsPlay.j1]
          rw [wrap64_id (n := (i : Int) + 1) (by omega) (by omega), succ_cast]
          refine ev_neg (by simp) (ev_let (impl_isPair_eq _) ?_)
          by_cases h2 : x.f0 = 4 ∨ x.f0 = 5
          · rw [if_pos h2]
            refine ev_pos (by simpa using h2) (ev_let (impl_at_eq' _ _) ?_)
            by_cases h3 : 0 ≤ x.f3 ∧ x.f3 < i
            · rw [decide_eq_true h3, Bool.true_and]
              exact ev_pos rfl (ev_let (impl_isPair_eq _) (ev_pos (by simpa using h2) ih'))
            · rw [decide_eq_false h3, Bool.false_and]
              exact ev_neg (by simp) (ev_now rfl)
          · rw [if_neg h2]
            refine ev_neg (by simpa using h2) (ev_let (impl_isPair_eq _) (ev_neg (by simpa using h2) ?_))
            by_cases h3 : x.f3 = 0
            · rw [decide_eq_true h3, Bool.true_and]
              exact ev_pos h3 ih'
            · rw [decide_eq_false h3, Bool.false_and]
              exact ev_neg h3 (ev_now rfl)
        by_cases he : x.f1 = ⟨#[]⟩
        · rw [decide_eq_true he, Bool.true_and]
          refine ev_pos (empty_iff.2 he) (ev_let (impl_at_eq' _ _) ?_)
          by_cases ha : 0 ≤ x.f2 ∧ x.f2 < i
          · rw [decide_eq_true ha, Bool.true_and]
            refine ev_pos rfl (ev_let (impl_needsWord_eq _) ?_)
            by_cases hn : x.f0 = 3 ∨ 6 ≤ x.f0
            · refine ev_pos (by simpa using hn) ?_
              obtain ⟨a, ha2⟩ := Int.eq_ofNat_of_zero_le ha.1
              rw [ha2] at hgo hno ⊢
              rw [rd_I_get (show a < l.length by omega), kindAt_get (show a < l.length by omega), decide_eq_false (show ¬ (x.f0 = 4 ∨ x.f0 = 5 ∨ x.f0 = 2) by omega), Bool.false_or]
              refine ev_pos (by omega) (ev_pos (by omega) ?_)
              by_cases h5 : l[a].f0 = 1
              · rw [decide_eq_true h5, Bool.true_and, show (l[a].f0 != 1) = false by simp [h5]]
                exact hgo
              · rw [decide_eq_false h5, Bool.false_and, Bool.false_and, show (l[a].f0 != 1) = true by simp [h5]]
                exact hno
            · refine ev_neg (by simpa using hn) ?_
              rw [decide_eq_true (show x.f0 = 4 ∨ x.f0 = 5 ∨ x.f0 = 2 by omega), Bool.true_or, Bool.true_and]
              exact hgo
          · rw [decide_eq_false ha, Bool.false_and, Bool.false_and]
            exact ev_neg (by simp) hno
        · rw [decide_eq_false he, Bool.false_and, Bool.false_and]
          exact ev_neg (fun e => he (empty_iff.1 e)) hno
    · rw [if_neg hk, Bool.false_and]
      exact ev_neg (by simpa using hk) (ev_now rfl)
theorem impl_IsPlay_ev (l : List IStep) (hw : ∀ x ∈ l, x.f1.size ≤ 1048576) : Ev (fun k => impl_IsPlay.f k l) (isPlayM l) := by
  unfold impl_IsPlay.f isPlayM
  refine ev_let (impl_InRange_eq _ _ _) ?_
  by_cases hl : 1 ≤ l.length ∧ l.length ≤ 9
  · rw [decide_eq_true hl, Bool.true_and]
    exact ev_pos (by simp; omega) (by simpa using impl_IsPlay_l0_ev l hl.2 hw 0 (by omega))
  · rw [decide_eq_false hl, Bool.false_and]
    exact ev_neg (by simp; omega) (ev_now rfl)
theorem toI_sizes {l : List LStep} (h : totalS l ≤ 1048576) : ∀ x ∈ l.map toI, x.f1.size ≤ 1048576 := by
  have key : ∀ (l : List LStep) (y : LStep), y ∈ l → y.f1.size ≤ totalS l := by
    intro l y hy
    induction l with
    | nil => cases hy
    | cons a r ih =>
      have e : totalS (a :: r) = a.f1.size + totalS r := rfl
      rcases List.mem_cons.1 hy with rfl | hy
      · omega
      · have := ih hy
        omega
  intro x hx
  obtain ⟨y, hy, rfl⟩ := List.mem_map.1 hx
  have := key l y hy
  simp only [toI]
  omega
def plainM : List IStep → Bool
  | [] => true
  | x :: r => decide (x.f0 = 1 ∨ x.f0 = 4) && plainM r
theorem spec_IsPlain_l0_ev (l : List IStep) (hl : l.length ≤ 1048576) (hw : ∀ x ∈ l, x.f1.size ≤ 1048576) : ∀ i : Nat, i ≤ l.length → Ev (fun k => spec_IsPlain.l0 k l i) (plainM (l.drop i) && isPlayM l) := by
  refine down l.length ?_ ?_
  · intro i h hi
    apply ev_succ
    simp only [spec_IsPlain.l0]
    refine ev_neg (by omega) (ev_bind (spec_IsPlay_ev l hw) (ev_now ?_))
    rw [List.drop_eq_nil_of_le h]
    rfl
  · intro i h ih hi
    apply ev_succ
    simp only [spec_IsPlain.l0]
    rw [rd_I_get h, wrap64_id (n := (i : Int) + 1) (by omega) (by omega), succ_cast, List.drop_eq_getElem_cons h]
    unfold plainM
    refine ev_pos (by omega) (ev_pos (by omega) ?_)
    by_cases h1 : l[i].f0 = 1
    · exact ev_pos h1 (ev_eq (ih (by omega)) (by simp [h1]))
    · refine ev_neg h1 ?_
      by_cases h2 : l[i].f0 = 4
      · exact ev_pos h2 (ev_eq (ih (by omega)) (by simp [h2]))
      · exact ev_neg h2 (ev_now (by simp [h1, h2]))
theorem spec_IsPlain_ev (l : List IStep) (hl : l.length ≤ 1048576) (hw : ∀ x ∈ l, x.f1.size ≤ 1048576) : Ev (fun k => spec_IsPlain.f k l) (plainM l && isPlayM l) := by
  unfold spec_IsPlain.f
  simpa using spec_IsPlain_l0_ev l hl hw 0 (by omega)
theorem impl_IsPlain_l0_ev (l : List IStep) (hl : l.length ≤ 1048576) (hw : ∀ x ∈ l, x.f1.size ≤ 1048576) : ∀ i : Nat, i ≤ l.length → Ev (fun k => impl_IsPlain.l0 k l l l.length i) (plainM (l.drop i) && isPlayM l) := by
  refine down l.length ?_ ?_
  · intro i h hi
    apply ev_succ
    simp only [impl_IsPlain.l0]
    refine ev_neg (by omega) (ev_bind (impl_IsPlay_ev l hw) (ev_now ?_))
    rw [List.drop_eq_nil_of_le h]
    rfl
  · intro i h ih hi
    apply ev_succ
    simp only [impl_IsPlain.l0]
    rw [rd_I_get h, wrap64_id (n := (i : Int) + 1) (by omega) (by omega), succ_cast, List.drop_eq_getElem_cons h]
    unfold plainM
    refine ev_pos (by omega) (ev_pos (by omega) (ev_pos (by omega) ?_))
    by_cases h1 : l[i].f0 = 1
    · exact ev_pos h1 (ev_eq (ih (by omega)) (by simp [h1]))
    · refine ev_neg h1 ?_
      by_cases h2 : l[i].f0 = 4
      · exact ev_pos h2 (ev_eq (ih (by omega)) (by simp [h2]))
      · exact ev_neg h2 (ev_now (by simp [h1, h2]))
theorem impl_IsPlain_ev (l : List IStep) (hl : l.length ≤ 1048576) (hw : ∀ x ∈ l, x.f1.size ≤ 1048576) : Ev (fun k => impl_IsPlain.f k l) (plainM l && isPlayM l) := by
  unfold impl_IsPlain.f
  simpa using impl_IsPlain_l0_ev l hl hw 0 (by omega)

/-! ### the law -/
theorem FnExactIsPlain (l : List LStep) (hl : l.length ≤ 9223372036854775807) (hs : ∀ x ∈ l, (Lit.int .i64 x.f0).wf = true ∧ x.f1.size ≤ maxLen ∧ (Lit.int .i64 x.f2).wf = true ∧ (Lit.int .i64 x.f3).wf = true) : ∃ k, laws_FnExactIsPlain.f k l = some true := by
  unfold maxLen at hs
  apply Ev.rounds
  unfold laws_FnExactIsPlain.f
  obtain ⟨r, hr, h1⟩ := laws_szStepS_ev l hl (fun x h => (hs x h).2.1) 1048576 (by omega) (by omega)
  refine ev_bind hr ?_
  rcases h1 with h1 | h1
  · exact ev_pos h1 (ev_now rfl)
  · have hl : l.length ≤ 1048576 := by omega
    have ht := laws_toStepS_ev l hl
    have hz := toI_sizes (l := l) (by omega)
    generalize hm : l.map toI = m at ht hz
    have hml : m.length ≤ 1048576 := by rw [← hm]; simpa using hl
    exact ev_neg (by omega) (ev_bind ht (ev_bind (spec_IsPlain_ev m hml hz) (ev_bind ht (ev_bind (impl_IsPlain_ev m hml hz) (ev_neg (by simp) (ev_bind ht (ev_bind (laws_eqStepS_ev m (by omega)) (ev_pos rfl (ev_now rfl)))))))))

end Go.Proofs.Ytgmhjinlpikpjac.Pure
