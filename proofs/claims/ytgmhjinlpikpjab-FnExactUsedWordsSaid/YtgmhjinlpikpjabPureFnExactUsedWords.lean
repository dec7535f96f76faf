/-
  The law FnExactUsedWords over numbers and lists: the program's UsedWords and the reference's answer alike for all steps.
  Conditions: none.
-/
import Derived.Test.YtgmhjinlpikpjabQFnExactUsedWordsx
namespace Go.Proofs.Ytgmhjinlpikpjab.Pure
open Go.RowKit Go.Proofs.Ytgmhjinlpikpjab.QFnExactUsedWords Go.Proofs.YtgmhjinlpikpjabW.PrintWords Go.Proofs.YtgmhjinlpikpjabW.PrintLast Go.Proofs.YtgmhjinlpikpjabW.PrintMore

/-! ### base -/
theorem wrap64_id {n : Int} (h : -9223372036854775808 ≤ n) (h' : n ≤ 9223372036854775807) : wrap64 n = n := by
  unfold wrap64
  omega
section
variable {α β : Type}
theorem ev_succ {g : Nat → Option α} {r : α} (h : Ev (fun k => g (k + 1)) r) : Ev g r := Ev.step (fun _ => rfl) h
theorem ev_pos {c : Prop} [Decidable c] {g f : Nat → Option α} {r : α} (h : c) (k : Ev g r) : Ev (fun n => if c then g n else f n) r := by
  simpa only [if_pos h] using k
theorem ev_neg {c : Prop} [Decidable c] {g f : Nat → Option α} {r : α} (h : ¬ c) (k : Ev f r) : Ev (fun n => if c then g n else f n) r := by
  simpa only [if_neg h] using k
theorem ev_now {a r : α} (h : a = r) : Ev (fun _ => some a) r := h ▸ Ev.now a
theorem ev_let {o : Option β} {a : β} {f : Nat → β → Option α} {r : α} (h : o = some a) (k : Ev (fun n => f n a) r) : Ev (fun n => o.bind (f n)) r := by
  subst h
  exact k
theorem ev_bind {g : Nat → Option β} {f : Nat → β → Option α} {a : β} {r : α} (h : Ev g a) (k : Ev (fun n => f n a) r) : Ev (fun n => (g n).bind (f n)) r := Ev.bind h k
theorem ev_eq {g : Nat → Option α} {a r : α} (h : Ev g a) (e : a = r) : Ev g r := e ▸ h
end
/-- From the end of a loop back to a round: P holds from n on, and a round below n may use the next. -/
theorem down {P : Nat → Prop} (n : Nat) (hend : ∀ i, n ≤ i → P i) (hstep : ∀ i, i < n → P (i + 1) → P i) : ∀ i, P i := by
  intro i
  rcases Nat.lt_or_ge i n with h | h
  · obtain ⟨d, hd⟩ : ∃ d, n = i + d := ⟨n - i, by omega⟩
    induction d generalizing i with
    | zero => omega
    | succ d ih =>
      refine hstep i h ?_
      rcases Nat.lt_or_ge (i + 1) n with h1 | h1
      · exact ih (i + 1) h1 (by omega)
      · exact hend _ h1
  · exact hend i h
theorem range_cons {i n : Nat} (h : i < n) : List.range' i (n - i) = i :: List.range' (i + 1) (n - (i + 1)) := by
  obtain ⟨d, hd⟩ : ∃ d, n - i = d + 1 := ⟨n - i - 1, by omega⟩
  rw [hd, List.range'_succ, show n - (i + 1) = d by omega]
theorem range_nil {i n : Nat} (h : n ≤ i) : List.range' i (n - i) = [] := by
  rw [show n - i = 0 by omega]
  rfl
theorem succ_cast (i : Nat) : ((i : Int) + 1) = ((i + 1 : Nat) : Int) := by omega

/-! ### lists -/
theorem rdOf_get {α : Type} {d : α} {l : List α} {i : Nat} (h : i < l.length) : rdOf d l (i : Int) = l[i] := by
  unfold rdOf
  simp [h]
theorem rd_get {l : List Int} {i : Nat} (h : i < l.length) : rd l (i : Int) = l[i] := by
  unfold rd
  simp [h]
theorem toList_eq (s : ByteArray) : s.toList = s.data.toList := Go.ByteArray.toList_eq s
instance lawfulBA : LawfulBEq ByteArray where
  eq_of_beq {a b} h := ByteArray.ext (eq_of_beq (α := Array UInt8) h)
  rfl {a} := by
    show (a.data == a.data) = true
    simp
theorem toList_inj {a b : ByteArray} : a.toList = b.toList ↔ a = b := by
  constructor
  · intro h
    rw [toList_eq, toList_eq] at h
    cases a
    cases b
    simp only [ByteArray.mk.injEq]
    exact Array.toList_inj.1 h
  · intro h
    rw [h]
theorem set_known {α : Type} {l x : List α} {i : Nat} {a : α} (hi : i < l.length) (hx : x.length = l.length) (ha : a = l[i]) (h : ∀ j, j < i → x[j]? = l[j]?) : ∀ j, j < i + 1 → (x.set i a)[j]? = l[j]? := by
  intro j hj
  by_cases e : j = i
  · subst e
    rw [List.getElem?_set_self (by omega), ha, List.getElem?_eq_getElem hi]
  · rw [List.getElem?_set_ne (Ne.symm e)]
    exact h j (by omega)
theorem all_known {α : Type} {l x : List α} (hx : x.length = l.length) (h : ∀ j, j < l.length → x[j]? = l[j]?) : x = l := by
  apply List.ext_getElem?
  intro j
  by_cases hj : j < l.length
  · exact h j hj
  · rw [List.getElem?_eq_none (by omega), List.getElem?_eq_none (by omega)]

/-! ### strs -/
def total (l : List ByteArray) : Nat := (l.map ByteArray.size).sum
theorem total_drop {l : List ByteArray} {i : Nat} (h : i < l.length) : total (l.drop i) = l[i].size + total (l.drop (i + 1)) := by
  rw [List.drop_eq_getElem_cons h]
  rfl
theorem laws_eqStringS_l0_ev (a b : List ByteArray) (hl : a.length = b.length) (hb : a.length ≤ 9223372036854775806) : ∀ i : Nat, i ≤ a.length → Ev (fun k => laws_eqStringS.l0 k a b i) (decide (a.drop i = b.drop i)) := by
  refine down a.length ?_ ?_
  · intro i h hi
    apply ev_succ
    simp only [laws_eqStringS.l0]
    refine ev_neg (by omega) (ev_now ?_)
    rw [List.drop_eq_nil_of_le h, List.drop_eq_nil_of_le (by omega)]
    simp
  · intro i h ih hi
    have h' : i < b.length := by omega
    apply ev_succ
    simp only [laws_eqStringS.l0]
    rw [rdOf_get h, rdOf_get h', wrap64_id (n := (i : Int) + 1) (by omega) (by omega), succ_cast, List.drop_eq_getElem_cons h, List.drop_eq_getElem_cons h']
    refine ev_pos (by omega) (ev_pos (by omega) (ev_pos (by omega) ?_))
    by_cases he : a[i].toList = b[i].toList
    · refine ev_pos he (ev_eq (ih (by omega)) ?_)
      rw [toList_inj] at he
      rw [he]
      simp [-List.getElem_cons_drop]
    · refine ev_neg he (ev_now ?_)
      rw [toList_inj] at he
      symm
      simp only [decide_eq_false_iff_not, List.cons.injEq]
      exact fun h => he h.1
theorem laws_eqStringS_ev (a b : List ByteArray) (hb : a.length ≤ 9223372036854775806) : Ev (fun k => laws_eqStringS.f k a b) (decide (a = b)) := by
  unfold laws_eqStringS.f
  by_cases h : a.length = b.length
  · exact ev_pos (by omega) (ev_eq (laws_eqStringS_l0_ev a b h hb 0 (by omega)) (by simp))
  · exact ev_neg (by omega) (ev_now (by symm; simp; intro e; exact h (by rw [e])))

/-! ### marks -/
theorem strOfNums_one (n : Int) : (strOfNums [n]).size = 1 := by
  simp [strOfNums, ByteArray.size]
theorem laws_markText_l0_some : ∀ (d : Nat) (n : Int) (x : ByteArray), 0 ≤ n → n < 10 ^ d → x.size + d ≤ 1000 → d ≤ 19 → ∃ r, Ev (fun k => laws_markText.l0 k n x) r := by
  intro d
  induction d with
  | zero =>
    intro n x h0 h1 hx hd
    refine ⟨⟨#[109]⟩ ++ x, ev_succ ?_⟩
    simp only [laws_markText.l0]
    exact ev_neg (by omega) (ev_pos (by omega) (ev_now rfl))
  | succ d ih =>
    intro n x h0 h1 hx hd
    by_cases hn : n > 0
    · have hq : Int.tdiv n 10 = n / 10 := Int.tdiv_eq_ediv_of_nonneg (by omega)
      have h10 : (10 : Int) ^ (d + 1) = 10 ^ d * 10 := by rw [Int.pow_succ]
      have h2 : n / 10 < 10 ^ d := Int.ediv_lt_of_lt_mul (by omega) (by omega)
      have h3 : (10 : Int) ^ (d + 1) ≤ 10 ^ 19 := by
        have := Nat.pow_le_pow_right (n := 10) (by omega) hd
        exact_mod_cast this
      obtain ⟨r, hr⟩ := ih (n / 10) (strOfNums [(wrap64 (48 + Int.tmod n 10)) % 256] ++ x) (by omega) h2 (by rw [ByteArray.size_append, strOfNums_one]; omega) (by omega)
      refine ⟨r, ev_succ ?_⟩
      simp only [laws_markText.l0]
      rw [hq, wrap64_id (n := n / 10) (by omega) (by omega)]
      refine ev_pos hn (ev_let rfl (ev_pos ?_ hr))
      rw [strOfNums_one]
      omega
    · refine ⟨⟨#[109]⟩ ++ x, ev_succ ?_⟩
      simp only [laws_markText.l0]
      exact ev_neg hn (ev_pos (by omega) (ev_now rfl))
theorem laws_markText_some (n : Int) (h0 : 0 ≤ n) (h1 : n ≤ 9223372036854775807) : ∃ r, Ev (fun k => laws_markText.f k n) r := by
  unfold laws_markText.f
  by_cases h : n ≤ 0
  · exact ⟨_, ev_pos h (ev_now rfl)⟩
  · obtain ⟨r, hr⟩ := laws_markText_l0_some 19 n ⟨#[]⟩ h0 (by omega) (by decide) (by omega)
    exact ⟨r, ev_neg h hr⟩
theorem laws_markStringS_l0_ev (L : Nat) (hL : L ≤ 1048576) : ∀ i : Nat, i ≤ L → ∀ (x : List ByteArray) (n : Int), x.length = L → 0 ≤ n → n + (L - i : Nat) ≤ 1000000000000 →
    ∃ y : List ByteArray, y.length = L ∧ (∀ j, j < i → y[j]? = x[j]?) ∧ Ev (fun k => laws_markStringS.l0 k x n i) (n + (L - i : Nat), y) ∧ Ev (fun k => laws_heldStringS.l0 k y n i) (n + (L - i : Nat)) := by
  refine down L ?_ ?_
  · intro i h hi x n hx h0 hn
    refine ⟨x, hx, fun _ _ => rfl, ?_, ?_⟩
    · apply ev_succ
      simp only [laws_markStringS.l0]
      exact ev_neg (by omega) (ev_now (by rw [show L - i = 0 by omega]; simp))
    · apply ev_succ
      simp only [laws_heldStringS.l0]
      exact ev_neg (by omega) (ev_now (by rw [show L - i = 0 by omega]; simp))
  · intro i h ih hi x n hx h0 hn
    obtain ⟨r, hr⟩ := laws_markText_some n h0 (by omega)
    obtain ⟨y, hy, hj, hm, hh⟩ := ih (by omega) (x.set i r) (n + 1) (by simpa using hx) (by omega) (by omega)
    have hyi : y[i]? = some r := by
      rw [hj i (by omega), List.getElem?_set_self (by omega)]
    have hyi' : y[i]'(by omega) = r := by
      rw [List.getElem?_eq_getElem (by omega)] at hyi
      exact Option.some.inj hyi
    refine ⟨y, hy, fun j h' => ?_, ?_, ?_⟩
    · rw [hj j (by omega), List.getElem?_set_ne (by omega)]
    · apply ev_succ
      simp only [laws_markStringS.l0]
      rw [wrap64_id (n := (i : Int) + 1) (by omega) (by omega), wrap64_id (n := n + 1) (by omega) (by omega), succ_cast, show (i : Int).toNat = i by omega]
      exact ev_pos (by omega) (ev_bind hr (ev_pos (by omega) (ev_eq hm (by rw [show L - i = (L - (i + 1)) + 1 by omega]; simp; omega))))
    · apply ev_succ
      simp only [laws_heldStringS.l0]
      rw [wrap64_id (n := (i : Int) + 1) (by omega) (by omega), wrap64_id (n := n + 1) (by omega) (by omega), succ_cast, rdOf_get (by omega), hyi']
      exact ev_pos (by omega) (ev_pos (by omega) (ev_bind hr (ev_pos rfl (ev_eq hh (by rw [show L - i = (L - (i + 1)) + 1 by omega]; simp; omega)))))
/-- What is marked is held. -/
theorem laws_markStringS_ev (x : List ByteArray) (n : Int) (hx : x.length ≤ 1048576) (h0 : 0 ≤ n) (hn : n ≤ 100000000000) :
    ∃ y : List ByteArray, y.length = x.length ∧ Ev (fun k => laws_markStringS.f k x n) (n + x.length, y) ∧ Ev (fun k => laws_heldStringS.f k y n) (n + x.length) := by
  unfold laws_markStringS.f laws_heldStringS.f
  obtain ⟨y, hy, _, hm, hh⟩ := laws_markStringS_l0_ev x.length hx 0 (by omega) x n rfl h0 (by omega)
  exact ⟨y, hy, by simpa using hm, by simpa using hh⟩

/-! ### steps -/
abbrev LStep := S53
abbrev IStep := S55
def toI (x : LStep) : IStep := ⟨x.f0, x.f1, x.f2, x.f3⟩
theorem rd_L_get {l : List LStep} {i : Nat} (h : i < l.length) : rd_T53 l (i : Int) = l[i] := by
  unfold rd_T53
  simp [h]
theorem rd_I_get {l : List IStep} {i : Nat} (h : i < l.length) : rd_T55 l (i : Int) = l[i] := by
  unfold rd_T55
  simp [h]
def totalS (l : List LStep) : Nat := (l.map fun x => x.f1.size).sum
theorem totalS_drop {l : List LStep} {i : Nat} (h : i < l.length) : totalS (l.drop i) = l[i].f1.size + totalS (l.drop (i + 1)) := by
  rw [List.drop_eq_getElem_cons h]
  rfl
theorem laws_szStepS_l0_ev (l : List LStep) (hl : l.length ≤ 9223372036854775806) (hs : ∀ s ∈ l, s.f1.size ≤ 9223372036854775807) : ∀ i : Nat, i ≤ l.length → ∀ n : Int, 0 ≤ n → n ≤ 1048576 →
    ∃ r : Int, Ev (fun k => laws_szStepS.l0 k l n i) r ∧ (r < 0 ∨ 0 ≤ r ∧ r + totalS (l.drop i) = n) := by
  refine down l.length ?_ ?_
  · intro i h hi n h0 hn
    refine ⟨n, ?_, .inr ⟨h0, ?_⟩⟩
    · apply ev_succ
      simp only [laws_szStepS.l0]
      exact ev_neg (by omega) (ev_now rfl)
    · rw [List.drop_eq_nil_of_le h]
      simp [totalS]
  · intro i h ih hi n h0 hn
    have hb := hs l[i] (List.getElem_mem h)
    have ht := totalS_drop h
    by_cases hneg : n - (l[i].f1.size : Int) < 0
    · refine ⟨-1, ?_, .inl (by omega)⟩
      apply ev_succ
      simp only [laws_szStepS.l0, laws_szStep.f]
      rw [rd_L_get h, wrap64_id (n := n - _) (by omega) (by omega)]
      refine ev_pos (by omega) (ev_pos (by omega) (ev_let (a := -1) ?_ (ev_pos (by omega) (ev_now rfl))))
      rw [if_pos hneg]
    · obtain ⟨r, hr, h1⟩ := ih (by omega) (n - (l[i].f1.size : Int)) (by omega) (by omega)
      refine ⟨r, ?_, ?_⟩
      · apply ev_succ
        simp only [laws_szStepS.l0, laws_szStep.f]
        rw [rd_L_get h, wrap64_id (n := n - _) (by omega) (by omega), wrap64_id (n := (i : Int) + 1) (by omega) (by omega), succ_cast]
        refine ev_pos (by omega) (ev_pos (by omega) (ev_let (a := n - (l[i].f1.size : Int)) ?_ (ev_neg hneg hr)))
        rw [if_neg hneg]
      · rcases h1 with h1 | h1
        · exact .inl h1
        · exact .inr ⟨h1.1, by omega⟩
theorem laws_szStepS_ev (l : List LStep) (hl : l.length ≤ 9223372036854775807) (hs : ∀ s ∈ l, s.f1.size ≤ 9223372036854775807) (n : Int) (h0 : 0 ≤ n) (hn : n ≤ 1048576) :
    ∃ r : Int, Ev (fun k => laws_szStepS.f k l n) r ∧ (r < 0 ∨ 0 ≤ r ∧ r + l.length + totalS l = n) := by
  unfold laws_szStepS.f
  rw [wrap64_id (n := n - _) (by omega) (by omega)]
  by_cases hneg : n - (l.length : Int) < 0
  · exact ⟨-1, ev_pos hneg (ev_now rfl), .inl (by omega)⟩
  · obtain ⟨r, hr, h1⟩ := laws_szStepS_l0_ev l (by omega) hs 0 (by omega) (n - (l.length : Int)) (by omega) (by omega)
    refine ⟨r, ev_neg hneg hr, ?_⟩
    rcases h1 with h1 | h1
    · exact .inl h1
    · exact .inr ⟨h1.1, by have := h1.2; simp at this; omega⟩
theorem laws_toStepS_l0_ev (l : List LStep) (hl : l.length ≤ 1048576) : ∀ i : Nat, i ≤ l.length → ∀ x : List IStep, x.length = (l.map toI).length → (∀ j, j < i → x[j]? = (l.map toI)[j]?) → Ev (fun k => laws_toStepS.l0 k l x i) (l.map toI) := by
  refine down l.length ?_ ?_
  · intro i h hi x hx hj
    apply ev_succ
    simp only [laws_toStepS.l0]
    exact ev_neg (by omega) (ev_now (all_known hx (fun j h' => hj j (by simp at h'; omega))))
  · intro i h ih hi x hx hj
    have hx' : x.length = l.length := by simpa using hx
    apply ev_succ
    simp only [laws_toStepS.l0, laws_toStep.f]
    rw [rd_L_get h, wrap64_id (n := (i : Int) + 1) (by omega) (by omega), succ_cast, show (i : Int).toNat = i by omega]
    exact ev_pos (by omega) (ev_pos (by omega) (ev_let rfl (ev_pos (by omega) (ih (by omega) _ (by simpa using hx) (set_known (by simpa using h) hx (by simp [toI]) hj)))))
theorem laws_toStepS_ev (l : List LStep) (hl : l.length ≤ 1048576) : Ev (fun k => laws_toStepS.f k l) (l.map toI) := by
  unfold laws_toStepS.f
  exact ev_pos (by omega) (ev_pos (by omega) (laws_toStepS_l0_ev l hl 0 (by omega) _ (by simp) (by intro j hj; omega)))
theorem step_ext {a b : IStep} (h0 : a.f0 = b.f0) (h1 : a.f1 = b.f1) (h2 : a.f2 = b.f2) (h3 : a.f3 = b.f3) : a = b := by
  cases a
  cases b
  simp at h0 h1 h2 h3
  simp [h0, h1, h2, h3]
/-- Only what is equal is asked. -/
theorem laws_eqStepS_l0_ev (a : List IStep) (hb : a.length ≤ 9223372036854775806) : ∀ i : Nat, i ≤ a.length → Ev (fun k => laws_eqStepS.l0 k a a i) true := by
  refine down a.length ?_ ?_
  · intro i h hi
    apply ev_succ
    simp only [laws_eqStepS.l0]
    exact ev_neg (by omega) (ev_now rfl)
  · intro i h ih hi
    apply ev_succ
    simp only [laws_eqStepS.l0]
    rw [rd_I_get h, wrap64_id (n := (i : Int) + 1) (by omega) (by omega), succ_cast]
    refine ev_pos (by omega) (ev_pos (by omega) (ev_pos (by omega) (ev_let (a := true) ?_ (ev_pos rfl (ih (by omega))))))
    simp [laws_eqStep.f]
theorem laws_eqStepS_ev (a : List IStep) (hb : a.length ≤ 9223372036854775806) : Ev (fun k => laws_eqStepS.f k a a) true := by
  unfold laws_eqStepS.f
  exact ev_pos rfl (laws_eqStepS_l0_ev a hb 0 (by omega))
theorem laws_markStepS_l0_ev (L : Nat) (hL : L ≤ 1048576) : ∀ i : Nat, i ≤ L → ∀ (x : List IStep) (n : Int), x.length = L → 0 ≤ n → n + 4 * (L - i : Nat) ≤ 1000000000000 →
    ∃ y : List IStep, Ev (fun k => laws_markStepS.l0 k x n i) (n + 4 * (L - i : Nat), y) := by
  refine down L ?_ ?_
  · intro i h hi x n hx h0 hn
    refine ⟨x, ?_⟩
    apply ev_succ
    simp only [laws_markStepS.l0]
    exact ev_neg (by omega) (ev_now (by rw [show L - i = 0 by omega]; simp))
  · intro i h ih hi x n hx h0 hn
    obtain ⟨r, hr⟩ := laws_markText_some (n + 1) (by omega) (by omega)
    have key : ∀ x' : List IStep, x'.length = L → ∃ y : List IStep, Ev (fun k => laws_markStepS.l0 k x' (n + 4) ((i : Int) + 1)) (n + 4 * (L - i : Nat), y) := by
      intro x' hx'
      obtain ⟨y, hy⟩ := ih (by omega) x' (n + 4) hx' (by omega) (by omega)
      rw [succ_cast]
      exact ⟨y, ev_eq hy (by rw [show L - i = (L - (i + 1)) + 1 by omega]; simp; omega)⟩
    have step : ∃ x' : List IStep, x'.length = L ∧ ∀ ρ, Ev (fun k => laws_markStepS.l0 k x' (n + 4) ((i : Int) + 1)) ρ → Ev (fun k => laws_markStepS.l0 k x n i) ρ := by
      apply Exists.intro
      apply And.intro
      rotate_left
      · intro ρ hρ
        apply ev_succ
        simp only [laws_markStepS.l0]
        rw [wrap64_id (n := (i : Int) + 1) (by omega) (by omega), wrap64_id (n := n + 1) (by omega) (by omega), wrap64_id (n := n + 1 + 1) (by omega) (by omega), wrap64_id (n := n + 1 + 1 + 1) (by omega) (by omega), wrap64_id (n := n + 1 + 1 + 1 + 1) (by omega) (by omega), show n + 1 + 1 + 1 + 1 = n + 4 by omega]
        exact ev_pos (by omega) (ev_pos (by omega) (ev_let rfl (ev_bind hr (ev_let rfl (ev_let rfl hρ)))))
      · simpa using hx
    obtain ⟨x', hx', hs⟩ := step
    obtain ⟨y, hy⟩ := key x' hx'
    exact ⟨y, hs _ hy⟩
theorem laws_markStepS_ev (x : List IStep) (n : Int) (hx : x.length ≤ 1048576) (h0 : 0 ≤ n) (hn : n ≤ 100000000000) : ∃ y : List IStep, Ev (fun k => laws_markStepS.f k x n) (n + 4 * x.length, y) := by
  unfold laws_markStepS.f
  obtain ⟨y, hy⟩ := laws_markStepS_l0_ev x.length hx 0 (by omega) x n rfl h0 (by omega)
  exact ⟨y, by simpa using hy⟩

/-! ### usedwords -/
def usedM (l : List IStep) : List ByteArray := (l.filter fun x => decide (x.f0 = 1)).map (·.f1)
theorem usedM_drop {l : List IStep} {i : Nat} (h : i < l.length) : usedM (l.drop i) = (if l[i].f0 = 1 then [l[i].f1] else []) ++ usedM (l.drop (i + 1)) := by
  rw [List.drop_eq_getElem_cons h]
  unfold usedM
  by_cases h1 : l[i].f0 = 1
  · simp [-List.getElem_cons_drop, h1]
  · simp [-List.getElem_cons_drop, h1]
theorem usedM_length (l : List IStep) : (usedM l).length ≤ l.length := by
  unfold usedM
  rw [List.length_map]
  exact List.length_filter_le _ _
theorem spec_UsedWords_l0_ev (l : List IStep) (hl : l.length ≤ 1048576) : ∀ i : Nat, i ≤ l.length → ∀ acc : List ByteArray, acc.length ≤ i → Ev (fun k => spec_UsedWords.l0 k l acc i) (acc ++ usedM (l.drop i)) := by
  refine down l.length ?_ ?_
  · intro i h hi acc ha
    apply ev_succ
    simp only [spec_UsedWords.l0]
    exact ev_neg (by omega) (ev_now (by rw [List.drop_eq_nil_of_le h]; simp [usedM]))
  · intro i h ih hi acc ha
    apply ev_succ
    simp only [spec_UsedWords.l0]
    rw [rd_I_get h, wrap64_id (n := (i : Int) + 1) (by omega) (by omega), succ_cast, usedM_drop h]
    refine ev_pos (by omega) (ev_pos (by omega) ?_)
    by_cases h1 : l[i].f0 = 1
    · rw [if_pos h1]
      exact ev_pos h1 (ev_pos (by omega) (ev_eq (ih (by omega) _ (by simp; omega)) (by simp)))
    · exact ev_neg h1 (ev_eq (ih (by omega) _ (by omega)) (by simp [h1]))
theorem spec_UsedWords_ev (l : List IStep) (hl : l.length ≤ 1048576) : Ev (fun k => spec_UsedWords.f k l) (usedM l) := by
  unfold spec_UsedWords.f
  exact ev_eq (spec_UsedWords_l0_ev l hl 0 (by omega) [] (by simp)) (by simp)
theorem impl_UsedWords_l0_ev (l : List IStep) (hl : l.length ≤ 1048576) : ∀ i : Nat, i ≤ l.length → ∀ acc : List ByteArray, acc.length ≤ i → Ev (fun k => impl_UsedWords.l0 k acc l l.length i) (acc ++ usedM (l.drop i)) := by
  refine down l.length ?_ ?_
  · intro i h hi acc ha
    apply ev_succ
    simp only [impl_UsedWords.l0]
    exact ev_neg (by omega) (ev_now (by rw [List.drop_eq_nil_of_le h]; simp [usedM]))
  · intro i h ih hi acc ha
    apply ev_succ
    simp only [impl_UsedWords.l0]
    rw [rd_I_get h, wrap64_id (n := (i : Int) + 1) (by omega) (by omega), succ_cast, usedM_drop h]
    refine ev_pos (by omega) (ev_pos (by omega) (ev_pos (by omega) ?_))
    by_cases h1 : l[i].f0 = 1
    · rw [if_pos h1]
      exact ev_pos h1 (ev_pos (by omega) (ev_eq (ih (by omega) _ (by simp; omega)) (by simp)))
    · exact ev_neg h1 (ev_eq (ih (by omega) _ (by omega)) (by simp [h1]))
theorem impl_UsedWords_ev (l : List IStep) (hl : l.length ≤ 1048576) : Ev (fun k => impl_UsedWords.f k l) (usedM l) := by
  unfold impl_UsedWords.f
  exact ev_eq (impl_UsedWords_l0_ev l hl 0 (by omega) [] (by simp)) (by simp)

/-! ### the law -/
theorem FnExactUsedWords (l : List LStep) (hl : l.length ≤ 9223372036854775807) (hs : ∀ x ∈ l, (Lit.int .i64 x.f0).wf = true ∧ x.f1.size ≤ maxLen ∧ (Lit.int .i64 x.f2).wf = true ∧ (Lit.int .i64 x.f3).wf = true) : ∃ k, laws_FnExactUsedWords.f k l = some true := by
  unfold maxLen at hs
  apply Ev.rounds
  unfold laws_FnExactUsedWords.f
  obtain ⟨r, hr, h1⟩ := laws_szStepS_ev l hl (fun x h => (hs x h).2.1) 1048576 (by omega) (by omega)
  refine ev_bind hr ?_
  rcases h1 with h1 | h1
  · exact ev_pos h1 (ev_now rfl)
  · have hl : l.length ≤ 1048576 := by omega
    have ht := laws_toStepS_ev l hl
    generalize hm : l.map toI = m at ht
    have hml : m.length ≤ 1048576 := by rw [← hm]; simpa using hl
    have hu := usedM_length m
    obtain ⟨y, hy⟩ := laws_markStepS_ev m 1 hml (by omega) (by omega)
    obtain ⟨z, hz, hz1, hz2⟩ := laws_markStringS_ev (usedM m) 1 (by omega) (by omega) (by omega)
    have he : Ev (fun k => laws_eqStringS.f k (usedM m) (usedM m)) true := ev_eq (laws_eqStringS_ev _ _ (by omega)) (by simp)
    refine ev_neg (by omega) (ev_bind ht (ev_bind (spec_UsedWords_ev m hml) (ev_bind ht (ev_bind (impl_UsedWords_ev m hml) (ev_bind he (ev_pos rfl (ev_bind ht (ev_bind (laws_eqStepS_ev m (by omega)) (ev_pos rfl (ev_bind hy (ev_neg (by simp; omega) (ev_bind he (ev_succ ?_)))))))))))))
    simp only [laws_FnExactUsedWords.j0]
    exact ev_neg (by simp) (ev_bind hz1 (ev_bind hz2 (ev_neg (by omega) (ev_pos rfl (ev_bind ht (ev_bind (impl_UsedWords_ev m hml) (ev_bind he (ev_pos rfl (ev_bind hz2 (ev_neg (by omega) (ev_pos rfl (ev_now rfl))))))))))))

end Go.Proofs.Ytgmhjinlpikpjab.Pure
