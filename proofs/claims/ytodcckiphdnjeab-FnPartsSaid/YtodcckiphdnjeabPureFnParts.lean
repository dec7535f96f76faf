/-
  The law FnParts over numbers and lists: for every code, what the program's HeadOf, WithoutHead, WithoutTail, SplitsOf, Insertions and IsInside make of the drawn words puts these words together again.
  Conditions: none.
-/
import Derived.Test.YtodcckiphdnjeabQFnPartsx
namespace Go.Proofs.Ytodcckiphdnjeab.Pure
open Go.RowKit Go.Proofs.Ytodcckiphdnjeab.QFnParts Go.Proofs.YtodcckiphdnjeabW.PrintWords Go.Proofs.YtodcckiphdnjeabW.PrintLast Go.Proofs.YtodcckiphdnjeabW.PrintMore
set_option linter.unusedVariables false
set_option linter.unusedSimpArgs false

/-! ### base -/
theorem wrap64_id {n : Int} (h : -9223372036854775808 ≤ n) (h' : n ≤ 9223372036854775807) : wrap64 n = n := by
  unfold wrap64
  omega
section
variable {α β : Type}
theorem ev_succ {g : Nat → Option α} {r : α} (h : Ev (fun k => g (k + 1)) r) : Ev g r := Ev.step (fun _ => rfl) h
theorem ev_pos {c : Prop} [Decidable c] {g f : Nat → Option α} {r : α} (h : c) (k : Ev g r) : Ev (fun n => if c then g n else f n) r := by
  simpa only [if_pos h] using k
theorem ev_neg {c : Prop} [Decidable c] {g f : Nat → Option α} {r : α} (h : ¬ c) (k : Ev f r) : Ev (fun n => if c then g n else f n) r := by
  simpa only [if_neg h] using k
theorem ev_now {a r : α} (h : a = r) : Ev (fun _ => some a) r := h ▸ Ev.now a
theorem ev_let {o : Option β} {a : β} {f : Nat → β → Option α} {r : α} (h : o = some a) (k : Ev (fun n => f n a) r) : Ev (fun n => o.bind (f n)) r := by
  subst h
  exact k
theorem ev_bind {g : Nat → Option β} {f : Nat → β → Option α} {a : β} {r : α} (h : Ev g a) (k : Ev (fun n => f n a) r) : Ev (fun n => (g n).bind (f n)) r := Ev.bind h k
theorem ev_eq {g : Nat → Option α} {a r : α} (h : Ev g a) (e : a = r) : Ev g r := e ▸ h
end
/-- From the end of a loop back to a round: P holds from n on, and a round below n may use the next. -/
theorem down {P : Nat → Prop} (n : Nat) (hend : ∀ i, n ≤ i → P i) (hstep : ∀ i, i < n → P (i + 1) → P i) : ∀ i, P i := by
  intro i
  rcases Nat.lt_or_ge i n with h | h
  · obtain ⟨d, hd⟩ : ∃ d, n = i + d := ⟨n - i, by omega⟩
    induction d generalizing i with
    | zero => omega
    | succ d ih =>
      refine hstep i h ?_
      rcases Nat.lt_or_ge (i + 1) n with h1 | h1
      · exact ih (i + 1) h1 (by omega)
      · exact hend _ h1
  · exact hend i h
theorem range_cons {i n : Nat} (h : i < n) : List.range' i (n - i) = i :: List.range' (i + 1) (n - (i + 1)) := by
  obtain ⟨d, hd⟩ : ∃ d, n - i = d + 1 := ⟨n - i - 1, by omega⟩
  rw [hd, List.range'_succ, show n - (i + 1) = d by omega]
theorem range_nil {i n : Nat} (h : n ≤ i) : List.range' i (n - i) = [] := by
  rw [show n - i = 0 by omega]
  rfl
theorem succ_cast (i : Nat) : ((i : Int) + 1) = ((i + 1 : Nat) : Int) := by omega

/-! ### lists -/
theorem rdOf_get {α : Type} {d : α} {l : List α} {i : Nat} (h : i < l.length) : rdOf d l (i : Int) = l[i] := by
  unfold rdOf
  simp [h]
theorem rd_get {l : List Int} {i : Nat} (h : i < l.length) : rd l (i : Int) = l[i] := by
  unfold rd
  simp [h]
theorem toList_eq (s : ByteArray) : s.toList = s.data.toList := Go.ByteArray.toList_eq s
instance lawfulBA : LawfulBEq ByteArray where
  eq_of_beq {a b} h := ByteArray.ext (eq_of_beq (α := Array UInt8) h)
  rfl {a} := by
    show (a.data == a.data) = true
    simp
theorem toList_inj {a b : ByteArray} : a.toList = b.toList ↔ a = b := by
  constructor
  · intro h
    rw [toList_eq, toList_eq] at h
    cases a
    cases b
    simp only [ByteArray.mk.injEq]
    exact Array.toList_inj.1 h
  · intro h
    rw [h]
theorem set_known {α : Type} {l x : List α} {i : Nat} {a : α} (hi : i < l.length) (hx : x.length = l.length) (ha : a = l[i]) (h : ∀ j, j < i → x[j]? = l[j]?) : ∀ j, j < i + 1 → (x.set i a)[j]? = l[j]? := by
  intro j hj
  by_cases e : j = i
  · subst e
    rw [List.getElem?_set_self (by omega), ha, List.getElem?_eq_getElem hi]
  · rw [List.getElem?_set_ne (Ne.symm e)]
    exact h j (by omega)
theorem all_known {α : Type} {l x : List α} (hx : x.length = l.length) (h : ∀ j, j < l.length → x[j]? = l[j]?) : x = l := by
  apply List.ext_getElem?
  intro j
  by_cases hj : j < l.length
  · exact h j hj
  · rw [List.getElem?_eq_none (by omega), List.getElem?_eq_none (by omega)]

/-! ### word -/
/-- A byte is a small letter. -/
def isL (c : Int) : Bool := decide (97 ≤ c ∧ c ≤ 122)
/-- A word: one to eight small letters. -/
def wordM (s : ByteArray) : Bool := decide (1 ≤ s.size ∧ s.size ≤ 8) && (List.range' 0 (s.size - 0)).all fun j => isL (bt s j)
theorem spec_l1In_eq (a b c : Int) : spec_l1In.f a b c = some (decide (b ≤ a ∧ a ≤ c)) := by
  unfold spec_l1In.f
  by_cases h : b ≤ a
  · rw [if_pos h]; simp [h]
  · rw [if_neg h]; simp [h]
theorem impl_InRange_eq (a b c : Int) : impl_InRange.f a b c = some (decide (b ≤ a ∧ a ≤ c)) := by
  unfold impl_InRange.f
  by_cases h : b ≤ a
  · rw [if_pos h]; simp [h]
  · rw [if_neg h]; simp [h]
theorem impl_isLetter_eq (c : Int) : impl_isLetter.f c = some (isL c) := by
  unfold impl_isLetter.f isL
  by_cases h : c ≥ 97
  · rw [if_pos h]; congr 1; simp; omega
  · rw [if_neg h]; congr 1; simp; omega
theorem spec_IsWord_l0_ev (s : ByteArray) (hs : s.size ≤ 140737488351232) : ∀ i : Nat, i ≤ s.size → Ev (fun k => spec_IsWord.l0 k s i) ((List.range' i (s.size - i)).all fun j => isL (bt s j)) := by
  refine down s.size ?_ ?_
  · intro i h hi
    apply ev_succ
    simp only [spec_IsWord.l0]
    refine ev_neg (by omega) (ev_now ?_)
    rw [range_nil h]; rfl
  · intro i h ih hi
    apply ev_succ
    simp only [spec_IsWord.l0]
    rw [range_cons h, List.all_cons, wrap64_id (by omega) (by omega), succ_cast]
    refine ev_pos (by omega) (ev_pos (by omega) ?_)
    by_cases h1 : bt s i < 97
    · exact ev_pos h1 (ev_now (by simp [isL]; omega))
    · refine ev_neg h1 ?_
      by_cases h2 : bt s i > 122
      · exact ev_pos h2 (ev_now (by simp [isL]; omega))
      · refine ev_neg h2 (ev_eq (ih (by omega)) ?_)
        rw [show isL (bt s i) = true by simp [isL]; omega, Bool.true_and]
theorem impl_IsWord_l0_ev (s : ByteArray) (hs : s.size ≤ 140737488351232) : ∀ i : Nat, i ≤ s.size → Ev (fun k => impl_IsWord.l0 k s s.size i) ((List.range' i (s.size - i)).all fun j => isL (bt s j)) := by
  refine down s.size ?_ ?_
  · intro i h hi
    apply ev_succ
    simp only [impl_IsWord.l0]
    refine ev_neg (by omega) (ev_now ?_)
    rw [range_nil h]; rfl
  · intro i h ih hi
    apply ev_succ
    simp only [impl_IsWord.l0]
    rw [range_cons h, List.all_cons, wrap64_id (by omega) (by omega), succ_cast]
    refine ev_pos (by omega) (ev_pos (by omega) (ev_pos (by omega) (ev_let (impl_isLetter_eq _) ?_)))
    cases isL (bt s i)
    · exact ev_neg (by simp) (ev_now (by simp))
    · exact ev_pos rfl (ev_eq (ih (by omega)) (by simp))
theorem spec_IsWord_ev (s : ByteArray) (hs : s.size ≤ 140737488351232) : Ev (fun k => spec_IsWord.f k s) (wordM s) := by
  simp only [spec_IsWord.f]
  refine ev_let (spec_l1In_eq _ _ _) ?_
  by_cases h : 1 ≤ s.size ∧ s.size ≤ 8
  · refine ev_pos (by simp; omega) (ev_eq (spec_IsWord_l0_ev s hs 0 (by omega)) ?_)
    simp [wordM, h]
  · refine ev_neg (by simp; omega) (ev_now ?_)
    simp [wordM, h]
theorem impl_IsWord_ev (s : ByteArray) (hs : s.size ≤ 140737488351232) : Ev (fun k => impl_IsWord.f k s) (wordM s) := by
  simp only [impl_IsWord.f]
  refine ev_let (impl_InRange_eq _ _ _) ?_
  by_cases h : 1 ≤ s.size ∧ s.size ≤ 8
  · refine ev_pos (by simp; omega) (ev_eq (impl_IsWord_l0_ev s hs 0 (by omega)) ?_)
    simp [wordM, h]
  · refine ev_neg (by simp; omega) (ev_now ?_)
    simp [wordM, h]
theorem wordM_size {s : ByteArray} (h : wordM s = true) : 1 ≤ s.size ∧ s.size ≤ 8 := by
  simp only [wordM, Bool.and_eq_true, decide_eq_true_eq] at h
  exact h.1

/-! ### strs -/
def total (l : List ByteArray) : Nat := (l.map ByteArray.size).sum
theorem mem_total {l : List ByteArray} {x : ByteArray} (h : x ∈ l) : x.size ≤ total l := by
  induction l with
  | nil => cases h
  | cons a r ih =>
    have e : total (a :: r) = a.size + total r := rfl
    rcases List.mem_cons.1 h with rfl | h
    · omega
    · have := ih h
      omega
theorem total_drop {l : List ByteArray} {i : Nat} (h : i < l.length) : total (l.drop i) = l[i].size + total (l.drop (i + 1)) := by
  rw [List.drop_eq_getElem_cons h]
  rfl

/-! ### draw -/
/-! What is drawn of a code: bounds alone. -/
theorem and255 (y : Int) : 0 ≤ Go.bits .and .i64 y 255 ∧ Go.bits .and .i64 y 255 ≤ 255 := by
  have h := @Nat.and_le_right (BitVec.ofInt 64 y).toNat (BitVec.ofInt 64 255).toNat
  have e : (BitVec.ofInt 64 255).toNat = 255 := by decide
  have hb : Go.bits .and .i64 y 255 = IntKind.i64.wrap (((BitVec.ofInt 64 y).toNat &&& (BitVec.ofInt 64 255).toNat : Nat) : Int) := by
    show IntKind.i64.wrap (((BitVec.ofInt 64 y) &&& (BitVec.ofInt 64 255)).toNat : Int) = _
    rw [BitVec.toNat_and]
  rw [hb]
  rw [e] at h ⊢
  generalize (BitVec.ofInt 64 y).toNat &&& 255 = n at h ⊢
  simp [IntKind.wrap, IntKind.bits, IntKind.signed]
  omega
theorem spec_l1Byte_some (l : List Int) (i h : Int) (h0 : 0 ≤ i ∧ i ≤ l.length) (hl : l.length ≤ 1048576) : ∃ x i' h' : Int, spec_l1Byte.f l i h = some (x, i', h') ∧ (0 ≤ x ∧ x ≤ 255) ∧ (0 ≤ i' ∧ i' ≤ l.length) := by
  unfold spec_l1Byte.f
  by_cases hi : i < (l.length : Int)
  · rw [if_pos hi, if_pos h0.1]
    exact ⟨_, _, _, rfl, and255 _, by rw [wrap64_id (by omega) (by omega)]; omega⟩
  · rw [if_neg hi]
    exact ⟨_, _, _, rfl, and255 _, h0⟩
theorem spec_l1Below_some (l : List Int) (i h n : Int) (h0 : 0 ≤ i ∧ i ≤ l.length) (hl : l.length ≤ 1048576) (hn : n ≤ 16777216) : ∃ x i' h' : Int, spec_l1Below.f l i h n = some (x, i', h') ∧ (0 ≤ x ∧ (0 < n → x < n) ∧ (n ≤ 0 → x = 0)) ∧ (0 ≤ i' ∧ i' ≤ l.length) := by
  unfold spec_l1Below.f
  by_cases h1 : n ≤ 0
  · rw [if_pos h1]
    exact ⟨_, _, _, rfl, ⟨by omega, fun h => by omega, fun _ => rfl⟩, h0⟩
  · rw [if_neg h1]
    obtain ⟨x, i1, g1, e1, hx, hi1⟩ := spec_l1Byte_some l i h h0 hl
    by_cases h2 : n ≤ 256
    · rw [if_pos h2, e1, Option.bind_some, if_neg (by omega)]
      refine ⟨_, _, _, rfl, ⟨Int.tmod_nonneg _ hx.1, fun h => Int.tmod_lt_of_pos _ h, fun h => by omega⟩, hi1⟩
    · obtain ⟨y, i2, g2, e2, hy, hi2⟩ := spec_l1Byte_some l i1 g1 hi1 hl
      obtain ⟨z, i3, g3, e3, hz, hi3⟩ := spec_l1Byte_some l i2 g2 hi2 hl
      rw [if_neg h2, e1, Option.bind_some]
      show ∃ x i' h' : Int, ((spec_l1Byte.f l i1 g1).bind _) = _ ∧ _
      rw [e2, Option.bind_some]
      show ∃ x i' h' : Int, ((spec_l1Byte.f l i2 g2).bind _) = _ ∧ _
      rw [e3, Option.bind_some, if_neg (by omega)]
      have ew : wrap64 (wrap64 (wrap64 (x * 65536) + wrap64 (y * 256)) + z) = x * 65536 + y * 256 + z := by
        rw [wrap64_id (n := x * 65536) (by omega) (by omega), wrap64_id (n := y * 256) (by omega) (by omega), wrap64_id (n := x * 65536 + y * 256) (by omega) (by omega), wrap64_id (by omega) (by omega)]
      refine ⟨_, _, _, rfl, ?_, hi3⟩
      show 0 ≤ (wrap64 (wrap64 (wrap64 (x * 65536) + wrap64 (y * 256)) + z)).tmod n ∧ _
      rw [ew]
      exact ⟨Int.tmod_nonneg _ (by omega), fun h => Int.tmod_lt_of_pos _ h, fun h => by omega⟩
theorem spec_l1Str_some (l : List Int) (i h : Int) (L : List ByteArray) (h0 : 0 ≤ i ∧ i ≤ l.length) (hl : l.length ≤ 1048576) (hL : 0 < L.length) (hL2 : L.length ≤ 1000) : ∃ (s : ByteArray) (i' h' : Int), spec_l1Str.f l i h L = some (s, i', h') ∧ s ∈ L ∧ (0 ≤ i' ∧ i' ≤ l.length) := by
  unfold spec_l1Str.f
  obtain ⟨x, i1, g1, e1, hx, hi1⟩ := spec_l1Below_some l i h (L.length : Int) h0 hl (by omega)
  obtain ⟨j, rfl⟩ := Int.eq_ofNat_of_zero_le hx.1
  have hj : j < L.length := by have := hx.2.1 (by omega); omega
  rw [e1, Option.bind_some, if_pos hx.1, if_pos (by show (j : Int) < _; omega)]
  refine ⟨_, _, _, rfl, ?_, hi1⟩
  show rdOf ByteArray.empty L (j : Int) ∈ L
  rw [rdOf_get hj]
  exact List.getElem_mem hj
theorem spec_l1New_ev (l : List Int) (hl : l.length ≤ 1048576) : ∃ h : Int, Ev (fun k => spec_l1New.f k l) (l, 0, h) := by
  have main : ∀ (d i : Nat) (x : Int), i + d = l.length → ∃ h : Int, Ev (fun k => spec_l1New.l0 k l x i) (l, 0, h) := by
    intro d
    induction d with
    | zero =>
      intro i x hi
      refine ⟨x, ev_succ ?_⟩
      simp only [spec_l1New.l0]
      exact ev_neg (by omega) (ev_now rfl)
    | succ d ih =>
      intro i x hi
      by_cases h4 : (i : Int) < 4000
      · obtain ⟨h, hh⟩ := ih (i + 1) (Go.bits .and .i64 (wrap64 ((wrap64 ((wrap64 (x * 137)) + (wrap64 (rd l i)))) + 11)) 1073741823) (by omega)
        refine ⟨h, ev_succ ?_⟩
        simp only [spec_l1New.l0]
        rw [wrap64_id (n := (i : Int) + 1) (by omega) (by omega), succ_cast]
        exact ev_pos (by omega) (ev_pos h4 (ev_pos (by omega) hh))
      · refine ⟨x, ev_succ ?_⟩
        simp only [spec_l1New.l0]
        exact ev_pos (by omega) (ev_neg h4 (ev_now rfl))
  unfold spec_l1New.f
  exact main l.length 0 _ (by omega)
theorem spec_l4Word_some (l : List Int) (i h : Int) (h0 : 0 ≤ i ∧ i ≤ l.length) (hl : l.length ≤ 1048576) : ∃ (s : ByteArray) (i' h' : Int), spec_l4Word.f l i h = some (s, i', h') ∧ s.size ≤ 5 ∧ (0 ≤ i' ∧ i' ≤ l.length) := by
  unfold spec_l4Word.f spec_l4Words.f
  rw [Option.bind_some]
  obtain ⟨s, i1, g1, e1, hs, hi1⟩ := spec_l1Str_some l i h (L := [(⟨#[99, 97, 116]⟩ : ByteArray), (⟨#[97, 99, 116]⟩ : ByteArray), (⟨#[116, 97, 99]⟩ : ByteArray), (⟨#[97, 114, 99]⟩ : ByteArray), (⟨#[99, 97, 114]⟩ : ByteArray), (⟨#[101, 114, 97]⟩ : ByteArray), (⟨#[97, 114, 101]⟩ : ByteArray), (⟨#[101, 97, 114]⟩ : ByteArray), (⟨#[97, 116, 101]⟩ : ByteArray), (⟨#[116, 101, 97]⟩ : ByteArray), (⟨#[101, 97, 116]⟩ : ByteArray), (⟨#[115, 101, 97]⟩ : ByteArray), (⟨#[116, 97, 114]⟩ : ByteArray), (⟨#[114, 97, 116]⟩ : ByteArray), (⟨#[97, 114, 116]⟩ : ByteArray), (⟨#[97, 110, 116]⟩ : ByteArray), (⟨#[116, 97, 110]⟩ : ByteArray), (⟨#[110, 101, 116]⟩ : ByteArray), (⟨#[116, 101, 110]⟩ : ByteArray), (⟨#[114, 101, 115, 116]⟩ : ByteArray), (⟨#[116, 114, 101, 101]⟩ : ByteArray), (⟨#[115, 116, 97, 114]⟩ : ByteArray), (⟨#[114, 97, 116, 115]⟩ : ByteArray), (⟨#[97, 114, 116, 115]⟩ : ByteArray), (⟨#[101, 97, 115, 116]⟩ : ByteArray), (⟨#[115, 101, 97, 116]⟩ : ByteArray), (⟨#[116, 101, 97, 115]⟩ : ByteArray), (⟨#[110, 101, 116, 115]⟩ : ByteArray), (⟨#[116, 101, 110, 115]⟩ : ByteArray), (⟨#[115, 101, 110, 116]⟩ : ByteArray), (⟨#[116, 114, 97, 99, 101]⟩ : ByteArray), (⟨#[114, 101, 97, 99, 116]⟩ : ByteArray), (⟨#[99, 114, 97, 116, 101]⟩ : ByteArray), (⟨#[115, 116, 97, 114, 101]⟩ : ByteArray), (⟨#[116, 101, 97, 114, 115]⟩ : ByteArray)]) h0 hl (by decide) (by decide)
  rw [e1, Option.bind_some]
  refine ⟨_, _, _, rfl, ?_, hi1⟩
  have hall : ∀ x ∈ [(⟨#[99, 97, 116]⟩ : ByteArray), (⟨#[97, 99, 116]⟩ : ByteArray), (⟨#[116, 97, 99]⟩ : ByteArray), (⟨#[97, 114, 99]⟩ : ByteArray), (⟨#[99, 97, 114]⟩ : ByteArray), (⟨#[101, 114, 97]⟩ : ByteArray), (⟨#[97, 114, 101]⟩ : ByteArray), (⟨#[101, 97, 114]⟩ : ByteArray), (⟨#[97, 116, 101]⟩ : ByteArray), (⟨#[116, 101, 97]⟩ : ByteArray), (⟨#[101, 97, 116]⟩ : ByteArray), (⟨#[115, 101, 97]⟩ : ByteArray), (⟨#[116, 97, 114]⟩ : ByteArray), (⟨#[114, 97, 116]⟩ : ByteArray), (⟨#[97, 114, 116]⟩ : ByteArray), (⟨#[97, 110, 116]⟩ : ByteArray), (⟨#[116, 97, 110]⟩ : ByteArray), (⟨#[110, 101, 116]⟩ : ByteArray), (⟨#[116, 101, 110]⟩ : ByteArray), (⟨#[114, 101, 115, 116]⟩ : ByteArray), (⟨#[116, 114, 101, 101]⟩ : ByteArray), (⟨#[115, 116, 97, 114]⟩ : ByteArray), (⟨#[114, 97, 116, 115]⟩ : ByteArray), (⟨#[97, 114, 116, 115]⟩ : ByteArray), (⟨#[101, 97, 115, 116]⟩ : ByteArray), (⟨#[115, 101, 97, 116]⟩ : ByteArray), (⟨#[116, 101, 97, 115]⟩ : ByteArray), (⟨#[110, 101, 116, 115]⟩ : ByteArray), (⟨#[116, 101, 110, 115]⟩ : ByteArray), (⟨#[115, 101, 110, 116]⟩ : ByteArray), (⟨#[116, 114, 97, 99, 101]⟩ : ByteArray), (⟨#[114, 101, 97, 99, 116]⟩ : ByteArray), (⟨#[99, 114, 97, 116, 101]⟩ : ByteArray), (⟨#[115, 116, 97, 114, 101]⟩ : ByteArray), (⟨#[116, 101, 97, 114, 115]⟩ : ByteArray)], x.size ≤ 5 := by decide
  exact hall s hs
theorem spec_l4Any_some (l : List Int) (i h : Int) (h0 : 0 ≤ i ∧ i ≤ l.length) (hl : l.length ≤ 1048576) : ∃ (s : ByteArray) (i' h' : Int), spec_l4Any.f l i h = some (s, i', h') ∧ s.size ≤ 10 ∧ (0 ≤ i' ∧ i' ≤ l.length) := by
  unfold spec_l4Any.f
  obtain ⟨w, i1, g1, e1, hw, hi1⟩ := spec_l4Word_some l i h h0 hl
  rw [e1, Option.bind_some, if_pos (by show w.size + 1 ≤ _; omega)]
  obtain ⟨s, i2, g2, e2, hs, hi2⟩ := spec_l1Str_some l i1 g1 [w, w, w, w, w, (⟨#[]⟩ : ByteArray), (⟨#[65]⟩ : ByteArray), (⟨#[97, 32, 98]⟩ : ByteArray), (⟨#[116, 111, 111, 108, 111, 110, 103, 101, 114]⟩ : ByteArray), (⟨#[116, 111, 111, 108, 111, 110, 103]⟩ : ByteArray), w ++ (⟨#[63]⟩ : ByteArray), (⟨#[122]⟩ : ByteArray)] hi1 hl (by simp) (by simp)
  show ∃ (s : ByteArray) (i' h' : Int), ((spec_l1Str.f l i1 g1 [w, w, w, w, w, (⟨#[]⟩ : ByteArray), (⟨#[65]⟩ : ByteArray), (⟨#[97, 32, 98]⟩ : ByteArray), (⟨#[116, 111, 111, 108, 111, 110, 103, 101, 114]⟩ : ByteArray), (⟨#[116, 111, 111, 108, 111, 110, 103]⟩ : ByteArray), w ++ (⟨#[63]⟩ : ByteArray), (⟨#[122]⟩ : ByteArray)]).bind _) = _ ∧ _
  rw [e2, Option.bind_some]
  refine ⟨_, _, _, rfl, ?_, hi2⟩
  show s.size ≤ 10
  simp only [List.mem_cons, List.not_mem_nil, or_false] at hs
  rcases hs with rfl | rfl | rfl | rfl | rfl | rfl | rfl | rfl | rfl | rfl | rfl | rfl
  · omega
  · omega
  · omega
  · omega
  · omega
  · decide
  · decide
  · decide
  · decide
  · decide
  · rw [ByteArray.size_append]
    have : (⟨#[63]⟩ : ByteArray).size = 1 := rfl
    omega
  · decide
theorem laws_big_eq (l : List Int) : laws_big.f l = some (decide ((l.length : Int) > 1048576)) := rfl

/-! ### parts -/
def headM (s : ByteArray) : ByteArray := if wordM s then s.extract 0 1 else ⟨#[]⟩
theorem impl_HeadOf_ev (s : ByteArray) (hs : s.size ≤ 140737488351232) : Ev (fun k => impl_HeadOf.f k s) (headM s) := by
  unfold impl_HeadOf.f headM
  refine ev_bind (impl_IsWord_ev s hs) ?_
  by_cases h : wordM s = true
  · have := wordM_size h
    exact ev_pos h (ev_pos (by omega) (ev_pos (by omega) (ev_now (if_pos h).symm)))
  · exact ev_neg h (ev_now (if_neg h).symm)
def noHeadM (s : ByteArray) : ByteArray := if wordM s then s.extract 1 s.size else ⟨#[]⟩
theorem impl_WithoutHead_ev (s : ByteArray) (hs : s.size ≤ 140737488351232) : Ev (fun k => impl_WithoutHead.f k s) (noHeadM s) := by
  unfold impl_WithoutHead.f noHeadM
  refine ev_bind (impl_IsWord_ev s hs) ?_
  by_cases h : wordM s = true
  · have := wordM_size h
    exact ev_pos h (ev_pos (by omega) (ev_now (if_pos h).symm))
  · exact ev_neg h (ev_now (if_neg h).symm)
def noTailM (s : ByteArray) : ByteArray := if wordM s then s.extract 0 (s.size - 1) else ⟨#[]⟩
theorem impl_WithoutTail_ev (s : ByteArray) (hs : s.size ≤ 140737488351232) : Ev (fun k => impl_WithoutTail.f k s) (noTailM s) := by
  unfold impl_WithoutTail.f noTailM
  refine ev_bind (impl_IsWord_ev s hs) ?_
  by_cases h : wordM s = true
  · have := wordM_size h
    rw [wrap64_id (by omega) (by omega)]
    exact ev_pos h (ev_pos (by omega) (ev_pos (by omega) (ev_now (by rw [if_pos h, show ((s.size : Int) - 1).toNat = s.size - 1 by omega]))))
  · exact ev_neg h (ev_now (if_neg h).symm)

/-! ### choices -/
theorem rd_rows_get {l : List (List ByteArray)} {i : Nat} (h : i < l.length) : rd_L2 l (i : Int) = l[i] := by
  unfold rd_L2
  simp [h]

/-! ### splits -/
/-- A word, parted at a place. -/
def partAt (w : ByteArray) (i : Nat) : List ByteArray := [w.extract 0 i, w.extract i w.size]
def splitsM (w : ByteArray) : List (List ByteArray) := if wordM w then (List.range' 1 (w.size - 1)).map (partAt w) else []
theorem splitsM_length (w : ByteArray) : (splitsM w).length ≤ 8 := by
  unfold splitsM
  split
  · rename_i h
    have := wordM_size h
    simp
    omega
  · simp
theorem splitsM_two {w : ByteArray} {y : List ByteArray} (h : y ∈ splitsM w) : y.length = 2 := by
  unfold splitsM at h
  split at h
  · obtain ⟨i, _, rfl⟩ := List.mem_map.1 h
    rfl
  · cases h
theorem impl_SplitsOf_l0_ev (w : ByteArray) (hw : wordM w = true) : ∀ i : Nat, i ≤ w.size → ∀ acc : List (List ByteArray), acc.length ≤ i → Ev (fun k => impl_SplitsOf.l0 k w acc i) (acc ++ (List.range' i (w.size - i)).map (partAt w)) := by
  have hs := wordM_size hw
  refine down w.size ?_ ?_
  · intro i h hi acc ha
    apply ev_succ
    simp only [impl_SplitsOf.l0]
    rw [range_nil h]
    exact ev_neg (by omega) (ev_now (by simp))
  · intro i h ih hi acc ha
    apply ev_succ
    simp only [impl_SplitsOf.l0]
    rw [range_cons h, wrap64_id (n := (i : Int) + 1) (by omega) (by omega), succ_cast, show (i : Int).toNat = i by omega]
    exact ev_pos (by omega) (ev_pos (by omega) (ev_pos (by omega) (ev_pos (by omega) (ev_eq (ih (by omega) _ (by simp; omega)) (by simp [partAt])))))
theorem impl_SplitsOf_ev (w : ByteArray) (hs : w.size ≤ 1048576) : Ev (fun k => impl_SplitsOf.f k w) (splitsM w) := by
  unfold impl_SplitsOf.f splitsM
  refine ev_bind (impl_IsWord_ev w (by omega)) ?_
  by_cases hw : wordM w = true
  · rw [if_pos hw]
    exact ev_pos hw (ev_eq (impl_SplitsOf_l0_ev w hw 1 (wordM_size hw).1 [] (by simp)) (by simp))
  · rw [if_neg hw]
    exact ev_neg hw (ev_now rfl)

/-! ### once -/
/-- Each word once, in order. -/
def onceM : List ByteArray → List ByteArray → List ByteArray
  | acc, [] => acc
  | acc, s :: r => if s ∈ acc then onceM acc r else onceM (acc ++ [s]) r
theorem onceM_length : ∀ (l acc : List ByteArray), (onceM acc l).length ≤ acc.length + l.length
  | [], acc => by simp [onceM]
  | s :: r, acc => by
    unfold onceM
    split
    · have := onceM_length r acc
      simp only [List.length_cons]; omega
    · have := onceM_length r (acc ++ [s])
      simp only [List.length_cons, List.length_append, List.length_nil] at this ⊢; omega
theorem slices_Index_string_string_l0_ev (l : List ByteArray) (w : ByteArray) (hl : l.length ≤ 9223372036854775806) : ∀ i : Nat, i ≤ l.length → ∃ r : Int, Ev (fun k => slices_Index_string_string.l0 k l w l.length i) r ∧ decide (r ≥ 0) = decide (w ∈ l.drop i) := by
  refine down l.length ?_ ?_
  · intro i h hi
    refine ⟨-1, ?_, by rw [List.drop_eq_nil_of_le h]; simp⟩
    apply ev_succ
    simp only [slices_Index_string_string.l0]
    exact ev_neg (by omega) (ev_now rfl)
  · intro i h ih hi
    by_cases he : w.toList = l[i].toList
    · refine ⟨i, ?_, by rw [List.drop_eq_getElem_cons h]; simp [-List.getElem_cons_drop, toList_inj.1 he]⟩
      apply ev_succ
      simp only [slices_Index_string_string.l0]
      rw [rdOf_get h]
      exact ev_pos (by omega) (ev_pos (by omega) (ev_pos (by omega) (ev_pos he (ev_now rfl))))
    · obtain ⟨r, hr, h1⟩ := ih (by omega)
      refine ⟨r, ?_, ?_⟩
      · apply ev_succ
        simp only [slices_Index_string_string.l0]
        rw [rdOf_get h, wrap64_id (n := (i : Int) + 1) (by omega) (by omega), succ_cast]
        exact ev_pos (by omega) (ev_pos (by omega) (ev_pos (by omega) (ev_neg he hr)))
      · rw [toList_inj] at he
        rw [h1, List.drop_eq_getElem_cons h]
        simp [-List.getElem_cons_drop, he]
theorem slices_Contains_string_string_ev (l : List ByteArray) (w : ByteArray) (hl : l.length ≤ 9223372036854775806) : Ev (fun k => slices_Contains_string_string.f k l w) (decide (w ∈ l)) := by
  unfold slices_Contains_string_string.f slices_Index_string_string.f
  obtain ⟨r, hr, h⟩ := slices_Index_string_string_l0_ev l w hl 0 (by omega)
  exact ev_bind hr (ev_now (by simpa using h))
theorem impl_once_l0_ev (l : List ByteArray) (hl : l.length ≤ 1048576) : ∀ i : Nat, i ≤ l.length → ∀ acc : List ByteArray, acc.length ≤ i → Ev (fun k => impl_once.l0 k acc l l.length i) (onceM acc (l.drop i)) := by
  refine down l.length ?_ ?_
  · intro i h hi acc ha
    apply ev_succ
    simp only [impl_once.l0]
    exact ev_neg (by omega) (ev_now (by rw [List.drop_eq_nil_of_le h]; rfl))
  · intro i h ih hi acc ha
    apply ev_succ
    simp only [impl_once.l0]
    rw [rdOf_get h, wrap64_id (n := (i : Int) + 1) (by omega) (by omega), succ_cast, List.drop_eq_getElem_cons h]
    unfold onceM
    refine ev_pos (by omega) (ev_pos (by omega) (ev_pos (by omega) (ev_bind (slices_Contains_string_string_ev acc l[i] (by omega)) ?_)))
    by_cases hm : l[i] ∈ acc
    · rw [if_pos hm]
      exact ev_pos (by simp [hm]) (ih (by omega) acc (by omega))
    · rw [if_neg hm]
      exact ev_neg (by simp [hm]) (ev_pos (by omega) (ih (by omega) (acc ++ [l[i]]) (by simp; omega)))
theorem impl_once_ev (l : List ByteArray) (hl : l.length ≤ 1048576) : Ev (fun k => impl_once.f k l) (onceM [] l) := by
  unfold impl_once.f
  exact ev_eq (impl_once_l0_ev l hl 0 (by omega) [] (by simp)) (by simp)

/-! ### insertions -/
/-- The inner word inserted at a place. -/
def piece (o n : ByteArray) (i : Nat) : ByteArray := (o.extract 0 i ++ n) ++ o.extract i o.size
def insL (o n : ByteArray) (i : Nat) : List ByteArray := (List.range' i (o.size - i)).map (piece o n)
def insM (o n : ByteArray) : List ByteArray := if wordM o && wordM n then onceM [] (insL o n 1) else []
theorem insL_cons {o n : ByteArray} {i : Nat} (h : i < o.size) : insL o n i = piece o n i :: insL o n (i + 1) := by
  unfold insL
  rw [range_cons h, List.map_cons]
theorem insL_nil {o n : ByteArray} {i : Nat} (h : o.size ≤ i) : insL o n i = [] := by
  unfold insL
  rw [range_nil h, List.map_nil]
theorem insL_length (o n : ByteArray) (i : Nat) : (insL o n i).length = o.size - i := by
  simp [insL]
theorem impl_Insertions_l0_ev (o n : ByteArray) (hw : wordM o = true) (hn : wordM n = true) : ∀ i : Nat, i ≤ o.size → ∀ acc : List ByteArray, acc.length ≤ i → Ev (fun k => impl_Insertions.l0 k o n acc i) (onceM [] (acc ++ insL o n i)) := by
  have ho := wordM_size hw
  have hn' := wordM_size hn
  refine down o.size ?_ ?_
  · intro i h hi acc ha
    apply ev_succ
    simp only [impl_Insertions.l0]
    rw [insL_nil h, List.append_nil]
    exact ev_neg (by omega) (ev_bind (impl_once_ev acc (by omega)) (ev_now rfl))
  · intro i h ih hi acc ha
    apply ev_succ
    simp only [impl_Insertions.l0]
    rw [insL_cons h, wrap64_id (n := (i : Int) + 1) (by omega) (by omega), succ_cast, show (i : Int).toNat = i by omega]
    refine ev_pos (by omega) (ev_pos (by omega) (ev_pos (by omega) (ev_pos (by simp [ByteArray.size_extract]; omega) (ev_pos (by simp [ByteArray.size_extract, ByteArray.size_append]; omega) (ev_pos (by omega) ?_)))))
    exact ev_eq (ih (by omega) _ (by simp; omega)) (by simp [piece])
theorem impl_Insertions_ev (o n : ByteArray) (ho : o.size ≤ 1048576) (hn : n.size ≤ 1048576) : Ev (fun k => impl_Insertions.f k o n) (insM o n) := by
  unfold impl_Insertions.f insM
  refine ev_bind (impl_IsWord_ev o (by omega)) ?_
  by_cases hw : wordM o = true
  · refine ev_pos hw (ev_bind (impl_IsWord_ev n (by omega)) (ev_succ ?_))
    simp only [impl_Insertions.j0]
    by_cases hw2 : wordM n = true
    · rw [hw, hw2]
      exact ev_neg (by simp) (impl_Insertions_l0_ev o n hw hw2 1 (wordM_size hw).1 [] (by simp))
    · rw [Bool.not_eq_true] at hw2
      rw [hw2]
      exact ev_pos (by simp) (ev_now (by simp))
  · refine ev_neg hw (ev_succ ?_)
    simp only [impl_Insertions.j0]
    rw [Bool.not_eq_true] at hw
    rw [hw]
    exact ev_pos (by simp) (ev_now (by simp))
theorem insM_length (o n : ByteArray) (h : o.size ≤ 1048576) : (insM o n).length ≤ 1048576 := by
  unfold insM
  split
  · have := onceM_length (insL o n 1) []
    rw [insL_length] at this
    simp at this
    omega
  · simp

/-! ### inside -/
/-- Does p stand in w from a place i on, with letters on both sides? -/
def insideFrom (p w : ByteArray) (i : Nat) : Bool := (List.range' i (w.size - p.size - i)).any fun j => decide ((w.extract j (j + p.size)).toList = p.toList)
def insideM (p w : ByteArray) : Bool := wordM p && (wordM w && insideFrom p w 1)
theorem impl_IsInside_l0_ev (p w : ByteArray) (hp : p.size ≤ 140737488351232) (hw : w.size ≤ 140737488351232) : ∀ i : Nat, i ≤ 140737488351232 → Ev (fun k => impl_IsInside.l0 k p w i) (insideFrom p w i) := by
  refine down (w.size - p.size) ?_ ?_
  · intro i h hi
    apply ev_succ
    simp only [impl_IsInside.l0]
    rw [wrap64_id (n := (i : Int) + p.size) (by omega) (by omega)]
    refine ev_neg (by omega) (ev_now ?_)
    unfold insideFrom
    rw [range_nil h]; rfl
  · intro i h ih hi
    apply ev_succ
    simp only [impl_IsInside.l0]
    rw [wrap64_id (n := (i : Int) + p.size) (by omega) (by omega), wrap64_id (n := (i : Int) + 1) (by omega) (by omega), succ_cast, show ((i : Int) + p.size).toNat = i + p.size by omega, show (i : Int).toNat = i by omega]
    refine ev_pos (by omega) (ev_pos (by omega) (ev_pos (by omega) (ev_pos (by omega) ?_)))
    unfold insideFrom at ih ⊢
    rw [range_cons h, List.any_cons]
    by_cases he : (w.extract i (i + p.size)).toList = p.toList
    · exact ev_pos he (ev_now (by simp [he]))
    · exact ev_neg he (ev_eq (ih (by omega)) (by simp [he]))
theorem impl_IsInside_ev (p w : ByteArray) (hp : p.size ≤ 140737488351232) (hw : w.size ≤ 140737488351232) : Ev (fun k => impl_IsInside.f k p w) (insideM p w) := by
  unfold impl_IsInside.f insideM
  refine ev_bind (impl_IsWord_ev p hp) ?_
  cases wordM p
  · refine ev_neg (by simp) (ev_succ ?_)
    simp only [impl_IsInside.j0]
    exact ev_pos (by simp) (ev_now rfl)
  · refine ev_pos rfl (ev_bind (impl_IsWord_ev w hw) (ev_succ ?_))
    simp only [impl_IsInside.j0]
    cases wordM w
    · exact ev_pos (by simp) (ev_now rfl)
    · exact ev_neg (by simp) (ev_eq (impl_IsInside_l0_ev p w hp hw 1 (by omega)) (by simp))

/-! ### back -/
def backM (s : ByteArray) : ByteArray := if 100 < s.size then ⟨#[]⟩ else ⟨s.data.reverse⟩
theorem impl_Backwards_eq (s : ByteArray) : impl_Backwards.f s = some (backM s) := rfl
theorem back_step (s acc : ByteArray) (i : Nat) (hi : i < s.size) (ha : acc.data.toList = (s.data.toList.take i).reverse) : (s.extract i (i + 1) ++ acc).data.toList = (s.data.toList.take (i + 1)).reverse := by
  have hl : i < s.data.toList.length := by simpa using hi
  rw [List.take_succ_eq_append_getElem hl, List.reverse_append, ← ha]
  have e : (s.extract i (i + 1)).data.toList = [s.data.toList[i]] := by
    rw [ByteArray.data_extract, Array.toList_extract]
    simp only [List.extract]
    rw [show i + 1 - i = 1 by omega, List.drop_eq_getElem_cons hl]
    rfl
  rw [ByteArray.data_append, Array.toList_append, e]
  rfl

/-! ### fnparts_back -/
theorem dl_ext (s : ByteArray) (a b : Nat) : (s.extract a b).data.toList = (s.data.toList.drop a).take (b - a) := by
  rw [ByteArray.data_extract, Array.toList_extract]
theorem dl_app (s t : ByteArray) : (s ++ t).data.toList = s.data.toList ++ t.data.toList := by rw [ByteArray.data_append, Array.toList_append]
theorem dl_len (s : ByteArray) : s.data.toList.length = s.size := by simp
theorem ba_ext {s t : ByteArray} (h : s.data.toList = t.data.toList) : s = t := ByteArray.ext (Array.ext' h)
theorem part_join (w : ByteArray) (i : Nat) : w.extract 0 i ++ w.extract i w.size = w := by
  apply ba_ext
  rw [dl_app, dl_ext, dl_ext, List.drop_zero, Nat.sub_zero, List.take_of_length_le (l := w.data.toList.drop i) (by rw [List.length_drop, dl_len]; exact Nat.le_refl _), List.take_append_drop]
theorem bt_dl {s : ByteArray} {i : Nat} (h : i < s.data.toList.length) : bt s (i : Int) = ((s.data.toList[i]).toNat : Int) := by
  have h' : i < s.size := by rw [← dl_len]; exact h
  unfold bt
  rw [dif_pos (by simpa using h')]
  rfl
theorem back_dl {w : ByteArray} (h : w.size ≤ 100) : (backM w).data.toList = w.data.toList.reverse := by
  unfold backM
  rw [if_neg (by omega)]
  exact Array.toList_reverse ..
theorem back_size {w : ByteArray} (h : w.size ≤ 100) : (backM w).size = w.size := by
  rw [← dl_len, back_dl h, List.length_reverse, dl_len]

/-! ### fnparts -/
theorem wordM_dl {s : ByteArray} : wordM s = true ↔ (1 ≤ s.size ∧ s.size ≤ 8) ∧ ∀ u ∈ s.data.toList, isL (u.toNat : Int) = true := by
  unfold wordM
  rw [Bool.and_eq_true, decide_eq_true_eq, List.all_eq_true]
  constructor
  · rintro ⟨h1, h2⟩
    refine ⟨h1, fun u hu => ?_⟩
    obtain ⟨i, hi, rfl⟩ := List.getElem_of_mem hu
    rw [← bt_dl hi]
    exact h2 i (by rw [List.mem_range']; exact ⟨i, by rw [dl_len] at hi; omega, by omega⟩)
  · rintro ⟨h1, h2⟩
    refine ⟨h1, fun j hj => ?_⟩
    rw [List.mem_range'] at hj
    obtain ⟨q, hq, rfl⟩ := hj
    have hl : 0 + 1 * q < s.data.toList.length := by rw [dl_len]; omega
    rw [bt_dl hl]
    exact h2 _ (List.getElem_mem hl)
theorem back_word {w : ByteArray} (h : wordM w = true) : wordM (backM w) = true := by
  have hs := wordM_size h
  obtain ⟨h1, h2⟩ := wordM_dl.1 h
  refine wordM_dl.2 ⟨by rw [back_size (by omega)]; exact h1, fun u hu => h2 u ?_⟩
  rw [back_dl (by omega)] at hu
  exact List.mem_reverse.1 hu
theorem head_join {w : ByteArray} (h : wordM w = true) : headM w ++ noHeadM w = w := by
  unfold headM noHeadM
  rw [if_pos h, if_pos h]
  exact part_join w 1
theorem tail_join {w : ByteArray} (h : wordM w = true) : noTailM w ++ headM (backM w) = w := by
  have hs := wordM_size h
  unfold headM noTailM
  rw [if_pos h, if_pos (back_word h)]
  apply ba_ext
  rw [dl_app, dl_ext, dl_ext, back_dl (by omega), List.drop_zero, List.drop_zero, Nat.sub_zero, Nat.sub_zero, ← dl_len]
  have hne : w.data.toList ≠ [] := by
    intro e
    have := dl_len w
    rw [e] at this
    simp at this
    omega
  obtain ⟨init, x, e⟩ : ∃ init x, w.data.toList = init ++ [x] := ⟨w.data.toList.dropLast, w.data.toList.getLast hne, (List.dropLast_concat_getLast hne).symm⟩
  rw [e]
  simp
theorem splits_get {w : ByteArray} {i : Nat} (h : i < (splitsM w).length) : wordM w = true ∧ i + 1 < w.size ∧ (splitsM w)[i] = partAt w (i + 1) := by
  unfold splitsM at h ⊢
  by_cases hw : wordM w = true
  · simp only [hw, if_true, List.length_map, List.length_range', List.getElem_map, List.getElem_range'] at h ⊢
    refine ⟨trivial, by omega, ?_⟩
    rw [Nat.one_mul, Nat.add_comm]
  · rw [if_neg hw] at h
    simp at h
theorem ins_mem {a b x : ByteArray} (h : x ∈ insM a b) : wordM a = true ∧ wordM b = true ∧ ∃ j, 1 ≤ j ∧ j < a.size ∧ x = piece a b j := by
  unfold insM at h
  by_cases hw : (wordM a && wordM b) = true
  · rw [if_pos hw] at h
    rw [Bool.and_eq_true] at hw
    have hm : ∀ (l acc : List ByteArray) (w : ByteArray), w ∈ onceM acc l → w ∈ acc ∨ w ∈ l := by
      intro l
      induction l with
      | nil => intro acc w h; exact .inl h
      | cons y l ih =>
        intro acc w h
        unfold onceM at h
        split at h
        · rcases ih _ _ h with h | h
          · exact .inl h
          · exact .inr (List.mem_cons_of_mem _ h)
        · rcases ih _ _ h with h | h
          · rcases List.mem_append.1 h with h | h
            · exact .inl h
            · rw [List.mem_singleton.1 h]; exact .inr List.mem_cons_self
          · exact .inr (List.mem_cons_of_mem _ h)
    rcases hm _ _ _ h with h | h
    · cases h
    · unfold insL at h
      obtain ⟨j, hj, rfl⟩ := List.mem_map.1 h
      rw [List.mem_range'] at hj
      obtain ⟨q, hq, rfl⟩ := hj
      exact ⟨hw.1, hw.2, 1 + 1 * q, by omega, by omega, rfl⟩
  · rw [if_neg hw] at h
    cases h
theorem piece_size {a b : ByteArray} {j : Nat} (h : j ≤ a.size) : (piece a b j).size = a.size + b.size := by
  unfold piece
  rw [ByteArray.size_append, ByteArray.size_append, ByteArray.size_extract, ByteArray.size_extract]
  omega
theorem piece_first {a b : ByteArray} {j : Nat} (h1 : 1 ≤ j) (h2 : j < a.size) : (piece a b j).extract 0 1 = a.extract 0 1 := by
  apply ba_ext
  unfold piece
  rw [dl_ext, dl_app, dl_app, dl_ext, dl_ext, dl_ext]
  simp only [List.drop_zero, Nat.sub_zero]
  have hl := dl_len a
  rw [List.append_assoc, List.take_append_of_le_length (by rw [List.length_take]; omega), List.take_take, Nat.min_eq_left h1]
theorem piece_mid {a b : ByteArray} {j : Nat} (h2 : j < a.size) : (piece a b j).extract j (j + b.size) = b := by
  apply ba_ext
  have hl := dl_len a
  have hb := dl_len b
  have e1 : (a.data.toList.take j).length = j := by rw [List.length_take]; omega
  unfold piece
  rw [dl_ext, dl_app, dl_app, dl_ext, dl_ext, List.drop_zero, Nat.sub_zero, List.append_assoc, List.drop_append_of_le_length (by omega), List.drop_of_length_le (by omega), List.nil_append, show j + b.size - j = b.data.toList.length by omega, List.take_left]
theorem piece_inside {a b : ByteArray} {j : Nat} (hb : wordM b = true) (h1 : 1 ≤ j) (h2 : j < a.size) (hw : wordM (piece a b j) = true) : insideM b (piece a b j) = true := by
  unfold insideM insideFrom
  rw [hb, hw, Bool.true_and, Bool.true_and, List.any_eq_true]
  refine ⟨j, ?_, by rw [piece_mid h2]; exact decide_eq_true rfl⟩
  rw [List.mem_range']
  have := piece_size (b := b) (Nat.le_of_lt h2)
  exact ⟨j - 1, by omega, by omega⟩
theorem inside_two {p x : ByteArray} (h : insideM p x = true) : p.size + 2 ≤ x.size := by
  unfold insideM insideFrom at h
  rw [Bool.and_eq_true, Bool.and_eq_true, List.any_eq_true] at h
  obtain ⟨_, _, j, hj, _⟩ := h
  rw [List.mem_range'] at hj
  obtain ⟨q, hq, rfl⟩ := hj
  omega
theorem spec_DrawHeadOf_ev (l : List Int) (hl : l.length ≤ 1048576) : ∃ w : ByteArray, w.size ≤ 10 ∧ Ev (fun k => spec_DrawHeadOf.f k l) w := by
  obtain ⟨h, hn⟩ := spec_l1New_ev l hl
  obtain ⟨w, i1, g1, e1, hw, _⟩ := spec_l4Any_some l 0 h ⟨by omega, by omega⟩ hl
  refine ⟨w, hw, ?_⟩
  unfold spec_DrawHeadOf.f spec_DrawIsWord.f
  exact ev_bind (ev_bind hn (ev_let e1 (ev_now rfl))) (ev_now rfl)
theorem spec_DrawInsertions_ev (l : List Int) (hl : l.length ≤ 1048576) : ∃ a b : ByteArray, (a.size ≤ 10 ∧ b.size ≤ 10) ∧ Ev (fun k => spec_DrawInsertions.f k l) (a, b) := by
  obtain ⟨h, hn⟩ := spec_l1New_ev l hl
  obtain ⟨a, i1, g1, e1, ha, hi1⟩ := spec_l4Any_some l 0 h ⟨by omega, by omega⟩ hl
  obtain ⟨b, i2, g2, e2, hb, _⟩ := spec_l4Any_some l i1 g1 hi1 hl
  refine ⟨a, b, ⟨ha, hb⟩, ?_⟩
  unfold spec_DrawInsertions.f
  exact ev_bind hn (ev_let e1 (ev_let e2 (ev_now rfl)))
theorem spec_DrawIsInside_ev (l : List Int) (hl : l.length ≤ 1048576) : ∃ p x : ByteArray, (p.size ≤ 10 ∧ x.size ≤ 10) ∧ Ev (fun k => spec_DrawIsInside.f k l) (p, x) := by
  obtain ⟨h, hn⟩ := spec_l1New_ev l hl
  obtain ⟨x, i1, g1, e1, hx, hi1⟩ := spec_l4Any_some l 0 h ⟨by omega, by omega⟩ hl
  obtain ⟨p, i2, g2, e2, hp, hi2⟩ := spec_l4Any_some l i1 g1 hi1 hl
  unfold spec_DrawIsInside.f
  have no : ∀ i h : Int, Ev (fun k => spec_DrawIsInside.j0 k x p false l i h) (p, x) := by
    intro i h
    apply ev_succ
    simp only [spec_DrawIsInside.j0]
    exact ev_neg (by simp) (ev_now rfl)
  by_cases hw : wordM x = true
  · by_cases h2 : (x.size : Int) > 2
    · obtain ⟨z, i3, g3, e3, _, hi3⟩ := spec_l1Below_some l i2 g2 2 hi2 hl (by omega)
      have e4 : spec_l1Once.f l i2 g2 2 = some ((z == 0), i3, g3) := by
        unfold spec_l1Once.f
        rw [e3]
        rfl
      cases hz : (z == 0) with
      | false =>
        rw [hz] at e4
        exact ⟨p, x, ⟨hp, hx⟩, ev_bind hn (ev_let e1 (ev_let e2 (ev_bind (spec_IsWord_ev x (by omega)) (ev_pos hw (ev_pos h2 (ev_let e4 (no _ _)))))))⟩
      | true =>
        rw [hz] at e4
        obtain ⟨a, i5, g5, e5, ha, hi5⟩ := spec_l1Below_some l i3 g3 ((x.size : Int) - 1) hi3 hl (by omega)
        have ha1 := ha.2.1 (by omega)
        obtain ⟨b, i6, g6, e6, hb, hi6⟩ := spec_l1Below_some l i5 g5 ((x.size : Int) - a) hi5 hl (by omega)
        have hb1 := hb.2.1 (by omega)
        obtain ⟨an, rfl⟩ := Int.eq_ofNat_of_zero_le ha.1
        obtain ⟨bn, rfl⟩ := Int.eq_ofNat_of_zero_le hb.1
        refine ⟨x.extract an (an + 1 + bn), x, ⟨by rw [ByteArray.size_extract]; omega, hx⟩, ev_bind hn (ev_let e1 (ev_let e2 (ev_bind (spec_IsWord_ev x (by omega)) (ev_pos hw (ev_pos h2 (ev_let e4 (ev_succ ?_)))))))⟩
        simp only [spec_DrawIsInside.j0]
        rw [wrap64_id (n := (x.size : Int) - 1) (by omega) (by omega)]
        refine ev_pos trivial (ev_let e5 ?_)
        show Ev (fun n => (spec_l1Below.f l i5 g5 (wrap64 ((x.size : Int) - (an : Int)))).bind _) _
        rw [wrap64_id (n := (x.size : Int) - (an : Int)) (by omega) (by omega)]
        refine ev_let e6 ?_
        show Ev (fun n => if 0 ≤ (an : Int) then (if (an : Int) ≤ wrap64 (wrap64 ((an : Int) + 1) + (bn : Int)) then (if wrap64 (wrap64 ((an : Int) + 1) + (bn : Int)) ≤ (x.size : Int) then some (x.extract ((an : Int)).toNat (wrap64 (wrap64 ((an : Int) + 1) + (bn : Int))).toNat, x) else none) else none) else none) _
        rw [wrap64_id (n := (an : Int) + 1) (by omega) (by omega), wrap64_id (n := (an : Int) + 1 + (bn : Int)) (by omega) (by omega), Int.toNat_natCast, show ((an : Int) + 1 + (bn : Int)).toNat = an + 1 + bn by omega]
        exact ev_pos (by omega) (ev_pos (by omega) (ev_pos (by omega) (ev_now rfl)))
    · exact ⟨p, x, ⟨hp, hx⟩, ev_bind hn (ev_let e1 (ev_let e2 (ev_bind (spec_IsWord_ev x (by omega)) (ev_pos hw (ev_neg h2 (no _ _))))))⟩
  · exact ⟨p, x, ⟨hp, hx⟩, ev_bind hn (ev_let e1 (ev_let e2 (ev_bind (spec_IsWord_ev x (by omega)) (ev_neg hw (no _ _)))))⟩

/-! ### the law -/
theorem parts_all (w : ByteArray) (hw : w.size ≤ 10) : ∀ i : Nat, partsAll w ((splitsM w).drop i) i = true := by
  refine down (splitsM w).length ?_ ?_
  · intro i h
    rw [List.drop_eq_nil_of_le h]
    rfl
  · intro i h ih
    obtain ⟨_, h1, he⟩ := splits_get h
    rw [List.drop_eq_getElem_cons h, partsAll_cons, ih, Bool.and_true, he]
    have e0 : (partAt w (i + 1)).getD 0 ⟨#[]⟩ = w.extract 0 (i + 1) := rfl
    have e1 : (partAt w (i + 1)).getD 1 ⟨#[]⟩ = w.extract (i + 1) w.size := rfl
    have z0 : (w.extract 0 (i + 1)).size = i + 1 := by rw [ByteArray.size_extract]; omega
    have z1 : (w.extract (i + 1) w.size).size ≤ 10 := by rw [ByteArray.size_extract]; omega
    unfold partsRow
    rw [e0, e1, part_join, Bool.and_eq_true, decide_eq_true_eq, decide_eq_true_eq]
    exact ⟨rfl, by omega, rfl, z0⟩
theorem ins_go (a b : ByteArray) (ha : a.size ≤ 10) (hb : b.size ≤ 10) : ∀ l : List ByteArray, (∀ x ∈ l, x ∈ insM a b) → Ev (fun k => insGo k a b l) true
  | [], _ => ev_now rfl
  | x :: l, h => by
    obtain ⟨hwa, hwb, j, h1, h2, he⟩ := ins_mem (h x (by simp))
    have hs := piece_size (b := b) (Nat.le_of_lt h2)
    have hf := piece_first (b := b) h1 h2
    have ih := ins_go a b ha hb l (fun y hy => h y (by simp [hy]))
    simp only [insGo_cons]
    rw [he]
    refine ev_bind (impl_IsWord_ev _ (by omega)) (ev_pos ⟨by omega, by omega, by omega, by rw [hf]⟩ ?_)
    by_cases hw : wordM (piece a b j) = true
    · exact ev_pos hw (ev_bind (impl_IsInside_ev b _ (by omega) (by omega)) (ev_pos (piece_inside hwb h1 h2 hw) ih))
    · exact ev_neg hw ih
theorem parts_rest (l : List Int) (hl : l.length ≤ 1048576) (w : ByteArray) (hw : w.size ≤ 10) : Ev (fun k => laws_FnParts.rest k l w) true := by
  obtain ⟨a, b, hab, hd⟩ := spec_DrawInsertions_ev l hl
  obtain ⟨p, x, hpx, hd2⟩ := spec_DrawIsInside_ev l hl
  have h1 := splitsM_length w
  have h2 : (insM a b).length ≤ 1048576 := insM_length a b (by omega)
  have h3 : (insM a b).length ≤ 1000 := by
    unfold insM
    split
    · have := onceM_length (insL a b 1) []
      have e : (insL a b 1).length = a.size - 1 := by unfold insL; rw [List.length_map, List.length_range']
      rw [e] at this
      simp at this
      omega
    · simp
  unfold laws_FnParts.rest
  refine ev_bind (impl_SplitsOf_ev w (by omega)) (ev_pos ⟨by omega, by have := parts_all w hw 0; rwa [List.drop_zero] at this⟩ (ev_bind hd (ev_bind (impl_Insertions_ev a b (by omega) (by omega)) (ev_pos ⟨by omega, by show a.size + b.size ≤ 1000; omega⟩ (ev_bind (ins_go a b hab.1 hab.2 _ (fun _ h => h)) (ev_pos rfl (ev_bind hd2 (ev_bind (impl_IsInside_ev p x (by omega) (by omega)) ?_))))))))
  by_cases hin : insideM p x = true
  · have h4 := inside_two hin
    refine ev_pos ?_ (ev_now rfl)
    rw [if_pos hin]
    exact ⟨h4, by show x.size ≤ 1000; omega⟩
  · refine ev_pos ?_ (ev_now rfl)
    rw [if_neg hin]
    trivial
theorem FnParts : laws_FnParts.Pure := by
  intro l _ _ _
  apply Ev.rounds
  unfold laws_FnParts.f
  refine ev_let (laws_big_eq l) ?_
  by_cases hb : (l.length : Int) > 1048576
  · exact ev_pos (decide_eq_true hb) (ev_now rfl)
  · have hl : l.length ≤ 1048576 := by omega
    obtain ⟨w, hw10, hd⟩ := spec_DrawHeadOf_ev l hl
    have hr := parts_rest l hl w hw10
    unfold laws_FnParts.g
    refine ev_neg (by simpa using hb) (ev_bind hd (ev_bind (impl_IsWord_ev w (by omega)) (ev_bind (spec_IsWord_ev w (by omega)) (ev_pos rfl ?_))))
    by_cases h : wordM w = true
    · have hs := wordM_size h
      have e1 := head_join h
      have e2 := tail_join h
      have n1 : (headM w).size + (noHeadM w).size = w.size := by rw [← ByteArray.size_append, e1]
      have n2 : (noTailM w).size + (headM (backM w)).size = w.size := by rw [← ByteArray.size_append, e2]
      have n3 := back_size (w := w) (by omega)
      exact ev_pos h (ev_bind (impl_HeadOf_ev w (by omega)) (ev_bind (impl_WithoutHead_ev w (by omega)) (ev_bind (impl_WithoutTail_ev w (by omega)) (ev_let (impl_Backwards_eq w) (ev_bind (impl_HeadOf_ev (backM w) (by omega)) (ev_pos ⟨⟨by omega, by rw [e1]⟩, by omega, by rw [e2]⟩ hr))))))
    · exact ev_neg h hr

end Go.Proofs.Ytodcckiphdnjeab.Pure
