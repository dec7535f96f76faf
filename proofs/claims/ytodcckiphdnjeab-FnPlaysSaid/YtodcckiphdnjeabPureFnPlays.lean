/-
  The law FnPlays over numbers and lists: for every code, what the drawn wordplay makes follows from what its parts make.
  Conditions: none.
-/
import Derived.Test.YtodcckiphdnjeabQFnPlaysx
namespace Go.Proofs.Ytodcckiphdnjeab.Pure
open Go.RowKit Go.Proofs.Ytodcckiphdnjeab.QFnPlays Go.Proofs.YtodcckiphdnjeabW.PrintWords Go.Proofs.YtodcckiphdnjeabW.PrintLast Go.Proofs.YtodcckiphdnjeabW.PrintMore
set_option linter.unusedVariables false
set_option linter.unusedSimpArgs false

/-! ### base -/
theorem wrap64_id {n : Int} (h : -9223372036854775808 ≤ n) (h' : n ≤ 9223372036854775807) : wrap64 n = n := by
  unfold wrap64
  omega
section
variable {α β : Type}
theorem ev_succ {g : Nat → Option α} {r : α} (h : Ev (fun k => g (k + 1)) r) : Ev g r := Ev.step (fun _ => rfl) h
theorem ev_pos {c : Prop} [Decidable c] {g f : Nat → Option α} {r : α} (h : c) (k : Ev g r) : Ev (fun n => if c then g n else f n) r := by
  simpa only [if_pos h] using k
theorem ev_neg {c : Prop} [Decidable c] {g f : Nat → Option α} {r : α} (h : ¬ c) (k : Ev f r) : Ev (fun n => if c then g n else f n) r := by
  simpa only [if_neg h] using k
theorem ev_now {a r : α} (h : a = r) : Ev (fun _ => some a) r := h ▸ Ev.now a
theorem ev_let {o : Option β} {a : β} {f : Nat → β → Option α} {r : α} (h : o = some a) (k : Ev (fun n => f n a) r) : Ev (fun n => o.bind (f n)) r := by
  subst h
  exact k
theorem ev_bind {g : Nat → Option β} {f : Nat → β → Option α} {a : β} {r : α} (h : Ev g a) (k : Ev (fun n => f n a) r) : Ev (fun n => (g n).bind (f n)) r := Ev.bind h k
theorem ev_eq {g : Nat → Option α} {a r : α} (h : Ev g a) (e : a = r) : Ev g r := e ▸ h
end
/-- From the end of a loop back to a round: P holds from n on, and a round below n may use the next. -/
theorem down {P : Nat → Prop} (n : Nat) (hend : ∀ i, n ≤ i → P i) (hstep : ∀ i, i < n → P (i + 1) → P i) : ∀ i, P i := by
  intro i
  rcases Nat.lt_or_ge i n with h | h
  · obtain ⟨d, hd⟩ : ∃ d, n = i + d := ⟨n - i, by omega⟩
    induction d generalizing i with
    | zero => omega
    | succ d ih =>
      refine hstep i h ?_
      rcases Nat.lt_or_ge (i + 1) n with h1 | h1
      · exact ih (i + 1) h1 (by omega)
      · exact hend _ h1
  · exact hend i h
theorem range_cons {i n : Nat} (h : i < n) : List.range' i (n - i) = i :: List.range' (i + 1) (n - (i + 1)) := by
  obtain ⟨d, hd⟩ : ∃ d, n - i = d + 1 := ⟨n - i - 1, by omega⟩
  rw [hd, List.range'_succ, show n - (i + 1) = d by omega]
theorem range_nil {i n : Nat} (h : n ≤ i) : List.range' i (n - i) = [] := by
  rw [show n - i = 0 by omega]
  rfl
theorem succ_cast (i : Nat) : ((i : Int) + 1) = ((i + 1 : Nat) : Int) := by omega

/-! ### lists -/
theorem rdOf_get {α : Type} {d : α} {l : List α} {i : Nat} (h : i < l.length) : rdOf d l (i : Int) = l[i] := by
  unfold rdOf
  simp [h]
theorem rd_get {l : List Int} {i : Nat} (h : i < l.length) : rd l (i : Int) = l[i] := by
  unfold rd
  simp [h]
theorem toList_eq (s : ByteArray) : s.toList = s.data.toList := Go.ByteArray.toList_eq s
instance lawfulBA : LawfulBEq ByteArray where
  eq_of_beq {a b} h := ByteArray.ext (eq_of_beq (α := Array UInt8) h)
  rfl {a} := by
    show (a.data == a.data) = true
    simp
theorem toList_inj {a b : ByteArray} : a.toList = b.toList ↔ a = b := by
  constructor
  · intro h
    rw [toList_eq, toList_eq] at h
    cases a
    cases b
    simp only [ByteArray.mk.injEq]
    exact Array.toList_inj.1 h
  · intro h
    rw [h]
theorem set_known {α : Type} {l x : List α} {i : Nat} {a : α} (hi : i < l.length) (hx : x.length = l.length) (ha : a = l[i]) (h : ∀ j, j < i → x[j]? = l[j]?) : ∀ j, j < i + 1 → (x.set i a)[j]? = l[j]? := by
  intro j hj
  by_cases e : j = i
  · subst e
    rw [List.getElem?_set_self (by omega), ha, List.getElem?_eq_getElem hi]
  · rw [List.getElem?_set_ne (Ne.symm e)]
    exact h j (by omega)
theorem all_known {α : Type} {l x : List α} (hx : x.length = l.length) (h : ∀ j, j < l.length → x[j]? = l[j]?) : x = l := by
  apply List.ext_getElem?
  intro j
  by_cases hj : j < l.length
  · exact h j hj
  · rw [List.getElem?_eq_none (by omega), List.getElem?_eq_none (by omega)]

/-! ### word -/
/-- A byte is a small letter. -/
def isL (c : Int) : Bool := decide (97 ≤ c ∧ c ≤ 122)
/-- A word: one to eight small letters. -/
def wordM (s : ByteArray) : Bool := decide (1 ≤ s.size ∧ s.size ≤ 8) && (List.range' 0 (s.size - 0)).all fun j => isL (bt s j)
theorem spec_l1In_eq (a b c : Int) : spec_l1In.f a b c = some (decide (b ≤ a ∧ a ≤ c)) := by
  unfold spec_l1In.f
  by_cases h : b ≤ a
  · rw [if_pos h]; simp [h]
  · rw [if_neg h]; simp [h]
theorem impl_InRange_eq (a b c : Int) : impl_InRange.f a b c = some (decide (b ≤ a ∧ a ≤ c)) := by
  unfold impl_InRange.f
  by_cases h : b ≤ a
  · rw [if_pos h]; simp [h]
  · rw [if_neg h]; simp [h]
theorem impl_isLetter_eq (c : Int) : impl_isLetter.f c = some (isL c) := by
  unfold impl_isLetter.f isL
  by_cases h : c ≥ 97
  · rw [if_pos h]; congr 1; simp; omega
  · rw [if_neg h]; congr 1; simp; omega
theorem spec_IsWord_l0_ev (s : ByteArray) (hs : s.size ≤ 140737488351232) : ∀ i : Nat, i ≤ s.size → Ev (fun k => spec_IsWord.l0 k s i) ((List.range' i (s.size - i)).all fun j => isL (bt s j)) := by
  refine down s.size ?_ ?_
  · intro i h hi
    apply ev_succ
    simp only [spec_IsWord.l0]
    refine ev_neg (by omega) (ev_now ?_)
    rw [range_nil h]; rfl
  · intro i h ih hi
    apply ev_succ
    simp only [spec_IsWord.l0]
    rw [range_cons h, List.all_cons, wrap64_id (by omega) (by omega), succ_cast]
    refine ev_pos (by omega) (ev_pos (by omega) ?_)
    by_cases h1 : bt s i < 97
    · exact ev_pos h1 (ev_now (by simp [isL]; omega))
    · refine ev_neg h1 ?_
      by_cases h2 : bt s i > 122
      · exact ev_pos h2 (ev_now (by simp [isL]; omega))
      · refine ev_neg h2 (ev_eq (ih (by omega)) ?_)
        rw [show isL (bt s i) = true by simp [isL]; omega, Bool.true_and]
theorem impl_IsWord_l0_ev (s : ByteArray) (hs : s.size ≤ 140737488351232) : ∀ i : Nat, i ≤ s.size → Ev (fun k => impl_IsWord.l0 k s s.size i) ((List.range' i (s.size - i)).all fun j => isL (bt s j)) := by
  refine down s.size ?_ ?_
  · intro i h hi
    apply ev_succ
    simp only [impl_IsWord.l0]
    refine ev_neg (by omega) (ev_now ?_)
    rw [range_nil h]; rfl
  · intro i h ih hi
    apply ev_succ
    simp only [impl_IsWord.l0]
    rw [range_cons h, List.all_cons, wrap64_id (by omega) (by omega), succ_cast]
    refine ev_pos (by omega) (ev_pos (by omega) (ev_pos (by omega) (ev_let (impl_isLetter_eq _) ?_)))
    cases isL (bt s i)
    · exact ev_neg (by simp) (ev_now (by simp))
    · exact ev_pos rfl (ev_eq (ih (by omega)) (by simp))
theorem spec_IsWord_ev (s : ByteArray) (hs : s.size ≤ 140737488351232) : Ev (fun k => spec_IsWord.f k s) (wordM s) := by
  simp only [spec_IsWord.f]
  refine ev_let (spec_l1In_eq _ _ _) ?_
  by_cases h : 1 ≤ s.size ∧ s.size ≤ 8
  · refine ev_pos (by simp; omega) (ev_eq (spec_IsWord_l0_ev s hs 0 (by omega)) ?_)
    simp [wordM, h]
  · refine ev_neg (by simp; omega) (ev_now ?_)
    simp [wordM, h]
theorem impl_IsWord_ev (s : ByteArray) (hs : s.size ≤ 140737488351232) : Ev (fun k => impl_IsWord.f k s) (wordM s) := by
  simp only [impl_IsWord.f]
  refine ev_let (impl_InRange_eq _ _ _) ?_
  by_cases h : 1 ≤ s.size ∧ s.size ≤ 8
  · refine ev_pos (by simp; omega) (ev_eq (impl_IsWord_l0_ev s hs 0 (by omega)) ?_)
    simp [wordM, h]
  · refine ev_neg (by simp; omega) (ev_now ?_)
    simp [wordM, h]
theorem wordM_size {s : ByteArray} (h : wordM s = true) : 1 ≤ s.size ∧ s.size ≤ 8 := by
  simp only [wordM, Bool.and_eq_true, decide_eq_true_eq] at h
  exact h.1

/-! ### strs -/
def total (l : List ByteArray) : Nat := (l.map ByteArray.size).sum
theorem mem_total {l : List ByteArray} {x : ByteArray} (h : x ∈ l) : x.size ≤ total l := by
  induction l with
  | nil => cases h
  | cons a r ih =>
    have e : total (a :: r) = a.size + total r := rfl
    rcases List.mem_cons.1 h with rfl | h
    · omega
    · have := ih h
      omega
theorem total_drop {l : List ByteArray} {i : Nat} (h : i < l.length) : total (l.drop i) = l[i].size + total (l.drop (i + 1)) := by
  rw [List.drop_eq_getElem_cons h]
  rfl

/-! ### draw -/
/-! What is drawn of a code: bounds alone. -/
theorem and255 (y : Int) : 0 ≤ Go.bits .and .i64 y 255 ∧ Go.bits .and .i64 y 255 ≤ 255 := by
  have h := @Nat.and_le_right (BitVec.ofInt 64 y).toNat (BitVec.ofInt 64 255).toNat
  have e : (BitVec.ofInt 64 255).toNat = 255 := by decide
  have hb : Go.bits .and .i64 y 255 = IntKind.i64.wrap (((BitVec.ofInt 64 y).toNat &&& (BitVec.ofInt 64 255).toNat : Nat) : Int) := by
    show IntKind.i64.wrap (((BitVec.ofInt 64 y) &&& (BitVec.ofInt 64 255)).toNat : Int) = _
    rw [BitVec.toNat_and]
  rw [hb]
  rw [e] at h ⊢
  generalize (BitVec.ofInt 64 y).toNat &&& 255 = n at h ⊢
  simp [IntKind.wrap, IntKind.bits, IntKind.signed]
  omega
theorem spec_l1Byte_some (l : List Int) (i h : Int) (h0 : 0 ≤ i ∧ i ≤ l.length) (hl : l.length ≤ 1048576) : ∃ x i' h' : Int, spec_l1Byte.f l i h = some (x, i', h') ∧ (0 ≤ x ∧ x ≤ 255) ∧ (0 ≤ i' ∧ i' ≤ l.length) := by
  unfold spec_l1Byte.f
  by_cases hi : i < (l.length : Int)
  · rw [if_pos hi, if_pos h0.1]
    exact ⟨_, _, _, rfl, and255 _, by rw [wrap64_id (by omega) (by omega)]; omega⟩
  · rw [if_neg hi]
    exact ⟨_, _, _, rfl, and255 _, h0⟩
theorem spec_l1Below_some (l : List Int) (i h n : Int) (h0 : 0 ≤ i ∧ i ≤ l.length) (hl : l.length ≤ 1048576) (hn : n ≤ 16777216) : ∃ x i' h' : Int, spec_l1Below.f l i h n = some (x, i', h') ∧ (0 ≤ x ∧ (0 < n → x < n) ∧ (n ≤ 0 → x = 0)) ∧ (0 ≤ i' ∧ i' ≤ l.length) := by
  unfold spec_l1Below.f
  by_cases h1 : n ≤ 0
  · rw [if_pos h1]
    exact ⟨_, _, _, rfl, ⟨by omega, fun h => by omega, fun _ => rfl⟩, h0⟩
  · rw [if_neg h1]
    obtain ⟨x, i1, g1, e1, hx, hi1⟩ := spec_l1Byte_some l i h h0 hl
    by_cases h2 : n ≤ 256
    · rw [if_pos h2, e1, Option.bind_some, if_neg (by omega)]
      refine ⟨_, _, _, rfl, ⟨Int.tmod_nonneg _ hx.1, fun h => Int.tmod_lt_of_pos _ h, fun h => by omega⟩, hi1⟩
    · obtain ⟨y, i2, g2, e2, hy, hi2⟩ := spec_l1Byte_some l i1 g1 hi1 hl
      obtain ⟨z, i3, g3, e3, hz, hi3⟩ := spec_l1Byte_some l i2 g2 hi2 hl
      rw [if_neg h2, e1, Option.bind_some]
      show ∃ x i' h' : Int, ((spec_l1Byte.f l i1 g1).bind _) = _ ∧ _
      rw [e2, Option.bind_some]
      show ∃ x i' h' : Int, ((spec_l1Byte.f l i2 g2).bind _) = _ ∧ _
      rw [e3, Option.bind_some, if_neg (by omega)]
      have ew : wrap64 (wrap64 (wrap64 (x * 65536) + wrap64 (y * 256)) + z) = x * 65536 + y * 256 + z := by
        rw [wrap64_id (n := x * 65536) (by omega) (by omega), wrap64_id (n := y * 256) (by omega) (by omega), wrap64_id (n := x * 65536 + y * 256) (by omega) (by omega), wrap64_id (by omega) (by omega)]
      refine ⟨_, _, _, rfl, ?_, hi3⟩
      show 0 ≤ (wrap64 (wrap64 (wrap64 (x * 65536) + wrap64 (y * 256)) + z)).tmod n ∧ _
      rw [ew]
      exact ⟨Int.tmod_nonneg _ (by omega), fun h => Int.tmod_lt_of_pos _ h, fun h => by omega⟩
theorem spec_l1Str_some (l : List Int) (i h : Int) (L : List ByteArray) (h0 : 0 ≤ i ∧ i ≤ l.length) (hl : l.length ≤ 1048576) (hL : 0 < L.length) (hL2 : L.length ≤ 1000) : ∃ (s : ByteArray) (i' h' : Int), spec_l1Str.f l i h L = some (s, i', h') ∧ s ∈ L ∧ (0 ≤ i' ∧ i' ≤ l.length) := by
  unfold spec_l1Str.f
  obtain ⟨x, i1, g1, e1, hx, hi1⟩ := spec_l1Below_some l i h (L.length : Int) h0 hl (by omega)
  obtain ⟨j, rfl⟩ := Int.eq_ofNat_of_zero_le hx.1
  have hj : j < L.length := by have := hx.2.1 (by omega); omega
  rw [e1, Option.bind_some, if_pos hx.1, if_pos (by show (j : Int) < _; omega)]
  refine ⟨_, _, _, rfl, ?_, hi1⟩
  show rdOf ByteArray.empty L (j : Int) ∈ L
  rw [rdOf_get hj]
  exact List.getElem_mem hj
theorem spec_l1New_ev (l : List Int) (hl : l.length ≤ 1048576) : ∃ h : Int, Ev (fun k => spec_l1New.f k l) (l, 0, h) := by
  have main : ∀ (d i : Nat) (x : Int), i + d = l.length → ∃ h : Int, Ev (fun k => spec_l1New.l0 k l x i) (l, 0, h) := by
    intro d
    induction d with
    | zero =>
      intro i x hi
      refine ⟨x, ev_succ ?_⟩
      simp only [spec_l1New.l0]
      exact ev_neg (by omega) (ev_now rfl)
    | succ d ih =>
      intro i x hi
      by_cases h4 : (i : Int) < 4000
      · obtain ⟨h, hh⟩ := ih (i + 1) (Go.bits .and .i64 (wrap64 ((wrap64 ((wrap64 (x * 137)) + (wrap64 (rd l i)))) + 11)) 1073741823) (by omega)
        refine ⟨h, ev_succ ?_⟩
        simp only [spec_l1New.l0]
        rw [wrap64_id (n := (i : Int) + 1) (by omega) (by omega), succ_cast]
        exact ev_pos (by omega) (ev_pos h4 (ev_pos (by omega) hh))
      · refine ⟨x, ev_succ ?_⟩
        simp only [spec_l1New.l0]
        exact ev_pos (by omega) (ev_neg h4 (ev_now rfl))
  unfold spec_l1New.f
  exact main l.length 0 _ (by omega)
theorem spec_l4Word_some (l : List Int) (i h : Int) (h0 : 0 ≤ i ∧ i ≤ l.length) (hl : l.length ≤ 1048576) : ∃ (s : ByteArray) (i' h' : Int), spec_l4Word.f l i h = some (s, i', h') ∧ s.size ≤ 5 ∧ (0 ≤ i' ∧ i' ≤ l.length) := by
  unfold spec_l4Word.f spec_l4Words.f
  rw [Option.bind_some]
  obtain ⟨s, i1, g1, e1, hs, hi1⟩ := spec_l1Str_some l i h (L := [(⟨#[99, 97, 116]⟩ : ByteArray), (⟨#[97, 99, 116]⟩ : ByteArray), (⟨#[116, 97, 99]⟩ : ByteArray), (⟨#[97, 114, 99]⟩ : ByteArray), (⟨#[99, 97, 114]⟩ : ByteArray), (⟨#[101, 114, 97]⟩ : ByteArray), (⟨#[97, 114, 101]⟩ : ByteArray), (⟨#[101, 97, 114]⟩ : ByteArray), (⟨#[97, 116, 101]⟩ : ByteArray), (⟨#[116, 101, 97]⟩ : ByteArray), (⟨#[101, 97, 116]⟩ : ByteArray), (⟨#[115, 101, 97]⟩ : ByteArray), (⟨#[116, 97, 114]⟩ : ByteArray), (⟨#[114, 97, 116]⟩ : ByteArray), (⟨#[97, 114, 116]⟩ : ByteArray), (⟨#[97, 110, 116]⟩ : ByteArray), (⟨#[116, 97, 110]⟩ : ByteArray), (⟨#[110, 101, 116]⟩ : ByteArray), (⟨#[116, 101, 110]⟩ : ByteArray), (⟨#[114, 101, 115, 116]⟩ : ByteArray), (⟨#[116, 114, 101, 101]⟩ : ByteArray), (⟨#[115, 116, 97, 114]⟩ : ByteArray), (⟨#[114, 97, 116, 115]⟩ : ByteArray), (⟨#[97, 114, 116, 115]⟩ : ByteArray), (⟨#[101, 97, 115, 116]⟩ : ByteArray), (⟨#[115, 101, 97, 116]⟩ : ByteArray), (⟨#[116, 101, 97, 115]⟩ : ByteArray), (⟨#[110, 101, 116, 115]⟩ : ByteArray), (⟨#[116, 101, 110, 115]⟩ : ByteArray), (⟨#[115, 101, 110, 116]⟩ : ByteArray), (⟨#[116, 114, 97, 99, 101]⟩ : ByteArray), (⟨#[114, 101, 97, 99, 116]⟩ : ByteArray), (⟨#[99, 114, 97, 116, 101]⟩ : ByteArray), (⟨#[115, 116, 97, 114, 101]⟩ : ByteArray), (⟨#[116, 101, 97, 114, 115]⟩ : ByteArray)]) h0 hl (by decide) (by decide)
  rw [e1, Option.bind_some]
  refine ⟨_, _, _, rfl, ?_, hi1⟩
  have hall : ∀ x ∈ [(⟨#[99, 97, 116]⟩ : ByteArray), (⟨#[97, 99, 116]⟩ : ByteArray), (⟨#[116, 97, 99]⟩ : ByteArray), (⟨#[97, 114, 99]⟩ : ByteArray), (⟨#[99, 97, 114]⟩ : ByteArray), (⟨#[101, 114, 97]⟩ : ByteArray), (⟨#[97, 114, 101]⟩ : ByteArray), (⟨#[101, 97, 114]⟩ : ByteArray), (⟨#[97, 116, 101]⟩ : ByteArray), (⟨#[116, 101, 97]⟩ : ByteArray), (⟨#[101, 97, 116]⟩ : ByteArray), (⟨#[115, 101, 97]⟩ : ByteArray), (⟨#[116, 97, 114]⟩ : ByteArray), (⟨#[114, 97, 116]⟩ : ByteArray), (⟨#[97, 114, 116]⟩ : ByteArray), (⟨#[97, 110, 116]⟩ : ByteArray), (⟨#[116, 97, 110]⟩ : ByteArray), (⟨#[110, 101, 116]⟩ : ByteArray), (⟨#[116, 101, 110]⟩ : ByteArray), (⟨#[114, 101, 115, 116]⟩ : ByteArray), (⟨#[116, 114, 101, 101]⟩ : ByteArray), (⟨#[115, 116, 97, 114]⟩ : ByteArray), (⟨#[114, 97, 116, 115]⟩ : ByteArray), (⟨#[97, 114, 116, 115]⟩ : ByteArray), (⟨#[101, 97, 115, 116]⟩ : ByteArray), (⟨#[115, 101, 97, 116]⟩ : ByteArray), (⟨#[116, 101, 97, 115]⟩ : ByteArray), (⟨#[110, 101, 116, 115]⟩ : ByteArray), (⟨#[116, 101, 110, 115]⟩ : ByteArray), (⟨#[115, 101, 110, 116]⟩ : ByteArray), (⟨#[116, 114, 97, 99, 101]⟩ : ByteArray), (⟨#[114, 101, 97, 99, 116]⟩ : ByteArray), (⟨#[99, 114, 97, 116, 101]⟩ : ByteArray), (⟨#[115, 116, 97, 114, 101]⟩ : ByteArray), (⟨#[116, 101, 97, 114, 115]⟩ : ByteArray)], x.size ≤ 5 := by decide
  exact hall s hs
theorem spec_l4Any_some (l : List Int) (i h : Int) (h0 : 0 ≤ i ∧ i ≤ l.length) (hl : l.length ≤ 1048576) : ∃ (s : ByteArray) (i' h' : Int), spec_l4Any.f l i h = some (s, i', h') ∧ s.size ≤ 10 ∧ (0 ≤ i' ∧ i' ≤ l.length) := by
  unfold spec_l4Any.f
  obtain ⟨w, i1, g1, e1, hw, hi1⟩ := spec_l4Word_some l i h h0 hl
  rw [e1, Option.bind_some, if_pos (by show w.size + 1 ≤ _; omega)]
  obtain ⟨s, i2, g2, e2, hs, hi2⟩ := spec_l1Str_some l i1 g1 [w, w, w, w, w, (⟨#[]⟩ : ByteArray), (⟨#[65]⟩ : ByteArray), (⟨#[97, 32, 98]⟩ : ByteArray), (⟨#[116, 111, 111, 108, 111, 110, 103, 101, 114]⟩ : ByteArray), (⟨#[116, 111, 111, 108, 111, 110, 103]⟩ : ByteArray), w ++ (⟨#[63]⟩ : ByteArray), (⟨#[122]⟩ : ByteArray)] hi1 hl (by simp) (by simp)
  show ∃ (s : ByteArray) (i' h' : Int), ((spec_l1Str.f l i1 g1 [w, w, w, w, w, (⟨#[]⟩ : ByteArray), (⟨#[65]⟩ : ByteArray), (⟨#[97, 32, 98]⟩ : ByteArray), (⟨#[116, 111, 111, 108, 111, 110, 103, 101, 114]⟩ : ByteArray), (⟨#[116, 111, 111, 108, 111, 110, 103]⟩ : ByteArray), w ++ (⟨#[63]⟩ : ByteArray), (⟨#[122]⟩ : ByteArray)]).bind _) = _ ∧ _
  rw [e2, Option.bind_some]
  refine ⟨_, _, _, rfl, ?_, hi2⟩
  show s.size ≤ 10
  simp only [List.mem_cons, List.not_mem_nil, or_false] at hs
  rcases hs with rfl | rfl | rfl | rfl | rfl | rfl | rfl | rfl | rfl | rfl | rfl | rfl
  · omega
  · omega
  · omega
  · omega
  · omega
  · decide
  · decide
  · decide
  · decide
  · decide
  · rw [ByteArray.size_append]
    have : (⟨#[63]⟩ : ByteArray).size = 1 := rfl
    omega
  · decide
theorem laws_big_eq (l : List Int) : laws_big.f l = some (decide ((l.length : Int) > 1048576)) := rfl

/-! ### marks -/

/-! ### istep -/
abbrev IStep := S31
theorem rd_I_get {l : List IStep} {i : Nat} (h : i < l.length) : rd_T31 l (i : Int) = l[i] := by
  unfold rd_T31
  simp [h]

/-! ### steps -/

/-! ### play -/
def kindAt (l : List IStep) (a : Int) : Int := (l.getD a.toNat ⟨0, ⟨#[]⟩, 0, 0⟩).f0
/-- Is step number i of a play in order? -/
def stepOk (l : List IStep) (i : Nat) (x : IStep) : Bool :=
  if 1 ≤ x.f0 ∧ x.f0 ≤ 9 then
    if x.f0 = 1 then wordM x.f1 && (decide (x.f2 = 0) && decide (x.f3 = 0))
    else decide (x.f1 = ⟨#[]⟩) && (decide (0 ≤ x.f2 ∧ x.f2 < i) && ((decide (x.f0 = 4 ∨ x.f0 = 5 ∨ x.f0 = 2) || decide (kindAt l x.f2 = 1)) && (if x.f0 = 4 ∨ x.f0 = 5 then decide (0 ≤ x.f3 ∧ x.f3 < i) else decide (x.f3 = 0))))
  else false
def stepsFrom (l : List IStep) : List IStep → Nat → Bool
  | [], _ => true
  | x :: r, i => stepOk l i x && stepsFrom l r (i + 1)
def isPlayM (l : List IStep) : Bool := decide (1 ≤ l.length ∧ l.length ≤ 9) && stepsFrom l l 0
theorem kindAt_get {l : List IStep} {a : Nat} (h : a < l.length) : kindAt l (a : Int) = l[a].f0 := by
  unfold kindAt
  simp [h]
theorem empty_iff {s : ByteArray} : s.toList = [] ↔ s = ⟨#[]⟩ := by
  have : (⟨#[]⟩ : ByteArray).toList = [] := by rw [toList_eq]
  constructor
  · intro h
    exact toList_inj.1 (h.trans this.symm)
  · rintro rfl
    exact this
theorem wordM_empty : wordM ⟨#[]⟩ = false := by
  unfold wordM
  simp [ByteArray.size]
theorem spec_l15Ok_ev (l : List IStep) (i : Nat) (hi : i < l.length) (hl : l.length ≤ 9) (hw : l[i].f1.size ≤ 1048576) : Ev (fun k => spec_l15Ok.f k l i) (stepOk l i l[i]) := by
  unfold spec_l15Ok.f
  rw [rd_I_get hi]
  generalize l[i] = x at hw ⊢
  have hno : Ev (fun k => spec_l15Ok.j0 k l i true x.f0 x.f1 x.f2 x.f3) false := by
    apply ev_succ
    simp only [spec_l15Ok.j0]
    exact ev_pos (by simp) (ev_now rfl)
  have hj1 : ∀ b : Bool, b = decide (x.f0 = 4 ∨ x.f0 = 5) → ¬ x.f0 = 1 → Ev (fun k => spec_l15Ok.j1 k l i b x.f0 x.f1 x.f2 x.f3) (decide (0 ≤ x.f2 ∧ x.f2 < i) && ((decide (x.f0 = 4 ∨ x.f0 = 5 ∨ x.f0 = 2) || decide (kindAt l x.f2 = 1)) && (if x.f0 = 4 ∨ x.f0 = 5 then decide (0 ≤ x.f3 ∧ x.f3 < i) else decide (x.f3 = 0)))) := by
    intro b hb h1
    apply ev_succ
    simp only [spec_l15Ok.j1]
    rw [wrap64_id (by omega) (by omega)]
    refine ev_neg h1 (ev_let (spec_l1In_eq _ _ _) ?_)
    by_cases ha : 0 ≤ x.f2 ∧ x.f2 < i
    · refine ev_pos (by simp; omega) ?_
      rw [decide_eq_true ha, Bool.true_and]
      by_cases h2 : x.f0 = 4 ∨ x.f0 = 5
      · rw [if_pos h2, decide_eq_true (show x.f0 = 4 ∨ x.f0 = 5 ∨ x.f0 = 2 by omega), Bool.true_or, Bool.true_and]
        refine ev_pos (by rw [hb]; simpa using h2) (ev_let (spec_l1In_eq _ _ _) ?_)
        by_cases hb2 : 0 ≤ x.f3 ∧ x.f3 < i
        · rw [decide_eq_true hb2]
          exact ev_pos (by simp; omega) (ev_now rfl)
        · rw [decide_eq_false hb2]
          exact ev_neg (by simp; omega) (ev_now rfl)
      · rw [if_neg h2]
        refine ev_neg (by rw [hb]; simpa using h2) ?_
        by_cases h3 : x.f3 = 0
        · rw [decide_eq_true h3, Bool.and_true]
          refine ev_pos h3 ?_
          by_cases h4 : x.f0 = 2
          · rw [decide_eq_true (show x.f0 = 4 ∨ x.f0 = 5 ∨ x.f0 = 2 by omega), Bool.true_or]
            exact ev_pos h4 (ev_now rfl)
          · rw [decide_eq_false (show ¬ (x.f0 = 4 ∨ x.f0 = 5 ∨ x.f0 = 2) by omega), Bool.false_or]
            obtain ⟨a, ha2⟩ := Int.eq_ofNat_of_zero_le ha.1
            rw [ha2, rd_I_get (show a < l.length by omega), kindAt_get (show a < l.length by omega)]
            refine ev_neg h4 (ev_pos (by omega) (ev_pos (by omega) (ev_now ?_)))
            rfl
        · rw [decide_eq_false h3, Bool.and_false]
          exact ev_neg h3 (ev_now rfl)
    · rw [decide_eq_false ha, Bool.false_and]
      exact ev_neg (by simp; omega) (ev_now rfl)
  refine ev_pos (by omega) (ev_pos (by omega) (ev_let (spec_l1In_eq _ _ _) ?_))
  unfold stepOk
  by_cases hk : 1 ≤ x.f0 ∧ x.f0 ≤ 9
  · rw [if_pos hk]
    refine ev_pos (by simpa using hk) (ev_bind (spec_IsWord_ev x.f1 (by omega)) ?_)
    by_cases h1 : x.f0 = 1
    · rw [if_pos h1]
      refine ev_pos h1 ?_
      by_cases hwd : wordM x.f1 = true
      · refine ev_pos hwd (ev_succ ?_)
        simp only [spec_l15Ok.j0]
        refine ev_neg (by simp) (ev_neg (by omega) (ev_succ ?_))
        simp only [spec_l15Ok.j1]
        refine ev_pos h1 ?_
        rw [hwd, Bool.true_and]
        by_cases h2 : x.f2 = 0
        · exact ev_pos h2 (ev_now (by simp [h2]; rfl))
        · exact ev_neg h2 (ev_now (by simp [h2]))
      · refine ev_neg hwd (ev_eq hno ?_)
        rw [Bool.not_eq_true] at hwd
        simp [hwd]
    · rw [if_neg h1]
      refine ev_neg h1 ?_
      by_cases he : x.f1 = ⟨#[]⟩
      · rw [decide_eq_true he, Bool.true_and]
        refine ev_neg (by rw [he, wordM_empty]; simp) (ev_succ ?_)
        simp only [spec_l15Ok.j0]
        refine ev_neg (by rw [empty_iff.2 he]; simp) ?_
        by_cases h4 : x.f0 = 4
        · exact ev_pos h4 (hj1 true (by simp [h4]) h1)
        · exact ev_neg h4 (hj1 _ (by simp [h4]; rfl) h1)
      · rw [decide_eq_false he, Bool.false_and]
        by_cases hwd : wordM x.f1 = true
        · exact ev_pos hwd hno
        · refine ev_neg hwd ?_
          rw [show (x.f1.toList != ([] : List UInt8)) = true by rw [bne_iff_ne]; exact fun e => he (empty_iff.1 e)]
          exact hno
  · rw [if_neg hk]
    exact ev_neg (by simpa using hk) hno
theorem spec_IsPlay_l0_ev (l : List IStep) (hl : 1 ≤ l.length ∧ l.length ≤ 9) (hw : ∀ x ∈ l, x.f1.size ≤ 1048576) : ∀ i : Nat, i ≤ l.length → Ev (fun k => spec_IsPlay.l0 k l i) (stepsFrom l (l.drop i) i) := by
  refine down l.length ?_ ?_
  · intro i h hi
    apply ev_succ
    simp only [spec_IsPlay.l0]
    refine ev_neg (by omega) (ev_succ ?_)
    simp only [spec_IsPlay.j1]
    exact ev_neg (by simp) (ev_let (spec_l1In_eq _ _ _) (ev_now (by rw [List.drop_eq_nil_of_le h]; simp [stepsFrom]; omega)))
  · intro i h ih hi
    apply ev_succ
    simp only [spec_IsPlay.l0]
    refine ev_pos (by omega) (ev_succ ?_)
    simp only [spec_IsPlay.j1]
    rw [wrap64_id (n := (i : Int) + 1) (by omega) (by omega), succ_cast, List.drop_eq_getElem_cons h]
    unfold stepsFrom
    refine ev_pos (by simp; omega) (ev_bind (spec_l15Ok_ev l i h hl.2 (hw _ (List.getElem_mem h))) ?_)
    cases stepOk l i l[i] with
    | true => exact ev_pos rfl (ev_eq (ih (by omega)) (by simp))
    | false => exact ev_neg (by simp) (ev_now (by simp))
theorem spec_IsPlay_ev (l : List IStep) (hw : ∀ x ∈ l, x.f1.size ≤ 1048576) : Ev (fun k => spec_IsPlay.f k l) (isPlayM l) := by
  unfold spec_IsPlay.f isPlayM
  by_cases hl : 1 ≤ l.length ∧ l.length ≤ 9
  · rw [decide_eq_true hl, Bool.true_and]
    simpa using spec_IsPlay_l0_ev l hl hw 0 (by omega)
  · rw [decide_eq_false hl, Bool.false_and]
    have hj : Ev (fun k => spec_IsPlay.j1 k l 0 false) false := by
      apply ev_succ
      simp only [spec_IsPlay.j1]
      exact ev_neg (by simp) (ev_let (spec_l1In_eq _ _ _) (ev_now (by simp; omega)))
    apply ev_succ
    simp only [spec_IsPlay.l0]
    by_cases h0 : (0 : Int) < (l.length : Int)
    · rw [show decide ((l.length : Int) ≤ 9) = false by simp; omega]
      exact ev_pos h0 hj
    · exact ev_neg h0 hj
theorem impl_at_eq' (i n : Int) : impl_at.f i n = some (decide (0 ≤ i ∧ i < n)) := by
  unfold impl_at.f
  by_cases h : i ≥ 0
  · rw [if_pos h]
    simp [h]
  · rw [if_neg h]
    simp [h]
theorem impl_isPair_eq (n : Int) : impl_isPair.f n = some (decide (n = 4 ∨ n = 5)) := by
  unfold impl_isPair.f
  by_cases h : n = 4
  · rw [if_pos h]
    simp [h]
  · rw [if_neg h]
    simp [h]
    rfl
theorem impl_needsWord_eq (n : Int) : impl_needsWord.f n = some (decide (n = 3 ∨ 6 ≤ n)) := by
  unfold impl_needsWord.f
  by_cases h : n = 3
  · rw [if_pos h]
    simp [h]
  · rw [if_neg h]
    simp [h]
theorem impl_IsPlay_l0_ev (l : List IStep) (hl : l.length ≤ 9) (hw : ∀ x ∈ l, x.f1.size ≤ 1048576) : ∀ i : Nat, i ≤ l.length → Ev (fun k => impl_IsPlay.l0 k l l l.length i) (stepsFrom l (l.drop i) i) := by
  refine down l.length ?_ ?_
  · intro i h hi
    apply ev_succ
    simp only [impl_IsPlay.l0]
    exact ev_neg (by omega) (ev_now (by rw [List.drop_eq_nil_of_le h]; rfl))
  · intro i h ih hi
    have hwi := hw _ (List.getElem_mem h)
    apply ev_succ
    simp only [impl_IsPlay.l0]
    rw [rd_I_get h, wrap64_id (n := (i : Int) + 1) (by omega) (by omega), succ_cast, List.drop_eq_getElem_cons h]
    unfold stepsFrom
    have ih' := ih (by omega)
    generalize stepsFrom l (l.drop (i + 1)) (i + 1) = rest at ih' ⊢
    generalize l[i] = x at hwi ⊢
    refine ev_pos (by omega) (ev_pos (by omega) (ev_pos (by omega) (ev_let (impl_InRange_eq _ _ _) ?_)))
    unfold stepOk
    by_cases hk : 1 ≤ x.f0 ∧ x.f0 ≤ 9
    · rw [if_pos hk]
      refine ev_pos (by simpa using hk) ?_
      by_cases h1 : x.f0 = 1
      · rw [if_pos h1]
        refine ev_pos h1 (ev_bind (impl_IsWord_ev x.f1 (by omega)) ?_)
        cases wordM x.f1 with
        | false => exact ev_neg (by simp) (ev_now (by simp))
        | true =>
          refine ev_pos rfl ?_
          by_cases h2 : x.f2 = 0
          · refine ev_pos h2 ?_
            by_cases h3 : x.f3 = 0
            · exact ev_pos h3 (ev_eq ih' (by simp [h2, h3]))
            · exact ev_neg h3 (ev_now (by simp [h3]))
          · exact ev_neg h2 (ev_now (by simp [h2]))
      · rw [if_neg h1]
        refine ev_neg h1 ?_
        have hno : Ev (fun k => impl_IsPlay.j1 k l i l l.length i true x.f0 x.f1 x.f2 x.f3) false := by
          apply ev_succ
          simp only [impl_IsPlay.j1]
          exact ev_pos (by simp) (ev_now rfl)
        have hgo : Ev (fun k => impl_IsPlay.j1 k l i l l.length i false x.f0 x.f1 x.f2 x.f3) ((if x.f0 = 4 ∨ x.f0 = 5 then decide (0 ≤ x.f3 ∧ x.f3 < i) else decide (x.f3 = 0)) && rest) := by
          apply ev_succ
          simp only [impl_IsPlay.j1]
          rw [wrap64_id (n := (i : Int) + 1) (by omega) (by omega), succ_cast]
          refine ev_neg (by simp) (ev_let (impl_isPair_eq _) ?_)
          by_cases h2 : x.f0 = 4 ∨ x.f0 = 5
          · rw [if_pos h2]
            refine ev_pos (by simpa using h2) (ev_let (impl_at_eq' _ _) ?_)
            by_cases h3 : 0 ≤ x.f3 ∧ x.f3 < i
            · rw [decide_eq_true h3, Bool.true_and]
              exact ev_pos rfl (ev_let (impl_isPair_eq _) (ev_pos (by simpa using h2) ih'))
            · rw [decide_eq_false h3, Bool.false_and]
              exact ev_neg (by simp) (ev_now rfl)
          · rw [if_neg h2]
            refine ev_neg (by simpa using h2) (ev_let (impl_isPair_eq _) (ev_neg (by simpa using h2) ?_))
            by_cases h3 : x.f3 = 0
            · rw [decide_eq_true h3, Bool.true_and]
              exact ev_pos h3 ih'
            · rw [decide_eq_false h3, Bool.false_and]
              exact ev_neg h3 (ev_now rfl)
        by_cases he : x.f1 = ⟨#[]⟩
        · rw [decide_eq_true he, Bool.true_and]
          refine ev_pos (empty_iff.2 he) (ev_let (impl_at_eq' _ _) ?_)
          by_cases ha : 0 ≤ x.f2 ∧ x.f2 < i
          · rw [decide_eq_true ha, Bool.true_and]
            refine ev_pos rfl (ev_let (impl_needsWord_eq _) ?_)
            by_cases hn : x.f0 = 3 ∨ 6 ≤ x.f0
            · refine ev_pos (by simpa using hn) ?_
              obtain ⟨a, ha2⟩ := Int.eq_ofNat_of_zero_le ha.1
              rw [ha2] at hgo hno ⊢
              rw [rd_I_get (show a < l.length by omega), kindAt_get (show a < l.length by omega), decide_eq_false (show ¬ (x.f0 = 4 ∨ x.f0 = 5 ∨ x.f0 = 2) by omega), Bool.false_or]
              refine ev_pos (by omega) (ev_pos (by omega) ?_)
              by_cases h5 : l[a].f0 = 1
              · rw [decide_eq_true h5, Bool.true_and, show (l[a].f0 != 1) = false by simp [h5]]
                exact hgo
              · rw [decide_eq_false h5, Bool.false_and, Bool.false_and, show (l[a].f0 != 1) = true by simp [h5]]
                exact hno
            · refine ev_neg (by simpa using hn) ?_
              rw [decide_eq_true (show x.f0 = 4 ∨ x.f0 = 5 ∨ x.f0 = 2 by omega), Bool.true_or, Bool.true_and]
              exact hgo
          · rw [decide_eq_false ha, Bool.false_and, Bool.false_and]
            exact ev_neg (by simp) hno
        · rw [decide_eq_false he, Bool.false_and, Bool.false_and]
          exact ev_neg (fun e => he (empty_iff.1 e)) hno
    · rw [if_neg hk, Bool.false_and]
      exact ev_neg (by simpa using hk) (ev_now rfl)
theorem impl_IsPlay_ev (l : List IStep) (hw : ∀ x ∈ l, x.f1.size ≤ 1048576) : Ev (fun k => impl_IsPlay.f k l) (isPlayM l) := by
  unfold impl_IsPlay.f isPlayM
  refine ev_let (impl_InRange_eq _ _ _) ?_
  by_cases hl : 1 ≤ l.length ∧ l.length ≤ 9
  · rw [decide_eq_true hl, Bool.true_and]
    exact ev_pos (by simp; omega) (by simpa using impl_IsPlay_l0_ev l hl.2 hw 0 (by omega))
  · rw [decide_eq_false hl, Bool.false_and]
    exact ev_neg (by simp; omega) (ev_now rfl)
def plainM : List IStep → Bool
  | [] => true
  | x :: r => decide (x.f0 = 1 ∨ x.f0 = 4) && plainM r
theorem impl_IsPlain_l0_ev (l : List IStep) (hl : l.length ≤ 1048576) (hw : ∀ x ∈ l, x.f1.size ≤ 1048576) : ∀ i : Nat, i ≤ l.length → Ev (fun k => impl_IsPlain.l0 k l l l.length i) (plainM (l.drop i) && isPlayM l) := by
  refine down l.length ?_ ?_
  · intro i h hi
    apply ev_succ
    simp only [impl_IsPlain.l0]
    refine ev_neg (by omega) (ev_bind (impl_IsPlay_ev l hw) (ev_now ?_))
    rw [List.drop_eq_nil_of_le h]
    rfl
  · intro i h ih hi
    apply ev_succ
    simp only [impl_IsPlain.l0]
    rw [rd_I_get h, wrap64_id (n := (i : Int) + 1) (by omega) (by omega), succ_cast, List.drop_eq_getElem_cons h]
    unfold plainM
    refine ev_pos (by omega) (ev_pos (by omega) (ev_pos (by omega) ?_))
    by_cases h1 : l[i].f0 = 1
    · exact ev_pos h1 (ev_eq (ih (by omega)) (by simp [h1]))
    · refine ev_neg h1 ?_
      by_cases h2 : l[i].f0 = 4
      · exact ev_pos h2 (ev_eq (ih (by omega)) (by simp [h2]))
      · exact ev_neg h2 (ev_now (by simp [h1, h2]))
theorem impl_IsPlain_ev (l : List IStep) (hl : l.length ≤ 1048576) (hw : ∀ x ∈ l, x.f1.size ≤ 1048576) : Ev (fun k => impl_IsPlain.f k l) (plainM l && isPlayM l) := by
  unfold impl_IsPlain.f
  simpa using impl_IsPlain_l0_ev l hl hw 0 (by omega)

/-! ### sortl -/
theorem bt_lst {s : ByteArray} {i : Nat} (h : i < s.data.toList.length) : bt s (i : Int) = ((s.data.toList[i]).toNat : Int) := by
  have h' : i < s.size := by simpa using h
  unfold bt
  rw [dif_pos (show (i : Int).toNat < s.size by omega)]
  rfl
/-- The letters from a on, n of them, each as often as it stands in l. -/
def lettersFrom (l : List UInt8) (a n : Nat) : List UInt8 := (List.range' a n).flatMap fun c => l.filter fun b => b.toNat == c
theorem lettersFrom_perm (l : List UInt8) : ∀ n a : Nat, (lettersFrom l a n).Perm (l.filter fun b => decide (a ≤ b.toNat ∧ b.toNat < a + n))
  | 0, a => by
    have : (l.filter fun b => decide (a ≤ b.toNat ∧ b.toNat < a + 0)) = [] := by
      rw [List.filter_eq_nil_iff]
      intro b _
      simp
    rw [this]
    simp [lettersFrom]
  | n + 1, a => by
    have ih := lettersFrom_perm l n (a + 1)
    have e : lettersFrom l a (n + 1) = (l.filter fun b => b.toNat == a) ++ lettersFrom l (a + 1) n := by
      unfold lettersFrom
      rw [List.range'_succ, List.flatMap_cons]
    rw [e]
    refine (List.Perm.append_left _ ih).trans ?_
    have h := List.filter_append_perm (fun b : UInt8 => b.toNat == a) (l.filter fun b => decide (a ≤ b.toNat ∧ b.toNat < a + (n + 1)))
    rw [List.filter_filter, List.filter_filter] at h
    have e1 : (l.filter fun b => (b.toNat == a) && decide (a ≤ b.toNat ∧ b.toNat < a + (n + 1))) = l.filter fun b => b.toNat == a := by
      congr 1
      funext b
      by_cases hb : b.toNat = a
      · simp [hb]
      · simp [hb]
    have e2 : (l.filter fun b => !(b.toNat == a) && decide (a ≤ b.toNat ∧ b.toNat < a + (n + 1))) = l.filter fun b => decide (a + 1 ≤ b.toNat ∧ b.toNat < a + 1 + n) := by
      congr 1
      funext b
      rw [Bool.eq_iff_iff]
      simp
      omega
    rw [e1, e2] at h
    exact h
theorem lettersFrom_sorted (l : List UInt8) (n a : Nat) : (lettersFrom l a n).Pairwise fun x y => decide (x.toNat ≤ y.toNat) = true := by
  unfold lettersFrom
  rw [List.pairwise_flatMap]
  constructor
  · intro c _
    rw [List.pairwise_iff_forall_sublist]
    intro x y hxy
    have hx := hxy.subset (show x ∈ [x, y] by simp)
    have hy := hxy.subset (show y ∈ [x, y] by simp)
    simp at hx hy
    simp [hx.2, hy.2]
  · refine (List.pairwise_lt_range' (s := a) (n := n) (step := 1)).imp ?_
    intro c d hcd x hx y hy
    simp at hx hy
    simp
    omega
theorem letters_list (s : ByteArray) (hw : wordM s = true) : (lettersM s).data.toList = lettersFrom s.data.toList 97 26 := by
  have hsz := wordM_size hw
  have hall : ∀ b ∈ s.data.toList, 97 ≤ b.toNat ∧ b.toNat < 97 + 26 := by
    intro b hb
    obtain ⟨i, hi, rfl⟩ := List.getElem_of_mem hb
    have hi' : i < s.size := by simpa using hi
    simp only [wordM, Bool.and_eq_true, List.all_eq_true] at hw
    have := hw.2 i (by rw [List.mem_range'_1]; omega)
    simp only [isL, decide_eq_true_eq, bt_lst hi] at this
    omega
  generalize hd : s.data.map (fun b => (b.toNat : Int)) = d
  have hds : d.size = s.size := by rw [← hd]; simp
  obtain ⟨hP, hSo⟩ := Go.Sort.insertionSort_holds Go.Sort.swo_ltInt d 0 s.size (Nat.zero_le _) (by omega)
  have hl : (lettersM s).data.toList = (Go.Sort.insertionSort Go.Sort.ltInt d 0 s.size).toList.map fun n => UInt8.ofNat n.toNat := by
    unfold lettersM
    rw [hd]
    rfl
  generalize Go.Sort.insertionSort Go.Sort.ltInt d 0 s.size = d' at hP hSo hl
  obtain ⟨hz, _, hp⟩ := hP
  have e1 : d'.extract 0 s.size = d' := by rw [show s.size = d'.size by omega]; exact Array.extract_size
  have e2 : d.extract 0 s.size = d := by rw [← hds]; exact Array.extract_size
  rw [e1, e2] at hp
  have hdl : d.toList.map (fun n => UInt8.ofNat n.toNat) = s.data.toList := by
    rw [← hd, Array.toList_map, List.map_map]
    conv => rhs; rw [← List.map_id s.data.toList]
    congr 1
    funext b
    simp
  have hperm : ((lettersM s).data.toList).Perm s.data.toList := by
    rw [hl, ← hdl]
    exact hp.map _
  have hrng : ∀ x ∈ d'.toList, 0 ≤ x ∧ x ≤ 255 := by
    intro x hx
    have := hp.subset hx
    rw [← hd, Array.toList_map, List.mem_map] at this
    obtain ⟨b, _, rfl⟩ := this
    have := b.toNat_lt
    omega
  refine List.Perm.eq_of_pairwise (le := fun x y : UInt8 => decide (x.toNat ≤ y.toNat) = true) ?_ ?_ (lettersFrom_sorted _ _ _) (hperm.trans ?_)
  · intro a b _ _ h1 h2
    simp at h1 h2
    exact UInt8.le_antisymm h1 h2
  · rw [hl, List.pairwise_map, List.pairwise_iff_getElem]
    intro i j hi hj hij
    have hi' : i < d'.size := by simpa using hi
    have hj' : j < d'.size := by simpa using hj
    have := hSo i j (Nat.zero_le _) hij (by omega)
    rw [getElem!_pos d' j hj', getElem!_pos d' i hi'] at this
    simp only [Go.Sort.ltInt, decide_eq_false_iff_not] at this
    have ri := hrng d'[i] (by simp)
    have rj := hrng d'[j] (by simp)
    have ei : (UInt8.ofNat (d'.toList[i]).toNat).toNat = d'[i].toNat := by
      rw [UInt8.toNat_ofNat']
      simp only [Array.getElem_toList]
      omega
    have ej : (UInt8.ofNat (d'.toList[j]).toNat).toNat = d'[j].toNat := by
      rw [UInt8.toNat_ofNat']
      simp only [Array.getElem_toList]
      omega
    rw [decide_eq_true_eq, ei, ej]
    omega
  · refine List.Perm.trans ?_ (lettersFrom_perm s.data.toList 26 97).symm
    rw [List.filter_eq_self.2 (fun b hb => by simp; have := hall b hb; omega)]
theorem impl_SortLetters_ev (s : ByteArray) (hw : wordM s = true) : Ev (fun k => impl_SortLetters.f k s) (⟨(lettersFrom s.data.toList 97 26).toArray⟩ : ByteArray) := by
  unfold impl_SortLetters.f
  have h := wordM_size hw
  refine ev_bind (impl_IsWord_ev s (by omega)) (ev_pos hw (ev_pos (by omega) (ev_now ?_)))
  apply ByteArray.ext
  apply Array.ext'
  exact letters_list s hw
theorem spec_SortLetters_ev (s : ByteArray) (hw : wordM s = true) : Ev (fun k => spec_SortLetters.f k s) (⟨(lettersFrom s.data.toList 97 26).toArray⟩ : ByteArray) := by
  have hsz := wordM_size hw
  have key : ∀ n a : Nat, a + n = 123 → 97 ≤ a → ∀ acc : ByteArray, acc.size ≤ (a - 97) * 8 → Ev (fun k => spec_SortLetters.l0 k s acc a) (⟨(acc.data.toList ++ lettersFrom s.data.toList a n).toArray⟩ : ByteArray) := by
    intro n
    induction n with
    | zero =>
      intro a ha h97 acc hacc
      apply ev_succ
      simp only [spec_SortLetters.l0]
      refine ev_neg (by omega) (ev_succ ?_)
      simp only [spec_SortLetters.j1]
      exact ev_neg (by simp) (ev_now (by simp [lettersFrom]))
    | succ n ih =>
      intro a ha h97 acc hacc
      apply ev_succ
      simp only [spec_SortLetters.l0]
      refine ev_pos (by omega) (ev_bind (spec_IsWord_ev s (by omega)) (ev_succ ?_))
      simp only [spec_SortLetters.j1]
      refine ev_pos hw ?_
      have e : lettersFrom s.data.toList a (n + 1) = ((s.data.toList.drop 0).filter fun b => b.toNat == a) ++ lettersFrom s.data.toList (a + 1) n := by
        unfold lettersFrom
        rw [List.range'_succ, List.flatMap_cons]
        rfl
      rw [e]
      have inner : ∀ i : Nat, i ≤ s.size → ∀ x : ByteArray, x.size ≤ (a - 97) * 8 + i → Ev (fun k => spec_SortLetters.l1 k s x a i) (⟨(x.data.toList ++ (((s.data.toList.drop i).filter fun b => b.toNat == a) ++ lettersFrom s.data.toList (a + 1) n)).toArray⟩ : ByteArray) := by
        refine down s.size ?_ ?_
        · intro i h hi x hx
          apply ev_succ
          simp only [spec_SortLetters.l1]
          have hw32 : wrap32 ((a : Int) + 1) = ((a + 1 : Nat) : Int) := by
            unfold wrap32
            omega
          rw [hw32]
          have hl : s.data.toList.length ≤ i := by simpa using h
          rw [List.drop_eq_nil_of_le hl]
          exact ev_neg (by omega) (ih (a + 1) (by omega) (by omega) x (by omega))
        · intro i h ihi hi x hx
          apply ev_succ
          simp only [spec_SortLetters.l1]
          have hl : i < s.data.toList.length := by simpa using h
          have hb := bt_lst hl
          have hr := bt_range s (i : Int)
          have hw32 : wrap32 (bt s (i : Int)) = bt s (i : Int) := by
            unfold wrap32
            omega
          rw [hw32, wrap64_id (n := (i : Int) + 1) (by omega) (by omega), succ_cast, List.drop_eq_getElem_cons hl, show ((i + 1 : Nat) : Int).toNat = i + 1 by omega, show (i : Int).toNat = i by omega]
          refine ev_pos (by omega) (ev_pos (by omega) ?_)
          have ex : (s.extract i (i + 1)).data.toList = [s.data.toList[i]] := by
            rw [ByteArray.data_extract, Array.toList_extract]
            simp only [List.extract]
            rw [show i + 1 - i = 1 by omega, List.drop_eq_getElem_cons hl]
            rfl
          have hx1 : (s.extract i (i + 1)).size ≤ 1 := by
            rw [ByteArray.size_extract]
            omega
          by_cases hc : bt s (i : Int) = (a : Int)
          · refine ev_pos hc (ev_pos (by omega) (ev_pos (by omega) (ev_pos (by omega) ?_)))
            refine ev_eq (ihi (by omega) (x ++ s.extract i (i + 1)) (by rw [ByteArray.size_append]; omega)) ?_
            rw [hb] at hc
            have hc' : (s.data.toList[i]).toNat = a := by omega
            have e2 : List.filter (fun b : UInt8 => b.toNat == a) (s.data.toList[i] :: s.data.toList.drop (i + 1)) = s.data.toList[i] :: List.filter (fun b : UInt8 => b.toNat == a) (s.data.toList.drop (i + 1)) := List.filter_cons_of_pos (by simpa using hc')
            rw [e2, ByteArray.data_append, Array.toList_append, ex]
            simp
          · refine ev_neg hc (ev_eq (ihi (by omega) x (by omega)) ?_)
            rw [hb] at hc
            have hc' : ¬ (s.data.toList[i]).toNat = a := by omega
            have e2 : List.filter (fun b : UInt8 => b.toNat == a) (s.data.toList[i] :: s.data.toList.drop (i + 1)) = List.filter (fun b : UInt8 => b.toNat == a) (s.data.toList.drop (i + 1)) := List.filter_cons_of_neg (by simpa using hc')
            rw [e2]
      exact inner 0 (by omega) acc (by omega)
  unfold spec_SortLetters.f
  exact ev_eq (key 26 97 (by omega) (by omega) ⟨#[]⟩ (by simp [ByteArray.size])) (by simp)
/-- Are the letters of w those of s, in another order? -/
def rearrM (a b : ByteArray) : Bool := wordM a && (wordM b && (!decide (a = b) && decide (lettersFrom a.data.toList 97 26 = lettersFrom b.data.toList 97 26)))
theorem arr_eq_dec (x y : List UInt8) : ((⟨x.toArray⟩ : ByteArray).toList == (⟨y.toArray⟩ : ByteArray).toList) = decide (x = y) := by
  rw [toList_eq, toList_eq, Bool.eq_iff_iff]
  simp
theorem spec_IsRearranged_ev (a b : ByteArray) (ha : a.size ≤ 140737488351232) (hb : b.size ≤ 140737488351232) : Ev (fun k => spec_IsRearranged.f k a b) (rearrM a b) := by
  unfold spec_IsRearranged.f rearrM
  refine ev_bind (spec_IsWord_ev a ha) ?_
  by_cases h1 : wordM a = true
  · rw [h1, Bool.true_and]
    refine ev_pos rfl (ev_bind (spec_IsWord_ev b hb) ?_)
    by_cases h2 : wordM b = true
    · rw [h2, Bool.true_and]
      refine ev_pos rfl ?_
      by_cases h3 : a = b
      · exact ev_pos (toList_inj.2 h3) (ev_now (by simp [h3]))
      · refine ev_neg (fun e => h3 (toList_inj.1 e)) (ev_bind (spec_SortLetters_ev a h1) (ev_bind (spec_SortLetters_ev b h2) (ev_now ?_)))
        rw [arr_eq_dec]
        simp [h3]
    · rw [Bool.not_eq_true] at h2
      rw [h2]
      exact ev_neg (by simp) (ev_now (by simp))
  · rw [Bool.not_eq_true] at h1
    rw [h1]
    exact ev_neg (by simp) (ev_now (by simp))
theorem impl_IsRearranged_ev (a b : ByteArray) (ha : a.size ≤ 140737488351232) (hb : b.size ≤ 140737488351232) : Ev (fun k => impl_IsRearranged.f k a b) (rearrM a b) := by
  unfold impl_IsRearranged.f rearrM
  refine ev_bind (impl_IsWord_ev a ha) ?_
  by_cases h1 : wordM a = true
  · rw [h1, Bool.true_and]
    refine ev_pos rfl (ev_bind (impl_IsWord_ev b hb) ?_)
    by_cases h2 : wordM b = true
    · rw [h2, Bool.true_and]
      refine ev_pos rfl ?_
      by_cases h3 : a = b
      · exact ev_pos (toList_inj.2 h3) (ev_now (by simp [h3]))
      · refine ev_neg (fun e => h3 (toList_inj.1 e)) (ev_bind (impl_SortLetters_ev a h1) (ev_bind (impl_SortLetters_ev b h2) (ev_now ?_)))
        rw [arr_eq_dec]
        simp [h3]
    · rw [Bool.not_eq_true] at h2
      rw [h2]
      exact ev_neg (by simp) (ev_now (by simp))
  · rw [Bool.not_eq_true] at h1
    rw [h1]
    exact ev_neg (by simp) (ev_now (by simp))

/-! ### inside -/
/-- Does p stand in w from a place i on, with letters on both sides? -/
def insideFrom (p w : ByteArray) (i : Nat) : Bool := (List.range' i (w.size - p.size - i)).any fun j => decide ((w.extract j (j + p.size)).toList = p.toList)
def insideM (p w : ByteArray) : Bool := wordM p && (wordM w && insideFrom p w 1)
theorem spec_IsInside_l0_ev (p w : ByteArray) (hp : p.size ≤ 140737488351232) (hw : w.size ≤ 140737488351232) : ∀ i : Nat, i ≤ 140737488351232 → Ev (fun k => spec_IsInside.l0 k p w i) (insideFrom p w i) := by
  refine down (w.size - p.size) ?_ ?_
  · intro i h hi
    apply ev_succ
    simp only [spec_IsInside.l0]
    rw [wrap64_id (n := (i : Int) + p.size) (by omega) (by omega)]
    refine ev_neg (by omega) (ev_now ?_)
    unfold insideFrom
    rw [range_nil h]; rfl
  · intro i h ih hi
    apply ev_succ
    simp only [spec_IsInside.l0]
    rw [wrap64_id (n := (i : Int) + p.size) (by omega) (by omega), wrap64_id (n := (i : Int) + 1) (by omega) (by omega), succ_cast, show ((i : Int) + p.size).toNat = i + p.size by omega, show (i : Int).toNat = i by omega]
    refine ev_pos (by omega) (ev_pos (by omega) (ev_pos (by omega) (ev_pos (by omega) ?_)))
    unfold insideFrom at ih ⊢
    rw [range_cons h, List.any_cons]
    by_cases he : (w.extract i (i + p.size)).toList = p.toList
    · exact ev_pos he (ev_now (by simp [he]))
    · exact ev_neg he (ev_eq (ih (by omega)) (by simp [he]))
theorem spec_IsInside_ev (p w : ByteArray) (hp : p.size ≤ 140737488351232) (hw : w.size ≤ 140737488351232) : Ev (fun k => spec_IsInside.f k p w) (insideM p w) := by
  unfold spec_IsInside.f insideM
  refine ev_bind (spec_IsWord_ev p hp) ?_
  cases wordM p
  · refine ev_neg (by simp) (ev_succ ?_)
    simp only [spec_IsInside.j0]
    exact ev_pos (by simp) (ev_now rfl)
  · refine ev_pos rfl (ev_bind (spec_IsWord_ev w hw) (ev_succ ?_))
    simp only [spec_IsInside.j0]
    cases wordM w
    · exact ev_pos (by simp) (ev_now rfl)
    · exact ev_neg (by simp) (ev_eq (spec_IsInside_l0_ev p w hp hw 1 (by omega)) (by simp))
theorem impl_IsInside_l0_ev (p w : ByteArray) (hp : p.size ≤ 140737488351232) (hw : w.size ≤ 140737488351232) : ∀ i : Nat, i ≤ 140737488351232 → Ev (fun k => impl_IsInside.l0 k p w i) (insideFrom p w i) := by
  refine down (w.size - p.size) ?_ ?_
  · intro i h hi
    apply ev_succ
    simp only [impl_IsInside.l0]
    rw [wrap64_id (n := (i : Int) + p.size) (by omega) (by omega)]
    refine ev_neg (by omega) (ev_now ?_)
    unfold insideFrom
    rw [range_nil h]; rfl
  · intro i h ih hi
    apply ev_succ
    simp only [impl_IsInside.l0]
    rw [wrap64_id (n := (i : Int) + p.size) (by omega) (by omega), wrap64_id (n := (i : Int) + 1) (by omega) (by omega), succ_cast, show ((i : Int) + p.size).toNat = i + p.size by omega, show (i : Int).toNat = i by omega]
    refine ev_pos (by omega) (ev_pos (by omega) (ev_pos (by omega) (ev_pos (by omega) ?_)))
    unfold insideFrom at ih ⊢
    rw [range_cons h, List.any_cons]
    by_cases he : (w.extract i (i + p.size)).toList = p.toList
    · exact ev_pos he (ev_now (by simp [he]))
    · exact ev_neg he (ev_eq (ih (by omega)) (by simp [he]))
theorem impl_IsInside_ev (p w : ByteArray) (hp : p.size ≤ 140737488351232) (hw : w.size ≤ 140737488351232) : Ev (fun k => impl_IsInside.f k p w) (insideM p w) := by
  unfold impl_IsInside.f insideM
  refine ev_bind (impl_IsWord_ev p hp) ?_
  cases wordM p
  · refine ev_neg (by simp) (ev_succ ?_)
    simp only [impl_IsInside.j0]
    exact ev_pos (by simp) (ev_now rfl)
  · refine ev_pos rfl (ev_bind (impl_IsWord_ev w hw) (ev_succ ?_))
    simp only [impl_IsInside.j0]
    cases wordM w
    · exact ev_pos (by simp) (ev_now rfl)
    · exact ev_neg (by simp) (ev_eq (impl_IsInside_l0_ev p w hp hw 1 (by omega)) (by simp))

/-! ### parts -/
def headM (s : ByteArray) : ByteArray := if wordM s then s.extract 0 1 else ⟨#[]⟩
theorem spec_HeadOf_ev (s : ByteArray) (hs : s.size ≤ 140737488351232) : Ev (fun k => spec_HeadOf.f k s) (headM s) := by
  unfold spec_HeadOf.f headM
  refine ev_bind (spec_IsWord_ev s hs) ?_
  by_cases h : wordM s = true
  · have := wordM_size h
    exact ev_pos h (ev_pos (by omega) (ev_pos (by omega) (ev_now (if_pos h).symm)))
  · exact ev_neg h (ev_now (if_neg h).symm)
theorem impl_HeadOf_ev (s : ByteArray) (hs : s.size ≤ 140737488351232) : Ev (fun k => impl_HeadOf.f k s) (headM s) := by
  unfold impl_HeadOf.f headM
  refine ev_bind (impl_IsWord_ev s hs) ?_
  by_cases h : wordM s = true
  · have := wordM_size h
    exact ev_pos h (ev_pos (by omega) (ev_pos (by omega) (ev_now (if_pos h).symm)))
  · exact ev_neg h (ev_now (if_neg h).symm)
def noHeadM (s : ByteArray) : ByteArray := if wordM s then s.extract 1 s.size else ⟨#[]⟩
theorem spec_WithoutHead_ev (s : ByteArray) (hs : s.size ≤ 140737488351232) : Ev (fun k => spec_WithoutHead.f k s) (noHeadM s) := by
  unfold spec_WithoutHead.f noHeadM
  refine ev_bind (spec_IsWord_ev s hs) ?_
  by_cases h : wordM s = true
  · have := wordM_size h
    exact ev_pos h (ev_pos (by omega) (ev_now (if_pos h).symm))
  · exact ev_neg h (ev_now (if_neg h).symm)
theorem impl_WithoutHead_ev (s : ByteArray) (hs : s.size ≤ 140737488351232) : Ev (fun k => impl_WithoutHead.f k s) (noHeadM s) := by
  unfold impl_WithoutHead.f noHeadM
  refine ev_bind (impl_IsWord_ev s hs) ?_
  by_cases h : wordM s = true
  · have := wordM_size h
    exact ev_pos h (ev_pos (by omega) (ev_now (if_pos h).symm))
  · exact ev_neg h (ev_now (if_neg h).symm)
def noTailM (s : ByteArray) : ByteArray := if wordM s then s.extract 0 (s.size - 1) else ⟨#[]⟩
theorem spec_WithoutTail_ev (s : ByteArray) (hs : s.size ≤ 140737488351232) : Ev (fun k => spec_WithoutTail.f k s) (noTailM s) := by
  unfold spec_WithoutTail.f noTailM
  refine ev_bind (spec_IsWord_ev s hs) ?_
  by_cases h : wordM s = true
  · have := wordM_size h
    rw [wrap64_id (by omega) (by omega)]
    exact ev_pos h (ev_pos (by omega) (ev_pos (by omega) (ev_now (by rw [if_pos h, show ((s.size : Int) - 1).toNat = s.size - 1 by omega]))))
  · exact ev_neg h (ev_now (if_neg h).symm)
theorem impl_WithoutTail_ev (s : ByteArray) (hs : s.size ≤ 140737488351232) : Ev (fun k => impl_WithoutTail.f k s) (noTailM s) := by
  unfold impl_WithoutTail.f noTailM
  refine ev_bind (impl_IsWord_ev s hs) ?_
  by_cases h : wordM s = true
  · have := wordM_size h
    rw [wrap64_id (by omega) (by omega)]
    exact ev_pos h (ev_pos (by omega) (ev_pos (by omega) (ev_now (by rw [if_pos h, show ((s.size : Int) - 1).toNat = s.size - 1 by omega]))))
  · exact ev_neg h (ev_now (if_neg h).symm)

/-! ### back -/
def backM (s : ByteArray) : ByteArray := if 100 < s.size then ⟨#[]⟩ else ⟨s.data.reverse⟩
theorem impl_Backwards_eq (s : ByteArray) : impl_Backwards.f s = some (backM s) := rfl
theorem back_step (s acc : ByteArray) (i : Nat) (hi : i < s.size) (ha : acc.data.toList = (s.data.toList.take i).reverse) : (s.extract i (i + 1) ++ acc).data.toList = (s.data.toList.take (i + 1)).reverse := by
  have hl : i < s.data.toList.length := by simpa using hi
  rw [List.take_succ_eq_append_getElem hl, List.reverse_append, ← ha]
  have e : (s.extract i (i + 1)).data.toList = [s.data.toList[i]] := by
    rw [ByteArray.data_extract, Array.toList_extract]
    simp only [List.extract]
    rw [show i + 1 - i = 1 by omega, List.drop_eq_getElem_cons hl]
    rfl
  rw [ByteArray.data_append, Array.toList_append, e]
  rfl
theorem spec_Backwards_l0_ev (s : ByteArray) (hs : s.size ≤ 100) : ∀ i : Nat, i ≤ s.size → ∀ acc : ByteArray, acc.data.toList = (s.data.toList.take i).reverse → Ev (fun k => spec_Backwards.l0 k s acc i) (⟨s.data.reverse⟩ : ByteArray) := by
  refine down s.size ?_ ?_
  · intro i h hi acc ha
    apply ev_succ
    simp only [spec_Backwards.l0]
    refine ev_neg (by omega) (ev_now ?_)
    have hx : acc = ⟨s.data.reverse⟩ := by
      have : s.data.toList.length ≤ i := by simpa using h
      rw [List.take_of_length_le this] at ha
      apply ByteArray.ext
      apply Array.ext'
      rw [ha]
      simp
    rw [hx]
  · intro i h ih hi acc ha
    have hsz : acc.size ≤ 100 := by
      have : acc.size = acc.data.toList.length := by simp
      rw [this, ha]
      simp
      omega
    apply ev_succ
    simp only [spec_Backwards.l0]
    rw [wrap64_id (n := (i : Int) + 1) (by omega) (by omega), succ_cast]
    have hx : (s.extract i (i + 1)).size ≤ 1 := by
      rw [ByteArray.size_extract]
      omega
    refine ev_pos (by omega) (ev_pos (by omega) (ev_pos (by omega) (ev_pos (by omega) (ev_pos (by omega) (ev_pos ?_ (ih (by omega) _ ?_))))))
    · show (s.extract i (i + 1)).size + acc.size ≤ 9223372036854775807
      omega
    · exact back_step s acc i h ha
theorem spec_Backwards_ev (s : ByteArray) : Ev (fun k => spec_Backwards.f k s) (backM s) := by
  unfold spec_Backwards.f backM
  by_cases hs : 100 < s.size
  · rw [if_pos hs]
    apply ev_succ
    simp only [spec_Backwards.l0]
    exact ev_pos (by omega) (ev_neg (by omega) (ev_now rfl))
  · rw [if_neg hs]
    exact spec_Backwards_l0_ev s (by omega) 0 (by omega) _ (by simp)

/-! ### makes -/
def anyFrom (n i : Nat) (p : Nat → Bool) : Bool := (List.range' i (n - i)).any p
def stepGet (l : List IStep) (i : Nat) : IStep := l.getD i ⟨0, ⟨#[]⟩, 0, 0⟩
theorem stepGet_get {l : List IStep} {i : Nat} (h : i < l.length) : stepGet l i = l[i] := by
  unfold stepGet
  simp [h]
/-- Does step number i of a play make s? (n: more than i) -/
def makesM (l : List IStep) : Nat → Nat → ByteArray → Bool
  | 0, _, _ => false
  | n + 1, i, s =>
    if (stepGet l i).f0 = 1 then decide ((stepGet l i).f1 = s)
    else if (stepGet l i).f0 = 2 then makesM l n (stepGet l i).f2.toNat (backM s)
    else if (stepGet l i).f0 = 3 then rearrM (stepGet l (stepGet l i).f2.toNat).f1 s
    else if (stepGet l i).f0 = 4 then anyFrom s.size 1 fun j => makesM l n (stepGet l i).f2.toNat (s.extract 0 j) && makesM l n (stepGet l i).f3.toNat (s.extract j s.size)
    else if (stepGet l i).f0 = 5 then anyFrom s.size 1 fun j => anyFrom s.size (j + 1) fun m => makesM l n (stepGet l i).f3.toNat (s.extract j m) && makesM l n (stepGet l i).f2.toNat (s.extract 0 j ++ s.extract m s.size)
    else if (stepGet l i).f0 = 6 then decide (headM (stepGet l (stepGet l i).f2.toNat).f1 = s)
    else if (stepGet l i).f0 = 7 then decide (noHeadM (stepGet l (stepGet l i).f2.toNat).f1 = s)
    else if (stepGet l i).f0 = 8 then decide (noTailM (stepGet l (stepGet l i).f2.toNat).f1 = s)
    else insideM s (stepGet l (stepGet l i).f2.toNat).f1
structure StepFacts (i : Nat) (x : IStep) : Prop where
  k : 1 ≤ x.f0 ∧ x.f0 ≤ 9
  a : 0 ≤ x.f2 ∧ (x.f2 < i ∨ x.f2 = 0)
  a2 : ¬ x.f0 = 1 → x.f2 < i
  b : x.f0 = 4 ∨ x.f0 = 5 → 0 ≤ x.f3 ∧ x.f3 < i
theorem stepOk_facts {l : List IStep} {i : Nat} {x : IStep} (h : stepOk l i x = true) : StepFacts i x := by
  unfold stepOk at h
  by_cases hk : 1 ≤ x.f0 ∧ x.f0 ≤ 9
  · rw [if_pos hk] at h
    by_cases h1 : x.f0 = 1
    · rw [if_pos h1] at h
      simp only [Bool.and_eq_true, decide_eq_true_eq] at h
      exact ⟨hk, ⟨by omega, by omega⟩, fun c => absurd h1 c, fun c => by omega⟩
    · rw [if_neg h1] at h
      simp only [Bool.and_eq_true, decide_eq_true_eq] at h
      refine ⟨hk, ⟨h.2.1.1, Or.inl h.2.1.2⟩, fun _ => h.2.1.2, fun c => ?_⟩
      have := h.2.2.2
      rw [if_pos c] at this
      simpa using this
  · rw [if_neg hk] at h
    exact absurd h (by simp)
theorem stepsFrom_all {l : List IStep} : ∀ (r : List IStep) (i : Nat), stepsFrom l r i = true → ∀ (j : Nat) (h : j < r.length), stepOk l (i + j) r[j] = true
  | [], _, _, j, h => absurd h (by simp)
  | x :: r, i, hs, j, h => by
    unfold stepsFrom at hs
    rw [Bool.and_eq_true] at hs
    cases j with
    | zero => exact hs.1
    | succ j =>
      have := stepsFrom_all r (i + 1) hs.2 j (by simpa using h)
      rw [show i + (j + 1) = i + 1 + j by omega]
      simpa using this
theorem play_facts {l : List IStep} (h : isPlayM l = true) : (1 ≤ l.length ∧ l.length ≤ 9) ∧ ∀ (i : Nat) (hi : i < l.length), StepFacts i l[i] := by
  unfold isPlayM at h
  rw [Bool.and_eq_true, decide_eq_true_eq] at h
  refine ⟨h.1, fun i hi => stepOk_facts (l := l) ?_⟩
  have := stepsFrom_all l 0 h.2 i hi
  rwa [Nat.zero_add] at this
theorem toList_beq (a b : ByteArray) : (a.toList == b.toList) = decide (a = b) := by
  rw [Bool.eq_iff_iff]
  simp [toList_inj]
theorem toList_beq' (a b : ByteArray) : (b.toList == a.toList) = decide (a = b) := by
  rw [Bool.eq_iff_iff]
  simp [toList_inj]
  exact ⟨fun h => h.symm, fun h => h.symm⟩
theorem backM_size {s : ByteArray} (h : s.size ≤ 8) : (backM s).size = s.size := by
  unfold backM
  rw [if_neg (by omega)]
  show s.data.reverse.size = s.data.size
  simp

theorem spec_join_ev (l : List IStep) (s : ByteArray) (hs : s.size ≤ 8) (f0 : Int) (f1 : ByteArray) (a b : Int) (p q : Nat → Bool)
    (hp : ∀ j, 1 ≤ j → j < s.size → Ev (fun k => spec_l15Makes.f k l a (s.extract 0 j)) (p j)) (hq : ∀ j, 1 ≤ j → j < s.size → Ev (fun k => spec_l15Makes.f k l b (s.extract j s.size)) (q j)) :
    ∀ i : Nat, 1 ≤ i → i ≤ 9 → Ev (fun k => spec_l15Join.l0 k l s i f0 f1 a b) (anyFrom s.size i fun j => p j && q j) := by
  refine down s.size ?_ ?_
  · intro i h h1 h9
    apply ev_succ
    simp only [spec_l15Join.l0]
    refine ev_neg (by omega) (ev_now ?_)
    unfold anyFrom
    rw [range_nil h]
    rfl
  · intro i h ih h1 h9
    apply ev_succ
    simp only [spec_l15Join.l0]
    rw [wrap64_id (n := (i : Int) + 1) (by omega) (by omega), succ_cast, show (i : Int).toNat = i by omega]
    unfold anyFrom at ih ⊢
    rw [range_cons h, List.any_cons]
    refine ev_pos (by omega) (ev_pos (by omega) (ev_pos (by omega) (ev_bind (hp i h1 h) ?_)))
    cases hpi : p i with
    | false => exact ev_neg (by simp) (ev_eq (ih (by omega) (by omega)) (by simp))
    | true =>
      refine ev_pos rfl (ev_bind (hq i h1 h) ?_)
      cases hqi : q i with
      | false => exact ev_neg (by simp) (ev_eq (ih (by omega) (by omega)) (by simp))
      | true => exact ev_pos rfl (ev_now (by simp))
theorem spec_in_ev (l : List IStep) (s : ByteArray) (hs : s.size ≤ 8) (f0 : Int) (f1 : ByteArray) (a b : Int) (p q : Nat → Nat → Bool)
    (hp : ∀ j m, 1 ≤ j → j < m → m < s.size → Ev (fun k => spec_l15Makes.f k l b (s.extract j m)) (p j m)) (hq : ∀ j m, 1 ≤ j → j < m → m < s.size → Ev (fun k => spec_l15Makes.f k l a (s.extract 0 j ++ s.extract m s.size)) (q j m)) :
    ∀ i : Nat, 1 ≤ i → i ≤ 9 → Ev (fun k => spec_l15In.l0 k l s i f0 f1 a b) (anyFrom s.size i fun j => anyFrom s.size (j + 1) fun m => p j m && q j m) := by
  refine down s.size ?_ ?_
  · intro i h h1 h9
    apply ev_succ
    simp only [spec_l15In.l0]
    refine ev_neg (by omega) (ev_now ?_)
    unfold anyFrom
    rw [range_nil h]
    rfl
  · intro i h ih h1 h9
    apply ev_succ
    simp only [spec_l15In.l0]
    rw [wrap64_id (n := (i : Int) + 1) (by omega) (by omega), succ_cast]
    refine ev_pos (by omega) ?_
    have inner : ∀ m : Nat, i < m → m ≤ 9 → Ev (fun k => spec_l15In.l1 k l s i m f0 f1 a b) (anyFrom s.size m (fun m => p i m && q i m) || anyFrom s.size (i + 1) fun j => anyFrom s.size (j + 1) fun m => p j m && q j m) := by
      refine down s.size ?_ ?_
      · intro m hm him h9
        apply ev_succ
        simp only [spec_l15In.l1]
        rw [wrap64_id (n := (i : Int) + 1) (by omega) (by omega), succ_cast]
        refine ev_neg (by omega) (ev_eq (ih (by omega) (by omega)) ?_)
        have : anyFrom s.size m (fun m => p i m && q i m) = false := by
          unfold anyFrom
          rw [range_nil hm]
          rfl
        rw [this, Bool.false_or]
      · intro m hm ihm him h9
        apply ev_succ
        simp only [spec_l15In.l1]
        have e : anyFrom s.size m (fun m => p i m && q i m) = ((p i m && q i m) || anyFrom s.size (m + 1) (fun m => p i m && q i m)) := by
          unfold anyFrom
          rw [range_cons hm, List.any_cons]
        rw [wrap64_id (n := (m : Int) + 1) (by omega) (by omega), succ_cast m, show (i : Int).toNat = i by omega, show (m : Int).toNat = m by omega, e]
        refine ev_pos (by omega) (ev_pos (by omega) (ev_pos (by omega) (ev_pos (by omega) (ev_bind (hp i m h1 him hm) ?_))))
        cases hpi : p i m with
        | false => exact ev_neg (by simp) (ev_eq (ihm (by omega) (by omega)) (by simp))
        | true =>
          refine ev_pos rfl (ev_pos (by omega) (ev_pos (by omega) (ev_pos ?_ (ev_bind (hq i m h1 him hm) ?_))))
          · rw [ByteArray.size_extract, ByteArray.size_extract]
            omega
          · cases hqi : q i m with
            | false => exact ev_neg (by simp) (ev_eq (ihm (by omega) (by omega)) (by simp))
            | true => exact ev_pos rfl (ev_now (by simp))
    refine ev_eq (inner (i + 1) (by omega) (by omega)) ?_
    have e : (anyFrom s.size i fun j => anyFrom s.size (j + 1) fun m => p j m && q j m) = (anyFrom s.size (i + 1) (fun m => p i m && q i m) || anyFrom s.size (i + 1) fun j => anyFrom s.size (j + 1) fun m => p j m && q j m) := by
      conv => lhs; unfold anyFrom
      rw [range_cons h, List.any_cons]
      rfl
    exact e.symm

theorem spec_makes_ev (l : List IStep) (hl : l.length ≤ 9) (hok : ∀ (i : Nat) (hi : i < l.length), StepFacts i l[i]) (hw : ∀ (i : Nat) (hi : i < l.length), l[i].f1.size ≤ 1048576) :
    ∀ (n i : Nat) (s : ByteArray), i < n → i < l.length → 1 ≤ s.size → s.size ≤ 8 → Ev (fun k => spec_l15Makes.f k l i s) (makesM l n i s) := by
  intro n
  induction n with
  | zero => intro i s h; omega
  | succ n ih =>
    intro i s hin hil h1 h8
    apply ev_succ
    simp only [spec_l15Makes.f]
    unfold makesM
    rw [rd_I_get hil, stepGet_get hil]
    have hx := hok i hil
    generalize l[i] = x at hx ⊢
    obtain ⟨a, ha⟩ := Int.eq_ofNat_of_zero_le hx.a.1
    have ha2 := hx.a.2
    have ha3 := hx.a2
    rw [ha] at ha2 ha3 ⊢
    have hal : a < l.length := by omega
    rw [Int.toNat_natCast, rd_I_get hal, stepGet_get hal]
    have hwa := hw a hal
    refine ev_pos (by omega) (ev_pos (by omega) ?_)
    by_cases c1 : x.f0 = 1
    · rw [if_pos c1]
      exact ev_pos c1 (ev_now (toList_beq _ _))
    rw [if_neg c1]
    refine ev_neg c1 ?_
    have hai : a < i := by have := ha3 c1; omega
    by_cases c2 : x.f0 = 2
    · rw [if_pos c2]
      exact ev_pos c2 (ev_bind (spec_Backwards_ev s) (ev_bind (ih a (backM s) (by omega) hal (by rw [backM_size h8]; omega) (by rw [backM_size h8]; omega)) (ev_now rfl)))
    rw [if_neg c2]
    refine ev_neg c2 ?_
    by_cases c3 : x.f0 = 3
    · rw [if_pos c3]
      exact ev_pos c3 (ev_pos (by omega) (ev_pos (by omega) (ev_bind (spec_IsRearranged_ev _ s (by omega) (by omega)) (ev_now rfl))))
    rw [if_neg c3]
    refine ev_neg c3 ?_
    by_cases c4 : x.f0 = 4
    · rw [if_pos c4]
      obtain ⟨hb0, hbi⟩ := hx.b (Or.inl c4)
      obtain ⟨b, hb⟩ := Int.eq_ofNat_of_zero_le hb0
      rw [hb] at hbi ⊢
      rw [Int.toNat_natCast]
      refine ev_pos c4 (ev_bind (spec_join_ev l s h8 _ _ _ _ _ _ (fun j hj1 hj2 => ih a (s.extract 0 j) (by omega) hal ?_ ?_) (fun j hj1 hj2 => ih b (s.extract j s.size) (by omega) (by omega) ?_ ?_) 1 (by omega) (by omega)) (ev_now rfl)) <;> (rw [ByteArray.size_extract]; omega)
    rw [if_neg c4]
    refine ev_neg c4 ?_
    by_cases c5 : x.f0 = 5
    · rw [if_pos c5]
      obtain ⟨hb0, hbi⟩ := hx.b (Or.inr c5)
      obtain ⟨b, hb⟩ := Int.eq_ofNat_of_zero_le hb0
      rw [hb] at hbi ⊢
      rw [Int.toNat_natCast]
      refine ev_pos c5 (ev_bind (spec_in_ev l s h8 _ _ _ _ (fun j m => makesM l n b (s.extract j m)) (fun j m => makesM l n a (s.extract 0 j ++ s.extract m s.size)) (fun j m hj1 hj2 hj3 => ih b (s.extract j m) (by omega) (by omega) ?_ ?_) (fun j m hj1 hj2 hj3 => ih a (s.extract 0 j ++ s.extract m s.size) (by omega) hal ?_ ?_) 1 (by omega) (by omega)) (ev_now rfl)) <;> (simp only [ByteArray.size_append, ByteArray.size_extract]; omega)
    rw [if_neg c5]
    refine ev_neg c5 ?_
    by_cases c6 : x.f0 = 6
    · rw [if_pos c6]
      exact ev_pos c6 (ev_pos (by omega) (ev_pos (by omega) (ev_bind (spec_HeadOf_ev _ (by omega)) (ev_now (toList_beq _ _)))))
    rw [if_neg c6]
    refine ev_neg c6 ?_
    by_cases c7 : x.f0 = 7
    · rw [if_pos c7]
      exact ev_pos c7 (ev_pos (by omega) (ev_pos (by omega) (ev_bind (spec_WithoutHead_ev _ (by omega)) (ev_now (toList_beq _ _)))))
    rw [if_neg c7]
    refine ev_neg c7 ?_
    by_cases c8 : x.f0 = 8
    · rw [if_pos c8]
      exact ev_pos c8 (ev_pos (by omega) (ev_pos (by omega) (ev_bind (spec_WithoutTail_ev _ (by omega)) (ev_now (toList_beq _ _)))))
    rw [if_neg c8]
    refine ev_neg c8 ?_
    exact ev_pos (by omega) (ev_pos (by omega) (ev_bind (spec_IsInside_ev s _ (by omega) (by omega)) (ev_now rfl)))

theorem impl_join_ev (l : List IStep) (s : ByteArray) (hs : s.size ≤ 8) (f0 : Int) (f1 : ByteArray) (a b : Int) (p q : Nat → Bool)
    (hp : ∀ j, 1 ≤ j → j < s.size → Ev (fun k => impl_makes.f k l a (s.extract 0 j)) (p j)) (hq : ∀ j, 1 ≤ j → j < s.size → Ev (fun k => impl_makes.f k l b (s.extract j s.size)) (q j)) :
    ∀ i : Nat, 1 ≤ i → i ≤ 9 → Ev (fun k => impl_makes.l0 k l s i f0 f1 a b) (anyFrom s.size i fun j => p j && q j) := by
  refine down s.size ?_ ?_
  · intro i h h1 h9
    apply ev_succ
    simp only [impl_makes.l0]
    refine ev_neg (by omega) (ev_now ?_)
    unfold anyFrom
    rw [range_nil h]
    rfl
  · intro i h ih h1 h9
    apply ev_succ
    simp only [impl_makes.l0]
    rw [wrap64_id (n := (i : Int) + 1) (by omega) (by omega), succ_cast, show (i : Int).toNat = i by omega]
    unfold anyFrom at ih ⊢
    rw [range_cons h, List.any_cons]
    refine ev_pos (by omega) (ev_pos (by omega) (ev_pos (by omega) (ev_bind (hp i h1 h) ?_)))
    cases hpi : p i with
    | false => exact ev_neg (by simp) (ev_eq (ih (by omega) (by omega)) (by simp))
    | true =>
      refine ev_pos rfl (ev_bind (hq i h1 h) ?_)
      cases hqi : q i with
      | false => exact ev_neg (by simp) (ev_eq (ih (by omega) (by omega)) (by simp))
      | true => exact ev_pos rfl (ev_now (by simp))
theorem impl_in_ev (l : List IStep) (s : ByteArray) (hs : s.size ≤ 8) (f0 : Int) (f1 : ByteArray) (a b : Int) (p q : Nat → Nat → Bool)
    (hp : ∀ j m, 1 ≤ j → j < m → m < s.size → Ev (fun k => impl_makes.f k l b (s.extract j m)) (p j m)) (hq : ∀ j m, 1 ≤ j → j < m → m < s.size → Ev (fun k => impl_makes.f k l a (s.extract 0 j ++ s.extract m s.size)) (q j m)) :
    ∀ i : Nat, 1 ≤ i → i ≤ 9 → Ev (fun k => impl_makes.l1 k l s i f0 f1 a b) (anyFrom s.size i fun j => anyFrom s.size (j + 1) fun m => p j m && q j m) := by
  refine down s.size ?_ ?_
  · intro i h h1 h9
    apply ev_succ
    simp only [impl_makes.l1]
    refine ev_neg (by omega) (ev_now ?_)
    unfold anyFrom
    rw [range_nil h]
    rfl
  · intro i h ih h1 h9
    apply ev_succ
    simp only [impl_makes.l1]
    rw [wrap64_id (n := (i : Int) + 1) (by omega) (by omega), succ_cast]
    refine ev_pos (by omega) ?_
    have inner : ∀ m : Nat, i < m → m ≤ 9 → Ev (fun k => impl_makes.l2 k l s i m f0 f1 a b) (anyFrom s.size m (fun m => p i m && q i m) || anyFrom s.size (i + 1) fun j => anyFrom s.size (j + 1) fun m => p j m && q j m) := by
      refine down s.size ?_ ?_
      · intro m hm him h9
        apply ev_succ
        simp only [impl_makes.l2]
        rw [wrap64_id (n := (i : Int) + 1) (by omega) (by omega), succ_cast]
        refine ev_neg (by omega) (ev_eq (ih (by omega) (by omega)) ?_)
        have : anyFrom s.size m (fun m => p i m && q i m) = false := by
          unfold anyFrom
          rw [range_nil hm]
          rfl
        rw [this, Bool.false_or]
      · intro m hm ihm him h9
        apply ev_succ
        simp only [impl_makes.l2]
        have e : anyFrom s.size m (fun m => p i m && q i m) = ((p i m && q i m) || anyFrom s.size (m + 1) (fun m => p i m && q i m)) := by
          unfold anyFrom
          rw [range_cons hm, List.any_cons]
        rw [wrap64_id (n := (m : Int) + 1) (by omega) (by omega), succ_cast m, show (i : Int).toNat = i by omega, show (m : Int).toNat = m by omega, e]
        refine ev_pos (by omega) (ev_pos (by omega) (ev_pos (by omega) (ev_pos (by omega) (ev_bind (hp i m h1 him hm) ?_))))
        cases hpi : p i m with
        | false => exact ev_neg (by simp) (ev_eq (ihm (by omega) (by omega)) (by simp))
        | true =>
          refine ev_pos rfl (ev_pos (by omega) (ev_pos (by omega) (ev_pos ?_ (ev_bind (hq i m h1 him hm) ?_))))
          · rw [ByteArray.size_extract, ByteArray.size_extract]
            omega
          · cases hqi : q i m with
            | false => exact ev_neg (by simp) (ev_eq (ihm (by omega) (by omega)) (by simp))
            | true => exact ev_pos rfl (ev_now (by simp))
    refine ev_eq (inner (i + 1) (by omega) (by omega)) ?_
    have e : (anyFrom s.size i fun j => anyFrom s.size (j + 1) fun m => p j m && q j m) = (anyFrom s.size (i + 1) (fun m => p i m && q i m) || anyFrom s.size (i + 1) fun j => anyFrom s.size (j + 1) fun m => p j m && q j m) := by
      conv => lhs; unfold anyFrom
      rw [range_cons h, List.any_cons]
      rfl
    exact e.symm

theorem impl_makes_ev (l : List IStep) (hl : l.length ≤ 9) (hok : ∀ (i : Nat) (hi : i < l.length), StepFacts i l[i]) (hw : ∀ (i : Nat) (hi : i < l.length), l[i].f1.size ≤ 1048576) :
    ∀ (n i : Nat) (s : ByteArray), i < n → i < l.length → 1 ≤ s.size → s.size ≤ 8 → Ev (fun k => impl_makes.f k l i s) (makesM l n i s) := by
  intro n
  induction n with
  | zero => intro i s h; omega
  | succ n ih =>
    intro i s hin hil h1 h8
    apply ev_succ
    simp only [impl_makes.f]
    unfold makesM
    rw [rd_I_get hil, stepGet_get hil]
    have hx := hok i hil
    generalize l[i] = x at hx ⊢
    obtain ⟨a, ha⟩ := Int.eq_ofNat_of_zero_le hx.a.1
    have ha2 := hx.a.2
    have ha3 := hx.a2
    rw [ha] at ha2 ha3 ⊢
    have hal : a < l.length := by omega
    rw [Int.toNat_natCast, rd_I_get hal, stepGet_get hal]
    have hwa := hw a hal
    refine ev_pos (by omega) (ev_pos (by omega) (ev_neg ?_ (ev_pos (by omega) (ev_pos (by omega) ?_))))
    · intro e
      rw [empty_iff] at e
      rw [e] at h1
      simp [ByteArray.size] at h1
    by_cases c1 : x.f0 = 1
    · rw [if_pos c1]
      exact ev_pos c1 (ev_now (toList_beq' _ _))
    rw [if_neg c1]
    refine ev_neg c1 ?_
    have hai : a < i := by have := ha3 c1; omega
    by_cases c2 : x.f0 = 2
    · rw [if_pos c2]
      exact ev_pos c2 (ev_let (impl_Backwards_eq s) (ev_bind (ih a (backM s) (by omega) hal (by rw [backM_size h8]; omega) (by rw [backM_size h8]; omega)) (ev_now rfl)))
    rw [if_neg c2]
    refine ev_neg c2 ?_
    by_cases c3 : x.f0 = 3
    · rw [if_pos c3]
      exact ev_pos c3 ((ev_bind (impl_IsRearranged_ev _ s (by omega) (by omega)) (ev_now rfl)))
    rw [if_neg c3]
    refine ev_neg c3 ?_
    by_cases c4 : x.f0 = 4
    · rw [if_pos c4]
      obtain ⟨hb0, hbi⟩ := hx.b (Or.inl c4)
      obtain ⟨b, hb⟩ := Int.eq_ofNat_of_zero_le hb0
      rw [hb] at hbi ⊢
      rw [Int.toNat_natCast]
      refine ev_pos c4 (impl_join_ev l s h8 _ _ _ _ _ _ (fun j hj1 hj2 => ih a (s.extract 0 j) (by omega) hal ?_ ?_) (fun j hj1 hj2 => ih b (s.extract j s.size) (by omega) (by omega) ?_ ?_) 1 (by omega) (by omega)) <;> (rw [ByteArray.size_extract]; omega)
    rw [if_neg c4]
    refine ev_neg c4 ?_
    by_cases c5 : x.f0 = 5
    · rw [if_pos c5]
      obtain ⟨hb0, hbi⟩ := hx.b (Or.inr c5)
      obtain ⟨b, hb⟩ := Int.eq_ofNat_of_zero_le hb0
      rw [hb] at hbi ⊢
      rw [Int.toNat_natCast]
      refine ev_pos c5 (impl_in_ev l s h8 _ _ _ _ (fun j m => makesM l n b (s.extract j m)) (fun j m => makesM l n a (s.extract 0 j ++ s.extract m s.size)) (fun j m hj1 hj2 hj3 => ih b (s.extract j m) (by omega) (by omega) ?_ ?_) (fun j m hj1 hj2 hj3 => ih a (s.extract 0 j ++ s.extract m s.size) (by omega) hal ?_ ?_) 1 (by omega) (by omega)) <;> (simp only [ByteArray.size_append, ByteArray.size_extract]; omega)
    rw [if_neg c5]
    refine ev_neg c5 ?_
    by_cases c6 : x.f0 = 6
    · rw [if_pos c6]
      exact ev_pos c6 ((ev_bind (impl_HeadOf_ev _ (by omega)) (ev_now (toList_beq' _ _))))
    rw [if_neg c6]
    refine ev_neg c6 ?_
    by_cases c7 : x.f0 = 7
    · rw [if_pos c7]
      exact ev_pos c7 ((ev_bind (impl_WithoutHead_ev _ (by omega)) (ev_now (toList_beq' _ _))))
    rw [if_neg c7]
    refine ev_neg c7 ?_
    by_cases c8 : x.f0 = 8
    · rw [if_pos c8]
      exact ev_pos c8 ((ev_bind (impl_WithoutTail_ev _ (by omega)) (ev_now (toList_beq' _ _))))
    rw [if_neg c8]
    refine ev_neg c8 ?_
    exact ev_pos (by have := hx.k; omega) (ev_bind (impl_IsInside_ev s _ (by omega) (by omega)) (ev_now rfl))

def makesTop (l : List IStep) (s : ByteArray) : Bool := isPlayM l && (wordM s && makesM l l.length (l.length - 1) s)

theorem spec_Makes_ev (l : List IStep) (hw : ∀ x ∈ l, x.f1.size ≤ 1048576) (s : ByteArray) (hs : s.size ≤ 1048576) : Ev (fun k => spec_Makes.f k l s) (makesTop l s) := by
  unfold spec_Makes.f makesTop
  refine ev_bind (spec_IsPlay_ev l hw) ?_
  cases hp : isPlayM l with
  | false => exact ev_neg (by simp) (ev_now (by simp))
  | true =>
    refine ev_pos rfl (ev_bind (spec_IsWord_ev s (by omega)) ?_)
    cases hwd : wordM s with
    | false => exact ev_neg (by simp) (ev_now (by simp))
    | true =>
      have hf := play_facts hp
      have hz := wordM_size hwd
      rw [wrap64_id (n := (l.length : Int) - 1) (by omega) (by omega), show ((l.length : Int) - 1) = ((l.length - 1 : Nat) : Int) by omega]
      exact ev_pos rfl (ev_bind (spec_makes_ev l hf.1.2 hf.2 (fun i hi => hw _ (List.getElem_mem hi)) l.length (l.length - 1) s (by omega) (by omega) hz.1 hz.2) (ev_now (by simp)))

theorem impl_Makes_ev (l : List IStep) (hw : ∀ x ∈ l, x.f1.size ≤ 1048576) (s : ByteArray) (hs : s.size ≤ 1048576) : Ev (fun k => impl_Makes.f k l s) (makesTop l s) := by
  unfold impl_Makes.f makesTop
  refine ev_bind (impl_IsPlay_ev l hw) ?_
  cases hp : isPlayM l with
  | false => exact ev_neg (by simp) (ev_now (by simp))
  | true =>
    refine ev_pos rfl (ev_bind (impl_IsWord_ev s (by omega)) ?_)
    cases hwd : wordM s with
    | false => exact ev_neg (by simp) (ev_now (by simp))
    | true =>
      have hf := play_facts hp
      have hz := wordM_size hwd
      rw [wrap64_id (n := (l.length : Int) - 1) (by omega) (by omega), show ((l.length : Int) - 1) = ((l.length - 1 : Nat) : Int) by omega]
      exact ev_pos rfl (ev_bind (impl_makes_ev l hf.1.2 hf.2 (fun i hi => hw _ (List.getElem_mem hi)) l.length (l.length - 1) s (by omega) (by omega) hz.1 hz.2) (ev_now (by simp)))

/-! ### wordsmade -/
def wordsMadeM (l : List IStep) (ws : List ByteArray) : List ByteArray := ws.filter (makesTop l)
theorem wordsMadeM_length (l : List IStep) (ws : List ByteArray) : (wordsMadeM l ws).length ≤ ws.length := List.length_filter_le _ _
theorem spec_WordsMade_l0_ev (l : List IStep) (hw : ∀ x ∈ l, x.f1.size ≤ 1048576) (ws : List ByteArray) (hl : ws.length ≤ 1048576) (hs : ∀ s ∈ ws, s.size ≤ 1048576) : ∀ i : Nat, i ≤ ws.length → ∀ acc : List ByteArray, acc.length ≤ i →
    Ev (fun k => spec_WordsMade.l0 k l ws acc i) (acc ++ (ws.drop i).filter (makesTop l)) := by
  refine down ws.length ?_ ?_
  · intro i h hi acc ha
    apply ev_succ
    simp only [spec_WordsMade.l0]
    exact ev_neg (by omega) (ev_now (by rw [List.drop_eq_nil_of_le h]; simp))
  · intro i h ih hi acc ha
    apply ev_succ
    simp only [spec_WordsMade.l0]
    rw [rdOf_get h, wrap64_id (n := (i : Int) + 1) (by omega) (by omega), succ_cast, List.drop_eq_getElem_cons h, List.filter_cons]
    refine ev_pos (by omega) (ev_pos (by omega) (ev_bind (spec_Makes_ev l hw ws[i] (hs _ (List.getElem_mem h))) ?_))
    cases makesTop l ws[i] with
    | true => exact ev_pos rfl (ev_pos (by omega) (ev_eq (ih (by omega) _ (by simp; omega)) (by simp)))
    | false => exact ev_neg (by simp) (ev_eq (ih (by omega) _ (by omega)) (by simp))
theorem spec_WordsMade_ev (l : List IStep) (hw : ∀ x ∈ l, x.f1.size ≤ 1048576) (ws : List ByteArray) (hl : ws.length ≤ 1048576) (hs : ∀ s ∈ ws, s.size ≤ 1048576) : Ev (fun k => spec_WordsMade.f k l ws) (wordsMadeM l ws) := by
  unfold spec_WordsMade.f wordsMadeM
  exact ev_eq (spec_WordsMade_l0_ev l hw ws hl hs 0 (by omega) [] (by simp)) (by simp)
theorem madeGo_ev (l : List IStep) (hw : ∀ x ∈ l, x.f1.size ≤ 1048576) : ∀ ws : List ByteArray, (∀ s ∈ ws, s.size ≤ 1048576) → Ev (fun k => madeGo k l ws) (ws.filter (makesTop l))
  | [], _ => ev_now rfl
  | w :: ws, hs => by
    simp only [madeGo]
    refine ev_bind (impl_Makes_ev l hw w (hs w (by simp))) (ev_bind (madeGo_ev l hw ws (fun s h => hs s (by simp [h]))) (ev_now ?_))
    rw [List.filter_cons]
theorem impl_WordsMade_ev (l : List IStep) (hw : ∀ x ∈ l, x.f1.size ≤ 1048576) (ws : List ByteArray) (hl : ws.length ≤ 1048576) (hs : ∀ s ∈ ws, s.size ≤ 1048576) : Ev (fun k => impl_WordsMade.f k l ws) (wordsMadeM l ws) := by
  unfold impl_WordsMade.f
  exact ev_pos hl (madeGo_ev l hw ws hs)

/-! ### drawplay -/
theorem spec_l1Once_some (l : List Int) (i h n : Int) (h0 : 0 ≤ i ∧ i ≤ l.length) (hl : l.length ≤ 1048576) (hn : n ≤ 16777216) : ∃ (b : Bool) (i' h' : Int), spec_l1Once.f l i h n = some (b, i', h') ∧ (0 ≤ i' ∧ i' ≤ l.length) := by
  obtain ⟨x, i1, h1, e1, _, b1⟩ := spec_l1Below_some l i h n h0 hl hn
  unfold spec_l1Once.f
  rw [e1]
  exact ⟨_, _, _, rfl, b1⟩
theorem spec_l1Int_pl (l : List Int) (i h : Int) (L : List Int) (h0 : 0 ≤ i ∧ i ≤ l.length) (hl : l.length ≤ 1048576) (hL : 0 < L.length) (hL2 : L.length ≤ 1000) : ∃ x i' h' : Int, spec_l1Int.f l i h L = some (x, i', h') ∧ (0 ≤ i' ∧ i' ≤ l.length) := by
  obtain ⟨x, i1, h1, e1, x1, b1⟩ := spec_l1Below_some l i h L.length h0 hl (by omega)
  have x2 := x1.2.1 (by omega)
  unfold spec_l1Int.f
  rw [e1, Option.bind_some, if_pos x1.1, if_pos x2]
  exact ⟨_, _, _, rfl, b1⟩
theorem spec_l5Raw_some (l : List Int) (i h : Int) (h0 : 0 ≤ i ∧ i ≤ l.length) (hl : l.length ≤ 1048576) : ∃ x i' h' : Int, spec_l5Raw.f l i h = some (x, i', h') ∧ (0 ≤ i' ∧ i' ≤ l.length) := by
  unfold spec_l5Raw.f
  obtain ⟨x, i1, h1, e1, b1⟩ := spec_l1Int_pl l i h [(-1), 0, 99, 100, 1000, 1001, 9223372036854775807, (-9223372036854775808)] h0 hl (by simp) (by simp)
  rw [e1]
  exact ⟨_, _, _, rfl, b1⟩
theorem step_back (L : List IStep) (h0 : 0 < L.length) (h1 : L[0].f0 = 1) (hL : L.length ≤ 100) (l : List Int) (i h kd : Int) (s : ByteArray) (b : Int) : ∀ n : Nat, n < L.length → ∃ a : Int, Ev (fun k => spec_l15Step.l0 k L l i h kd s (n : Int) b) (kd, s, a, b, i, h)
  | 0, hn => by
    refine ⟨0, ev_succ ?_⟩
    simp only [spec_l15Step.l0]
    by_cases hk : kd = 2
    · exact ev_pos hk (ev_now rfl)
    · refine ev_neg hk (ev_pos (by omega) (ev_pos (by omega) (ev_pos ?_ (ev_now rfl))))
      have := rd_I_get (l := L) (i := 0) h0
      rw [show ((0 : Nat) : Int) = (0 : Int) from rfl] at *
      rw [this]
      exact h1
  | n + 1, hn => by
    obtain ⟨a, ha⟩ := step_back L h0 h1 hL l i h kd s b n (by omega)
    by_cases hk : kd = 2
    · refine ⟨((n + 1 : Nat) : Int), ev_succ ?_⟩
      simp only [spec_l15Step.l0]
      exact ev_pos hk (ev_now rfl)
    · by_cases h2 : L[n + 1].f0 = 1
      · refine ⟨((n + 1 : Nat) : Int), ev_succ ?_⟩
        simp only [spec_l15Step.l0]
        rw [rd_I_get hn]
        exact ev_neg hk (ev_pos (by omega) (ev_pos (by omega) (ev_pos h2 (ev_now rfl))))
      · refine ⟨a, ev_succ ?_⟩
        simp only [spec_l15Step.l0]
        rw [rd_I_get hn, wrap64_id (n := ((n + 1 : Nat) : Int) - 1) (by omega) (by omega), show ((n + 1 : Nat) : Int) - 1 = (n : Int) by omega]
        exact ev_neg hk (ev_pos (by omega) (ev_pos (by omega) (ev_neg h2 ha)))
theorem spec_l15Step_ev (l : List Int) (i h : Int) (L : List IStep) (h0 : 0 ≤ i ∧ i ≤ l.length) (hl : l.length ≤ 1048576) (hL : L.length ≤ 100) (hf : ∀ hp : 0 < L.length, L[0].f0 = 1) : ∃ (a : Int) (s : ByteArray) (b c i' h' : Int), Ev (fun k => spec_l15Step.f k l i h L) (a, s, b, c, i', h') ∧ s.size ≤ 100 ∧ (L.length = 0 → a = 1) ∧ (0 ≤ i' ∧ i' ≤ l.length) := by
  obtain ⟨x, i1, h1, e1, x1, b1⟩ := spec_l1Below_some l i h 9 h0 hl (by omega)
  have x2 := x1.2.1 (by omega)
  -- the kind is settled: a word, or another
  have j1 : ∀ (kd i2 h2 : Int), (0 ≤ i2 ∧ i2 ≤ l.length) → (kd = 1 ∨ 0 < L.length) → ∃ (a : Int) (s : ByteArray) (b c i' h' : Int), Ev (fun k => spec_l15Step.j1 k L l i2 h2 kd (⟨#[]⟩ : ByteArray) 0 0) (a, s, b, c, i', h') ∧ s.size ≤ 100 ∧ (kd = 1 → a = 1) ∧ (0 ≤ i' ∧ i' ≤ l.length) := by
    intro kd i2 h2 b2 hor
    by_cases hk : kd = 1
    · obtain ⟨w, i3, h3, e3, w3, b3⟩ := spec_l4Word_some l i2 h2 b2 hl
      obtain ⟨s, i4, h4, e4, m4, b4⟩ := spec_l1Str_some l i3 h3 [w, (⟨#[114]⟩ : ByteArray), (⟨#[115]⟩ : ByteArray), (⟨#[97, 116]⟩ : ByteArray), (⟨#[101, 97]⟩ : ByteArray)] b3 hl (by simp) (by simp)
      refine ⟨kd, s, 0, 0, i4, h4, ev_succ ?_, ?_, fun _ => hk, b4⟩
      · simp only [spec_l15Step.j1]
        exact ev_pos hk (ev_let e3 (ev_let e4 (ev_now rfl)))
      · simp only [List.mem_cons, List.not_mem_nil, or_false] at m4
        rcases m4 with rfl | rfl | rfl | rfl | rfl
        · omega
        all_goals (show _ ≤ 100; decide)
    · have hp : 0 < L.length := hor.resolve_left hk
      have j2t : ∃ (a : Int) (s : ByteArray) (b c i' h' : Int), Ev (fun k => spec_l15Step.j2 k L true l i2 h2 kd (⟨#[]⟩ : ByteArray) (wrap64 ((L.length : Int) - 1)) 0) (a, s, b, c, i', h') ∧ s.size ≤ 100 ∧ (0 ≤ i' ∧ i' ≤ l.length) := by
        obtain ⟨y, i3, h3, e3, _, b3⟩ := spec_l1Below_some l i2 h2 (L.length : Int) b2 hl (by omega)
        obtain ⟨z, i4, h4, e4, _, b4⟩ := spec_l1Below_some l i3 h3 (L.length : Int) b3 hl (by omega)
        refine ⟨kd, ⟨#[]⟩, y, z, i4, h4, ev_succ ?_, by decide, b4⟩
        simp only [spec_l15Step.j2]
        exact ev_pos (by simp) (ev_let e3 (ev_let e4 (ev_now rfl)))
      have j2f : ∃ (a : Int) (s : ByteArray) (b c i' h' : Int), Ev (fun k => spec_l15Step.j2 k L false l i2 h2 kd (⟨#[]⟩ : ByteArray) (wrap64 ((L.length : Int) - 1)) 0) (a, s, b, c, i', h') ∧ s.size ≤ 100 ∧ (0 ≤ i' ∧ i' ≤ l.length) := by
        obtain ⟨a, ha⟩ := step_back L hp (hf hp) hL l i2 h2 kd ⟨#[]⟩ 0 (L.length - 1) (by omega)
        refine ⟨kd, ⟨#[]⟩, a, 0, i2, h2, ev_succ ?_, by decide, b2⟩
        simp only [spec_l15Step.j2]
        rw [wrap64_id (n := (L.length : Int) - 1) (by omega) (by omega), show (L.length : Int) - 1 = ((L.length - 1 : Nat) : Int) by omega]
        exact ev_neg (by simp) ha
      by_cases h4 : kd = 4
      · obtain ⟨a, s, b, c, i', h', e, q1, q2⟩ := j2t
        refine ⟨a, s, b, c, i', h', ev_succ ?_, q1, fun hc => absurd hc hk, q2⟩
        simp only [spec_l15Step.j1]
        exact ev_neg hk (ev_pos h4 e)
      · by_cases h5 : kd = 5
        · obtain ⟨a, s, b, c, i', h', e, q1, q2⟩ := j2t
          refine ⟨a, s, b, c, i', h', ev_succ ?_, q1, fun hc => absurd hc hk, q2⟩
          simp only [spec_l15Step.j1]
          rw [show (kd == 5) = true from beq_iff_eq.2 h5]
          exact ev_neg hk (ev_neg h4 e)
        · obtain ⟨a, s, b, c, i', h', e, q1, q2⟩ := j2f
          refine ⟨a, s, b, c, i', h', ev_succ ?_, q1, fun hc => absurd hc hk, q2⟩
          simp only [spec_l15Step.j1]
          rw [show (kd == 5) = false from beq_eq_false_iff_ne.2 h5]
          exact ev_neg hk (ev_neg h4 e)
  have hw : wrap64 (1 + x) = 1 + x := wrap64_id (by omega) (by omega)
  unfold spec_l15Step.f
  by_cases hz : L.length = 0
  · obtain ⟨a, s, b, c, i', h', e, q1, q2, q3⟩ := j1 1 i1 h1 b1 (.inl rfl)
    refine ⟨a, s, b, c, i', h', ev_let e1 (ev_pos (by omega) (ev_succ ?_)), q1, fun _ => q2 rfl, q3⟩
    simp only [spec_l15Step.j0]
    exact ev_pos (by simp) e
  · obtain ⟨on, i2, h2, e2, b2⟩ := spec_l1Once_some l i1 h1 3 b1 hl (by omega)
    cases on with
    | true =>
      obtain ⟨a, s, b, c, i', h', e, q1, q2, q3⟩ := j1 1 i2 h2 b2 (.inl rfl)
      refine ⟨a, s, b, c, i', h', ev_let e1 (ev_neg (by omega) (ev_let e2 (ev_succ ?_))), q1, fun hc => absurd hc hz, q3⟩
      simp only [spec_l15Step.j0]
      exact ev_pos (by simp) e
    | false =>
      obtain ⟨a, s, b, c, i', h', e, q1, q2, q3⟩ := j1 (1 + x) i2 h2 b2 (.inr (by omega))
      refine ⟨a, s, b, c, i', h', ev_let e1 (ev_neg (by omega) (ev_let e2 (ev_succ ?_))), q1, fun hc => absurd hc hz, q3⟩
      simp only [spec_l15Step.j0]
      rw [hw]
      exact ev_neg (by simp) e
theorem spec_l15Draw_l0_ev (l : List Int) (hl : l.length ≤ 1048576) : ∀ (m : Nat) (L : List IStep) (i h : Int), (0 ≤ i ∧ i ≤ l.length) → L.length + m ≤ 100 → (∀ hp : 0 < L.length, L[0].f0 = 1) → (∀ x ∈ L, x.f1.size ≤ 100) →
    ∃ (L' : List IStep) (i' h' : Int), Ev (fun k => spec_l15Draw.l0 k L (m : Int) l i h) (L', i', h') ∧ L'.length = L.length + m ∧ (∀ x ∈ L', x.f1.size ≤ 100) ∧ (0 ≤ i' ∧ i' ≤ l.length)
  | 0, L, i, h, h0, hm, hf, hs => by
    refine ⟨L, i, h, ev_succ ?_, rfl, hs, h0⟩
    simp only [spec_l15Draw.l0]
    exact ev_neg (by omega) (ev_now rfl)
  | m + 1, L, i, h, h0, hm, hf, hs => by
    obtain ⟨a, s, b, c, i1, h1, e1, q1, q2, b1⟩ := spec_l15Step_ev l i h L h0 hl (by omega) hf
    obtain ⟨L', i', h', e2, r1, r2, r3⟩ := spec_l15Draw_l0_ev l hl m (L ++ [⟨a, s, b, c⟩]) i1 h1 b1 (by simp; omega) (fun hp => by
      by_cases hz : L.length = 0
      · have := List.length_eq_zero_iff.1 hz
        subst this
        exact q2 rfl
      · rw [List.getElem_append_left (by omega)]
        exact hf (by omega)) (fun x hx => by
      rcases List.mem_append.1 hx with hx | hx
      · exact hs x hx
      · rw [List.mem_singleton] at hx
        subst hx
        exact q1)
    refine ⟨L', i', h', ev_succ ?_, by rw [r1]; simp; omega, r2, r3⟩
    simp only [spec_l15Draw.l0]
    rw [wrap64_id (n := ((m + 1 : Nat) : Int) - 1) (by omega) (by omega), show ((m + 1 : Nat) : Int) - 1 = (m : Int) by omega]
    exact ev_pos (by omega) (ev_bind e1 (ev_pos (by omega) e2))
theorem spec_l15Any_ev (l : List Int) (i h : Int) (h0 : 0 ≤ i ∧ i ≤ l.length) (hl : l.length ≤ 1048576) : ∃ (L : List IStep) (i' h' : Int), Ev (fun k => spec_l15Any.f k l i h) (L, i', h') ∧ L.length ≤ 5 ∧ (∀ x ∈ L, x.f1.size ≤ 100) ∧ (0 ≤ i' ∧ i' ≤ l.length) := by
  obtain ⟨x, i1, h1, e1, x1, b1⟩ := spec_l1Below_some l i h 5 h0 hl (by omega)
  have x2 := x1.2.1 (by omega)
  obtain ⟨n, rfl⟩ := Int.eq_ofNat_of_zero_le x1.1
  obtain ⟨L, i2, h2, e2, r1, r2, b2⟩ := spec_l15Draw_l0_ev l hl (n + 1) [] i1 h1 b1 (by simp; omega) (fun hp => by simp at hp) (fun x hx => by cases hx)
  rw [List.length_nil, Nat.zero_add] at r1
  have ed : Ev (fun k => spec_l15Draw.f k l i h) (L, i2, h2) := by
    unfold spec_l15Draw.f
    refine ev_let e1 ?_
    rw [wrap64_id (n := 1 + (n : Int)) (by omega) (by omega), show 1 + (n : Int) = ((n + 1 : Nat) : Int) by omega]
    exact e2
  obtain ⟨y, i3, h3, e3, y3, b3⟩ := spec_l1Below_some l i2 h2 (L.length : Int) b2 hl (by omega)
  have y4 := y3.2.1 (by omega)
  obtain ⟨z, i4, h4, e4, _, b4⟩ := spec_l1Below_some l i3 h3 12 b3 hl (by omega)
  obtain ⟨j, rfl⟩ := Int.eq_ofNat_of_zero_le y3.1
  have hj : j < L.length := by omega
  have hrd := rd_I_get hj
  have hset : ∀ v : IStep, v.f1.size ≤ 100 → ∀ x ∈ L.set j v, x.f1.size ≤ 100 := by
    intro v hv x hx
    rcases List.mem_or_eq_of_mem_set hx with hx | hx
    · exact r2 x hx
    · subst hx
      exact hv
  have hjs := r2 _ (List.getElem_mem hj)
  have hlen : ∀ v : IStep, (L.set j v).length ≤ 5 := fun v => by rw [List.length_set]; omega
  unfold spec_l15Any.f
  by_cases z0 : z = 0
  · obtain ⟨v, i5, h5, e5, b5⟩ := spec_l1Int_pl l i4 h4 [0, 10, 3, 5] b4 hl (by simp) (by simp)
    refine ⟨_, _, _, ev_bind ed (ev_let e3 (ev_let e4 (ev_pos z0 (ev_let e5 (ev_pos (by omega) (ev_pos (by omega) (ev_now rfl))))))), hlen _, hset _ ?_, b5⟩
    rw [hrd]
    exact hjs
  · by_cases z1 : z = 1
    · obtain ⟨v, i5, h5, e5, v5, b5⟩ := spec_l4Any_some l i4 h4 b4 hl
      refine ⟨_, _, _, ev_bind ed (ev_let e3 (ev_let e4 (ev_neg z0 (ev_pos z1 (ev_let e5 (ev_pos (by omega) (ev_pos (by omega) (ev_now rfl)))))))), hlen _, hset _ (by show v.size ≤ 100; omega), b5⟩
    · by_cases z2 : z = 2
      · obtain ⟨v, i5, h5, e5, b5⟩ := spec_l5Raw_some l i4 h4 b4 hl
        refine ⟨_, _, _, ev_bind ed (ev_let e3 (ev_let e4 (ev_neg z0 (ev_neg z1 (ev_pos z2 (ev_let e5 (ev_pos (by omega) (ev_pos (by omega) (ev_now rfl))))))))), hlen _, hset _ ?_, b5⟩
        rw [hrd]
        exact hjs
      · by_cases z3 : z = 3
        · obtain ⟨v, i5, h5, e5, b5⟩ := spec_l5Raw_some l i4 h4 b4 hl
          refine ⟨_, _, _, ev_bind ed (ev_let e3 (ev_let e4 (ev_neg z0 (ev_neg z1 (ev_neg z2 (ev_pos z3 (ev_let e5 (ev_pos (by omega) (ev_pos (by omega) (ev_now rfl)))))))))), hlen _, hset _ ?_, b5⟩
          rw [hrd]
          exact hjs
        · by_cases z4 : z = 4
          · exact ⟨_, _, _, ev_bind ed (ev_let e3 (ev_let e4 (ev_neg z0 (ev_neg z1 (ev_neg z2 (ev_neg z3 (ev_pos z4 (ev_now rfl)))))))), by simp, by simp, b4⟩
          · exact ⟨_, _, _, ev_bind ed (ev_let e3 (ev_let e4 (ev_neg z0 (ev_neg z1 (ev_neg z2 (ev_neg z3 (ev_neg z4 (ev_now rfl)))))))), by show L.length ≤ 5; omega, r2, b4⟩
theorem four_words : ∃ W : List ByteArray, spec_l4Words.f = some W ∧ W.length ≤ 100 ∧ ∀ w ∈ W, w.size ≤ 100 := ⟨_, rfl, by simp, fun w hw => by
  simp only [List.mem_cons, List.not_mem_nil, or_false] at hw
  rcases hw with rfl | rfl | rfl | rfl | rfl | rfl | rfl | rfl | rfl | rfl | rfl | rfl | rfl | rfl | rfl | rfl | rfl | rfl | rfl | rfl | rfl | rfl | rfl | rfl | rfl | rfl | rfl | rfl | rfl | rfl | rfl | rfl | rfl | rfl | rfl <;> (show _ ≤ 100; decide)⟩
theorem spec_l15Target_ev (l : List Int) (i h : Int) (L : List IStep) (h0 : 0 ≤ i ∧ i ≤ l.length) (hl : l.length ≤ 1048576) (hs : ∀ x ∈ L, x.f1.size ≤ 100) : ∃ (s : ByteArray) (i' h' : Int), Ev (fun k => spec_l15Target.f k l i h L) (s, i', h') ∧ s.size ≤ 100 := by
  obtain ⟨W, e0, hW, hW2⟩ := four_words
  have em := spec_WordsMade_ev L (fun x hx => by have := hs x hx; omega) W (by omega) (fun s hx => by have := hW2 s hx; omega)
  have hml := wordsMadeM_length L W
  have any : ∀ i2 h2 : Int, (0 ≤ i2 ∧ i2 ≤ l.length) → ∃ (s : ByteArray) (i' h' : Int), Ev (fun k => spec_l15Target.j0 k (wordsMadeM L W) false l i2 h2) (s, i', h') ∧ s.size ≤ 100 := by
    intro i2 h2 b2
    obtain ⟨v, i5, h5, e5, v5, _⟩ := spec_l4Any_some l i2 h2 b2 hl
    refine ⟨v, i5, h5, ev_succ ?_, by omega⟩
    simp only [spec_l15Target.j0]
    exact ev_neg (by simp) (ev_let e5 (ev_now rfl))
  unfold spec_l15Target.f
  by_cases hz : ((wordsMadeM L W).length : Int) > 0
  · obtain ⟨on, i2, h2, e2, b2⟩ := spec_l1Once_some l i h 3 h0 hl (by omega)
    cases on with
    | true =>
      obtain ⟨s, i', h', e, q⟩ := any i2 h2 b2
      exact ⟨s, i', h', ev_let e0 (ev_bind em (ev_pos hz (ev_let e2 e))), q⟩
    | false =>
      obtain ⟨y, i3, h3, e3, y3, _⟩ := spec_l1Below_some l i2 h2 ((wordsMadeM L W).length : Int) b2 hl (by omega)
      have y4 := y3.2.1 (by omega)
      obtain ⟨j, rfl⟩ := Int.eq_ofNat_of_zero_le y3.1
      have hj : j < (wordsMadeM L W).length := by omega
      refine ⟨(wordsMadeM L W)[j], i3, h3, ev_let e0 (ev_bind em (ev_pos hz (ev_let e2 (ev_succ ?_)))), ?_⟩
      · simp only [spec_l15Target.j0, Bool.not_false]
        refine ev_pos (by simp) (ev_let e3 (ev_pos (by omega) (ev_pos (by omega) (ev_now ?_))))
        show (rdOf ByteArray.empty (wordsMadeM L W) (j : Int), i3, h3) = _
        rw [rdOf_get hj]
      · have := List.getElem_mem hj
        unfold wordsMadeM at this
        exact hW2 _ (List.mem_filter.1 this).1
  · obtain ⟨s, i', h', e, q⟩ := any i h h0
    exact ⟨s, i', h', ev_let e0 (ev_bind em (ev_neg hz e)), q⟩
theorem spec_DrawMakes_ev (l : List Int) (hl : l.length ≤ 1048576) : ∃ (L : List IStep) (s : ByteArray), Ev (fun k => spec_DrawMakes.f k l) (L, s) ∧ L.length ≤ 5 ∧ (∀ x ∈ L, x.f1.size ≤ 100) ∧ s.size ≤ 100 := by
  obtain ⟨h, e1⟩ := spec_l1New_ev l hl
  obtain ⟨L, i2, h2, e2, r1, r2, b2⟩ := spec_l15Any_ev l 0 h (by omega) hl
  obtain ⟨s, i3, h3, e3, q⟩ := spec_l15Target_ev l i2 h2 L b2 hl r2
  unfold spec_DrawMakes.f
  exact ⟨L, s, ev_bind e1 (ev_bind e2 (ev_bind e3 (ev_now rfl))), r1, r2, q⟩
theorem spec_l5Some_l0_ev (l : List Int) (hl : l.length ≤ 1048576) : ∀ (m : Nat) (L : List ByteArray) (i h : Int), (0 ≤ i ∧ i ≤ l.length) → L.length + m ≤ 100 → (∀ x ∈ L, x.size ≤ 100) →
    ∃ (L' : List ByteArray) (i' h' : Int), Ev (fun k => spec_l5Some.l0 k L (m : Int) l i h) (L', i', h') ∧ L'.length ≤ 100 ∧ (∀ x ∈ L', x.size ≤ 100)
  | 0, L, i, h, h0, hm, hs => by
    refine ⟨L, i, h, ev_succ ?_, by omega, hs⟩
    simp only [spec_l5Some.l0]
    exact ev_neg (by omega) (ev_now rfl)
  | m + 1, L, i, h, h0, hm, hs => by
    obtain ⟨v, i1, h1, e1, v1, b1⟩ := spec_l4Any_some l i h h0 hl
    obtain ⟨L', i', h', e2, r1, r2⟩ := spec_l5Some_l0_ev l hl m (L ++ [v]) i1 h1 b1 (by simp; omega) (fun x hx => by
      rcases List.mem_append.1 hx with hx | hx
      · exact hs x hx
      · rw [List.mem_singleton] at hx
        subst hx
        omega)
    refine ⟨L', i', h', ev_succ ?_, r1, r2⟩
    simp only [spec_l5Some.l0]
    rw [wrap64_id (n := ((m + 1 : Nat) : Int) - 1) (by omega) (by omega), show ((m + 1 : Nat) : Int) - 1 = (m : Int) by omega]
    exact ev_pos (by omega) (ev_let e1 (ev_pos (by omega) e2))
theorem spec_DrawWordsMade_ev (l : List Int) (hl : l.length ≤ 1048576) : ∃ (L : List IStep) (W : List ByteArray), Ev (fun k => spec_DrawWordsMade.f k l) (L, W) ∧ L.length ≤ 5 ∧ (∀ x ∈ L, x.f1.size ≤ 100) ∧ W.length ≤ 100 ∧ ∀ w ∈ W, w.size ≤ 100 := by
  obtain ⟨h, e1⟩ := spec_l1New_ev l hl
  obtain ⟨L, i2, h2, e2, r1, r2, b2⟩ := spec_l15Any_ev l 0 h (by omega) hl
  obtain ⟨on, i3, h3, e3, b3⟩ := spec_l1Once_some l i2 h2 2 b2 hl (by omega)
  unfold spec_DrawWordsMade.f
  cases on with
  | true =>
    obtain ⟨W, e0, hW, hW2⟩ := four_words
    exact ⟨L, W, ev_bind e1 (ev_bind e2 (ev_let e3 (ev_pos rfl (ev_let e0 (ev_now rfl))))), r1, r2, hW, hW2⟩
  | false =>
    obtain ⟨x, i4, h4, e4, x4, b4⟩ := spec_l1Below_some l i3 h3 6 b3 hl (by omega)
    have x5 := x4.2.1 (by omega)
    obtain ⟨n, rfl⟩ := Int.eq_ofNat_of_zero_le x4.1
    obtain ⟨W, i5, h5, e5, q1, q2⟩ := spec_l5Some_l0_ev l hl n [] i4 h4 b4 (by simp; omega) (fun x hx => by cases hx)
    have e6 : Ev (fun k => spec_l5Some.f k l i3 h3) (W, i5, h5) := by
      unfold spec_l5Some.f
      exact ev_let e4 e5
    exact ⟨L, W, ev_bind e1 (ev_bind e2 (ev_let e3 (ev_neg (by simp) (ev_bind e6 (ev_now rfl))))), r1, r2, q1, q2⟩

/-! ### choices -/
theorem rd_rows_get {l : List (List ByteArray)} {i : Nat} (h : i < l.length) : rd_L5 l (i : Int) = l[i] := by
  unfold rd_L5
  simp [h]

/-! ### splits -/
/-- A word, parted at a place. -/
def partAt (w : ByteArray) (i : Nat) : List ByteArray := [w.extract 0 i, w.extract i w.size]
def splitsM (w : ByteArray) : List (List ByteArray) := if wordM w then (List.range' 1 (w.size - 1)).map (partAt w) else []
theorem splitsM_length (w : ByteArray) : (splitsM w).length ≤ 8 := by
  unfold splitsM
  split
  · rename_i h
    have := wordM_size h
    simp
    omega
  · simp
theorem splitsM_two {w : ByteArray} {y : List ByteArray} (h : y ∈ splitsM w) : y.length = 2 := by
  unfold splitsM at h
  split at h
  · obtain ⟨i, _, rfl⟩ := List.mem_map.1 h
    rfl
  · cases h
theorem impl_SplitsOf_l0_ev (w : ByteArray) (hw : wordM w = true) : ∀ i : Nat, i ≤ w.size → ∀ acc : List (List ByteArray), acc.length ≤ i → Ev (fun k => impl_SplitsOf.l0 k w acc i) (acc ++ (List.range' i (w.size - i)).map (partAt w)) := by
  have hs := wordM_size hw
  refine down w.size ?_ ?_
  · intro i h hi acc ha
    apply ev_succ
    simp only [impl_SplitsOf.l0]
    rw [range_nil h]
    exact ev_neg (by omega) (ev_now (by simp))
  · intro i h ih hi acc ha
    apply ev_succ
    simp only [impl_SplitsOf.l0]
    rw [range_cons h, wrap64_id (n := (i : Int) + 1) (by omega) (by omega), succ_cast, show (i : Int).toNat = i by omega]
    exact ev_pos (by omega) (ev_pos (by omega) (ev_pos (by omega) (ev_pos (by omega) (ev_eq (ih (by omega) _ (by simp; omega)) (by simp [partAt])))))
theorem impl_SplitsOf_ev (w : ByteArray) (hs : w.size ≤ 1048576) : Ev (fun k => impl_SplitsOf.f k w) (splitsM w) := by
  unfold impl_SplitsOf.f splitsM
  refine ev_bind (impl_IsWord_ev w (by omega)) ?_
  by_cases hw : wordM w = true
  · rw [if_pos hw]
    exact ev_pos hw (ev_eq (impl_SplitsOf_l0_ev w hw 1 (wordM_size hw).1 [] (by simp)) (by simp))
  · rw [if_neg hw]
    exact ev_neg hw (ev_now rfl)

/-! ### once -/
/-- Each word once, in order. -/
def onceM : List ByteArray → List ByteArray → List ByteArray
  | acc, [] => acc
  | acc, s :: r => if s ∈ acc then onceM acc r else onceM (acc ++ [s]) r
theorem onceM_length : ∀ (l acc : List ByteArray), (onceM acc l).length ≤ acc.length + l.length
  | [], acc => by simp [onceM]
  | s :: r, acc => by
    unfold onceM
    split
    · have := onceM_length r acc
      simp only [List.length_cons]; omega
    · have := onceM_length r (acc ++ [s])
      simp only [List.length_cons, List.length_append, List.length_nil] at this ⊢; omega
theorem slices_Index_string_string_l0_ev (l : List ByteArray) (w : ByteArray) (hl : l.length ≤ 9223372036854775806) : ∀ i : Nat, i ≤ l.length → ∃ r : Int, Ev (fun k => slices_Index_string_string.l0 k l w l.length i) r ∧ decide (r ≥ 0) = decide (w ∈ l.drop i) := by
  refine down l.length ?_ ?_
  · intro i h hi
    refine ⟨-1, ?_, by rw [List.drop_eq_nil_of_le h]; simp⟩
    apply ev_succ
    simp only [slices_Index_string_string.l0]
    exact ev_neg (by omega) (ev_now rfl)
  · intro i h ih hi
    by_cases he : w.toList = l[i].toList
    · refine ⟨i, ?_, by rw [List.drop_eq_getElem_cons h]; simp [-List.getElem_cons_drop, toList_inj.1 he]⟩
      apply ev_succ
      simp only [slices_Index_string_string.l0]
      rw [rdOf_get h]
      exact ev_pos (by omega) (ev_pos (by omega) (ev_pos (by omega) (ev_pos he (ev_now rfl))))
    · obtain ⟨r, hr, h1⟩ := ih (by omega)
      refine ⟨r, ?_, ?_⟩
      · apply ev_succ
        simp only [slices_Index_string_string.l0]
        rw [rdOf_get h, wrap64_id (n := (i : Int) + 1) (by omega) (by omega), succ_cast]
        exact ev_pos (by omega) (ev_pos (by omega) (ev_pos (by omega) (ev_neg he hr)))
      · rw [toList_inj] at he
        rw [h1, List.drop_eq_getElem_cons h]
        simp [-List.getElem_cons_drop, he]
theorem slices_Contains_string_string_ev (l : List ByteArray) (w : ByteArray) (hl : l.length ≤ 9223372036854775806) : Ev (fun k => slices_Contains_string_string.f k l w) (decide (w ∈ l)) := by
  unfold slices_Contains_string_string.f slices_Index_string_string.f
  obtain ⟨r, hr, h⟩ := slices_Index_string_string_l0_ev l w hl 0 (by omega)
  exact ev_bind hr (ev_now (by simpa using h))

/-! ### insertions -/
/-- The inner word inserted at a place. -/
def piece (o n : ByteArray) (i : Nat) : ByteArray := (o.extract 0 i ++ n) ++ o.extract i o.size
def insL (o n : ByteArray) (i : Nat) : List ByteArray := (List.range' i (o.size - i)).map (piece o n)
def insM (o n : ByteArray) : List ByteArray := if wordM o && wordM n then onceM [] (insL o n 1) else []
theorem insL_cons {o n : ByteArray} {i : Nat} (h : i < o.size) : insL o n i = piece o n i :: insL o n (i + 1) := by
  unfold insL
  rw [range_cons h, List.map_cons]
theorem insL_nil {o n : ByteArray} {i : Nat} (h : o.size ≤ i) : insL o n i = [] := by
  unfold insL
  rw [range_nil h, List.map_nil]
theorem insL_length (o n : ByteArray) (i : Nat) : (insL o n i).length = o.size - i := by
  simp [insL]
theorem insM_length (o n : ByteArray) (h : o.size ≤ 1048576) : (insM o n).length ≤ 1048576 := by
  unfold insM
  split
  · have := onceM_length (insL o n 1) []
    rw [insL_length] at this
    simp at this
    omega
  · simp

/-! ### fnparts_back -/
theorem dl_ext (s : ByteArray) (a b : Nat) : (s.extract a b).data.toList = (s.data.toList.drop a).take (b - a) := by
  rw [ByteArray.data_extract, Array.toList_extract]
theorem dl_app (s t : ByteArray) : (s ++ t).data.toList = s.data.toList ++ t.data.toList := by rw [ByteArray.data_append, Array.toList_append]
theorem dl_len (s : ByteArray) : s.data.toList.length = s.size := by simp
theorem ba_ext {s t : ByteArray} (h : s.data.toList = t.data.toList) : s = t := ByteArray.ext (Array.ext' h)
theorem part_join (w : ByteArray) (i : Nat) : w.extract 0 i ++ w.extract i w.size = w := by
  apply ba_ext
  rw [dl_app, dl_ext, dl_ext, List.drop_zero, Nat.sub_zero, List.take_of_length_le (l := w.data.toList.drop i) (by rw [List.length_drop, dl_len]; exact Nat.le_refl _), List.take_append_drop]
theorem bt_dl {s : ByteArray} {i : Nat} (h : i < s.data.toList.length) : bt s (i : Int) = ((s.data.toList[i]).toNat : Int) := by
  have h' : i < s.size := by rw [← dl_len]; exact h
  unfold bt
  rw [dif_pos (by simpa using h')]
  rfl
theorem back_dl {w : ByteArray} (h : w.size ≤ 100) : (backM w).data.toList = w.data.toList.reverse := by
  unfold backM
  rw [if_neg (by omega)]
  exact Array.toList_reverse ..
theorem back_size {w : ByteArray} (h : w.size ≤ 100) : (backM w).size = w.size := by
  rw [← dl_len, back_dl h, List.length_reverse, dl_len]

/-! ### fnparts -/
theorem wordM_dl {s : ByteArray} : wordM s = true ↔ (1 ≤ s.size ∧ s.size ≤ 8) ∧ ∀ u ∈ s.data.toList, isL (u.toNat : Int) = true := by
  unfold wordM
  rw [Bool.and_eq_true, decide_eq_true_eq, List.all_eq_true]
  constructor
  · rintro ⟨h1, h2⟩
    refine ⟨h1, fun u hu => ?_⟩
    obtain ⟨i, hi, rfl⟩ := List.getElem_of_mem hu
    rw [← bt_dl hi]
    exact h2 i (by rw [List.mem_range']; exact ⟨i, by rw [dl_len] at hi; omega, by omega⟩)
  · rintro ⟨h1, h2⟩
    refine ⟨h1, fun j hj => ?_⟩
    rw [List.mem_range'] at hj
    obtain ⟨q, hq, rfl⟩ := hj
    have hl : 0 + 1 * q < s.data.toList.length := by rw [dl_len]; omega
    rw [bt_dl hl]
    exact h2 _ (List.getElem_mem hl)
theorem back_word {w : ByteArray} (h : wordM w = true) : wordM (backM w) = true := by
  have hs := wordM_size h
  obtain ⟨h1, h2⟩ := wordM_dl.1 h
  refine wordM_dl.2 ⟨by rw [back_size (by omega)]; exact h1, fun u hu => h2 u ?_⟩
  rw [back_dl (by omega)] at hu
  exact List.mem_reverse.1 hu
theorem head_join {w : ByteArray} (h : wordM w = true) : headM w ++ noHeadM w = w := by
  unfold headM noHeadM
  rw [if_pos h, if_pos h]
  exact part_join w 1
theorem tail_join {w : ByteArray} (h : wordM w = true) : noTailM w ++ headM (backM w) = w := by
  have hs := wordM_size h
  unfold headM noTailM
  rw [if_pos h, if_pos (back_word h)]
  apply ba_ext
  rw [dl_app, dl_ext, dl_ext, back_dl (by omega), List.drop_zero, List.drop_zero, Nat.sub_zero, Nat.sub_zero, ← dl_len]
  have hne : w.data.toList ≠ [] := by
    intro e
    have := dl_len w
    rw [e] at this
    simp at this
    omega
  obtain ⟨init, x, e⟩ : ∃ init x, w.data.toList = init ++ [x] := ⟨w.data.toList.dropLast, w.data.toList.getLast hne, (List.dropLast_concat_getLast hne).symm⟩
  rw [e]
  simp
theorem splits_get {w : ByteArray} {i : Nat} (h : i < (splitsM w).length) : wordM w = true ∧ i + 1 < w.size ∧ (splitsM w)[i] = partAt w (i + 1) := by
  unfold splitsM at h ⊢
  by_cases hw : wordM w = true
  · simp only [hw, if_true, List.length_map, List.length_range', List.getElem_map, List.getElem_range'] at h ⊢
    refine ⟨trivial, by omega, ?_⟩
    rw [Nat.one_mul, Nat.add_comm]
  · rw [if_neg hw] at h
    simp at h
theorem ins_mem {a b x : ByteArray} (h : x ∈ insM a b) : wordM a = true ∧ wordM b = true ∧ ∃ j, 1 ≤ j ∧ j < a.size ∧ x = piece a b j := by
  unfold insM at h
  by_cases hw : (wordM a && wordM b) = true
  · rw [if_pos hw] at h
    rw [Bool.and_eq_true] at hw
    have hm : ∀ (l acc : List ByteArray) (w : ByteArray), w ∈ onceM acc l → w ∈ acc ∨ w ∈ l := by
      intro l
      induction l with
      | nil => intro acc w h; exact .inl h
      | cons y l ih =>
        intro acc w h
        unfold onceM at h
        split at h
        · rcases ih _ _ h with h | h
          · exact .inl h
          · exact .inr (List.mem_cons_of_mem _ h)
        · rcases ih _ _ h with h | h
          · rcases List.mem_append.1 h with h | h
            · exact .inl h
            · rw [List.mem_singleton.1 h]; exact .inr List.mem_cons_self
          · exact .inr (List.mem_cons_of_mem _ h)
    rcases hm _ _ _ h with h | h
    · cases h
    · unfold insL at h
      obtain ⟨j, hj, rfl⟩ := List.mem_map.1 h
      rw [List.mem_range'] at hj
      obtain ⟨q, hq, rfl⟩ := hj
      exact ⟨hw.1, hw.2, 1 + 1 * q, by omega, by omega, rfl⟩
  · rw [if_neg hw] at h
    cases h
theorem piece_size {a b : ByteArray} {j : Nat} (h : j ≤ a.size) : (piece a b j).size = a.size + b.size := by
  unfold piece
  rw [ByteArray.size_append, ByteArray.size_append, ByteArray.size_extract, ByteArray.size_extract]
  omega
theorem piece_first {a b : ByteArray} {j : Nat} (h1 : 1 ≤ j) (h2 : j < a.size) : (piece a b j).extract 0 1 = a.extract 0 1 := by
  apply ba_ext
  unfold piece
  rw [dl_ext, dl_app, dl_app, dl_ext, dl_ext, dl_ext]
  simp only [List.drop_zero, Nat.sub_zero]
  have hl := dl_len a
  rw [List.append_assoc, List.take_append_of_le_length (by rw [List.length_take]; omega), List.take_take, Nat.min_eq_left h1]
theorem piece_mid {a b : ByteArray} {j : Nat} (h2 : j < a.size) : (piece a b j).extract j (j + b.size) = b := by
  apply ba_ext
  have hl := dl_len a
  have hb := dl_len b
  have e1 : (a.data.toList.take j).length = j := by rw [List.length_take]; omega
  unfold piece
  rw [dl_ext, dl_app, dl_app, dl_ext, dl_ext, List.drop_zero, Nat.sub_zero, List.append_assoc, List.drop_append_of_le_length (by omega), List.drop_of_length_le (by omega), List.nil_append, show j + b.size - j = b.data.toList.length by omega, List.take_left]
theorem piece_inside {a b : ByteArray} {j : Nat} (hb : wordM b = true) (h1 : 1 ≤ j) (h2 : j < a.size) (hw : wordM (piece a b j) = true) : insideM b (piece a b j) = true := by
  unfold insideM insideFrom
  rw [hb, hw, Bool.true_and, Bool.true_and, List.any_eq_true]
  refine ⟨j, ?_, by rw [piece_mid h2]; exact decide_eq_true rfl⟩
  rw [List.mem_range']
  have := piece_size (b := b) (Nat.le_of_lt h2)
  exact ⟨j - 1, by omega, by omega⟩
theorem inside_two {p x : ByteArray} (h : insideM p x = true) : p.size + 2 ≤ x.size := by
  unfold insideM insideFrom at h
  rw [Bool.and_eq_true, Bool.and_eq_true, List.any_eq_true] at h
  obtain ⟨_, _, j, hj, _⟩ := h
  rw [List.mem_range'] at hj
  obtain ⟨q, hq, rfl⟩ := hj
  omega

/-! ### usedwords -/
def usedM (l : List IStep) : List ByteArray := (l.filter fun x => decide (x.f0 = 1)).map (·.f1)
theorem usedM_drop {l : List IStep} {i : Nat} (h : i < l.length) : usedM (l.drop i) = (if l[i].f0 = 1 then [l[i].f1] else []) ++ usedM (l.drop (i + 1)) := by
  rw [List.drop_eq_getElem_cons h]
  unfold usedM
  by_cases h1 : l[i].f0 = 1
  · simp [-List.getElem_cons_drop, h1]
  · simp [-List.getElem_cons_drop, h1]
theorem usedM_length (l : List IStep) : (usedM l).length ≤ l.length := by
  unfold usedM
  rw [List.length_map]
  exact List.length_filter_le _ _
theorem impl_UsedWords_l0_ev (l : List IStep) (hl : l.length ≤ 1048576) : ∀ i : Nat, i ≤ l.length → ∀ acc : List ByteArray, acc.length ≤ i → Ev (fun k => impl_UsedWords.l0 k acc l l.length i) (acc ++ usedM (l.drop i)) := by
  refine down l.length ?_ ?_
  · intro i h hi acc ha
    apply ev_succ
    simp only [impl_UsedWords.l0]
    exact ev_neg (by omega) (ev_now (by rw [List.drop_eq_nil_of_le h]; simp [usedM]))
  · intro i h ih hi acc ha
    apply ev_succ
    simp only [impl_UsedWords.l0]
    rw [rd_I_get h, wrap64_id (n := (i : Int) + 1) (by omega) (by omega), succ_cast, usedM_drop h]
    refine ev_pos (by omega) (ev_pos (by omega) (ev_pos (by omega) ?_))
    by_cases h1 : l[i].f0 = 1
    · rw [if_pos h1]
      exact ev_pos h1 (ev_pos (by omega) (ev_eq (ih (by omega) _ (by simp; omega)) (by simp)))
    · exact ev_neg h1 (ev_eq (ih (by omega) _ (by omega)) (by simp [h1]))
theorem impl_UsedWords_ev (l : List IStep) (hl : l.length ≤ 1048576) : Ev (fun k => impl_UsedWords.f k l) (usedM l) := by
  unfold impl_UsedWords.f
  exact ev_eq (impl_UsedWords_l0_ev l hl 0 (by omega) [] (by simp)) (by simp)

/-! ### fnplays -/
theorem take_get {l : List IStep} {m i : Nat} (h : i < m) (hm : m ≤ l.length) : stepGet (l.take m) i = stepGet l i := by
  rw [stepGet_get (by rw [List.length_take]; omega), stepGet_get (by omega), List.getElem_take]
/-- What a step makes hangs on the steps up to it. -/
theorem makesM_pref {l : List IStep} {m : Nat} (hm : m ≤ l.length) (hok : ∀ (i : Nat) (hi : i < l.length), StepFacts i l[i]) : ∀ (n n' i : Nat) (s : ByteArray), i < n → i < n' → i < m → makesM (l.take m) n' i s = makesM l n i s
  | 0, _, i, _, h, _, _ => by omega
  | _ + 1, 0, i, _, _, h, _ => by omega
  | n + 1, n' + 1, i, s, h1, h2, h3 => by
    have hf := hok i (by omega)
    rw [← stepGet_get (by omega : i < l.length)] at hf
    unfold makesM
    rw [take_get h3 hm]
    generalize stepGet l i = x at hf
    by_cases c1 : x.f0 = 1
    · rw [if_pos c1, if_pos c1]
    have ha := hf.a
    have ha2 := hf.a2 c1
    have hg : stepGet (l.take m) x.f2.toNat = stepGet l x.f2.toNat := take_get (by omega) hm
    have ih : ∀ t, makesM (l.take m) n' x.f2.toNat t = makesM l n x.f2.toNat t := fun t => makesM_pref hm hok n n' x.f2.toNat t (by omega) (by omega) (by omega)
    rw [if_neg c1, if_neg c1]
    by_cases c2 : x.f0 = 2
    · rw [if_pos c2, if_pos c2, ih]
    rw [if_neg c2, if_neg c2]
    by_cases c3 : x.f0 = 3
    · rw [if_pos c3, if_pos c3, hg]
    rw [if_neg c3, if_neg c3]
    by_cases c4 : x.f0 = 4
    · have hb := hf.b (.inl c4)
      have ihb : ∀ t, makesM (l.take m) n' x.f3.toNat t = makesM l n x.f3.toNat t := fun t => makesM_pref hm hok n n' x.f3.toNat t (by omega) (by omega) (by omega)
      rw [if_pos c4, if_pos c4]
      simp only [ih, ihb]
    rw [if_neg c4, if_neg c4]
    by_cases c5 : x.f0 = 5
    · have hb := hf.b (.inr c5)
      have ihb : ∀ t, makesM (l.take m) n' x.f3.toNat t = makesM l n x.f3.toNat t := fun t => makesM_pref hm hok n n' x.f3.toNat t (by omega) (by omega) (by omega)
      rw [if_pos c5, if_pos c5]
      simp only [ih, ihb]
    rw [if_neg c5, if_neg c5, hg]
theorem stepOk_take {l : List IStep} {m i : Nat} {x : IStep} (hi : i < m) (hm : m ≤ l.length) : stepOk (l.take m) i x = stepOk l i x := by
  unfold stepOk
  by_cases hr : 0 ≤ x.f2 ∧ x.f2 < i
  · have hk : kindAt (l.take m) x.f2 = kindAt l x.f2 := by
      obtain ⟨a, ha⟩ := Int.eq_ofNat_of_zero_le hr.1
      rw [ha, kindAt_get (by rw [List.length_take]; omega), kindAt_get (by omega), List.getElem_take]
    rw [hk]
  · rw [decide_eq_false hr]
    simp
theorem stepsFrom_of {l : List IStep} : ∀ (r : List IStep) (i : Nat), (∀ (j : Nat) (h : j < r.length), stepOk l (i + j) r[j] = true) → stepsFrom l r i = true
  | [], _, _ => rfl
  | x :: r, i, h => by
    unfold stepsFrom
    rw [Bool.and_eq_true]
    refine ⟨h 0 (by simp), stepsFrom_of r (i + 1) fun j hj => ?_⟩
    have := h (j + 1) (by simpa using hj)
    rw [show i + (j + 1) = i + 1 + j by omega] at this
    exact this
theorem play_iff {l : List IStep} : isPlayM l = true ↔ (1 ≤ l.length ∧ l.length ≤ 9) ∧ ∀ (i : Nat) (hi : i < l.length), stepOk l i l[i] = true := by
  unfold isPlayM
  rw [Bool.and_eq_true, decide_eq_true_eq]
  constructor
  · rintro ⟨h1, h2⟩
    refine ⟨h1, fun i hi => ?_⟩
    have := stepsFrom_all l 0 h2 i hi
    rwa [Nat.zero_add] at this
  · rintro ⟨h1, h2⟩
    exact ⟨h1, stepsFrom_of l 0 fun j hj => by rw [Nat.zero_add]; exact h2 j hj⟩
theorem play_take {l : List IStep} (h : isPlayM l = true) {m : Nat} (h1 : 1 ≤ m) (hm : m ≤ l.length) : isPlayM (l.take m) = true := by
  obtain ⟨h2, h3⟩ := play_iff.1 h
  refine play_iff.2 ⟨by rw [List.length_take]; omega, fun i hi => ?_⟩
  rw [List.length_take] at hi
  rw [List.getElem_take, stepOk_take (by omega) hm]
  exact h3 i (by omega)
theorem take_snoc (l : List IStep) (x : IStep) : (l ++ [x]).take l.length = l := by simp
/-- A step back more. -/
theorem play_twice {l : List IStep} (h : isPlayM l = true) (h9 : l.length + 1 ≤ 9) : isPlayM (l ++ [⟨2, ⟨#[]⟩, (l.length : Int) - 1, 0⟩]) = true := by
  obtain ⟨h2, h3⟩ := play_iff.1 h
  refine play_iff.2 ⟨by simp; omega, fun i hi => ?_⟩
  rw [List.length_append, List.length_singleton] at hi
  by_cases hl : i < l.length
  · rw [List.getElem_append_left hl]
    have := stepOk_take (l := l ++ [⟨2, ⟨#[]⟩, (l.length : Int) - 1, 0⟩]) (m := l.length) (i := i) (x := l[i]) hl (by simp)
    rw [take_snoc] at this
    rw [← this]
    exact h3 i hl
  · have : i = l.length := by omega
    subst this
    rw [List.getElem_append_right (by omega)]
    simp only [Nat.sub_self, List.getElem_cons_zero]
    unfold stepOk
    rw [if_pos (show 1 ≤ (2 : Int) ∧ (2 : Int) ≤ 9 by decide), if_neg (show ¬ (2 : Int) = 1 by decide)]
    have e : decide (0 ≤ (l.length : Int) - 1 ∧ (l.length : Int) - 1 < (l.length : Int)) = true := decide_eq_true (by omega)
    rw [e]
    simp
theorem makesTop_take {l : List IStep} (h : isPlayM l = true) {a : Nat} (ha : a < l.length) {t : ByteArray} (ht : wordM t = true) {n : Nat} (hn : a < n) : makesTop (l.take (a + 1)) t = makesM l n a t := by
  have hf := play_facts h
  unfold makesTop
  rw [play_take h (by omega) (by omega), ht, Bool.true_and, Bool.true_and, List.length_take, Nat.min_eq_left (by omega), Nat.add_sub_cancel]
  exact makesM_pref (by omega) hf.2 n (a + 1) a t hn (by omega) (by omega)
theorem part_words {w : ByteArray} (h : wordM w = true) {j : Nat} (h1 : 1 ≤ j) (h2 : j < w.size) : wordM (w.extract 0 j) = true ∧ wordM (w.extract j w.size) = true := by
  obtain ⟨h3, h4⟩ := wordM_dl.1 h
  refine ⟨wordM_dl.2 ⟨?_, fun u hu => h4 u ?_⟩, wordM_dl.2 ⟨?_, fun u hu => h4 u ?_⟩⟩
  · rw [ByteArray.size_extract]
    omega
  · rw [dl_ext] at hu
    exact List.mem_of_mem_drop (List.mem_of_mem_take hu)
  · rw [ByteArray.size_extract]
    omega
  · rw [dl_ext] at hu
    exact List.mem_of_mem_drop (List.mem_of_mem_take hu)
theorem back_twice {w : ByteArray} (h : w.size ≤ 100) : backM (backM w) = w := by
  apply ba_ext
  rw [back_dl (by rw [back_size h]; exact h), back_dl h, List.reverse_reverse]
/-- The play with a step back more makes the word's mirror. -/
theorem makes_twice {l : List IStep} (h : isPlayM l = true) (h9 : l.length + 1 ≤ 9) {w : ByteArray} (hw : wordM w = true) : makesTop (l ++ [⟨2, ⟨#[]⟩, (l.length : Int) - 1, 0⟩]) (backM w) = makesTop l w := by
  have hsz := wordM_size hw
  have hp := play_twice h h9
  have hf := play_facts hp
  have hl := (play_facts h).1
  unfold makesTop
  rw [hp, h, back_word hw, hw, Bool.true_and, Bool.true_and, Bool.true_and, Bool.true_and, List.length_append, List.length_singleton, Nat.add_sub_cancel]
  have e : stepGet (l ++ [⟨2, ⟨#[]⟩, (l.length : Int) - 1, 0⟩]) l.length = ⟨2, ⟨#[]⟩, (l.length : Int) - 1, 0⟩ := by
    rw [stepGet_get (by simp)]
    simp
  have e2 : makesM (l ++ [⟨2, ⟨#[]⟩, (l.length : Int) - 1, 0⟩]) (l.length + 1) l.length (backM w) = makesM (l ++ [⟨2, ⟨#[]⟩, (l.length : Int) - 1, 0⟩]) l.length (l.length - 1) w := by
    conv => lhs; unfold makesM
    rw [e]
    rw [if_neg (show ¬ (2 : Int) = 1 by decide), if_pos rfl, back_twice (by omega), show ((l.length : Int) - 1).toNat = l.length - 1 by omega]
  rw [e2]
  have := makesM_pref (l := l ++ [⟨2, ⟨#[]⟩, (l.length : Int) - 1, 0⟩]) (m := l.length) (by simp) hf.2 l.length l.length (l.length - 1) w (by omega) (by omega) (by omega)
  rw [take_snoc] at this
  exact this.symm
theorem play_first {l : List IStep} (h : isPlayM l = true) : 0 < (usedM l).length := by
  obtain ⟨h1, h2⟩ := play_facts h
  have h0 : 0 < l.length := by omega
  have hf := h2 0 h0
  have hk : l[0].f0 = 1 := by
    by_cases hc : l[0].f0 = 1
    · exact hc
    · have := hf.a2 hc
      have := hf.a
      omega
  unfold usedM
  rw [List.length_map]
  exact List.length_pos_of_mem (List.mem_filter.2 ⟨List.getElem_mem h0, decide_eq_true hk⟩)

/-! ### the law -/
theorem hasWord_ev {n : ByteArray} {l : List ByteArray} (hl : l.length ≤ 1000) (hm : n ∈ l) : Ev (fun k => impl_HasWord.f k l n) true := by
  unfold impl_HasWord.f
  refine ev_bind (slices_Contains_string_string_ev l n (by omega)) (ev_now ?_)
  exact decide_eq_true hm
theorem within_ev {w ws : List ByteArray} (hl : ws.length ≤ 1000) (hw : w.length ≤ 1000) (hm : ∀ y ∈ w, y ∈ ws) : Ev (fun k => laws_within.f k w ws) true := by
  have main : ∀ i : Nat, i ≤ w.length → Ev (fun k => laws_within.l0 k w ws i) true := by
    refine down w.length ?_ ?_
    · intro i h _
      apply ev_succ
      simp only [laws_within.l0]
      exact ev_neg (by omega) (ev_now rfl)
    · intro i h ih _
      apply ev_succ
      simp only [laws_within.l0]
      rw [rdOf_get h, wrap64_id (n := (i : Int) + 1) (by omega) (by omega), succ_cast]
      exact ev_pos (by omega) (ev_pos (by omega) (ev_bind (hasWord_ev hl (hm _ (List.getElem_mem h))) (ev_pos rfl (ih (by omega)))))
  unfold laws_within.f
  exact main 0 (by omega)
theorem any_ext {α : Type} {p q : α → Bool} {l : List α} (h : ∀ x ∈ l, p x = q x) : l.any p = l.any q := by
  induction l with
  | nil => rfl
  | cons a l ih => rw [List.any_cons, List.any_cons, h a List.mem_cons_self, ih fun x hx => h x (List.mem_cons_of_mem _ hx)]
theorem jn_go {a b : List IStep} (ha : ∀ x ∈ a, x.f1.size ≤ 1048576) (hb : ∀ x ∈ b, x.f1.size ≤ 1048576) : ∀ (l : List (List ByteArray)) (o : Bool), (∀ y ∈ l, y.length = 2 ∧ (rdOf ByteArray.empty y 0).size ≤ 1048576 ∧ (rdOf ByteArray.empty y 1).size ≤ 1048576) →
    Ev (fun k => jnGo k a b l o) (o || l.any fun y => makesTop a (rdOf ByteArray.empty y 0) && makesTop b (rdOf ByteArray.empty y 1)) := by
  intro l
  induction l with
  | nil => intro o _; exact ev_now (by simp)
  | cons y l ih =>
    intro o h
    obtain ⟨h1, h2, h3⟩ := h y List.mem_cons_self
    have ih2 := fun o => ih o fun z hz => h z (List.mem_cons_of_mem _ hz)
    simp only [jnGo_cons]
    refine ev_pos h1 ?_
    cases o with
    | true => exact ev_pos rfl (ev_eq (ih2 true) (by simp))
    | false =>
      refine ev_neg (by simp) (ev_bind (impl_Makes_ev a ha _ h2) ?_)
      cases hm : makesTop a (rdOf ByteArray.empty y 0) with
      | false => exact ev_neg (by simp) (ev_eq (ih2 false) (by simp [hm]))
      | true => exact ev_pos rfl (ev_bind (impl_Makes_ev b hb _ h3) (ev_eq (ih2 _) (by simp [hm])))
theorem split_rd (w : ByteArray) (j : Nat) : rdOf ByteArray.empty (partAt w j) 0 = w.extract 0 j ∧ rdOf ByteArray.empty (partAt w j) 1 = w.extract j w.size := ⟨rfl, rfl⟩
theorem sw_ev {l : List IStep} (hp : isPlayM l = true) (hs : ∀ x ∈ l, x.f1.size ≤ 100) {w : ByteArray} (hw : wordM w = true) (x : IStep) (hx : stepGet l (l.length - 1) = x) : Ev (fun k => laws_FnPlays.sw k l w (makesTop l w) x) true := by
  obtain ⟨⟨hl1, hl9⟩, hok⟩ := play_facts hp
  have hwz := wordM_size hw
  have hf := hok (l.length - 1) (by omega)
  rw [← stepGet_get (by omega : l.length - 1 < l.length), hx] at hf
  have hms : ∀ (m : Nat), ∀ y ∈ l.take m, y.f1.size ≤ 1048576 := fun m y hy => by
    have := hs y (List.mem_of_mem_take hy)
    omega
  have em : makesTop l w = makesM l (l.length - 1 + 1) (l.length - 1) w := by
    unfold makesTop
    rw [hp, hw, Bool.true_and, Bool.true_and, show l.length - 1 + 1 = l.length by omega]
  rw [em]
  unfold makesM
  rw [hx]
  unfold laws_FnPlays.sw
  by_cases c1 : x.f0 = 1
  · exact ev_pos c1 (ev_now rfl)
  have ha := hf.a
  have ha2 := hf.a2 c1
  obtain ⟨a, hfa⟩ := Int.eq_ofNat_of_zero_le ha.1
  rw [if_neg c1]
  refine ev_neg c1 (ev_pos ⟨by omega, by omega⟩ ?_)
  rw [hfa, Int.toNat_natCast, show ((a : Int) + 1).toNat = a + 1 by omega]
  have hal : a < l.length := by omega
  by_cases c2 : x.f0 = 2
  · rw [if_pos c2]
    refine ev_pos c2 (ev_let (impl_Backwards_eq w) (ev_bind (impl_Makes_ev _ (hms _) (backM w) (by rw [back_size (by omega)]; omega)) (ev_now ?_)))
    rw [makesTop_take hp hal (back_word hw) (n := l.length - 1) (by omega)]
    simp
  rw [if_neg c2]
  refine ev_neg c2 ?_
  have hrd : rd_T31 l (a : Int) = stepGet l a := by rw [rd_I_get hal, stepGet_get hal]
  have hgs : (stepGet l a).f1.size ≤ 100 := by
    rw [stepGet_get hal]
    exact hs _ (List.getElem_mem hal)
  by_cases c3 : x.f0 = 3
  · rw [if_pos c3]
    refine ev_pos c3 ?_
    rw [hrd]
    exact ev_bind (impl_IsRearranged_ev _ w (by omega) (by omega)) (ev_now (by simp))
  rw [if_neg c3]
  refine ev_neg c3 ?_
  by_cases c4 : x.f0 = 4
  · have hb := hf.b (.inl c4)
    obtain ⟨b, hfb⟩ := Int.eq_ofNat_of_zero_le hb.1
    have hbl : b < l.length := by omega
    rw [if_pos c4]
    refine ev_pos c4 (ev_pos ⟨by omega, by omega⟩ ?_)
    rw [hfb, Int.toNat_natCast, show ((b : Int) + 1).toNat = b + 1 by omega]
    have hsl := splitsM_length w
    have hsp : splitsM w = (List.range' 1 (w.size - 1)).map (partAt w) := by
      unfold splitsM
      rw [if_pos hw]
    refine ev_bind (impl_SplitsOf_ev w (by omega)) (ev_pos (by omega) (ev_bind (jn_go (hms _) (hms _) (splitsM w) false fun y hy => ?_) (ev_now ?_)))
    · rw [hsp, List.mem_map] at hy
      obtain ⟨j, _, rfl⟩ := hy
      rw [(split_rd w j).1, (split_rd w j).2, ByteArray.size_extract, ByteArray.size_extract]
      exact ⟨rfl, by omega, by omega⟩
    · rw [hsp, List.any_map, Bool.false_or]
      unfold anyFrom
      rw [beq_iff_eq]
      refine any_ext fun j hj => ?_
      rw [List.mem_range'] at hj
      obtain ⟨q, hq, rfl⟩ := hj
      obtain ⟨w1, w2⟩ := part_words hw (j := 1 + 1 * q) (by omega) (by omega)
      show _ = (makesTop (l.take (a + 1)) (rdOf ByteArray.empty (partAt w (1 + 1 * q)) 0) && makesTop (l.take (b + 1)) (rdOf ByteArray.empty (partAt w (1 + 1 * q)) 1))
      rw [(split_rd w _).1, (split_rd w _).2, makesTop_take hp hal w1 (n := l.length - 1) (by omega), makesTop_take hp hbl w2 (n := l.length - 1) (by omega)]
  rw [if_neg c4]
  refine ev_neg c4 ?_
  by_cases c9 : x.f0 = 9
  · rw [if_neg (by omega), if_neg (by omega), if_neg (by omega), if_neg (by omega)]
    refine ev_pos c9 ?_
    rw [hrd]
    exact ev_bind (impl_IsInside_ev w _ (by omega) (by omega)) (ev_now (by simp))
  · exact ev_neg c9 (ev_now rfl)
theorem tw_ev {l : List IStep} (hp : isPlayM l = true) (hs : ∀ x ∈ l, x.f1.size ≤ 100) {w : ByteArray} (hw : wordM w = true) : Ev (fun k => laws_FnPlays.tw k l w (makesTop l w)) true := by
  have hwz := wordM_size hw
  unfold laws_FnPlays.tw
  by_cases h9 : l.length + 1 ≤ 9
  · refine ev_pos h9 (ev_let (impl_Backwards_eq w) (ev_bind (impl_Makes_ev _ (fun x hx => ?_) (backM w) (by rw [back_size (by omega)]; omega)) (ev_now ?_)))
    · rcases List.mem_append.1 hx with hx | hx
      · have := hs x hx
        omega
      · rw [List.mem_singleton] at hx
        subst hx
        show (0 : Nat) ≤ 1048576
        omega
    · rw [makes_twice hp h9 hw]
      simp
  · exact ev_neg h9 (ev_now rfl)
theorem wm_go {p : List IStep} (hp : ∀ x ∈ p, x.f1.size ≤ 1048576) {ws : List ByteArray} (hl : ws.length ≤ 1000) (hz : ∀ y ∈ ws, y.size ≤ 100) : ∀ r : List ByteArray, (∀ y ∈ r, makesTop p y = true ∧ y ∈ ws) → Ev (fun k => wmGo k p ws r) true := by
  intro r
  induction r with
  | nil => intro _; exact ev_now rfl
  | cons y r ih =>
    intro h
    obtain ⟨h1, h2⟩ := h y List.mem_cons_self
    have e := impl_Makes_ev p hp y (by have := hz y h2; omega)
    rw [h1] at e
    simp only [wmGo_cons]
    exact ev_bind e (ev_bind (hasWord_ev hl h2) (ev_pos ⟨rfl, rfl⟩ (ih fun z hz2 => h z (List.mem_cons_of_mem _ hz2))))
theorem rest_ev (l : List Int) (hl : l.length ≤ 1048576) : Ev (fun k => laws_FnPlays.rest k l) true := by
  obtain ⟨p, ws, hd, hp5, hps, hw1, hw2⟩ := spec_DrawWordsMade_ev l hl
  have hps2 : ∀ x ∈ p, x.f1.size ≤ 1048576 := fun x hx => by have := hps x hx; omega
  have hml := wordsMadeM_length p ws
  have hul := usedM_length p
  have hmem : ∀ y ∈ wordsMadeM p ws, makesTop p y = true ∧ y ∈ ws := fun y hy => by
    unfold wordsMadeM at hy
    exact ⟨(List.mem_filter.1 hy).2, (List.mem_filter.1 hy).1⟩
  unfold laws_FnPlays.rest
  refine ev_bind hd (ev_bind (impl_WordsMade_ev p hps2 ws (by omega) (fun s hx => by have := hw2 s hx; omega)) (ev_bind (wm_go hps2 (by show ws.length ≤ 1000; omega) hw2 _ hmem) (ev_bind (impl_UsedWords_ev p (by omega)) (ev_bind (impl_IsPlay_ev p hps2) (ev_bind (within_ev (by show ws.length ≤ 1000; omega) (by omega) (fun y hy => (hmem y hy).2)) (ev_bind (impl_IsPlain_ev p (by omega) hps2) (ev_pos ⟨rfl, ⟨by omega, by show ws.length ≤ 1000; omega, by omega⟩, fun h => ⟨play_first h, rfl, hml⟩⟩ (ev_now rfl))))))))
theorem FnPlays : laws_FnPlays.Pure := by
  intro l _ _ _
  apply Ev.rounds
  unfold laws_FnPlays.f
  refine ev_let (laws_big_eq l) ?_
  by_cases hb : (l.length : Int) > 1048576
  · exact ev_pos (decide_eq_true hb) (ev_now rfl)
  · have hl : l.length ≤ 1048576 := by omega
    obtain ⟨L, w, hd, h5, hs, hwz⟩ := spec_DrawMakes_ev l hl
    have hs2 : ∀ x ∈ L, x.f1.size ≤ 1048576 := fun x hx => by have := hs x hx; omega
    have hr := rest_ev l hl
    refine ev_neg (by simpa using hb) (ev_bind hd (ev_bind (impl_Makes_ev L hs2 w (by omega)) (ev_bind (impl_IsPlay_ev L hs2) (ev_bind (spec_IsPlay_ev L hs2) (ev_bind (impl_IsWord_ev w (by omega)) (ev_pos ⟨rfl, fun h => ?_, by show L.length ≤ 100; omega⟩ ?_))))))
    · unfold makesTop at h
      rw [Bool.and_eq_true, Bool.and_eq_true] at h
      exact ⟨h.1, h.2.1⟩
    · by_cases h : isPlayM L = true ∧ wordM w = true
      · have h1 := (play_facts h.1).1.1
        have hrd : rd_T31 L ((L.length : Int) - 1) = stepGet L (L.length - 1) := by
          rw [show (L.length : Int) - 1 = ((L.length - 1 : Nat) : Int) by omega, rd_I_get (by omega), stepGet_get (by omega)]
        refine ev_pos h (ev_pos h1 ?_)
        rw [hrd]
        exact ev_bind (sw_ev h.1 hs h.2 _ rfl) (ev_bind (tw_ev h.1 hs h.2) (ev_pos ⟨rfl, rfl⟩ hr))
      · exact ev_neg h hr

end Go.Proofs.Ytodcckiphdnjeab.Pure
