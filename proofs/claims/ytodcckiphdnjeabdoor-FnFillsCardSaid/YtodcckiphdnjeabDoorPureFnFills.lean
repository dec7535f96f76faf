
/-
  The law FnFills over numbers and lists: for every code, a word that is put stands in the fill, an empty fill is a fill of a grid alone, a full fill has a word for each slot.
  Conditions: none.
-/
import Derived.Test.YtodcckiphdnjeabDoorQFnFillsx
import Derived.Lib.Join
import Derived.Lib.SplitLaws
namespace Go.Proofs.YtodcckiphdnjeabDoor.Pure
open Go.RowKit Go.Proofs.YtodcckiphdnjeabDoor.QFnFills Go.Proofs.YtodcckiphdnjeabDoorW.PrintWords Go.Proofs.YtodcckiphdnjeabDoorW.PrintLast Go.Proofs.YtodcckiphdnjeabDoorW.PrintMore
set_option linter.unusedVariables false
set_option linter.unusedSimpArgs false

/-! ### base -/
theorem wrap64_id {n : Int} (h : -9223372036854775808 ≤ n) (h' : n ≤ 9223372036854775807) : wrap64 n = n := by
  unfold wrap64
  omega
section
variable {α β : Type}
theorem ev_succ {g : Nat → Option α} {r : α} (h : Ev (fun k => g (k + 1)) r) : Ev g r := Ev.step (fun _ => rfl) h
theorem ev_pos {c : Prop} [Decidable c] {g f : Nat → Option α} {r : α} (h : c) (k : Ev g r) : Ev (fun n => if c then g n else f n) r := by
  simpa only [if_pos h] using k
theorem ev_neg {c : Prop} [Decidable c] {g f : Nat → Option α} {r : α} (h : ¬ c) (k : Ev f r) : Ev (fun n => if c then g n else f n) r := by
  simpa only [if_neg h] using k
theorem ev_now {a r : α} (h : a = r) : Ev (fun _ => some a) r := h ▸ Ev.now a
theorem ev_let {o : Option β} {a : β} {f : Nat → β → Option α} {r : α} (h : o = some a) (k : Ev (fun n => f n a) r) : Ev (fun n => o.bind (f n)) r := by
  subst h
  exact k
theorem ev_bind {g : Nat → Option β} {f : Nat → β → Option α} {a : β} {r : α} (h : Ev g a) (k : Ev (fun n => f n a) r) : Ev (fun n => (g n).bind (f n)) r := Ev.bind h k
theorem ev_eq {g : Nat → Option α} {a r : α} (h : Ev g a) (e : a = r) : Ev g r := e ▸ h
end
/-- From the end of a loop back to a round: P holds from n on, and a round below n may use the next. -/
theorem down {P : Nat → Prop} (n : Nat) (hend : ∀ i, n ≤ i → P i) (hstep : ∀ i, i < n → P (i + 1) → P i) : ∀ i, P i := by
  intro i
  rcases Nat.lt_or_ge i n with h | h
  · obtain ⟨d, hd⟩ : ∃ d, n = i + d := ⟨n - i, by omega⟩
    induction d generalizing i with
    | zero => omega
    | succ d ih =>
      refine hstep i h ?_
      rcases Nat.lt_or_ge (i + 1) n with h1 | h1
      · exact ih (i + 1) h1 (by omega)
      · exact hend _ h1
  · exact hend i h
theorem range_cons {i n : Nat} (h : i < n) : List.range' i (n - i) = i :: List.range' (i + 1) (n - (i + 1)) := by
  obtain ⟨d, hd⟩ : ∃ d, n - i = d + 1 := ⟨n - i - 1, by omega⟩
  rw [hd, List.range'_succ, show n - (i + 1) = d by omega]
theorem range_nil {i n : Nat} (h : n ≤ i) : List.range' i (n - i) = [] := by
  rw [show n - i = 0 by omega]
  rfl
theorem succ_cast (i : Nat) : ((i : Int) + 1) = ((i + 1 : Nat) : Int) := by omega

/-! ### lists -/
theorem rdOf_get {α : Type} {d : α} {l : List α} {i : Nat} (h : i < l.length) : rdOf d l (i : Int) = l[i] := by
  unfold rdOf
  simp [h]
theorem rd_get {l : List Int} {i : Nat} (h : i < l.length) : rd l (i : Int) = l[i] := by
  unfold rd
  simp [h]
theorem toList_eq (s : ByteArray) : s.toList = s.data.toList := Go.ByteArray.toList_eq s
instance lawfulBA : LawfulBEq ByteArray where
  eq_of_beq {a b} h := ByteArray.ext (eq_of_beq (α := Array UInt8) h)
  rfl {a} := by
    show (a.data == a.data) = true
    simp
theorem toList_inj {a b : ByteArray} : a.toList = b.toList ↔ a = b := by
  constructor
  · intro h
    rw [toList_eq, toList_eq] at h
    cases a
    cases b
    simp only [ByteArray.mk.injEq]
    exact Array.toList_inj.1 h
  · intro h
    rw [h]
/-! ### word -/
/-- A byte is a small letter. -/
def isL (c : Int) : Bool := decide (97 ≤ c ∧ c ≤ 122)
/-- A word: one to eight small letters. -/
def wordM (s : ByteArray) : Bool := decide (1 ≤ s.size ∧ s.size ≤ 8) && (List.range' 0 (s.size - 0)).all fun j => isL (bt s j)
theorem spec_l1In_eq (a b c : Int) : spec_l1In.f a b c = some (decide (b ≤ a ∧ a ≤ c)) := by
  unfold spec_l1In.f
  by_cases h : b ≤ a
  · rw [if_pos h]; simp [h]
  · rw [if_neg h]; simp [h]
theorem impl_InRange_eq (a b c : Int) : impl_InRange.f a b c = some (decide (b ≤ a ∧ a ≤ c)) := by
  unfold impl_InRange.f
  by_cases h : b ≤ a
  · rw [if_pos h]; simp [h]
  · rw [if_neg h]; simp [h]
theorem impl_isLetter_eq (c : Int) : impl_isLetter.f c = some (isL c) := by
  unfold impl_isLetter.f isL
  by_cases h : c ≥ 97
  · rw [if_pos h]; congr 1; simp; omega
  · rw [if_neg h]; congr 1; simp; omega
theorem spec_IsWord_l0_ev (s : ByteArray) (hs : s.size ≤ 140737488351232) : ∀ i : Nat, i ≤ s.size → Ev (fun k => spec_IsWord.l0 k s i) ((List.range' i (s.size - i)).all fun j => isL (bt s j)) := by
  refine down s.size ?_ ?_
  · intro i h hi
    apply ev_succ
    simp only [spec_IsWord.l0]
    refine ev_neg (by omega) (ev_now ?_)
    rw [range_nil h]; rfl
  · intro i h ih hi
    apply ev_succ
    simp only [spec_IsWord.l0]
    rw [range_cons h, List.all_cons, wrap64_id (by omega) (by omega), succ_cast]
    refine ev_pos (by omega) (ev_pos (by omega) ?_)
    by_cases h1 : bt s i < 97
    · exact ev_pos h1 (ev_now (by simp [isL]; omega))
    · refine ev_neg h1 ?_
      by_cases h2 : bt s i > 122
      · exact ev_pos h2 (ev_now (by simp [isL]; omega))
      · refine ev_neg h2 (ev_eq (ih (by omega)) ?_)
        rw [show isL (bt s i) = true by simp [isL]; omega, Bool.true_and]
theorem impl_IsWord_l0_ev (s : ByteArray) (hs : s.size ≤ 140737488351232) : ∀ i : Nat, i ≤ s.size → Ev (fun k => impl_IsWord.l0 k s s.size i) ((List.range' i (s.size - i)).all fun j => isL (bt s j)) := by
  refine down s.size ?_ ?_
  · intro i h hi
    apply ev_succ
    simp only [impl_IsWord.l0]
    refine ev_neg (by omega) (ev_now ?_)
    rw [range_nil h]; rfl
  · intro i h ih hi
    apply ev_succ
    simp only [impl_IsWord.l0]
    rw [range_cons h, List.all_cons, wrap64_id (by omega) (by omega), succ_cast]
    refine ev_pos (by omega) (ev_pos (by omega) (ev_pos (by omega) (ev_let (impl_isLetter_eq _) ?_)))
    cases isL (bt s i)
    · exact ev_neg (by simp) (ev_now (by simp))
    · exact ev_pos rfl (ev_eq (ih (by omega)) (by simp))
theorem spec_IsWord_ev (s : ByteArray) (hs : s.size ≤ 140737488351232) : Ev (fun k => spec_IsWord.f k s) (wordM s) := by
  simp only [spec_IsWord.f]
  refine ev_let (spec_l1In_eq _ _ _) ?_
  by_cases h : 1 ≤ s.size ∧ s.size ≤ 8
  · refine ev_pos (by simp; omega) (ev_eq (spec_IsWord_l0_ev s hs 0 (by omega)) ?_)
    simp [wordM, h]
  · refine ev_neg (by simp; omega) (ev_now ?_)
    simp [wordM, h]
theorem impl_IsWord_ev (s : ByteArray) (hs : s.size ≤ 140737488351232) : Ev (fun k => impl_IsWord.f k s) (wordM s) := by
  simp only [impl_IsWord.f]
  refine ev_let (impl_InRange_eq _ _ _) ?_
  by_cases h : 1 ≤ s.size ∧ s.size ≤ 8
  · refine ev_pos (by simp; omega) (ev_eq (impl_IsWord_l0_ev s hs 0 (by omega)) ?_)
    simp [wordM, h]
  · refine ev_neg (by simp; omega) (ev_now ?_)
    simp [wordM, h]
/-! ### strs -/
/-! ### draw -/
/-! What is drawn of a code: bounds alone. -/
theorem and255 (y : Int) : 0 ≤ Go.bits .and .i64 y 255 ∧ Go.bits .and .i64 y 255 ≤ 255 := by
  have h := @Nat.and_le_right (BitVec.ofInt 64 y).toNat (BitVec.ofInt 64 255).toNat
  have e : (BitVec.ofInt 64 255).toNat = 255 := by decide
  have hb : Go.bits .and .i64 y 255 = IntKind.i64.wrap (((BitVec.ofInt 64 y).toNat &&& (BitVec.ofInt 64 255).toNat : Nat) : Int) := by
    show IntKind.i64.wrap (((BitVec.ofInt 64 y) &&& (BitVec.ofInt 64 255)).toNat : Int) = _
    rw [BitVec.toNat_and]
  rw [hb]
  rw [e] at h ⊢
  generalize (BitVec.ofInt 64 y).toNat &&& 255 = n at h ⊢
  simp [IntKind.wrap, IntKind.bits, IntKind.signed]
  omega
theorem spec_l1Byte_some (l : List Int) (i h : Int) (h0 : 0 ≤ i ∧ i ≤ l.length) (hl : l.length ≤ 1048576) : ∃ x i' h' : Int, spec_l1Byte.f l i h = some (x, i', h') ∧ (0 ≤ x ∧ x ≤ 255) ∧ (0 ≤ i' ∧ i' ≤ l.length) := by
  unfold spec_l1Byte.f
  by_cases hi : i < (l.length : Int)
  · rw [if_pos hi, if_pos h0.1]
    exact ⟨_, _, _, rfl, and255 _, by rw [wrap64_id (by omega) (by omega)]; omega⟩
  · rw [if_neg hi]
    exact ⟨_, _, _, rfl, and255 _, h0⟩
theorem spec_l1Below_some (l : List Int) (i h n : Int) (h0 : 0 ≤ i ∧ i ≤ l.length) (hl : l.length ≤ 1048576) (hn : n ≤ 16777216) : ∃ x i' h' : Int, spec_l1Below.f l i h n = some (x, i', h') ∧ (0 ≤ x ∧ (0 < n → x < n) ∧ (n ≤ 0 → x = 0)) ∧ (0 ≤ i' ∧ i' ≤ l.length) := by
  unfold spec_l1Below.f
  by_cases h1 : n ≤ 0
  · rw [if_pos h1]
    exact ⟨_, _, _, rfl, ⟨by omega, fun h => by omega, fun _ => rfl⟩, h0⟩
  · rw [if_neg h1]
    obtain ⟨x, i1, g1, e1, hx, hi1⟩ := spec_l1Byte_some l i h h0 hl
    by_cases h2 : n ≤ 256
    · rw [if_pos h2, e1, Option.bind_some, if_neg (by omega)]
      refine ⟨_, _, _, rfl, ⟨Int.tmod_nonneg _ hx.1, fun h => Int.tmod_lt_of_pos _ h, fun h => by omega⟩, hi1⟩
    · obtain ⟨y, i2, g2, e2, hy, hi2⟩ := spec_l1Byte_some l i1 g1 hi1 hl
      obtain ⟨z, i3, g3, e3, hz, hi3⟩ := spec_l1Byte_some l i2 g2 hi2 hl
      rw [if_neg h2, e1, Option.bind_some]
      show ∃ x i' h' : Int, ((spec_l1Byte.f l i1 g1).bind _) = _ ∧ _
      rw [e2, Option.bind_some]
      show ∃ x i' h' : Int, ((spec_l1Byte.f l i2 g2).bind _) = _ ∧ _
      rw [e3, Option.bind_some, if_neg (by omega)]
      have ew : wrap64 (wrap64 (wrap64 (x * 65536) + wrap64 (y * 256)) + z) = x * 65536 + y * 256 + z := by
        rw [wrap64_id (n := x * 65536) (by omega) (by omega), wrap64_id (n := y * 256) (by omega) (by omega), wrap64_id (n := x * 65536 + y * 256) (by omega) (by omega), wrap64_id (by omega) (by omega)]
      refine ⟨_, _, _, rfl, ?_, hi3⟩
      show 0 ≤ (wrap64 (wrap64 (wrap64 (x * 65536) + wrap64 (y * 256)) + z)).tmod n ∧ _
      rw [ew]
      exact ⟨Int.tmod_nonneg _ (by omega), fun h => Int.tmod_lt_of_pos _ h, fun h => by omega⟩
theorem spec_l1Str_some (l : List Int) (i h : Int) (L : List ByteArray) (h0 : 0 ≤ i ∧ i ≤ l.length) (hl : l.length ≤ 1048576) (hL : 0 < L.length) (hL2 : L.length ≤ 1000) : ∃ (s : ByteArray) (i' h' : Int), spec_l1Str.f l i h L = some (s, i', h') ∧ s ∈ L ∧ (0 ≤ i' ∧ i' ≤ l.length) := by
  unfold spec_l1Str.f
  obtain ⟨x, i1, g1, e1, hx, hi1⟩ := spec_l1Below_some l i h (L.length : Int) h0 hl (by omega)
  obtain ⟨j, rfl⟩ := Int.eq_ofNat_of_zero_le hx.1
  have hj : j < L.length := by have := hx.2.1 (by omega); omega
  rw [e1, Option.bind_some, if_pos hx.1, if_pos (by show (j : Int) < _; omega)]
  refine ⟨_, _, _, rfl, ?_, hi1⟩
  show rdOf ByteArray.empty L (j : Int) ∈ L
  rw [rdOf_get hj]
  exact List.getElem_mem hj
theorem spec_l1New_ev (l : List Int) (hl : l.length ≤ 1048576) : ∃ h : Int, Ev (fun k => spec_l1New.f k l) (l, 0, h) := by
  have main : ∀ (d i : Nat) (x : Int), i + d = l.length → ∃ h : Int, Ev (fun k => spec_l1New.l0 k l x i) (l, 0, h) := by
    intro d
    induction d with
    | zero =>
      intro i x hi
      refine ⟨x, ev_succ ?_⟩
      simp only [spec_l1New.l0]
      exact ev_neg (by omega) (ev_now rfl)
    | succ d ih =>
      intro i x hi
      by_cases h4 : (i : Int) < 4000
      · obtain ⟨h, hh⟩ := ih (i + 1) (Go.bits .and .i64 (wrap64 ((wrap64 ((wrap64 (x * 137)) + (wrap64 (rd l i)))) + 11)) 1073741823) (by omega)
        refine ⟨h, ev_succ ?_⟩
        simp only [spec_l1New.l0]
        rw [wrap64_id (n := (i : Int) + 1) (by omega) (by omega), succ_cast]
        exact ev_pos (by omega) (ev_pos h4 (ev_pos (by omega) hh))
      · refine ⟨x, ev_succ ?_⟩
        simp only [spec_l1New.l0]
        exact ev_pos (by omega) (ev_neg h4 (ev_now rfl))
  unfold spec_l1New.f
  exact main l.length 0 _ (by omega)
theorem spec_l4Word_some (l : List Int) (i h : Int) (h0 : 0 ≤ i ∧ i ≤ l.length) (hl : l.length ≤ 1048576) : ∃ (s : ByteArray) (i' h' : Int), spec_l4Word.f l i h = some (s, i', h') ∧ s.size ≤ 5 ∧ (0 ≤ i' ∧ i' ≤ l.length) := by
  unfold spec_l4Word.f spec_l4Words.f
  rw [Option.bind_some]
  obtain ⟨s, i1, g1, e1, hs, hi1⟩ := spec_l1Str_some l i h (L := [(⟨#[99, 97, 116]⟩ : ByteArray), (⟨#[97, 99, 116]⟩ : ByteArray), (⟨#[116, 97, 99]⟩ : ByteArray), (⟨#[97, 114, 99]⟩ : ByteArray), (⟨#[99, 97, 114]⟩ : ByteArray), (⟨#[101, 114, 97]⟩ : ByteArray), (⟨#[97, 114, 101]⟩ : ByteArray), (⟨#[101, 97, 114]⟩ : ByteArray), (⟨#[97, 116, 101]⟩ : ByteArray), (⟨#[116, 101, 97]⟩ : ByteArray), (⟨#[101, 97, 116]⟩ : ByteArray), (⟨#[115, 101, 97]⟩ : ByteArray), (⟨#[116, 97, 114]⟩ : ByteArray), (⟨#[114, 97, 116]⟩ : ByteArray), (⟨#[97, 114, 116]⟩ : ByteArray), (⟨#[97, 110, 116]⟩ : ByteArray), (⟨#[116, 97, 110]⟩ : ByteArray), (⟨#[110, 101, 116]⟩ : ByteArray), (⟨#[116, 101, 110]⟩ : ByteArray), (⟨#[114, 101, 115, 116]⟩ : ByteArray), (⟨#[116, 114, 101, 101]⟩ : ByteArray), (⟨#[115, 116, 97, 114]⟩ : ByteArray), (⟨#[114, 97, 116, 115]⟩ : ByteArray), (⟨#[97, 114, 116, 115]⟩ : ByteArray), (⟨#[101, 97, 115, 116]⟩ : ByteArray), (⟨#[115, 101, 97, 116]⟩ : ByteArray), (⟨#[116, 101, 97, 115]⟩ : ByteArray), (⟨#[110, 101, 116, 115]⟩ : ByteArray), (⟨#[116, 101, 110, 115]⟩ : ByteArray), (⟨#[115, 101, 110, 116]⟩ : ByteArray), (⟨#[116, 114, 97, 99, 101]⟩ : ByteArray), (⟨#[114, 101, 97, 99, 116]⟩ : ByteArray), (⟨#[99, 114, 97, 116, 101]⟩ : ByteArray), (⟨#[115, 116, 97, 114, 101]⟩ : ByteArray), (⟨#[116, 101, 97, 114, 115]⟩ : ByteArray)]) h0 hl (by decide) (by decide)
  rw [e1, Option.bind_some]
  refine ⟨_, _, _, rfl, ?_, hi1⟩
  have hall : ∀ x ∈ [(⟨#[99, 97, 116]⟩ : ByteArray), (⟨#[97, 99, 116]⟩ : ByteArray), (⟨#[116, 97, 99]⟩ : ByteArray), (⟨#[97, 114, 99]⟩ : ByteArray), (⟨#[99, 97, 114]⟩ : ByteArray), (⟨#[101, 114, 97]⟩ : ByteArray), (⟨#[97, 114, 101]⟩ : ByteArray), (⟨#[101, 97, 114]⟩ : ByteArray), (⟨#[97, 116, 101]⟩ : ByteArray), (⟨#[116, 101, 97]⟩ : ByteArray), (⟨#[101, 97, 116]⟩ : ByteArray), (⟨#[115, 101, 97]⟩ : ByteArray), (⟨#[116, 97, 114]⟩ : ByteArray), (⟨#[114, 97, 116]⟩ : ByteArray), (⟨#[97, 114, 116]⟩ : ByteArray), (⟨#[97, 110, 116]⟩ : ByteArray), (⟨#[116, 97, 110]⟩ : ByteArray), (⟨#[110, 101, 116]⟩ : ByteArray), (⟨#[116, 101, 110]⟩ : ByteArray), (⟨#[114, 101, 115, 116]⟩ : ByteArray), (⟨#[116, 114, 101, 101]⟩ : ByteArray), (⟨#[115, 116, 97, 114]⟩ : ByteArray), (⟨#[114, 97, 116, 115]⟩ : ByteArray), (⟨#[97, 114, 116, 115]⟩ : ByteArray), (⟨#[101, 97, 115, 116]⟩ : ByteArray), (⟨#[115, 101, 97, 116]⟩ : ByteArray), (⟨#[116, 101, 97, 115]⟩ : ByteArray), (⟨#[110, 101, 116, 115]⟩ : ByteArray), (⟨#[116, 101, 110, 115]⟩ : ByteArray), (⟨#[115, 101, 110, 116]⟩ : ByteArray), (⟨#[116, 114, 97, 99, 101]⟩ : ByteArray), (⟨#[114, 101, 97, 99, 116]⟩ : ByteArray), (⟨#[99, 114, 97, 116, 101]⟩ : ByteArray), (⟨#[115, 116, 97, 114, 101]⟩ : ByteArray), (⟨#[116, 101, 97, 114, 115]⟩ : ByteArray)], x.size ≤ 5 := by decide
  exact hall s hs
theorem spec_l4Any_some (l : List Int) (i h : Int) (h0 : 0 ≤ i ∧ i ≤ l.length) (hl : l.length ≤ 1048576) : ∃ (s : ByteArray) (i' h' : Int), spec_l4Any.f l i h = some (s, i', h') ∧ s.size ≤ 10 ∧ (0 ≤ i' ∧ i' ≤ l.length) := by
  unfold spec_l4Any.f
  obtain ⟨w, i1, g1, e1, hw, hi1⟩ := spec_l4Word_some l i h h0 hl
  rw [e1, Option.bind_some, if_pos (by show w.size + 1 ≤ _; omega)]
  obtain ⟨s, i2, g2, e2, hs, hi2⟩ := spec_l1Str_some l i1 g1 [w, w, w, w, w, (⟨#[]⟩ : ByteArray), (⟨#[65]⟩ : ByteArray), (⟨#[97, 32, 98]⟩ : ByteArray), (⟨#[116, 111, 111, 108, 111, 110, 103, 101, 114]⟩ : ByteArray), (⟨#[116, 111, 111, 108, 111, 110, 103]⟩ : ByteArray), w ++ (⟨#[63]⟩ : ByteArray), (⟨#[122]⟩ : ByteArray)] hi1 hl (by simp) (by simp)
  show ∃ (s : ByteArray) (i' h' : Int), ((spec_l1Str.f l i1 g1 [w, w, w, w, w, (⟨#[]⟩ : ByteArray), (⟨#[65]⟩ : ByteArray), (⟨#[97, 32, 98]⟩ : ByteArray), (⟨#[116, 111, 111, 108, 111, 110, 103, 101, 114]⟩ : ByteArray), (⟨#[116, 111, 111, 108, 111, 110, 103]⟩ : ByteArray), w ++ (⟨#[63]⟩ : ByteArray), (⟨#[122]⟩ : ByteArray)]).bind _) = _ ∧ _
  rw [e2, Option.bind_some]
  refine ⟨_, _, _, rfl, ?_, hi2⟩
  show s.size ≤ 10
  simp only [List.mem_cons, List.not_mem_nil, or_false] at hs
  rcases hs with rfl | rfl | rfl | rfl | rfl | rfl | rfl | rfl | rfl | rfl | rfl | rfl
  · omega
  · omega
  · omega
  · omega
  · omega
  · decide
  · decide
  · decide
  · decide
  · decide
  · rw [ByteArray.size_append]
    have : (⟨#[63]⟩ : ByteArray).size = 1 := rfl
    omega
  · decide
theorem laws_big_eq (l : List Int) : laws_big.f l = some (decide ((l.length : Int) > 1048576)) := rfl

/-! ### grid -/
/-- A cell's sign. -/
def isC (c : Int) : Bool := decide (c = 35) || decide (c = 46)
/-- A grid: 2 to 6 rows and columns, its cells black or white. -/
def gridM (r c : Int) (s : ByteArray) : Bool := decide (2 ≤ r ∧ r ≤ 6) && decide (2 ≤ c ∧ c ≤ 6) && decide ((s.size : Int) = r * c) && (List.range' 0 (s.size - 0)).all fun j => isC (bt s j)
theorem gridM_nat {r c : Int} {s : ByteArray} (h : gridM r c s = true) : ∃ R C : Nat, r = R ∧ c = C ∧ 2 ≤ R ∧ R ≤ 6 ∧ 2 ≤ C ∧ C ≤ 6 ∧ s.size = R * C := by
  simp only [gridM, Bool.and_eq_true, decide_eq_true_eq] at h
  obtain ⟨⟨⟨hr, hc⟩, hs⟩, _⟩ := h
  obtain ⟨R, rfl⟩ := Int.eq_ofNat_of_zero_le (show 0 ≤ r by omega)
  obtain ⟨C, rfl⟩ := Int.eq_ofNat_of_zero_le (show 0 ≤ c by omega)
  exact ⟨R, C, rfl, rfl, by omega, by omega, by omega, by omega, by exact_mod_cast hs⟩
theorem bounds36 {R C : Nat} (hR : R ≤ 6) (hC : C ≤ 6) : R * C ≤ 36 := Nat.mul_le_mul hR hC
theorem spec_IsGrid_l0_ev (r c : Int) (s : ByteArray) (hs : s.size ≤ 140737488351232) : ∀ i : Nat, i ≤ s.size → Ev (fun k => spec_IsGrid.l0 k i r c s) ((List.range' i (s.size - i)).all fun j => isC (bt s j)) := by
  refine down s.size ?_ ?_
  · intro i h hi
    apply ev_succ
    simp only [spec_IsGrid.l0]
    refine ev_neg (by omega) (ev_now ?_)
    rw [range_nil h]; rfl
  · intro i h ih hi
    apply ev_succ
    simp only [spec_IsGrid.l0]
    rw [range_cons h, List.all_cons, wrap64_id (by omega) (by omega), succ_cast]
    refine ev_pos (by omega) (ev_pos (by omega) ?_)
    by_cases h1 : bt s i = 35
    · exact ev_pos h1 (ev_eq (ih (by omega)) (by simp [isC, h1]))
    · refine ev_neg h1 ?_
      by_cases h2 : bt s i = 46
      · exact ev_pos h2 (ev_eq (ih (by omega)) (by simp [isC, h2]))
      · exact ev_neg h2 (ev_now (by simp [isC, h1, h2]))
theorem impl_IsGrid_l0_ev (r c : Int) (s : ByteArray) (hs : s.size ≤ 140737488351232) : ∀ i : Nat, i ≤ s.size → Ev (fun k => impl_IsGrid.l0 k s.size i r c s) ((List.range' i (s.size - i)).all fun j => isC (bt s j)) := by
  refine down s.size ?_ ?_
  · intro i h hi
    apply ev_succ
    simp only [impl_IsGrid.l0]
    refine ev_neg (by omega) (ev_now ?_)
    rw [range_nil h]; rfl
  · intro i h ih hi
    apply ev_succ
    simp only [impl_IsGrid.l0]
    rw [range_cons h, List.all_cons, wrap64_id (by omega) (by omega), succ_cast]
    refine ev_pos (by omega) (ev_pos (by omega) (ev_pos (by omega) ?_))
    by_cases h1 : bt s i = 35
    · exact ev_pos h1 (ev_eq (ih (by omega)) (by simp [isC, h1]))
    · refine ev_neg h1 ?_
      by_cases h2 : bt s i = 46
      · exact ev_pos h2 (ev_eq (ih (by omega)) (by simp [isC, h2]))
      · exact ev_neg h2 (ev_now (by simp [isC, h1, h2]))
theorem wrap_mul {r c : Int} (hr : 2 ≤ r ∧ r ≤ 6) (hc : 2 ≤ c ∧ c ≤ 6) : wrap64 (r * c) = r * c := by
  have h1 : 0 ≤ r * c := Int.mul_nonneg (by omega) (by omega)
  have h2 : r * c ≤ 6 * 6 := Int.mul_le_mul hr.2 hc.2 (by omega) (by omega)
  exact wrap64_id (by omega) (by omega)
theorem spec_IsGrid_ev (r c : Int) (s : ByteArray) (hs : s.size ≤ 140737488351232) : Ev (fun k => spec_IsGrid.f k r c s) (gridM r c s) := by
  unfold spec_IsGrid.f
  refine ev_let (spec_l1In_eq _ _ _) ?_
  by_cases hr : 2 ≤ r ∧ r ≤ 6
  · refine ev_pos (by simpa using hr) (ev_let (spec_l1In_eq _ _ _) ?_)
    by_cases hc : 2 ≤ c ∧ c ≤ 6
    · refine ev_pos (by simpa using hc) ?_
      rw [wrap_mul hr hc]
      apply ev_succ
      simp only [spec_IsGrid.j0]
      by_cases hn : (s.size : Int) = r * c
      · refine ev_neg (by simp [hn]) (ev_eq (spec_IsGrid_l0_ev r c s hs 0 (by omega)) ?_)
        simp [gridM, hr, hc, hn]
      · exact ev_pos (by simp [hn]) (ev_now (by simp [gridM, hn]))
    · refine ev_neg (by simpa using hc) (ev_succ ?_)
      simp only [spec_IsGrid.j0]
      exact ev_pos (by simp) (ev_now (by simp [gridM, hc]))
  · refine ev_neg (by simpa using hr) (ev_succ ?_)
    simp only [spec_IsGrid.j0]
    exact ev_pos (by simp) (ev_now (by simp [gridM, hr]))
theorem impl_IsGrid_ev (r c : Int) (s : ByteArray) (hs : s.size ≤ 140737488351232) : Ev (fun k => impl_IsGrid.f k r c s) (gridM r c s) := by
  unfold impl_IsGrid.f
  refine ev_let (impl_InRange_eq _ _ _) ?_
  by_cases hr : 2 ≤ r ∧ r ≤ 6
  · refine ev_pos (by simpa using hr) (ev_let (impl_InRange_eq _ _ _) ?_)
    by_cases hc : 2 ≤ c ∧ c ≤ 6
    · refine ev_pos (by simpa using hc) ?_
      rw [wrap_mul hr hc]
      apply ev_succ
      simp only [impl_IsGrid.j0]
      by_cases hn : (s.size : Int) = r * c
      · refine ev_neg (by simp [hn]) (ev_eq (impl_IsGrid_l0_ev r c s hs 0 (by omega)) ?_)
        simp [gridM, hr, hc, hn]
      · exact ev_pos (by simp [hn]) (ev_now (by simp [gridM, hn]))
    · refine ev_neg (by simpa using hc) (ev_succ ?_)
      simp only [impl_IsGrid.j0]
      exact ev_pos (by simp) (ev_now (by simp [gridM, hc]))
  · refine ev_neg (by simpa using hr) (ev_succ ?_)
    simp only [impl_IsGrid.j0]
    exact ev_pos (by simp) (ev_now (by simp [gridM, hr]))

/-! ### gridtext -/
def rowM (s : ByteArray) (C i : Nat) : ByteArray := s.extract (i * C) ((i + 1) * C)
/-- The text of a grid's first rows. -/
def txtM (s : ByteArray) (C : Nat) : Nat → List UInt8
  | 0 => []
  | i + 1 => txtM s C i ++ (if 0 < i then [47] else []) ++ (rowM s C i).data.toList
theorem row_size (s : ByteArray) (C i : Nat) : (rowM s C i).size ≤ s.size := by
  unfold rowM
  rw [ByteArray.size_extract]
  omega
theorem txtM_length (s : ByteArray) (C : Nat) (h : s.size ≤ 36) : ∀ n : Nat, (txtM s C n).length ≤ n * 37
  | 0 => by simp [txtM]
  | n + 1 => by
    have h1 := txtM_length s C h n
    have h2 := row_size s C n
    have h3 : (rowM s C n).data.toList.length = (rowM s C n).size := by simp
    have h4 : (if 0 < n then [(47 : UInt8)] else []).length ≤ 1 := by split <;> simp
    unfold txtM
    rw [List.length_append, List.length_append]
    omega
def textM (r c : Int) (s : ByteArray) : ByteArray := if gridM r c s = true then ⟨(txtM s c.toNat r.toNat).toArray⟩ else ⟨#[]⟩
theorem gridM_dims {r c : Int} {s : ByteArray} (h : gridM r c s = true) : ∃ R C : Nat, r = R ∧ c = C ∧ 2 ≤ R ∧ R ≤ 6 ∧ 2 ≤ C ∧ C ≤ 6 ∧ s.size = R * C ∧ R * C ≤ 36 := by
  unfold gridM at h
  simp only [Bool.and_eq_true, decide_eq_true_eq] at h
  obtain ⟨⟨⟨hr, hc⟩, hs⟩, _⟩ := h
  obtain ⟨R, rfl⟩ := Int.eq_ofNat_of_zero_le (show 0 ≤ r by omega)
  obtain ⟨C, rfl⟩ := Int.eq_ofNat_of_zero_le (show 0 ≤ c by omega)
  refine ⟨R, C, rfl, rfl, by omega, by omega, by omega, by omega, ?_, ?_⟩
  · have : ((R * C : Nat) : Int) = (R : Int) * (C : Int) := by simp
    omega
  · have : R * C ≤ 6 * 6 := Nat.mul_le_mul (by omega) (by omega)
    omega
theorem txt_next (s : ByteArray) (C i : Nat) (h : 0 < i) : ((⟨(txtM s C i).toArray⟩ : ByteArray) ++ (⟨#[47]⟩ : ByteArray)) ++ rowM s C i = ⟨(txtM s C (i + 1)).toArray⟩ := by
  apply ByteArray.ext
  apply Array.ext'
  rw [ByteArray.data_append, ByteArray.data_append, Array.toList_append, Array.toList_append]
  simp [txtM, h]
theorem txt_first (s : ByteArray) (C : Nat) : (⟨(txtM s C 0).toArray⟩ : ByteArray) ++ rowM s C 0 = ⟨(txtM s C 1).toArray⟩ := by
  apply ByteArray.ext
  apply Array.ext'
  rw [ByteArray.data_append, Array.toList_append]
  simp [txtM]
theorem spec_GridText_l0_ev (s : ByteArray) (R C : Nat) (hg : gridM R C s = true) (hs : s.size = R * C) (h36 : s.size ≤ 36) (hR : R ≤ 6) (hC : 2 ≤ C) (hC6 : C ≤ 6) : ∀ i : Nat, i ≤ R → Ev (fun k => spec_GridText.l0 k (⟨(txtM s C i).toArray⟩ : ByteArray) i R C s) (⟨(txtM s C R).toArray⟩ : ByteArray) := by
  have hstop : ∀ (x : ByteArray) (i : Nat), Ev (fun k => spec_GridText.j1 k x i false R C s) x := by
    intro x i
    apply ev_succ
    simp only [spec_GridText.j1]
    exact ev_neg (by simp) (ev_now rfl)
  refine down R ?_ ?_
  · intro i h hi
    have e : i = R := by omega
    subst e
    apply ev_succ
    simp only [spec_GridText.l0]
    exact ev_neg (by omega) (hstop _ _)
  · intro i h ih hi
    have hm : (i + 1) * C ≤ R * C := Nat.mul_le_mul_right _ h
    have hm2 : (i + 1) * C = i * C + C := Nat.succ_mul i C
    have hl := txtM_length s C h36 i
    have hrow := row_size s C i
    have e1 : (i : Int) * (C : Int) = ((i * C : Nat) : Int) := by simp
    have e2 : ((i + 1 : Nat) : Int) * (C : Int) = (((i + 1) * C : Nat) : Int) := by simp
    have hx : ((⟨(txtM s C i).toArray⟩ : ByteArray)).size = (txtM s C i).length := by simp [ByteArray.size]
    have h47 : ((⟨(txtM s C i).toArray⟩ : ByteArray) ++ (⟨#[47]⟩ : ByteArray)).size = (txtM s C i).length + 1 := by
      rw [ByteArray.size_append, hx]
      rfl
    apply ev_succ
    simp only [spec_GridText.l0]
    refine ev_pos (by omega) (ev_bind (spec_IsGrid_ev R C s (by omega)) ?_)
    rw [hg]
    apply ev_succ
    simp only [spec_GridText.j1]
    rw [wrap64_id (n := (i : Int) + 1) (by omega) (by omega), succ_cast, e1, e2, wrap64_id (n := ((i * C : Nat) : Int)) (by omega) (by omega), wrap64_id (n := (((i + 1) * C : Nat) : Int)) (by omega) (by omega), Int.toNat_natCast, Int.toNat_natCast]
    refine ev_pos (by trivial) ?_
    have ih' := ih (by omega)
    by_cases h0 : 0 < i
    · rw [← txt_next s C i h0] at ih'
      refine ev_pos (by omega) (ev_pos (by rw [hx]; omega) (ev_pos (by omega) (ev_pos (by omega) (ev_pos (by omega) (ev_pos ?_ ih')))))
      rw [h47]
      have : (s.extract (i * C) ((i + 1) * C)).size ≤ s.size := hrow
      omega
    · have e0 : i = 0 := by omega
      subst e0
      rw [← txt_first s C] at ih'
      refine ev_neg (by omega) (ev_pos (by omega) (ev_pos (by omega) (ev_pos (by omega) (ev_pos ?_ ih'))))
      rw [hx]
      have : (s.extract (0 * C) ((0 + 1) * C)).size ≤ s.size := hrow
      omega
theorem spec_GridText_ev (r c : Int) (s : ByteArray) (hs : s.size ≤ 1048576) : Ev (fun k => spec_GridText.f k r c s) (textM r c s) := by
  unfold spec_GridText.f textM
  by_cases hg : gridM r c s = true
  · obtain ⟨R, C, rfl, rfl, h1, h2, h3, h4, h5, h6⟩ := gridM_dims hg
    rw [if_pos hg]
    exact spec_GridText_l0_ev s R C hg h5 (by omega) h2 h3 h4 0 (by omega)
  · rw [if_neg hg]
    rw [Bool.not_eq_true] at hg
    have hstop : Ev (fun k => spec_GridText.j1 k (⟨#[]⟩ : ByteArray) 0 false r c s) ⟨#[]⟩ := by
      apply ev_succ
      simp only [spec_GridText.j1]
      exact ev_neg (by simp) (ev_now rfl)
    apply ev_succ
    simp only [spec_GridText.l0]
    by_cases h0 : (0 : Int) < r
    · refine ev_pos h0 (ev_bind (spec_IsGrid_ev r c s (by omega)) ?_)
      rw [hg]
      exact hstop
    · exact ev_neg h0 hstop

/-! ### parsegrid -/
/-- A text cut at its strokes. -/
def cutL : List UInt8 → List (List UInt8)
  | [] => [[]]
  | b :: l => if b = 47 then [] :: cutL l else (b :: (cutL l).headD []) :: (cutL l).tail
theorem cutL_cons (b : UInt8) (l : List UInt8) : cutL (b :: l) = if b = 47 then [] :: cutL l else (b :: (cutL l).headD []) :: (cutL l).tail := rfl
theorem cutL_length : ∀ l : List UInt8, 1 ≤ (cutL l).length ∧ (cutL l).length ≤ l.length + 1
  | [] => by simp [cutL]
  | b :: l => by
    have := cutL_length l
    rw [cutL_cons]
    split
    · simp only [List.length_cons]
      omega
    · simp only [List.length_cons, List.length_tail]
      omega
theorem cutL_flat_cons {b : UInt8} (h : ¬ b = 47) (l : List UInt8) : (cutL (b :: l)).flatten = b :: (cutL l).flatten := by
  have h1 := (cutL_length l).1
  rw [cutL_cons, if_neg h]
  cases hc : cutL l with
  | nil => rw [hc] at h1; simp at h1
  | cons x t => simp
def zeroG : Int × Int × ByteArray × Bool := (0, 0, ⟨#[]⟩, false)
/-- What a text that is cut says of a grid. -/
def finM (s : ByteArray) (R C : Int) (cells : ByteArray) : Int × Int × ByteArray × Bool := if (textM R C cells).toList = s.toList then (if gridM R C cells = true then (R, C, cells, true) else zeroG) else zeroG
def parseM (s : ByteArray) : Int × Int × ByteArray × Bool := finM s (cutL s.data.toList).length ((cutL s.data.toList).headD []).length ⟨(cutL s.data.toList).flatten.toArray⟩
theorem bt_lt {s : ByteArray} {i : Nat} (h : i < s.data.toList.length) : bt s (i : Int) = ((s.data.toList[i]).toNat : Int) := by
  have h' : i < s.size := by simpa using h
  unfold bt
  rw [dif_pos (by simpa using h')]
  rfl
theorem spec_ParseGrid_ev (s : ByteArray) (hs : s.size ≤ 1048576) : Ev (fun k => spec_ParseGrid.f k s) (parseM s) := by
  have hL : s.data.toList.length = s.size := by simp
  have main : ∀ i : Nat, i ≤ s.size → ∀ (R C : Int) (cells : ByteArray), 1 ≤ R → R ≤ i + 1 → (R = 1 → C = i) → (¬ R = 1 → 0 ≤ C ∧ C ≤ i) → cells.size ≤ i → Ev (fun k => spec_ParseGrid.l0 k s i R C cells) (finM s (R + (((cutL (s.data.toList.drop i)).length : Int) - 1)) (if R = 1 then (i : Int) + ((cutL (s.data.toList.drop i)).headD []).length else C) (cells ++ ⟨(cutL (s.data.toList.drop i)).flatten.toArray⟩)) := by
    refine down s.size ?_ ?_
    · intro i h hi R C cells h1 h2 h3 h4 h5
      apply ev_succ
      simp only [spec_ParseGrid.l0]
      have e : s.data.toList.drop i = [] := List.drop_eq_nil_of_le (by omega)
      rw [e]
      have e1 : (R + (((cutL []).length : Int) - 1)) = R := by
        show R + ((1 : Int) - 1) = R
        omega
      have e2 : (if R = 1 then (i : Int) + (((cutL []).headD []).length : Int) else C) = C := by
        split
        · rename_i hR
          rw [h3 hR]
          show (i : Int) + 0 = i
          omega
        · rfl
      have e3 : cells ++ (⟨(cutL []).flatten.toArray⟩ : ByteArray) = cells := by
        apply ByteArray.ext
        apply Array.ext'
        rw [ByteArray.data_append, Array.toList_append]
        simp [cutL]
      rw [e1, e2, e3]
      refine ev_neg (by omega) (ev_bind (spec_GridText_ev R C cells (by omega)) ?_)
      unfold finM zeroG
      by_cases ht : (textM R C cells).toList = s.toList
      · rw [if_pos ht]
        refine ev_pos ht (ev_bind (spec_IsGrid_ev R C cells (by omega)) ?_)
        by_cases hg : gridM R C cells = true
        · exact ev_pos hg (ev_now (by rw [if_pos hg]))
        · exact ev_neg hg (ev_now (by rw [if_neg hg]))
      · rw [if_neg ht]
        exact ev_neg ht (ev_now rfl)
    · intro i h ih hi R C cells h1 h2 h3 h4 h5
      have hl : i < s.data.toList.length := by omega
      have hb := bt_lt hl
      have hlen := (cutL_length (s.data.toList.drop (i + 1))).1
      have hdr := List.drop_eq_getElem_cons hl
      apply ev_succ
      simp only [spec_ParseGrid.l0]
      rw [hb, wrap64_id (n := (i : Int) + 1) (by omega) (by omega), wrap64_id (n := R + 1) (by omega) (by omega), succ_cast, Int.toNat_natCast, Int.toNat_natCast, hdr]
      generalize hu : s.data.toList[i] = u at hdr
      refine ev_pos (by omega) (ev_pos (by omega) ?_)
      by_cases h47 : u = 47
      · have e1 : R + (((cutL (u :: s.data.toList.drop (i + 1))).length : Int) - 1) = (R + 1) + (((cutL (s.data.toList.drop (i + 1))).length : Int) - 1) := by
          rw [cutL_cons, if_pos h47, List.length_cons]
          omega
        have e2 : (if R = 1 then (i : Int) + (((cutL (u :: s.data.toList.drop (i + 1))).headD []).length : Int) else C) = (if R + 1 = 1 then ((i + 1 : Nat) : Int) + (((cutL (s.data.toList.drop (i + 1))).headD []).length : Int) else C) := by
          rw [if_neg (show ¬ R + 1 = 1 by omega), cutL_cons, if_pos h47]
          split
          · rename_i hR
            rw [h3 hR]
            show (i : Int) + 0 = i
            omega
          · rfl
        have e3 : (cutL (u :: s.data.toList.drop (i + 1))).flatten = (cutL (s.data.toList.drop (i + 1))).flatten := by
          rw [cutL_cons, if_pos h47]
          simp
        rw [e1, e2, e3]
        refine ev_pos (by rw [h47]; rfl) (ev_neg (by omega) (ih (by omega) (R + 1) C cells (by omega) (by omega) (by omega) (fun _ => ?_) (by omega)))
        by_cases hR : R = 1
        · rw [h3 hR]; omega
        · have := h4 hR; omega
      · have hne : ¬ ((u.toNat : Int) = 47) := fun e => h47 (UInt8.toNat_inj.1 (by show u.toNat = 47; omega))
        have e1 : ((cutL (u :: s.data.toList.drop (i + 1))).length : Int) = ((cutL (s.data.toList.drop (i + 1))).length : Int) := by
          rw [cutL_cons, if_neg h47, List.length_cons, List.length_tail]
          omega
        have e2 : (if R = 1 then (i : Int) + (((cutL (u :: s.data.toList.drop (i + 1))).headD []).length : Int) else C) = (if R = 1 then ((i + 1 : Nat) : Int) + (((cutL (s.data.toList.drop (i + 1))).headD []).length : Int) else C) := by
          rw [cutL_cons, if_neg h47, List.headD_cons, List.length_cons]
          split <;> omega
        have e3 : cells ++ (⟨(cutL (u :: s.data.toList.drop (i + 1))).flatten.toArray⟩ : ByteArray) = (cells ++ s.extract i (i + 1)) ++ ⟨(cutL (s.data.toList.drop (i + 1))).flatten.toArray⟩ := by
          rw [cutL_flat_cons h47]
          apply ByteArray.ext
          apply Array.ext'
          rw [ByteArray.data_append, ByteArray.data_append, ByteArray.data_append, Array.toList_append, Array.toList_append, Array.toList_append, ByteArray.data_extract, Array.toList_extract]
          simp only [List.extract]
          rw [show i + 1 - i = 1 by omega, hdr]
          simp
        have hsz : (cells ++ s.extract i (i + 1)).size ≤ i + 1 := by
          rw [ByteArray.size_append, ByteArray.size_extract]
          omega
        rw [e1, e2, e3]
        refine ev_neg hne (ev_pos (by omega) (ev_pos (by omega) (ev_pos (by rw [ByteArray.size_extract]; omega) ?_)))
        by_cases hR : R = 1
        · refine ev_pos hR ?_
          have := ih (by omega) R ((i + 1 : Nat) : Int) (cells ++ s.extract i (i + 1)) h1 (by omega) (fun _ => rfl) (fun h => absurd hR h) hsz
          rw [if_pos hR] at this ⊢
          exact this
        · refine ev_neg hR (ih (by omega) R C (cells ++ s.extract i (i + 1)) h1 (by omega) (fun h => absurd h hR) (fun _ => ?_) hsz)
          have := h4 hR
          omega
  have h0 := main 0 (by omega) 1 0 ⟨#[]⟩ (by omega) (by omega) (fun _ => rfl) (fun h => absurd rfl h) (by simp [ByteArray.size])
  unfold spec_ParseGrid.f parseM
  rw [List.drop_zero, if_pos rfl] at h0
  have e1 : (1 : Int) + (((cutL s.data.toList).length : Int) - 1) = ((cutL s.data.toList).length : Int) := by omega
  have e2 : ((0 : Nat) : Int) + (((cutL s.data.toList).headD []).length : Int) = (((cutL s.data.toList).headD []).length : Int) := by omega
  have e3 : (⟨#[]⟩ : ByteArray) ++ (⟨(cutL s.data.toList).flatten.toArray⟩ : ByteArray) = ⟨(cutL s.data.toList).flatten.toArray⟩ := by
    apply ByteArray.ext
    apply Array.ext'
    rw [ByteArray.data_append, Array.toList_append]
    rfl
  rw [e1, e2, e3] at h0
  exact h0

/-! ### drawgrid -/
theorem spec_l1Int_some (l : List Int) (i h : Int) (L : List Int) (h0 : 0 ≤ i ∧ i ≤ l.length) (hl : l.length ≤ 1048576) (hL : 0 < L.length) (hL2 : L.length ≤ 1000) : ∃ x i' h' : Int, spec_l1Int.f l i h L = some (x, i', h') ∧ x ∈ L ∧ (0 ≤ i' ∧ i' ≤ l.length) := by
  unfold spec_l1Int.f
  obtain ⟨x, i1, g1, e1, hx, hi1⟩ := spec_l1Below_some l i h (L.length : Int) h0 hl (by omega)
  obtain ⟨j, rfl⟩ := Int.eq_ofNat_of_zero_le hx.1
  have hj : j < L.length := by have := hx.2.1 (by omega); omega
  rw [e1, Option.bind_some, if_pos hx.1, if_pos (by show (j : Int) < _; omega)]
  refine ⟨_, _, _, rfl, ?_, hi1⟩
  show rd L (j : Int) ∈ L
  rw [rd_get hj]
  exact List.getElem_mem hj
/-- A text that says a grid. -/
def okText (x : ByteArray) : Bool := gridM ((cutL x.data.toList).length : Int) (((cutL x.data.toList).headD []).length : Int) ⟨(cutL x.data.toList).flatten.toArray⟩ && (decide (textM ((cutL x.data.toList).length : Int) (((cutL x.data.toList).headD []).length : Int) ⟨(cutL x.data.toList).flatten.toArray⟩ = x) && decide (1 ≤ (cutL x.data.toList).flatten.length ∧ (cutL x.data.toList).flatten.length ≤ 36 ∧ (cutL x.data.toList).length ≤ 6 ∧ ((cutL x.data.toList).headD []).length ≤ 6))
theorem okText_parse {x : ByteArray} (h : okText x = true) : ∃ (R C : Int) (s : ByteArray), parseM x = (R, C, s, true) ∧ (1 ≤ s.size ∧ s.size ≤ 36) ∧ (0 ≤ R ∧ R ≤ 6) ∧ (0 ≤ C ∧ C ≤ 6) := by
  unfold okText at h
  rw [Bool.and_eq_true, Bool.and_eq_true, decide_eq_true_eq, decide_eq_true_eq] at h
  obtain ⟨hg, ht, h1, h2, h3, h4⟩ := h
  refine ⟨((cutL x.data.toList).length : Int), (((cutL x.data.toList).headD []).length : Int), ⟨(cutL x.data.toList).flatten.toArray⟩, ?_, ?_, ⟨by omega, by omega⟩, ⟨by omega, by omega⟩⟩
  · unfold parseM finM
    rw [if_pos (by rw [ht]), if_pos hg]
  · show 1 ≤ (cutL x.data.toList).flatten.toArray.size ∧ (cutL x.data.toList).flatten.toArray.size ≤ 36
    rw [List.size_toArray]
    exact ⟨h1, h2⟩
theorem spec_l7Draw_ev (l : List Int) (i h : Int) (h0 : 0 ≤ i ∧ i ≤ l.length) (hl : l.length ≤ 1048576) : ∃ (r c : Int) (s : ByteArray) (i' h' : Int), Ev (fun k => spec_l7Draw.f k l i h) (r, c, s, i', h') ∧ (1 ≤ s.size ∧ s.size ≤ 36) ∧ (0 ≤ r ∧ r ≤ 6) ∧ (0 ≤ c ∧ c ≤ 6) ∧ (0 ≤ i' ∧ i' ≤ l.length) := by
  unfold spec_l7Draw.f spec_l7Texts.f
  have hall : ∀ x ∈ [(⟨#[46, 46, 46, 47, 46, 46, 46, 47, 46, 46, 46]⟩ : ByteArray), (⟨#[46, 46, 35, 47, 46, 46, 46, 47, 35, 46, 46]⟩ : ByteArray), (⟨#[46, 46, 46, 47, 46, 35, 46, 47, 46, 46, 46]⟩ : ByteArray), (⟨#[46, 46, 46, 46, 47, 46, 46, 46, 46, 47, 46, 46, 46, 46]⟩ : ByteArray), (⟨#[46, 46, 46, 46, 35, 47, 46, 35, 46, 46, 46, 47, 46, 46, 46, 46, 46]⟩ : ByteArray), (⟨#[46, 46, 46, 46, 47, 46, 35, 35, 46, 47, 46, 46, 46, 46]⟩ : ByteArray), (⟨#[46, 46, 46, 46, 46, 35, 47, 46, 35, 46, 35, 46, 46, 47, 46, 46, 46, 46, 46, 46]⟩ : ByteArray), (⟨#[46, 46, 47, 46, 46]⟩ : ByteArray), (⟨#[35, 46, 46, 46, 47, 46, 46, 46, 46, 47, 46, 46, 46, 35]⟩ : ByteArray), (⟨#[46, 46, 46, 47, 35, 35, 35, 47, 46, 46, 46]⟩ : ByteArray)], okText x = true ∧ x.size ≤ 100 := by decide +kernel
  obtain ⟨x, i1, g1, e1, hx, hi1⟩ := spec_l1Str_some l i h (L := [(⟨#[46, 46, 46, 47, 46, 46, 46, 47, 46, 46, 46]⟩ : ByteArray), (⟨#[46, 46, 35, 47, 46, 46, 46, 47, 35, 46, 46]⟩ : ByteArray), (⟨#[46, 46, 46, 47, 46, 35, 46, 47, 46, 46, 46]⟩ : ByteArray), (⟨#[46, 46, 46, 46, 47, 46, 46, 46, 46, 47, 46, 46, 46, 46]⟩ : ByteArray), (⟨#[46, 46, 46, 46, 35, 47, 46, 35, 46, 46, 46, 47, 46, 46, 46, 46, 46]⟩ : ByteArray), (⟨#[46, 46, 46, 46, 47, 46, 35, 35, 46, 47, 46, 46, 46, 46]⟩ : ByteArray), (⟨#[46, 46, 46, 46, 46, 35, 47, 46, 35, 46, 35, 46, 46, 47, 46, 46, 46, 46, 46, 46]⟩ : ByteArray), (⟨#[46, 46, 47, 46, 46]⟩ : ByteArray), (⟨#[35, 46, 46, 46, 47, 46, 46, 46, 46, 47, 46, 46, 46, 35]⟩ : ByteArray), (⟨#[46, 46, 46, 47, 35, 35, 35, 47, 46, 46, 46]⟩ : ByteArray)]) h0 hl (by decide) (by decide)
  obtain ⟨hok, hxs⟩ := hall x hx
  obtain ⟨R, C, s, hp, hs, hR, hC⟩ := okText_parse hok
  have hpe := spec_ParseGrid_ev x (by omega)
  rw [hp] at hpe
  obtain ⟨z, i2, g2, e2, _, hi2⟩ := spec_l1Below_some l i1 g1 3 hi1 hl (by omega)
  have e3 : spec_l1Once.f l i1 g1 3 = some ((z == 0), i2, g2) := by
    unfold spec_l1Once.f
    rw [e2]
    rfl
  cases hz : (z == 0) with
  | false =>
    rw [hz] at e3
    exact ⟨R, C, s, i2, g2, ev_let rfl (ev_let e1 (ev_bind hpe (ev_let e3 (ev_neg (by simp) (ev_now rfl))))), hs, hR, hC, hi2⟩
  | true =>
    rw [hz] at e3
    obtain ⟨a, i3, g3, e4, ha, hi3⟩ := spec_l1Below_some l i2 g2 (s.size : Int) hi2 hl (by omega)
    have ha1 := ha.2.1 (by omega)
    obtain ⟨an, rfl⟩ := Int.eq_ofNat_of_zero_le ha.1
    obtain ⟨y, i4, g4, e5, hy, hi4⟩ := spec_l1Str_some l i3 g3 [(⟨#[35]⟩ : ByteArray), (⟨#[46]⟩ : ByteArray)] hi3 hl (by decide) (by decide)
    have hy1 : y.size = 1 := by
      simp only [List.mem_cons, List.not_mem_nil, or_false] at hy
      rcases hy with rfl | rfl <;> rfl
    have n1 : (s.extract 0 an).size = an := by rw [ByteArray.size_extract]; omega
    have n2 : (s.extract (an + 1) s.size).size = s.size - (an + 1) := by rw [ByteArray.size_extract]; omega
    have n3 : ((s.extract 0 an) ++ y).size = an + 1 := by rw [ByteArray.size_append]; omega
    refine ⟨R, C, (s.extract 0 an ++ y) ++ s.extract (an + 1) s.size, i4, g4, ?_, ?_, hR, hC, hi4⟩
    · refine ev_let rfl (ev_let e1 (ev_bind hpe (ev_let e3 (ev_pos rfl (ev_let e4 ?_)))))
      refine ev_pos (by show 0 ≤ (an : Int); omega) (ev_pos (by show (an : Int) ≤ (s.size : Int); omega) (ev_let e5 ?_))
      show Ev (fun n => if (s.extract 0 ((an : Int)).toNat).size + y.size ≤ 9223372036854775807 then (if 0 ≤ wrap64 ((an : Int) + 1) then (if wrap64 ((an : Int) + 1) ≤ (s.size : Int) then (if ((s.extract 0 ((an : Int)).toNat) ++ y).size + (s.extract (wrap64 ((an : Int) + 1)).toNat s.size).size ≤ 9223372036854775807 then some (R, C, ((s.extract 0 ((an : Int)).toNat) ++ y) ++ (s.extract (wrap64 ((an : Int) + 1)).toNat s.size), i4, g4) else none) else none) else none) else none) _
      rw [wrap64_id (n := (an : Int) + 1) (by omega) (by omega), succ_cast, Int.toNat_natCast, Int.toNat_natCast]
      exact ev_pos (by omega) (ev_pos (by omega) (ev_pos (by omega) (ev_pos (by omega) (ev_now rfl))))
    · rw [ByteArray.size_append]
      omega
theorem spec_l7Any_ev (l : List Int) (i h : Int) (h0 : 0 ≤ i ∧ i ≤ l.length) (hl : l.length ≤ 1048576) : ∃ (r c : Int) (s : ByteArray) (i' h' : Int), Ev (fun k => spec_l7Any.f k l i h) (r, c, s, i', h') ∧ (1 ≤ s.size ∧ s.size ≤ 100) ∧ (-9223372036854775808 ≤ r ∧ r ≤ 9223372036854775807) ∧ (0 ≤ c ∧ c ≤ 7) ∧ (0 ≤ i' ∧ i' ≤ l.length) := by
  unfold spec_l7Any.f
  obtain ⟨r, c, s, i1, g1, hd, hs, hr, hc, hi1⟩ := spec_l7Draw_ev l i h h0 hl
  obtain ⟨z, i2, g2, e2, hz, hi2⟩ := spec_l1Below_some l i1 g1 9 hi1 hl (by omega)
  by_cases h1 : z = 0
  · obtain ⟨q, i3, g3, e3, hq, hi3⟩ := spec_l1Int_some l i2 g2 [(-1), 0, 99, 100, 1000, 1001, 9223372036854775807, (-9223372036854775808)] hi2 hl (by decide) (by decide)
    have e4 : spec_l5Raw.f l i2 g2 = some (q, i3, g3) := by
      unfold spec_l5Raw.f
      rw [e3]
      rfl
    refine ⟨q, c, s, i3, g3, ev_bind hd (ev_let e2 (ev_pos h1 (ev_let e4 (ev_now rfl)))), by omega, ?_, by omega, hi3⟩
    simp only [List.mem_cons, List.not_mem_nil, or_false] at hq
    omega
  · by_cases h2 : z = 1
    · obtain ⟨q, i3, g3, e3, hq, hi3⟩ := spec_l1Int_some l i2 g2 [1, 7, 3] hi2 hl (by decide) (by decide)
      refine ⟨r, q, s, i3, g3, ev_bind hd (ev_let e2 (ev_neg h1 (ev_pos h2 (ev_let e3 (ev_now rfl))))), by omega, by omega, ?_, hi3⟩
      simp only [List.mem_cons, List.not_mem_nil, or_false] at hq
      omega
    · by_cases h3 : z = 2
      · have n1 : (s ++ (⟨#[46]⟩ : ByteArray)).size = s.size + 1 := by rw [ByteArray.size_append]; rfl
        exact ⟨r, c, s ++ (⟨#[46]⟩ : ByteArray), i2, g2, ev_bind hd (ev_let e2 (ev_neg h1 (ev_neg h2 (ev_pos h3 (ev_pos (by show s.size + 1 ≤ 9223372036854775807; omega) (ev_now rfl)))))), by omega, by omega, by omega, hi2⟩
      · by_cases h4 : z = 3
        · have n2 : (s.extract 1 s.size).size = s.size - 1 := by rw [ByteArray.size_extract]; omega
          have n1 : ((⟨#[120]⟩ : ByteArray) ++ s.extract 1 s.size).size = 1 + (s.size - 1) := by
            rw [ByteArray.size_append, n2]
            rfl
          exact ⟨r, c, (⟨#[120]⟩ : ByteArray) ++ s.extract 1 s.size, i2, g2, ev_bind hd (ev_let e2 (ev_neg h1 (ev_neg h2 (ev_neg h3 (ev_pos h4 (ev_pos (by show 1 ≤ (s.size : Int); omega) (ev_pos (by show 1 + (s.extract 1 s.size).size ≤ 9223372036854775807; omega) (ev_now rfl)))))))), by omega, by omega, by omega, hi2⟩
        · exact ⟨r, c, s, i2, g2, ev_bind hd (ev_let e2 (ev_neg h1 (ev_neg h2 (ev_neg h3 (ev_neg h4 (ev_now rfl)))))), by omega, by omega, by omega, hi2⟩

/-! ### slots -/
/-- How many cells follow one another from a cell on, white ones, at most m. -/
def runLen (s : ByteArray) (step : Nat) : Nat → Nat → Nat
  | _, 0 => 0
  | i, m + 1 => if bt s i = 46 then 1 + runLen s step (i + step) m else 0
def stepM (C : Nat) (dn : Bool) : Nat := if dn then C else 1
def atM (C : Nat) (dn : Bool) (i : Nat) : Nat := if dn then i / C else i % C
def mostM (R C : Nat) (dn : Bool) : Nat := if dn then R else C
/-- The length of the part of white cells that begins at a cell; 0 if none begins there. -/
def runM (R C : Nat) (s : ByteArray) (i : Nat) (dn : Bool) : Nat :=
  if bt s i = 46 ∧ ¬ (0 < atM C dn i ∧ bt s (i - stepM C dn : Nat) = 46) then runLen s (stepM C dn) i (mostM R C dn - atM C dn i) else 0
theorem runLen_le (s : ByteArray) (step : Nat) : ∀ m i, runLen s step i m ≤ m
  | 0, _ => Nat.le_refl _
  | m + 1, i => by
    unfold runLen
    split
    · have := runLen_le s step m (i + step)
      omega
    · omega
theorem cell_lt {R C : Nat} {i j : Nat} {dn : Bool} (hC : 0 < C) (hi : i < R * C) (hj : atM C dn i + j < mostM R C dn) : i + j * stepM C dn < R * C := by
  cases dn with
  | true =>
    simp only [atM, mostM, stepM, if_true] at hj ⊢
    have h1 := Nat.div_add_mod i C
    have h2 := Nat.mod_lt i hC
    have h3 : C * (i / C + j + 1) ≤ C * R := Nat.mul_le_mul_left _ (by omega)
    rw [Nat.mul_comm R C]
    rw [Nat.mul_add, Nat.mul_add, Nat.mul_one] at h3
    rw [Nat.mul_comm j C]
    omega
  | false =>
    simp only [atM, mostM, stepM, Bool.false_eq_true, if_false] at hj ⊢
    have h1 := Nat.div_add_mod i C
    have h4 : i / C < R := (Nat.div_lt_iff_lt_mul hC).2 hi
    have h3 : C * (i / C + 1) ≤ C * R := Nat.mul_le_mul_left _ h4
    rw [Nat.mul_comm R C]
    rw [Nat.mul_add, Nat.mul_one] at h3
    omega
theorem mul_bound {j C : Nat} (hj : j ≤ 6) (hC : C ≤ 6) : j * C ≤ 36 := Nat.mul_le_mul hj hC
theorem stepM_le {C : Nat} (hC : C ≤ 6) (h0 : 0 < C) (dn : Bool) : 1 ≤ stepM C dn ∧ stepM C dn ≤ 6 := by
  unfold stepM
  split <;> omega
theorem mostM_le {R C : Nat} (hR : R ≤ 6) (hC : C ≤ 6) (dn : Bool) : mostM R C dn ≤ 6 := by
  unfold mostM
  split <;> omega
theorem spec_l8From_l0_ev (R C : Nat) (s : ByteArray) (r c : Int) (hR : R ≤ 6) (hC : C ≤ 6) (h0 : 0 < C) (hs : s.size = R * C) (i : Nat) (dn : Bool) (hi : i < R * C) : ∀ n : Nat, atM C dn i + n ≤ mostM R C dn →
    Ev (fun k => spec_l8From.l0 k i (stepM C dn) (atM C dn i) (mostM R C dn) n r c s) (n + runLen s (stepM C dn) (i + n * stepM C dn) (mostM R C dn - atM C dn i - n) : Nat) := by
  have hm := mostM_le hR hC dn
  have hst := stepM_le hC h0 dn
  have h36 := bounds36 hR hC
  refine down (mostM R C dn - atM C dn i) ?_ ?_
  · intro n h hn
    apply ev_succ
    simp only [spec_l8From.l0]
    rw [wrap64_id (n := (atM C dn i : Int) + n) (by omega) (by omega)]
    refine ev_neg (by omega) (ev_now ?_)
    rw [show mostM R C dn - atM C dn i - n = 0 by omega]
    rfl
  · intro n h ih hn
    have hlt := cell_lt h0 hi (show atM C dn i + n < mostM R C dn by omega)
    have hb := mul_bound (show n ≤ 6 by omega) (show stepM C dn ≤ 6 by omega)
    have hcast : ((n : Int) * (stepM C dn : Int)) = ((n * stepM C dn : Nat) : Int) := by rw [Int.natCast_mul]
    apply ev_succ
    simp only [spec_l8From.l0]
    rw [wrap64_id (n := (atM C dn i : Int) + n) (by omega) (by omega), hcast, wrap64_id (n := ((n * stepM C dn : Nat) : Int)) (by omega) (by omega), wrap64_id (n := (i : Int) + _) (by omega) (by omega), wrap64_id (n := (n : Int) + 1) (by omega) (by omega), succ_cast]
    rw [show mostM R C dn - atM C dn i - n = (mostM R C dn - atM C dn i - (n + 1)) + 1 by omega]
    unfold runLen
    rw [show ((i : Int) + ((n * stepM C dn : Nat) : Int)) = ((i + n * stepM C dn : Nat) : Int) by omega]
    refine ev_pos (by omega) (ev_pos (by omega) (ev_pos (by omega) ?_))
    by_cases hw : bt s (i + n * stepM C dn : Nat) = 46
    · rw [if_pos hw]
      refine ev_pos hw (ev_eq (ih (by omega)) ?_)
      rw [show i + (n + 1) * stepM C dn = i + n * stepM C dn + stepM C dn by rw [Nat.add_mul, Nat.one_mul, Nat.add_assoc]]
      omega
    · rw [if_neg hw]
      exact ev_neg hw (ev_now (by simp))
theorem spec_l8From_ev (R C : Nat) (s : ByteArray) (hR : R ≤ 6) (hC : C ≤ 6) (h0 : 0 < C) (hs : s.size = R * C) (i : Nat) (dn : Bool) (hi : i < R * C) :
    Ev (fun k => spec_l8From.f k R C s i dn) (runM R C s i dn : Nat) := by
  have hst := stepM_le hC h0 dn
  have h36 := bounds36 hR hC
  have hl0 := spec_l8From_l0_ev R C s R C hR hC h0 hs i dn hi 0
  have key : Ev (fun k => spec_l8From.j0 k i (stepM C dn) (atM C dn i) (mostM R C dn) R C s) (runM R C s i dn : Nat) := by
    have hat : atM C dn i ≤ i ∧ (0 < atM C dn i → stepM C dn ≤ i) ∧ atM C dn i ≤ mostM R C dn := by
      cases dn with
      | true =>
        simp only [atM, stepM, mostM, if_true]
        refine ⟨Nat.div_le_self _ _, fun h => ?_, ?_⟩
        · exact (Nat.div_pos_iff.1 h).2
        · exact Nat.le_of_lt ((Nat.div_lt_iff_lt_mul h0).2 hi)
      | false =>
        simp only [atM, stepM, mostM, Bool.false_eq_true, if_false]
        have := Nat.mod_le i C
        have := Nat.mod_lt i h0
        omega
    have hj1 : ∀ b : Bool, (b = true → Ev (fun k => spec_l8From.j1 k i (stepM C dn) (atM C dn i) (mostM R C dn) b R C s) 0) ∧
        (b = false → Ev (fun k => spec_l8From.j1 k i (stepM C dn) (atM C dn i) (mostM R C dn) b R C s) (runLen s (stepM C dn) i (mostM R C dn - atM C dn i) : Nat)) := by
      intro b
      refine ⟨fun hb => ?_, fun hb => ?_⟩
      · apply ev_succ
        simp only [spec_l8From.j1]
        exact ev_pos hb (ev_now rfl)
      · apply ev_succ
        simp only [spec_l8From.j1]
        exact ev_neg (by simp [hb]) (by simpa using hl0 (by omega))
    apply ev_succ
    simp only [spec_l8From.j0]
    refine ev_pos (by omega) (ev_pos (by omega) ?_)
    unfold runM
    by_cases hw : bt s i = 46
    · refine ev_pos hw ?_
      by_cases ha : 0 < atM C dn i
      · have h2 := hat.2.1 ha
        rw [wrap64_id (n := (i : Int) - _) (by omega) (by omega), show ((i : Int) - (stepM C dn : Nat)) = ((i - stepM C dn : Nat) : Int) by omega]
        refine ev_pos (by omega) (ev_pos (by omega) (ev_pos (by omega) ?_))
        by_cases hp : bt s (i - stepM C dn : Nat) = 46
        · rw [if_neg (by simp [ha, hp])]
          exact (hj1 _).1 (by simp [hp])
        · rw [if_pos ⟨hw, fun x => hp x.2⟩]
          exact (hj1 _).2 (by simp [hp])
      · rw [if_pos ⟨hw, fun x => ha x.1⟩]
        exact ev_neg (by omega) ((hj1 false).2 rfl)
    · rw [if_neg (fun x => hw x.1)]
      exact ev_neg hw ((hj1 true).1 rfl)
  unfold spec_l8From.f
  refine ev_neg (by omega) ?_
  cases dn with
  | true =>
    refine ev_pos rfl ?_
    have e : Int.tdiv (i : Int) (C : Int) = ((i / C : Nat) : Int) := Int.ofNat_tdiv i C |>.symm
    have hd := Nat.div_le_self i C
    have hq := Int.natCast_nonneg (i / C)
    rw [e, wrap64_id (by omega) (by omega)]
    simpa only [stepM, atM, mostM, if_true] using key
  | false =>
    refine ev_neg (by simp) ?_
    have e : Int.tmod (i : Int) (C : Int) = ((i % C : Nat) : Int) := Int.ofNat_tmod i C |>.symm
    rw [e]
    simpa [stepM, atM, mostM] using key

theorem impl_run_l0_ev (R C : Nat) (s : ByteArray) (r c : Int) (hR : R ≤ 6) (hC : C ≤ 6) (h0 : 0 < C) (hs : s.size = R * C) (i : Nat) (dn : Bool) (hi : i < R * C) : ∀ n : Nat, atM C dn i + n ≤ mostM R C dn →
    Ev (fun k => impl_run.l0 k i (stepM C dn) (atM C dn i) (mostM R C dn) n r c s) (n + runLen s (stepM C dn) (i + n * stepM C dn) (mostM R C dn - atM C dn i - n) : Nat) := by
  have hm := mostM_le hR hC dn
  have hst := stepM_le hC h0 dn
  have h36 := bounds36 hR hC
  refine down (mostM R C dn - atM C dn i) ?_ ?_
  · intro n h hn
    apply ev_succ
    simp only [impl_run.l0]
    rw [wrap64_id (n := (atM C dn i : Int) + n) (by omega) (by omega)]
    refine ev_neg (by omega) (ev_now ?_)
    rw [show mostM R C dn - atM C dn i - n = 0 by omega]
    rfl
  · intro n h ih hn
    have hlt := cell_lt h0 hi (show atM C dn i + n < mostM R C dn by omega)
    have hb := mul_bound (show n ≤ 6 by omega) (show stepM C dn ≤ 6 by omega)
    have hcast : ((n : Int) * (stepM C dn : Int)) = ((n * stepM C dn : Nat) : Int) := by rw [Int.natCast_mul]
    apply ev_succ
    simp only [impl_run.l0]
    rw [wrap64_id (n := (atM C dn i : Int) + n) (by omega) (by omega), hcast, wrap64_id (n := ((n * stepM C dn : Nat) : Int)) (by omega) (by omega), wrap64_id (n := (i : Int) + _) (by omega) (by omega), wrap64_id (n := (n : Int) + 1) (by omega) (by omega), succ_cast]
    rw [show mostM R C dn - atM C dn i - n = (mostM R C dn - atM C dn i - (n + 1)) + 1 by omega]
    unfold runLen
    rw [show ((i : Int) + ((n * stepM C dn : Nat) : Int)) = ((i + n * stepM C dn : Nat) : Int) by omega]
    refine ev_pos (by omega) (ev_pos (by omega) (ev_pos (by omega) ?_))
    by_cases hw : bt s (i + n * stepM C dn : Nat) = 46
    · rw [if_pos hw]
      refine ev_pos hw (ev_eq (ih (by omega)) ?_)
      rw [show i + (n + 1) * stepM C dn = i + n * stepM C dn + stepM C dn by rw [Nat.add_mul, Nat.one_mul, Nat.add_assoc]]
      omega
    · rw [if_neg hw]
      exact ev_neg hw (ev_now (by simp))
theorem impl_run_ev (R C : Nat) (s : ByteArray) (hR : R ≤ 6) (hC : C ≤ 6) (h0 : 0 < C) (hs : s.size = R * C) (i : Nat) (dn : Bool) (hi : i < R * C) :
    Ev (fun k => impl_run.f k R C s i dn) (runM R C s i dn : Nat) := by
  have hst := stepM_le hC h0 dn
  have h36 := bounds36 hR hC
  have hl0 := impl_run_l0_ev R C s R C hR hC h0 hs i dn hi 0
  have key : Ev (fun k => impl_run.j0 k i (stepM C dn) (atM C dn i) (mostM R C dn) R C s) (runM R C s i dn : Nat) := by
    have hat : atM C dn i ≤ i ∧ (0 < atM C dn i → stepM C dn ≤ i) ∧ atM C dn i ≤ mostM R C dn := by
      cases dn with
      | true =>
        simp only [atM, stepM, mostM, if_true]
        refine ⟨Nat.div_le_self _ _, fun h => ?_, ?_⟩
        · exact (Nat.div_pos_iff.1 h).2
        · exact Nat.le_of_lt ((Nat.div_lt_iff_lt_mul h0).2 hi)
      | false =>
        simp only [atM, stepM, mostM, Bool.false_eq_true, if_false]
        have := Nat.mod_le i C
        have := Nat.mod_lt i h0
        omega
    have hj1 : ∀ b : Bool, (b = true → Ev (fun k => impl_run.j1 k i (stepM C dn) (atM C dn i) (mostM R C dn) b R C s) 0) ∧
        (b = false → Ev (fun k => impl_run.j1 k i (stepM C dn) (atM C dn i) (mostM R C dn) b R C s) (runLen s (stepM C dn) i (mostM R C dn - atM C dn i) : Nat)) := by
      intro b
      refine ⟨fun hb => ?_, fun hb => ?_⟩
      · apply ev_succ
        simp only [impl_run.j1]
        exact ev_pos hb (ev_now rfl)
      · apply ev_succ
        simp only [impl_run.j1]
        exact ev_neg (by simp [hb]) (by simpa using hl0 (by omega))
    apply ev_succ
    simp only [impl_run.j0]
    refine ev_pos (by omega) (ev_pos (by omega) ?_)
    unfold runM
    by_cases hw : bt s i = 46
    · refine ev_pos hw ?_
      by_cases ha : 0 < atM C dn i
      · have h2 := hat.2.1 ha
        rw [wrap64_id (n := (i : Int) - _) (by omega) (by omega), show ((i : Int) - (stepM C dn : Nat)) = ((i - stepM C dn : Nat) : Int) by omega]
        refine ev_pos (by omega) (ev_pos (by omega) (ev_pos (by omega) ?_))
        by_cases hp : bt s (i - stepM C dn : Nat) = 46
        · rw [if_neg (by simp [ha, hp])]
          exact (hj1 _).1 (by simp [hp])
        · rw [if_pos ⟨hw, fun x => hp x.2⟩]
          exact (hj1 _).2 (by simp [hp])
      · rw [if_pos ⟨hw, fun x => ha x.1⟩]
        exact ev_neg (by omega) ((hj1 false).2 rfl)
    · rw [if_neg (fun x => hw x.1)]
      exact ev_neg hw ((hj1 true).1 rfl)
  unfold impl_run.f
  refine ev_neg (by omega) ?_
  cases dn with
  | true =>
    refine ev_pos rfl ?_
    have e : Int.tdiv (i : Int) (C : Int) = ((i / C : Nat) : Int) := Int.ofNat_tdiv i C |>.symm
    have hd := Nat.div_le_self i C
    have hq := Int.natCast_nonneg (i / C)
    rw [e, wrap64_id (by omega) (by omega)]
    simpa only [stepM, atM, mostM, if_true] using key
  | false =>
    refine ev_neg (by simp) ?_
    have e : Int.tmod (i : Int) (C : Int) = ((i % C : Nat) : Int) := Int.ofNat_tmod i C |>.symm
    rw [e]
    simpa [stepM, atM, mostM] using key

/-! ### slotsof -/
abbrev ISlot := S65
theorem rd_Slot_get {l : List ISlot} {i : Nat} (h : i < l.length) : rd_T65 l (i : Int) = l[i] := by
  unfold rd_T65
  simp [h]
/-- The slots that begin at a cell, under a number. -/
def slotsOne (R C : Nat) (s : ByteArray) (i : Nat) (n : Int) : List ISlot :=
  (if 2 ≤ runM R C s i false then [⟨n, false, i, runM R C s i false⟩] else []) ++ (if 2 ≤ runM R C s i true then [⟨n, true, i, runM R C s i true⟩] else [])
def numOne (R C : Nat) (s : ByteArray) (i : Nat) (n : Int) : Int := if 2 ≤ runM R C s i false ∨ 2 ≤ runM R C s i true then n + 1 else n
def slotsGo (R C : Nat) (s : ByteArray) : List Nat → Int → List ISlot
  | [], _ => []
  | i :: l, n => slotsOne R C s i (numOne R C s i n) ++ slotsGo R C s l (numOne R C s i n)
/-- The slots of a grid; none of what is no grid. -/
def slotsM (r c : Int) (s : ByteArray) : List ISlot := if gridM r c s then slotsGo r.toNat c.toNat s (List.range' 0 (s.size - 0)) 0 else []
theorem slotsOne_length (R C : Nat) (s : ByteArray) (i : Nat) (n : Int) : (slotsOne R C s i n).length ≤ 2 := by
  unfold slotsOne
  split <;> split <;> simp
theorem slotsGo_length (R C : Nat) (s : ByteArray) : ∀ (l : List Nat) (n : Int), (slotsGo R C s l n).length ≤ 2 * l.length
  | [], _ => by simp [slotsGo]
  | i :: l, n => by
    unfold slotsGo
    have h1 := slotsOne_length R C s i (numOne R C s i n)
    have h2 := slotsGo_length R C s l (numOne R C s i n)
    simp only [List.length_append, List.length_cons]
    omega
theorem slotsM_length (r c : Int) (s : ByteArray) : (slotsM r c s).length ≤ 72 := by
  unfold slotsM
  split
  · rename_i h
    obtain ⟨R, C, rfl, rfl, _, hR, _, hC, hs⟩ := gridM_nat h
    have := slotsGo_length R C s (List.range' 0 (s.size - 0)) 0
    have h36 := bounds36 hR hC
    rw [List.length_range'] at this
    simp only [Int.toNat_natCast]
    omega
  · simp
theorem spec_SlotsOf_j3_ev {acc : List ISlot} {n : Int} {i a d : Nat} {r c : Int} {s : ByteArray} {ρ : List ISlot} (ha : acc.length ≤ 72) (hi : i ≤ 100)
    (h : Ev (fun k => spec_SlotsOf.l0 k (acc ++ ((if 2 ≤ a then [⟨n, false, i, a⟩] else []) ++ (if 2 ≤ d then [⟨n, true, i, d⟩] else []))) n (i + 1 : Nat) r c s) ρ) : Ev (fun k => spec_SlotsOf.j3 k acc n i a d r c s) ρ := by
  apply ev_succ
  simp only [spec_SlotsOf.j3]
  rw [wrap64_id (n := (i : Int) + 1) (by omega) (by omega), succ_cast]
  by_cases h1 : 2 ≤ a
  · rw [if_pos h1] at h
    refine ev_pos (by omega) (ev_pos (by omega) (ev_let rfl ?_))
    by_cases h2 : 2 ≤ d
    · rw [if_pos h2] at h
      exact ev_pos (by omega) (ev_pos (by simp; omega) (by simpa using h))
    · rw [if_neg h2] at h
      exact ev_neg (by omega) (by simpa using h)
  · rw [if_neg h1] at h
    refine ev_neg (by omega) ?_
    by_cases h2 : 2 ≤ d
    · rw [if_pos h2] at h
      exact ev_pos (by omega) (ev_pos (by omega) (by simpa using h))
    · rw [if_neg h2] at h
      exact ev_neg (by omega) (by simpa using h)
theorem spec_SlotsOf_l0_ev (R C : Nat) (s : ByteArray) (hR : 2 ≤ R ∧ R ≤ 6) (hC : 2 ≤ C ∧ C ≤ 6) (hg : gridM R C s = true) (hs : s.size = R * C) : ∀ i : Nat, i ≤ s.size → ∀ (acc : List ISlot) (n : Int), acc.length ≤ 2 * i → 0 ≤ n → n ≤ i →
    Ev (fun k => spec_SlotsOf.l0 k acc n i R C s) (acc ++ slotsGo R C s (List.range' i (s.size - i)) n) := by
  have h36 := bounds36 hR.2 hC.2
  refine down s.size ?_ ?_
  · intro i h hi acc n ha h0 hn
    apply ev_succ
    simp only [spec_SlotsOf.l0]
    refine ev_neg (by omega) (ev_succ ?_)
    simp only [spec_SlotsOf.j1]
    rw [range_nil h]
    exact ev_neg (by simp) (ev_now (by simp [slotsGo]))
  · intro i h ih hi acc n ha h0 hn
    apply ev_succ
    simp only [spec_SlotsOf.l0]
    refine ev_pos (by omega) (ev_bind (spec_IsGrid_ev R C s (by omega)) (ev_succ ?_))
    simp only [spec_SlotsOf.j1]
    refine ev_pos hg (ev_bind (spec_l8From_ev R C s hR.2 hC.2 (by omega) hs i false (by omega)) (ev_bind (spec_l8From_ev R C s hR.2 hC.2 (by omega) hs i true (by omega)) ?_))
    rw [range_cons h]
    unfold slotsGo
    have hnum : numOne R C s i n ≤ i + 1 ∧ 0 ≤ numOne R C s i n := by
      unfold numOne
      split <;> omega
    have hl := slotsOne_length R C s i (numOne R C s i n)
    have hnext := ih (by omega) (acc ++ slotsOne R C s i (numOne R C s i n)) (numOne R C s i n) (by simp; omega) hnum.2 (by omega)
    rw [List.append_assoc] at hnext
    have key : ∀ b : Bool, b = decide (2 ≤ runM R C s i false ∨ 2 ≤ runM R C s i true) → Ev (fun k => spec_SlotsOf.j2 k acc n i (runM R C s i false : Nat) (runM R C s i true : Nat) b R C s) (acc ++ (slotsOne R C s i (numOne R C s i n) ++ slotsGo R C s (List.range' (i + 1) (s.size - (i + 1))) (numOne R C s i n))) := by
      intro b hb
      apply ev_succ
      simp only [spec_SlotsOf.j2]
      rw [wrap64_id (n := n + 1) (by omega) (by omega)]
      by_cases hc : 2 ≤ runM R C s i false ∨ 2 ≤ runM R C s i true
      · have e : numOne R C s i n = n + 1 := if_pos hc
        rw [e] at hnext ⊢
        exact ev_pos (by rw [hb]; simpa using hc) (spec_SlotsOf_j3_ev (by omega) (by omega) hnext)
      · have e : numOne R C s i n = n := if_neg hc
        rw [e] at hnext ⊢
        exact ev_neg (by rw [hb]; simpa using hc) (spec_SlotsOf_j3_ev (by omega) (by omega) hnext)
    by_cases h1 : 2 ≤ runM R C s i false
    · exact ev_pos (by omega) (key true (decide_eq_true (.inl h1)).symm)
    · exact ev_neg (by omega) (key _ (decide_eq_decide.2 (by omega)))
theorem spec_SlotsOf_ev (r c : Int) (s : ByteArray) (hs : s.size ≤ 1048576) : Ev (fun k => spec_SlotsOf.f k r c s) (slotsM r c s) := by
  unfold spec_SlotsOf.f slotsM
  by_cases hg : gridM r c s = true
  · rw [if_pos hg]
    obtain ⟨R, C, rfl, rfl, h1, h2, h3, h4, h5⟩ := gridM_nat hg
    simpa using spec_SlotsOf_l0_ev R C s ⟨h1, h2⟩ ⟨h3, h4⟩ hg h5 0 (by omega) [] 0 (by simp) (by omega) (by omega)
  · rw [if_neg hg]
    have hj : Ev (fun k => spec_SlotsOf.j1 k [] 0 0 false r c s) [] := by
      apply ev_succ
      simp only [spec_SlotsOf.j1]
      exact ev_neg (by simp) (ev_now rfl)
    apply ev_succ
    simp only [spec_SlotsOf.l0]
    by_cases h : (0 : Int) < (s.size : Int)
    · refine ev_pos h (ev_bind (spec_IsGrid_ev r c s (by omega)) ?_)
      rw [Bool.not_eq_true] at hg
      rw [hg]
      exact hj
    · exact ev_neg h hj
theorem impl_SlotsOf_j2_ev {acc : List ISlot} {n : Int} {i a d m : Nat} {r c : Int} {s : ByteArray} {ρ : List ISlot} (ha : acc.length ≤ 72) (hi : i ≤ 100)
    (h : Ev (fun k => impl_SlotsOf.l0 k (acc ++ ((if 2 ≤ a then [⟨n, false, i, a⟩] else []) ++ (if 2 ≤ d then [⟨n, true, i, d⟩] else []))) n m (i + 1 : Nat) r c s) ρ) : Ev (fun k => impl_SlotsOf.j2 k acc n i a d m i r c s) ρ := by
  apply ev_succ
  simp only [impl_SlotsOf.j2]
  rw [wrap64_id (n := (i : Int) + 1) (by omega) (by omega), succ_cast]
  by_cases h1 : 2 ≤ a
  · rw [if_pos h1] at h
    refine ev_pos (by omega) (ev_pos (by omega) (ev_let rfl ?_))
    by_cases h2 : 2 ≤ d
    · rw [if_pos h2] at h
      exact ev_pos (by omega) (ev_pos (by simp; omega) (by simpa using h))
    · rw [if_neg h2] at h
      exact ev_neg (by omega) (by simpa using h)
  · rw [if_neg h1] at h
    refine ev_neg (by omega) ?_
    by_cases h2 : 2 ≤ d
    · rw [if_pos h2] at h
      exact ev_pos (by omega) (ev_pos (by omega) (by simpa using h))
    · rw [if_neg h2] at h
      exact ev_neg (by omega) (by simpa using h)
theorem impl_SlotsOf_l0_ev (R C : Nat) (s : ByteArray) (hR : 2 ≤ R ∧ R ≤ 6) (hC : 2 ≤ C ∧ C ≤ 6) (hs : s.size = R * C) : ∀ i : Nat, i ≤ s.size → ∀ (acc : List ISlot) (n : Int), acc.length ≤ 2 * i → 0 ≤ n → n ≤ i →
    Ev (fun k => impl_SlotsOf.l0 k acc n s.size i R C s) (acc ++ slotsGo R C s (List.range' i (s.size - i)) n) := by
  have h36 := bounds36 hR.2 hC.2
  refine down s.size ?_ ?_
  · intro i h hi acc n ha h0 hn
    apply ev_succ
    simp only [impl_SlotsOf.l0]
    rw [range_nil h]
    exact ev_neg (by omega) (ev_now (by simp [slotsGo]))
  · intro i h ih hi acc n ha h0 hn
    apply ev_succ
    simp only [impl_SlotsOf.l0]
    refine ev_pos (by omega) (ev_bind (impl_run_ev R C s hR.2 hC.2 (by omega) hs i false (by omega)) (ev_bind (impl_run_ev R C s hR.2 hC.2 (by omega) hs i true (by omega)) ?_))
    rw [range_cons h]
    unfold slotsGo
    have hnum : numOne R C s i n ≤ i + 1 ∧ 0 ≤ numOne R C s i n := by
      unfold numOne
      split <;> omega
    have hl := slotsOne_length R C s i (numOne R C s i n)
    have hnext := ih (by omega) (acc ++ slotsOne R C s i (numOne R C s i n)) (numOne R C s i n) (by simp; omega) hnum.2 (by omega)
    rw [List.append_assoc] at hnext
    have key : ∀ b : Bool, b = decide (2 ≤ runM R C s i false ∨ 2 ≤ runM R C s i true) → Ev (fun k => impl_SlotsOf.j1 k acc n i (runM R C s i false : Nat) (runM R C s i true : Nat) s.size i b R C s) (acc ++ (slotsOne R C s i (numOne R C s i n) ++ slotsGo R C s (List.range' (i + 1) (s.size - (i + 1))) (numOne R C s i n))) := by
      intro b hb
      apply ev_succ
      simp only [impl_SlotsOf.j1]
      rw [wrap64_id (n := n + 1) (by omega) (by omega)]
      by_cases hc : 2 ≤ runM R C s i false ∨ 2 ≤ runM R C s i true
      · have e : numOne R C s i n = n + 1 := if_pos hc
        rw [e] at hnext ⊢
        exact ev_pos (by rw [hb]; simpa using hc) (impl_SlotsOf_j2_ev (by omega) (by omega) hnext)
      · have e : numOne R C s i n = n := if_neg hc
        rw [e] at hnext ⊢
        exact ev_neg (by rw [hb]; simpa using hc) (impl_SlotsOf_j2_ev (by omega) (by omega) hnext)
    by_cases h1 : 2 ≤ runM R C s i false
    · exact ev_pos (by omega) (key true (decide_eq_true (.inl h1)).symm)
    · exact ev_neg (by omega) (key _ (decide_eq_decide.2 (by omega)))
theorem impl_SlotsOf_ev (r c : Int) (s : ByteArray) (hs : s.size ≤ 1048576) : Ev (fun k => impl_SlotsOf.f k r c s) (slotsM r c s) := by
  unfold impl_SlotsOf.f slotsM
  refine ev_bind (impl_IsGrid_ev r c s (by omega)) ?_
  by_cases hg : gridM r c s = true
  · rw [if_pos hg]
    obtain ⟨R, C, rfl, rfl, h1, h2, h3, h4, h5⟩ := gridM_nat hg
    exact ev_pos hg (by simpa using impl_SlotsOf_l0_ev R C s ⟨h1, h2⟩ ⟨h3, h4⟩ h5 0 (by omega) [] 0 (by simp) (by omega) (by omega))
  · rw [if_neg hg]
    exact ev_neg hg (ev_now rfl)

/-! ### cells -/
theorem slot_ext_iff {a b : ISlot} : (a.f0 = b.f0 ∧ a.f1 = b.f1 ∧ a.f2 = b.f2 ∧ a.f3 = b.f3) ↔ a = b := by
  cases a
  cases b
  simp
instance decSlot : DecidableEq ISlot := fun a b => decidable_of_iff _ slot_ext_iff
/-- The cells of a slot. -/
def cellsM (C : Nat) (x : ISlot) : List Int := (List.range' 0 (x.f3.toNat - 0)).map fun k : Nat => x.f2 + (k : Int) * (stepM C x.f1 : Int)
def okSlot (R C : Nat) (s : ByteArray) (x : ISlot) : Prop := ∃ i : Nat, i < R * C ∧ x.f2 = i ∧ x.f3 = runM R C s i x.f1 ∧ 2 ≤ runM R C s i x.f1
theorem slotsOne_mem {R C : Nat} {s : ByteArray} {i : Nat} {n : Int} {x : ISlot} (h : x ∈ slotsOne R C s i n) : x.f0 = n ∧ x.f2 = i ∧ x.f3 = runM R C s i x.f1 ∧ 2 ≤ runM R C s i x.f1 := by
  unfold slotsOne at h
  rcases List.mem_append.1 h with h | h
  · split at h
    · rename_i h2
      rw [List.mem_singleton] at h
      subst h
      exact ⟨rfl, rfl, rfl, h2⟩
    · cases h
  · split at h
    · rename_i h2
      rw [List.mem_singleton] at h
      subst h
      exact ⟨rfl, rfl, rfl, h2⟩
    · cases h
theorem slotsGo_mem {R C : Nat} {s : ByteArray} {x : ISlot} : ∀ {l : List Nat} {n : Int}, x ∈ slotsGo R C s l n → ∃ i ∈ l, x.f2 = i ∧ x.f3 = runM R C s i x.f1 ∧ 2 ≤ runM R C s i x.f1
  | [], _, h => by cases h
  | i :: l, n, h => by
    unfold slotsGo at h
    rcases List.mem_append.1 h with h | h
    · exact ⟨i, List.mem_cons_self, (slotsOne_mem h).2⟩
    · obtain ⟨j, hj, h2⟩ := slotsGo_mem h
      exact ⟨j, List.mem_cons_of_mem _ hj, h2⟩
theorem slotsM_ok {r c : Int} {s : ByteArray} {x : ISlot} (h : x ∈ slotsM r c s) : ∃ R C : Nat, r = R ∧ c = C ∧ 2 ≤ R ∧ R ≤ 6 ∧ 2 ≤ C ∧ C ≤ 6 ∧ s.size = R * C ∧ gridM r c s = true ∧ okSlot R C s x := by
  unfold slotsM at h
  split at h
  · rename_i hg
    obtain ⟨R, C, rfl, rfl, h1, h2, h3, h4, h5⟩ := gridM_nat hg
    obtain ⟨i, hi, h6⟩ := slotsGo_mem h
    rw [List.mem_range'] at hi
    obtain ⟨j, hj, rfl⟩ := hi
    refine ⟨R, C, rfl, rfl, h1, h2, h3, h4, h5, hg, _, ?_, h6⟩
    omega
  · cases h
def slotLt (a b : ISlot) : Prop := a.f2 < b.f2 ∨ (a.f2 = b.f2 ∧ a.f1 = false ∧ b.f1 = true)
theorem slotLt_ne {a b : ISlot} (h : slotLt a b) : a ≠ b := by
  rintro rfl
  rcases h with h | ⟨_, h1, h2⟩
  · omega
  · rw [h1] at h2
    cases h2
theorem slotsGo_pairwise {R C : Nat} {s : ByteArray} : ∀ {l : List Nat} {n : Int}, l.Pairwise (· < ·) → (slotsGo R C s l n).Pairwise slotLt
  | [], _, _ => by simp [slotsGo]
  | i :: l, n, h => by
    unfold slotsGo
    rw [List.pairwise_append]
    refine ⟨?_, slotsGo_pairwise (List.pairwise_cons.1 h).2, ?_⟩
    · unfold slotsOne
      rw [List.pairwise_append]
      refine ⟨by split <;> simp, by split <;> simp, ?_⟩
      intro a ha b hb
      split at ha
      · split at hb
        · rw [List.mem_singleton] at ha hb
          subst ha hb
          exact .inr ⟨rfl, rfl, rfl⟩
        · cases hb
      · cases ha
    · intro a ha b hb
      have h1 := (slotsOne_mem ha).2.1
      obtain ⟨j, hj, h2, _⟩ := slotsGo_mem hb
      have := (List.pairwise_cons.1 h).1 j hj
      exact .inl (by omega)
theorem slotsM_pairwise (r c : Int) (s : ByteArray) : (slotsM r c s).Pairwise slotLt := by
  unfold slotsM
  split
  · exact slotsGo_pairwise (List.pairwise_lt_range' (step := 1) (by omega))
  · simp
theorem slotsM_nodup (r c : Int) (s : ByteArray) : (slotsM r c s).Nodup := (slotsM_pairwise r c s).imp slotLt_ne
theorem okSlot_bounds {R C : Nat} {s : ByteArray} {x : ISlot} (hR : R ≤ 6) (hC : C ≤ 6) (h : okSlot R C s x) : 0 ≤ x.f2 ∧ x.f2 < 36 ∧ 2 ≤ x.f3 ∧ x.f3 ≤ 6 ∧ x.f3.toNat ≤ 6 := by
  obtain ⟨i, hi, h2, h3, h4⟩ := h
  have h36 := bounds36 hR hC
  have h5 : runM R C s i x.f1 ≤ 6 := by
    unfold runM
    split
    · have := runLen_le s (stepM C x.f1) (mostM R C x.f1 - atM C x.f1 i) i
      have := mostM_le hR hC x.f1
      omega
    · omega
  omega
/-- What CellsOf answers. -/
def cellsOfM (r c : Int) (s : ByteArray) (x : ISlot) : List Int := if x ∈ slotsM r c s then cellsM c.toNat x else []
theorem cellsM_length (C : Nat) (x : ISlot) : (cellsM C x).length = x.f3.toNat := by simp [cellsM]
theorem cellsOfM_length (r c : Int) (s : ByteArray) (x : ISlot) : (cellsOfM r c s x).length ≤ 6 := by
  unfold cellsOfM
  split
  · rename_i h
    obtain ⟨R, C, rfl, rfl, _, h2, _, h4, _, _, hk⟩ := slotsM_ok h
    have := okSlot_bounds h2 h4 hk
    rw [cellsM_length]
    omega
  · simp
theorem cell_wrap {C : Nat} {x : ISlot} {k : Nat} (hC : C ≤ 6) (_ : 0 < C) (hk : k ≤ 6) (h1 : 0 ≤ x.f2) (h2 : x.f2 < 36) : wrap64 ((k : Int) * (C : Int)) = (k : Int) * (C : Int) ∧ wrap64 (x.f2 + (k : Int) * (C : Int)) = x.f2 + (k : Int) * (C : Int) := by
  have hb := mul_bound hk hC
  have hcast : ((k : Int) * (C : Int)) = ((k * C : Nat) : Int) := by rw [Int.natCast_mul]
  rw [hcast]
  exact ⟨wrap64_id (by omega) (by omega), wrap64_id (by omega) (by omega)⟩
theorem spec_CellsOf_l1_ev {l : List ISlot} {j : Nat} {R C : Nat} {s : ByteArray} {x : ISlot} {ρ : List Int} (hl : l.length ≤ 1048576) (hj : j < l.length) (hC : C ≤ 6) (h0 : 0 < C) (hx : 0 ≤ x.f2 ∧ x.f2 < 36 ∧ 0 ≤ x.f3 ∧ x.f3.toNat ≤ 6) : ∀ n : Nat, n ≤ x.f3.toNat → ∀ acc : List Int, acc.length ≤ 1000000 + n →
    Ev (fun k => spec_CellsOf.l0 k (acc ++ (List.range' n (x.f3.toNat - n)).map fun k : Nat => x.f2 + (k : Int) * (stepM C x.f1 : Int)) l (j + 1 : Nat) R C s x.f0 x.f1 x.f2 x.f3) ρ → Ev (fun k => spec_CellsOf.l1 k acc l j n R C s x.f0 x.f1 x.f2 x.f3) ρ := by
  refine down x.f3.toNat ?_ ?_
  · intro n h hn acc ha hρ
    apply ev_succ
    simp only [spec_CellsOf.l1]
    rw [wrap64_id (n := (j : Int) + 1) (by omega) (by omega), succ_cast]
    rw [range_nil h] at hρ
    exact ev_neg (by omega) (by simpa using hρ)
  · intro n h ih hn acc ha hρ
    apply ev_succ
    simp only [spec_CellsOf.l1]
    rw [wrap64_id (n := (n : Int) + 1) (by omega) (by omega), succ_cast]
    rw [range_cons h, List.map_cons] at hρ
    have hw := cell_wrap (x := x) hC h0 (show n ≤ 6 by omega) hx.1 hx.2.1
    refine ev_pos (by omega) ?_
    cases hd : x.f1 with
    | true =>
      refine ev_pos rfl (ev_pos (by omega) ?_)
      rw [hw.1, hw.2]
      have := ih (by omega) (acc ++ [x.f2 + (n : Int) * (C : Int)]) (by simp; omega)
      rw [hd] at this hρ
      exact this (by simpa [stepM] using hρ)
    | false =>
      refine ev_neg (by simp) (ev_pos (by omega) ?_)
      rw [wrap64_id (n := x.f2 + n) (by omega) (by omega)]
      have := ih (by omega) (acc ++ [x.f2 + (n : Int)]) (by simp; omega)
      rw [hd] at this hρ
      exact this (by simpa [stepM] using hρ)
theorem spec_CellsOf_l0_ev (R C : Nat) (s : ByteArray) (x : ISlot) (l : List ISlot) (hl : l.length ≤ 1000) (hC : C ≤ 6) (h0 : 0 < C) (hx : x ∈ l → 0 ≤ x.f2 ∧ x.f2 < 36 ∧ 0 ≤ x.f3 ∧ x.f3.toNat ≤ 6) : ∀ i : Nat, i ≤ l.length → ∀ acc : List Int, acc.length ≤ 6 * i →
    Ev (fun k => spec_CellsOf.l0 k acc l i R C s x.f0 x.f1 x.f2 x.f3) (acc ++ (l.drop i).flatMap fun y => if y = x then cellsM C x else []) := by
  refine down l.length ?_ ?_
  · intro i h hi acc ha
    apply ev_succ
    simp only [spec_CellsOf.l0]
    exact ev_neg (by omega) (ev_now (by rw [List.drop_eq_nil_of_le h]; simp))
  · intro i h ih hi acc ha
    apply ev_succ
    simp only [spec_CellsOf.l0]
    rw [rd_Slot_get h, wrap64_id (n := (i : Int) + 1) (by omega) (by omega), succ_cast, List.drop_eq_getElem_cons h, List.flatMap_cons]
    refine ev_pos (by omega) (ev_pos (by omega) ?_)
    by_cases he : l[i] = x
    · have hm : x ∈ l := he ▸ List.getElem_mem h
      have hb := hx hm
      rw [if_pos he]
      refine ev_neg (by rw [he]; simp) ?_
      have := ih (by omega) (acc ++ cellsM C x) (by rw [List.length_append, cellsM_length]; omega)
      exact spec_CellsOf_l1_ev (by omega) h hC h0 hb 0 (by omega) acc (by omega) (by simpa [cellsM] using this)
    · rw [if_neg he]
      refine ev_pos ?_ (by simpa using ih (by omega) acc (by omega))
      rw [← slot_ext_iff] at he
      simp only [Bool.or_eq_true, Bool.not_eq_true', beq_eq_false_iff_ne, ne_eq]
      by_cases a : l[i].f0 = x.f0 <;> by_cases b : l[i].f1 = x.f1 <;> by_cases c : l[i].f2 = x.f2 <;> simp_all
theorem flatMap_one {l : List ISlot} {x : ISlot} {v : List Int} (h : l.Nodup) : (l.flatMap fun y => if y = x then v else []) = if x ∈ l then v else [] := by
  induction l with
  | nil => simp
  | cons a l ih =>
    rw [List.nodup_cons] at h
    rw [List.flatMap_cons, ih h.2]
    by_cases e : a = x
    · subst e
      simp [h.1]
    · simp [e, show ¬ x = a from fun h => e h.symm]
theorem spec_CellsOf_ev (r c : Int) (s : ByteArray) (x : ISlot) (hs : s.size ≤ 1048576) : Ev (fun k => spec_CellsOf.f k r c s x.f0 x.f1 x.f2 x.f3) (cellsOfM r c s x) := by
  unfold spec_CellsOf.f
  refine ev_bind (spec_SlotsOf_ev r c s hs) ?_
  by_cases hg : gridM r c s = true
  · obtain ⟨R, C, rfl, rfl, h1, h2, h3, h4, h5⟩ := gridM_nat hg
    have hl := slotsM_length R C s
    refine ev_eq (spec_CellsOf_l0_ev R C s x (slotsM R C s) (by omega) h4 (by omega) ?_ 0 (by omega) [] (by simp)) ?_
    · intro hm
      obtain ⟨R', C', e1, e2, _, h7, _, h9, _, _, hk⟩ := slotsM_ok hm
      have := okSlot_bounds h7 h9 hk
      omega
    · rw [List.drop_zero, flatMap_one (slotsM_nodup _ _ _)]
      simp [cellsOfM]
  · have e : slotsM r c s = [] := by
      unfold slotsM
      rw [if_neg hg]
    unfold cellsOfM
    rw [e]
    apply ev_succ
    simp only [spec_CellsOf.l0]
    exact ev_neg (by simp) (ev_now (by simp))
theorem impl_cells_l0_ev (C : Nat) (x : ISlot) (hC : C ≤ 6) (h0 : 0 < C) (hx : 0 ≤ x.f2 ∧ x.f2 < 36 ∧ 0 ≤ x.f3 ∧ x.f3.toNat ≤ 6) : ∀ n : Nat, n ≤ x.f3.toNat → ∀ acc : List Int, acc.length ≤ n →
    Ev (fun k => impl_cells.l0 k (stepM C x.f1) acc x.f3 n x.f0 x.f1 x.f2 x.f3) (acc ++ (List.range' n (x.f3.toNat - n)).map fun k : Nat => x.f2 + (k : Int) * (stepM C x.f1 : Int)) := by
  refine down x.f3.toNat ?_ ?_
  · intro n h hn acc ha
    apply ev_succ
    simp only [impl_cells.l0]
    rw [range_nil h]
    exact ev_neg (by omega) (ev_now (by simp))
  · intro n h ih hn acc ha
    have hst := stepM_le hC h0 x.f1
    have hw := cell_wrap (C := stepM C x.f1) (x := x) hst.2 (by omega) (show n ≤ 6 by omega) hx.1 hx.2.1
    apply ev_succ
    simp only [impl_cells.l0]
    rw [wrap64_id (n := (n : Int) + 1) (by omega) (by omega), succ_cast, hw.1, hw.2, range_cons h, List.map_cons]
    exact ev_pos (by omega) (ev_pos (by omega) (ev_eq (ih (by omega) _ (by simp; omega)) (by simp)))
theorem impl_cells_ev (R : Int) (C : Nat) (s : ByteArray) (x : ISlot) (hC : C ≤ 6) (h0 : 0 < C) (hx : 0 ≤ x.f2 ∧ x.f2 < 36 ∧ 0 ≤ x.f3 ∧ x.f3.toNat ≤ 6) : Ev (fun k => impl_cells.f k R C s x.f0 x.f1 x.f2 x.f3) (cellsM C x) := by
  have key : Ev (fun k => impl_cells.j0 k (stepM C x.f1) x.f0 x.f1 x.f2 x.f3) (cellsM C x) := by
    apply ev_succ
    simp only [impl_cells.j0]
    simpa [cellsM] using impl_cells_l0_ev C x hC h0 hx 0 (by omega) [] (by simp)
  unfold impl_cells.f
  cases hd : x.f1 with
  | true =>
    rw [hd] at key
    exact ev_pos rfl (by simpa [stepM] using key)
  | false =>
    rw [hd] at key
    exact ev_neg (by simp) (by simpa [stepM] using key)

/-! ### ints -/

/-! ### slotsat -/
theorem rd_ints_get {l : List (List Int)} {i : Nat} (h : i < l.length) : rd_L5 l (i : Int) = l[i] := by
  unfold rd_L5
  simp [h]
/-- The places, from i on, of the slots that hold a cell. -/
def atGo (C : Nat) (cell : Int) : List ISlot → Nat → List Int
  | [], _ => []
  | x :: l, i => if cell ∈ cellsM C x then (i : Int) :: atGo C cell l (i + 1) else atGo C cell l (i + 1)
def slotsAtM (r c : Int) (s : ByteArray) (cell : Int) : List Int := atGo c.toNat cell (slotsM r c s) 0
theorem slotsM_elem {r c : Int} {s : ByteArray} {i : Nat} (h : i < (slotsM r c s).length) : ∃ R C : Nat, r = R ∧ c = C ∧ C ≤ 6 ∧ 0 < C ∧ 0 ≤ (slotsM r c s)[i].f2 ∧ (slotsM r c s)[i].f2 < 36 ∧ 0 ≤ (slotsM r c s)[i].f3 ∧ (slotsM r c s)[i].f3.toNat ≤ 6 := by
  obtain ⟨R, C, h1, h2, h3, h4, h5, h6, _, _, hk⟩ := slotsM_ok (List.getElem_mem h)
  have := okSlot_bounds h4 h6 hk
  exact ⟨R, C, h1, h2, h6, by omega, by omega, by omega, by omega, by omega⟩
theorem cellsOfM_elem {r c : Int} {s : ByteArray} {i : Nat} (h : i < (slotsM r c s).length) : cellsOfM r c s (slotsM r c s)[i] = cellsM c.toNat (slotsM r c s)[i] := by
  unfold cellsOfM
  rw [if_pos (List.getElem_mem h)]
theorem cellsM_length_elem {r c : Int} {s : ByteArray} {i : Nat} (h : i < (slotsM r c s).length) : (cellsM c.toNat (slotsM r c s)[i]).length ≤ 6 := by
  rw [← cellsOfM_elem h]
  exact cellsOfM_length _ _ _ _
theorem impl_layout_l0_ev (r c : Int) (s : ByteArray) : ∀ i : Nat, i ≤ (slotsM r c s).length → ∀ acc : List (List Int), acc.length ≤ i →
    Ev (fun k => impl_layout.l0 k acc (slotsM r c s) (slotsM r c s).length i r c s) (acc ++ ((slotsM r c s).drop i).map (cellsM c.toNat)) := by
  have hl := slotsM_length r c s
  refine down (slotsM r c s).length ?_ ?_
  · intro i h hi acc ha
    apply ev_succ
    simp only [impl_layout.l0]
    exact ev_neg (by omega) (ev_now (by rw [List.drop_eq_nil_of_le h]; simp))
  · intro i h ih hi acc ha
    obtain ⟨R, C, h1, h2, h3, h4, h5, h6, h7, h8⟩ := slotsM_elem h
    have e : c.toNat = C := by omega
    have hcells := impl_cells_ev r C s (slotsM r c s)[i] h3 h4 ⟨h5, h6, h7, h8⟩
    apply ev_succ
    simp only [impl_layout.l0]
    rw [rd_Slot_get h, wrap64_id (n := (i : Int) + 1) (by omega) (by omega), succ_cast, List.drop_eq_getElem_cons h, List.map_cons]
    refine ev_pos (by omega) (ev_pos (by omega) (ev_pos (by omega) (ev_bind (a := cellsM C (slotsM r c s)[i]) ?_ (ev_pos (by omega) ?_))))
    · rw [← h2] at hcells
      exact hcells
    · exact ev_eq (ih (by omega) _ (by simp; omega)) (by rw [e]; simp)
def layoutM (r c : Int) (s : ByteArray) : List (List Int) := (slotsM r c s).map (cellsM c.toNat)
theorem layoutM_length (r c : Int) (s : ByteArray) : (layoutM r c s).length = (slotsM r c s).length := by simp [layoutM]
theorem layoutM_get {r c : Int} {s : ByteArray} {i : Nat} (h : i < (slotsM r c s).length) : (layoutM r c s)[i]'(by rw [layoutM_length]; exact h) = cellsM c.toNat (slotsM r c s)[i] := by simp [layoutM]
theorem impl_layout_ev (r c : Int) (s : ByteArray) (hs : s.size ≤ 1048576) : Ev (fun k => impl_layout.f k r c s) (layoutM r c s) := by
  unfold impl_layout.f
  exact ev_bind (impl_SlotsOf_ev r c s hs) (ev_eq (impl_layout_l0_ev r c s 0 (by omega) [] (by simp)) (by simp [layoutM]))
/-! ### slotfacts -/
theorem runLen_white {s : ByteArray} {step : Nat} : ∀ {m i k : Nat}, k < runLen s step i m → bt s (i + k * step : Nat) = 46
  | 0, i, k, h => by simp [runLen] at h
  | m + 1, i, k, h => by
    unfold runLen at h
    split at h
    · rename_i hw
      cases k with
      | zero => simpa using hw
      | succ k =>
        have := runLen_white (s := s) (step := step) (m := m) (i := i + step) (k := k) (by omega)
        rw [show i + (k + 1) * step = i + step + k * step by rw [Nat.add_mul, Nat.one_mul]; omega]
        exact this
    · omega
theorem cellsM_mem {C : Nat} {x : ISlot} {c : Int} : c ∈ cellsM C x ↔ ∃ k : Nat, k < x.f3.toNat ∧ c = x.f2 + (k : Int) * (stepM C x.f1 : Int) := by
  unfold cellsM
  rw [List.mem_map]
  constructor
  · rintro ⟨k, hk, rfl⟩
    rw [List.mem_range'] at hk
    obtain ⟨j, hj, rfl⟩ := hk
    exact ⟨_, by omega, rfl⟩
  · rintro ⟨k, hk, rfl⟩
    exact ⟨k, by rw [List.mem_range']; exact ⟨k, by omega, by omega⟩, rfl⟩
/-- A slot's cell: its place, that it lies in the grid, that it is white. -/
theorem okSlot_cell {R C : Nat} {s : ByteArray} {x : ISlot} {c : Int} (h0 : 0 < C) (h : okSlot R C s x) (hc : c ∈ cellsM C x) :
    ∃ i k : Nat, x.f2 = i ∧ x.f3 = runM R C s i x.f1 ∧ i < R * C ∧ c = ((i + k * stepM C x.f1 : Nat) : Int) ∧ k < runM R C s i x.f1 ∧ atM C x.f1 i + k < mostM R C x.f1 ∧ i + k * stepM C x.f1 < R * C ∧ bt s c = 46 ∧ ¬ (0 < atM C x.f1 i ∧ bt s (i - stepM C x.f1 : Nat) = 46) := by
  obtain ⟨i, hi, h2, h3, h4⟩ := h
  obtain ⟨k, hk, rfl⟩ := cellsM_mem.1 hc
  have hk' : k < runM R C s i x.f1 := by omega
  have hk0 := hk'
  unfold runM at hk'
  split at hk'
  · rename_i hs
    have hle := runLen_le s (stepM C x.f1) (mostM R C x.f1 - atM C x.f1 i) i
    have hw := runLen_white hk'
    have hat : atM C x.f1 i + k < mostM R C x.f1 := by omega
    have hcast : x.f2 + (k : Int) * (stepM C x.f1 : Int) = ((i + k * stepM C x.f1 : Nat) : Int) := by
      rw [h2, Int.natCast_add, Int.natCast_mul]
    refine ⟨i, k, h2, h3, hi, hcast, hk0, hat, cell_lt h0 hi hat, ?_, hs.2⟩
    rw [hcast]
    exact hw
  · omega
theorem atGo_holders (C : Nat) (cell : Int) : ∀ (l : List ISlot) (i : Nat), (atGo C cell l i).length = (l.filter fun x => decide (cell ∈ cellsM C x)).length
  | [], _ => rfl
  | x :: l, i => by
    unfold atGo
    by_cases h : cell ∈ cellsM C x
    · simp [h, atGo_holders C cell l (i + 1)]
    · simp [h, atGo_holders C cell l (i + 1)]
theorem slotsAtM_white {r c : Int} {s : ByteArray} {cell : Int} (h : 0 < (slotsAtM r c s cell).length) : bt s cell = 46 := by
  unfold slotsAtM at h
  rw [atGo_holders] at h
  obtain ⟨x, hx⟩ := List.exists_mem_of_length_pos h
  rw [List.mem_filter, decide_eq_true_eq] at hx
  obtain ⟨R, C, rfl, rfl, _, _, h3, _, _, _, hk⟩ := slotsM_ok hx.1
  obtain ⟨_, _, _, _, _, _, _, _, _, hw, _⟩ := okSlot_cell (by omega) hk hx.2
  exact hw
/-! ### unchecked -/
theorem impl_at_eq (i n : Int) : impl_at.f i n = some (decide (0 ≤ i ∧ i < n)) := by
  unfold impl_at.f
  by_cases h : i ≥ 0
  · rw [if_pos h]
    simp [h]
  · rw [if_neg h]
    simp [h]

/-! ### alone -/
theorem layout_row {r c : Int} {s : ByteArray} {l : List Int} (h : l ∈ layoutM r c s) : l.length ≤ 6 ∧ ∀ x ∈ l, 0 ≤ x ∧ x < 36 ∧ x < s.size := by
  unfold layoutM at h
  obtain ⟨x, hx, rfl⟩ := List.mem_map.1 h
  obtain ⟨i, hi, rfl⟩ := List.getElem_of_mem hx
  refine ⟨cellsM_length_elem hi, fun y hy => ?_⟩
  obtain ⟨R, C, rfl, rfl, _, h2, h3, h4, h5, _, hk⟩ := slotsM_ok hx
  obtain ⟨i, k, _, _, _, e, _, _, h, _⟩ := okSlot_cell (by omega) hk hy
  have := bounds36 h2 h4
  omega
theorem in_layout {r c : Int} {s : ByteArray} {cell : Int} : cell ∈ (layoutM r c s).flatten ↔ 0 < (slotsAtM r c s cell).length := by
  unfold slotsAtM layoutM
  rw [atGo_holders, List.mem_flatten]
  constructor
  · rintro ⟨l, hl, hc⟩
    obtain ⟨x, hx, rfl⟩ := List.mem_map.1 hl
    exact List.length_pos_of_mem (List.mem_filter.2 ⟨hx, by simpa using hc⟩)
  · intro h
    obtain ⟨x, hx⟩ := List.exists_mem_of_length_pos h
    rw [List.mem_filter, decide_eq_true_eq] at hx
    exact ⟨_, List.mem_map.2 ⟨x, hx.1, rfl⟩, hx.2⟩

/-! ### fill -/
/-- May this sign stand in a fill over this cell of a grid? -/
def fillC (g f : Int) : Bool := (decide (g = 35) == decide (f = 35)) && (decide (f = 35) || decide (f = 63) || isL f)
def fillM (r c : Int) (s f : ByteArray) : Bool := gridM r c s && (decide (f.size = s.size) && (List.range' 0 (f.size - 0)).all fun j => fillC (bt s j) (bt f j))
theorem gridM_cell {r c : Int} {s : ByteArray} (h : gridM r c s = true) (i : Nat) (hi : i < s.size) : bt s i = 35 ∨ bt s i = 46 := by
  simp only [gridM, Bool.and_eq_true, List.all_eq_true] at h
  have := h.2 i (by rw [List.mem_range']; exact ⟨i, by omega, by omega⟩)
  simpa [isC] using this
theorem spec_IsFill_l0_ev (r c : Int) (s f : ByteArray) (hg : gridM r c s = true) (hf : f.size ≤ 140737488351232) (he : f.size = s.size) : ∀ i : Nat, i ≤ f.size → Ev (fun k => spec_IsFill.l0 k f i r c s) ((List.range' i (f.size - i)).all fun j => fillC (bt s j) (bt f j)) := by
  refine down f.size ?_ ?_
  · intro i h hi
    apply ev_succ
    simp only [spec_IsFill.l0]
    refine ev_neg (by omega) (ev_now ?_)
    rw [range_nil h]; rfl
  · intro i h ih hi
    have hc := gridM_cell hg i (by omega)
    apply ev_succ
    simp only [spec_IsFill.l0]
    rw [range_cons h, List.all_cons, wrap64_id (by omega) (by omega), succ_cast]
    refine ev_pos (by omega) (ev_pos (by omega) ?_)
    have ih' := ih (by omega)
    by_cases h1 : bt f i = 63
    · refine ev_pos h1 (ev_pos (by omega) ?_)
      rcases hc with hc | hc
      · exact ev_pos hc (ev_neg (by omega) (ev_now (by simp [fillC, hc, h1])))
      · exact ev_neg (by omega) (ev_pos hc (ev_eq ih' (by simp [fillC, hc, h1])))
    · refine ev_neg h1 ?_
      by_cases h2 : bt f i ≥ 97
      · refine ev_pos h2 (ev_pos (by omega) ?_)
        rcases hc with hc | hc
        · exact ev_pos hc (ev_neg (by omega) (ev_now (by simp [fillC, hc, show ¬ bt f i = 35 by omega])))
        · refine ev_neg (by omega) (ev_pos hc ?_)
          by_cases h3 : bt f i ≤ 122
          · exact ev_pos h3 (ev_eq ih' (by simp [fillC, isL, hc, show ¬ bt f i = 35 by omega, h1, h2, h3]))
          · exact ev_neg h3 (ev_now (by simp [fillC, isL, hc, show ¬ bt f i = 35 by omega, h1, h2, h3]))
      · refine ev_neg h2 (ev_pos (by omega) ?_)
        rcases hc with hc | hc
        · refine ev_pos hc ?_
          by_cases h3 : bt f i = 35
          · exact ev_pos h3 (ev_neg (by omega) (ev_eq ih' (by simp [fillC, hc, h3])))
          · exact ev_neg h3 (ev_now (by simp [fillC, hc, h3]))
        · refine ev_neg (by omega) (ev_pos hc (ev_now ?_))
          have : fillC (bt s i) (bt f i) = false := by
            unfold fillC isL
            rw [hc]
            by_cases h3 : bt f i = 35
            · simp [h3]
            · simp [h3, h1]; omega
          simp [this]
theorem impl_IsFill_l0_ev (r c : Int) (s f : ByteArray) (hg : gridM r c s = true) (hf : f.size ≤ 140737488351232) (he : f.size = s.size) : ∀ i : Nat, i ≤ f.size → Ev (fun k => impl_IsFill.l0 k f f.size i r c s) ((List.range' i (f.size - i)).all fun j => fillC (bt s j) (bt f j)) := by
  refine down f.size ?_ ?_
  · intro i h hi
    apply ev_succ
    simp only [impl_IsFill.l0]
    refine ev_neg (by omega) (ev_now ?_)
    rw [range_nil h]; rfl
  · intro i h ih hi
    have hc := gridM_cell hg i (by omega)
    apply ev_succ
    simp only [impl_IsFill.l0]
    rw [range_cons h, List.all_cons, wrap64_id (by omega) (by omega), succ_cast]
    refine ev_pos (by omega) (ev_pos (by omega) (ev_pos (by omega) (ev_pos (by omega) ?_)))
    have ih' := ih (by omega)
    rcases hc with hc | hc
    · refine ev_pos hc ?_
      by_cases h1 : bt f i = 35
      · exact ev_pos h1 (ev_eq ih' (by simp [fillC, hc, h1]))
      · exact ev_neg h1 (ev_now (by simp [fillC, hc, h1]))
    · refine ev_neg (by omega) ?_
      by_cases h1 : bt f i = 35
      · exact ev_pos h1 (ev_now (by simp [fillC, hc, h1]))
      · refine ev_neg h1 ?_
        by_cases h2 : bt f i = 63
        · exact ev_pos h2 (ev_eq ih' (by simp [fillC, hc, h2]))
        · refine ev_neg h2 (ev_let (impl_isLetter_eq _) ?_)
          cases hl : isL (bt f i)
          · exact ev_neg (by simp) (ev_now (by simp [fillC, hc, h1, h2, hl]))
          · exact ev_pos rfl (ev_eq ih' (by simp [fillC, hc, h1, h2, hl]))
theorem spec_IsFill_ev (r c : Int) (s f : ByteArray) (hs : s.size ≤ 140737488351232) (hf : f.size ≤ 140737488351232) : Ev (fun k => spec_IsFill.f k r c s f) (fillM r c s f) := by
  unfold spec_IsFill.f fillM
  refine ev_bind (spec_IsGrid_ev r c s hs) ?_
  cases hg : gridM r c s
  · refine ev_neg (by simp) (ev_succ ?_)
    simp only [spec_IsFill.j0]
    exact ev_pos (by simp) (ev_now rfl)
  · refine ev_pos rfl (ev_succ ?_)
    simp only [spec_IsFill.j0]
    by_cases he : f.size = s.size
    · exact ev_neg (by simp [he]) (ev_eq (spec_IsFill_l0_ev r c s f hg hf he 0 (by omega)) (by simp [he]))
    · exact ev_pos (by simp; omega) (ev_now (by simp [he]))
theorem impl_IsFill_ev (r c : Int) (s f : ByteArray) (hs : s.size ≤ 140737488351232) (hf : f.size ≤ 140737488351232) : Ev (fun k => impl_IsFill.f k r c s f) (fillM r c s f) := by
  unfold impl_IsFill.f fillM
  refine ev_bind (impl_IsGrid_ev r c s hs) ?_
  cases hg : gridM r c s
  · refine ev_neg (by simp) (ev_succ ?_)
    simp only [impl_IsFill.j0]
    exact ev_pos (by simp) (ev_now rfl)
  · refine ev_pos rfl (ev_succ ?_)
    simp only [impl_IsFill.j0]
    by_cases he : f.size = s.size
    · exact ev_neg (by simp [he]) (ev_eq (impl_IsFill_l0_ev r c s f hg hf he 0 (by omega)) (by simp [he]))
    · exact ev_pos (by simp; omega) (ev_now (by simp [he]))

/-! ### pattern -/
/-- The signs of a fill at some cells. -/
def patM (f : ByteArray) (l : List Int) : ByteArray := strOfNums (l.map fun x => bt f x)
theorem strOfNums_size (l : List Int) : (strOfNums l).size = l.length := by
  simp [strOfNums, ByteArray.size]
theorem strOfNums_snoc (l : List Int) (f : ByteArray) (j : Nat) (hj : j < f.size) : strOfNums l ++ f.extract j (j + 1) = strOfNums (l ++ [bt f j]) := by
  apply ByteArray.ext
  apply Array.ext'
  have h1 : (f.extract j (j + 1)).data.toList = [f[j]] := by
    rw [ByteArray.data_extract, Array.toList_extract, List.extract_eq_take_drop]
    have hl : j < f.data.toList.length := by rw [Array.length_toList]; exact hj
    rw [show j + 1 - j = 1 by omega, List.drop_eq_getElem_cons hl]
    simp [ByteArray.getElem_eq_getElem_data]
  rw [ByteArray.toList_data_append, h1]
  simp [strOfNums, bt, hj]
theorem slot_cells_in {r c : Int} {s : ByteArray} {x : ISlot} {cell : Int} (hx : x ∈ slotsM r c s) (hc : cell ∈ cellsM c.toNat x) : 0 ≤ cell ∧ cell < s.size := by
  obtain ⟨R, C, rfl, rfl, _, _, h3, _, h5, _, hk⟩ := slotsM_ok hx
  obtain ⟨i, k, _, _, _, e, _, _, h, _⟩ := okSlot_cell (by omega) hk hc
  omega
theorem impl_readCells_l0_ev (f : ByteArray) (l : List Int) (hl : l.length ≤ 1000) (hc : ∀ x ∈ l, 0 ≤ x ∧ x < f.size) : ∀ i : Nat, i ≤ l.length → ∀ acc : List Int, acc.length ≤ i → Ev (fun k => impl_readCells.l0 k f acc l l.length i) (strOfNums (acc ++ (l.drop i).map fun x => bt f x)) := by
  refine down l.length ?_ ?_
  · intro i h hi acc ha
    apply ev_succ
    simp only [impl_readCells.l0]
    exact ev_neg (by omega) (ev_now (by rw [List.drop_eq_nil_of_le h]; simp))
  · intro i h ih hi acc ha
    have hb := hc l[i] (List.getElem_mem h)
    apply ev_succ
    simp only [impl_readCells.l0]
    rw [rd_get h, wrap64_id (n := (i : Int) + 1) (by omega) (by omega), succ_cast, List.drop_eq_getElem_cons h, List.map_cons]
    exact ev_pos (by omega) (ev_pos (by omega) (ev_pos (by omega) (ev_pos hb.1 (ev_pos hb.2 (ev_pos (by omega) (ev_eq (ih (by omega) _ (by simp; omega)) (by simp)))))))
theorem impl_readCells_ev (f : ByteArray) (l : List Int) (hl : l.length ≤ 1000) (hc : ∀ x ∈ l, 0 ≤ x ∧ x < f.size) : Ev (fun k => impl_readCells.f k f l) (patM f l) := by
  unfold impl_readCells.f patM
  exact ev_eq (impl_readCells_l0_ev f l hl hc 0 (by omega) [] (by simp)) (by simp)
theorem fillM_size {r c : Int} {s f : ByteArray} (h : fillM r c s f = true) : gridM r c s = true ∧ f.size = s.size := by
  simp only [fillM, Bool.and_eq_true, decide_eq_true_eq] at h
  exact ⟨h.1, h.2.1⟩
def patternsM (r c : Int) (s f : ByteArray) : List ByteArray := if fillM r c s f then (layoutM r c s).map (patM f) else []
theorem patternsM_length (r c : Int) (s f : ByteArray) : (patternsM r c s f).length ≤ 72 := by
  have := slotsM_length r c s
  unfold patternsM
  split
  · rw [List.length_map, layoutM_length]
    omega
  · simp
/-- What SlotPattern answers. -/
def patternM (r c : Int) (s f : ByteArray) (slot : Int) : ByteArray := if 0 ≤ slot ∧ slot < (patternsM r c s f).length then (patternsM r c s f).getD slot.toNat ⟨#[]⟩ else ⟨#[]⟩
theorem impl_patterns_l0_ev (r c : Int) (s f : ByteArray) (hs : f.size = s.size) : ∀ i : Nat, i ≤ (slotsM r c s).length → ∀ acc : List ByteArray, acc.length ≤ i →
    Ev (fun k => impl_patterns.l0 k f acc (layoutM r c s) (layoutM r c s).length i) (acc ++ ((layoutM r c s).drop i).map (patM f)) := by
  have hl := slotsM_length r c s
  have hL := layoutM_length r c s
  refine down (slotsM r c s).length ?_ ?_
  · intro i h hi acc ha
    apply ev_succ
    simp only [impl_patterns.l0]
    exact ev_neg (by omega) (ev_now (by rw [List.drop_eq_nil_of_le (by omega)]; simp))
  · intro i h ih hi acc ha
    have h6 := cellsM_length_elem h
    have hi' : i < (layoutM r c s).length := by omega
    have hr := impl_readCells_ev f (cellsM c.toNat (slotsM r c s)[i]) (by omega) (fun x hx => by have := slot_cells_in (List.getElem_mem h) hx; omega)
    apply ev_succ
    simp only [impl_patterns.l0]
    rw [rd_ints_get hi', layoutM_get h, wrap64_id (n := (i : Int) + 1) (by omega) (by omega), succ_cast, List.drop_eq_getElem_cons hi', List.map_cons, layoutM_get h]
    exact ev_pos (by omega) (ev_pos (by omega) (ev_pos (by omega) (ev_bind hr (ev_pos (by omega) (ev_eq (ih (by omega) _ (by simp; omega)) (by simp))))))
theorem impl_patterns_ev (r c : Int) (s f : ByteArray) (hs : s.size ≤ 1048576) (hf : f.size ≤ 1048576) : Ev (fun k => impl_patterns.f k r c s f) (patternsM r c s f) := by
  unfold impl_patterns.f patternsM
  refine ev_bind (impl_IsFill_ev r c s f (by omega) (by omega)) ?_
  by_cases h : fillM r c s f = true
  · rw [if_pos h]
    exact ev_pos h (ev_bind (impl_layout_ev r c s hs) (ev_eq (impl_patterns_l0_ev r c s f (fillM_size h).2 0 (by omega) [] (by simp)) (by simp)))
  · rw [if_neg h]
    exact ev_neg h (ev_now rfl)
theorem impl_SlotPattern_ev (r c : Int) (s f : ByteArray) (slot : Int) (hs : s.size ≤ 1048576) (hf : f.size ≤ 1048576) : Ev (fun k => impl_SlotPattern.f k r c s f slot) (patternM r c s f slot) := by
  unfold impl_SlotPattern.f patternM
  refine ev_bind (impl_patterns_ev r c s f hs hf) (ev_let (impl_at_eq _ _) ?_)
  by_cases h : 0 ≤ slot ∧ slot < (patternsM r c s f).length
  · rw [if_pos h]
    exact ev_pos (by simpa using h) (ev_pos h.1 (ev_pos h.2 (ev_now rfl)))
  · rw [if_neg h]
    exact ev_neg (by simpa using h) (ev_now rfl)
theorem spec_SlotPattern_l0_ev (f : ByteArray) (l : List Int) (hf : f.size ≤ 1048576) (hl : l.length ≤ 1000) (hc : ∀ x ∈ l, 0 ≤ x ∧ x < f.size) : ∀ i : Nat, i ≤ l.length → ∀ acc : List Int, acc.length ≤ i → Ev (fun k => spec_SlotPattern.l0 k f (strOfNums acc) l i) (strOfNums (acc ++ (l.drop i).map fun x => bt f x)) := by
  refine down l.length ?_ ?_
  · intro i h hi acc ha
    apply ev_succ
    simp only [spec_SlotPattern.l0]
    exact ev_neg (by omega) (ev_now (by rw [List.drop_eq_nil_of_le h]; simp))
  · intro i h ih hi acc ha
    have hb := hc l[i] (List.getElem_mem h)
    obtain ⟨j, hj⟩ := Int.eq_ofNat_of_zero_le hb.1
    have hjf : j < f.size := by omega
    have hsn := strOfNums_snoc acc f j hjf
    apply ev_succ
    simp only [spec_SlotPattern.l0]
    rw [rd_get h, wrap64_id (n := (i : Int) + 1) (by omega) (by omega), succ_cast, List.drop_eq_getElem_cons h, List.map_cons, hj, wrap64_id (n := (j : Int) + 1) (by omega) (by omega), show ((j : Int) + 1).toNat = j + 1 by omega, show (j : Int).toNat = j by omega, hsn]
    refine ev_pos (by omega) (ev_pos (by omega) (ev_pos (by omega) (ev_pos (by omega) (ev_pos (by omega) (ev_pos ?_ (ev_eq (ih (by omega) _ (by simp; omega)) (by simp)))))))
    rw [strOfNums_size]
    simp [ByteArray.size_extract]
    omega
theorem spec_SlotPattern_ev (r c : Int) (s f : ByteArray) (slot : Int) (hs : s.size ≤ 1048576) (hf : f.size ≤ 1048576) : Ev (fun k => spec_SlotPattern.f k r c s f slot) (patternM r c s f slot) := by
  have hl := slotsM_length r c s
  have hL := layoutM_length r c s
  have hno : Ev (fun k => spec_SlotPattern.j0 k f slot (slotsM r c s) true r c s) ⟨#[]⟩ := by
    apply ev_succ
    simp only [spec_SlotPattern.j0]
    exact ev_pos (by simp) (ev_now rfl)
  unfold spec_SlotPattern.f patternM
  refine ev_bind (spec_SlotsOf_ev r c s hs) (ev_bind (spec_IsFill_ev r c s f (by omega) (by omega)) ?_)
  by_cases h : fillM r c s f = true
  · refine ev_pos h (ev_let (spec_l1In_eq _ _ _) ?_)
    have e : patternsM r c s f = (layoutM r c s).map (patM f) := if_pos h
    have el : (patternsM r c s f).length = (slotsM r c s).length := by rw [e, List.length_map, hL]
    rw [wrap64_id (by omega) (by omega)]
    by_cases hb : 0 ≤ slot ∧ slot < (slotsM r c s).length
    · obtain ⟨j, rfl⟩ := Int.eq_ofNat_of_zero_le hb.1
      have hj : j < (slotsM r c s).length := by omega
      have h6 := cellsM_length_elem hj
      rw [if_pos (by rw [el]; exact hb)]
      apply ev_succ
      simp only [spec_SlotPattern.j0]
      rw [rd_Slot_get hj]
      refine ev_neg (by simp; omega) (ev_pos (by omega) (ev_pos (by omega) (ev_bind (spec_CellsOf_ev r c s _ hs) ?_)))
      rw [cellsOfM_elem hj]
      refine ev_eq (spec_SlotPattern_l0_ev f _ hf (by omega) (fun x hx => by have := slot_cells_in (List.getElem_mem hj) hx; have := (fillM_size h).2; omega) 0 (by omega) [] (by simp)) ?_
      rw [e]
      simp only [List.drop_zero, List.nil_append, Int.toNat_natCast]
      rw [List.getD_eq_getElem?_getD, List.getElem?_map, List.getElem?_eq_getElem (by omega), layoutM_get hj]
      rfl
    · rw [if_neg (by rw [el]; exact hb)]
      rw [show (!decide (0 ≤ slot ∧ slot ≤ ((slotsM r c s).length : Int) - 1)) = true by simp; omega]
      exact hno
  · have e : patternsM r c s f = [] := if_neg h
    refine ev_neg h ?_
    rw [e]
    exact ev_eq hno (by simp)

/-! ### fits -/
def isQ (c : Int) : Bool := decide (c = 63) || isL c
/-- A pattern: one to eight small letters and question marks. -/
def patOk (p : ByteArray) : Bool := decide (1 ≤ p.size ∧ p.size ≤ 8) && (List.range' 0 (p.size - 0)).all fun j => isQ (bt p j)
/-- A word fits a pattern. -/
def fitsM (p w : ByteArray) : Bool := patOk p && (wordM w && (decide (p.size = w.size) && (List.range' 0 (p.size - 0)).all fun j => decide (bt p j = 63 ∨ bt p j = bt w j)))
theorem spec_IsPattern_l0_ev (s : ByteArray) (hs : s.size ≤ 140737488351232) : ∀ i : Nat, i ≤ s.size → Ev (fun k => spec_IsPattern.l0 k s i) ((List.range' i (s.size - i)).all fun j => isQ (bt s j)) := by
  refine down s.size ?_ ?_
  · intro i h hi
    apply ev_succ
    simp only [spec_IsPattern.l0]
    refine ev_neg (by omega) (ev_now ?_)
    rw [range_nil h]; rfl
  · intro i h ih hi
    apply ev_succ
    simp only [spec_IsPattern.l0]
    rw [range_cons h, List.all_cons, wrap64_id (by omega) (by omega), succ_cast]
    refine ev_pos (by omega) (ev_pos (by omega) ?_)
    by_cases h0 : bt s i = 63
    · exact ev_pos h0 (ev_eq (ih (by omega)) (by simp [isQ, h0]))
    · refine ev_neg h0 ?_
      by_cases h1 : bt s i < 97
      · exact ev_pos h1 (ev_now (by simp [isQ, isL, h0]; omega))
      · refine ev_neg h1 ?_
        by_cases h2 : bt s i > 122
        · exact ev_pos h2 (ev_now (by simp [isQ, isL, h0]; omega))
        · refine ev_neg h2 (ev_eq (ih (by omega)) ?_)
          rw [show isQ (bt s i) = true by simp [isQ, isL]; omega, Bool.true_and]
theorem spec_IsPattern_ev (s : ByteArray) (hs : s.size ≤ 140737488351232) : Ev (fun k => spec_IsPattern.f k s) (patOk s) := by
  unfold spec_IsPattern.f patOk
  refine ev_let (spec_l1In_eq _ _ _) ?_
  by_cases h : 1 ≤ s.size ∧ s.size ≤ 8
  · rw [decide_eq_true h, Bool.true_and]
    exact ev_pos (by simp; omega) (spec_IsPattern_l0_ev s hs 0 (by omega))
  · rw [decide_eq_false h, Bool.false_and]
    exact ev_neg (by simp; omega) (ev_now rfl)
theorem impl_IsPattern_l0_ev (s : ByteArray) (hs : s.size ≤ 140737488351232) : ∀ i : Nat, i ≤ s.size → Ev (fun k => impl_IsPattern.l0 k s s.size i) ((List.range' i (s.size - i)).all fun j => isQ (bt s j)) := by
  refine down s.size ?_ ?_
  · intro i h hi
    apply ev_succ
    simp only [impl_IsPattern.l0]
    refine ev_neg (by omega) (ev_now ?_)
    rw [range_nil h]; rfl
  · intro i h ih hi
    apply ev_succ
    simp only [impl_IsPattern.l0]
    rw [range_cons h, List.all_cons, wrap64_id (by omega) (by omega), succ_cast]
    refine ev_pos (by omega) (ev_pos (by omega) (ev_pos (by omega) ?_))
    by_cases h0 : bt s i = 63
    · exact ev_pos h0 (ev_eq (ih (by omega)) (by simp [isQ, h0]))
    · refine ev_neg h0 (ev_let (impl_isLetter_eq _) ?_)
      by_cases h1 : isL (bt s i) = true
      · exact ev_pos h1 (ev_eq (ih (by omega)) (by simp [isQ, h1]))
      · exact ev_neg h1 (ev_now (by simp [isQ, h0, h1]))
theorem impl_IsPattern_ev (s : ByteArray) (hs : s.size ≤ 140737488351232) : Ev (fun k => impl_IsPattern.f k s) (patOk s) := by
  unfold impl_IsPattern.f patOk
  refine ev_let (impl_InRange_eq _ _ _) ?_
  by_cases h : 1 ≤ s.size ∧ s.size ≤ 8
  · rw [decide_eq_true h, Bool.true_and]
    exact ev_pos (by simp; omega) (impl_IsPattern_l0_ev s hs 0 (by omega))
  · rw [decide_eq_false h, Bool.false_and]
    exact ev_neg (by simp; omega) (ev_now rfl)
theorem spec_FitsPattern_l0_ev (p w : ByteArray) (he : p.size = w.size) (hs : p.size ≤ 1000) : ∀ i : Nat, i ≤ p.size → Ev (fun k => spec_FitsPattern.l0 k p w i) ((List.range' i (p.size - i)).all fun j => decide (bt p j = 63 ∨ bt p j = bt w j)) := by
  refine down p.size ?_ ?_
  · intro i h hi
    apply ev_succ
    simp only [spec_FitsPattern.l0]
    refine ev_neg (by omega) (ev_now ?_)
    rw [range_nil h]; rfl
  · intro i h ih hi
    apply ev_succ
    simp only [spec_FitsPattern.l0]
    rw [range_cons h, List.all_cons, wrap64_id (by omega) (by omega), succ_cast]
    refine ev_pos (by omega) (ev_pos (by omega) ?_)
    by_cases h0 : bt p i = 63
    · exact ev_pos h0 (ev_eq (ih (by omega)) (by simp [h0]))
    · refine ev_neg h0 (ev_pos (by omega) ?_)
      by_cases h1 : bt p i = bt w i
      · exact ev_pos h1 (ev_eq (ih (by omega)) (by simp [h1]))
      · exact ev_neg h1 (ev_now (by simp [h0, h1]))
theorem spec_FitsPattern_ev (p w : ByteArray) (hp : p.size ≤ 140737488351232) (hw : w.size ≤ 140737488351232) : Ev (fun k => spec_FitsPattern.f k p w) (fitsM p w) := by
  have hno : Ev (fun k => spec_FitsPattern.j0 k p w true) false := by
    apply ev_succ
    simp only [spec_FitsPattern.j0]
    exact ev_pos (by simp) (ev_now rfl)
  unfold spec_FitsPattern.f fitsM
  refine ev_bind (spec_IsPattern_ev p hp) ?_
  by_cases h1 : patOk p = true
  · have h8 : p.size ≤ 8 := by
      unfold patOk at h1
      simp only [Bool.and_eq_true, decide_eq_true_eq] at h1
      exact h1.1.2
    refine ev_pos h1 (ev_bind (spec_IsWord_ev w hw) ?_)
    rw [h1, Bool.true_and]
    by_cases h2 : wordM w = true
    · refine ev_pos h2 ?_
      rw [h2, Bool.true_and]
      by_cases h3 : p.size = w.size
      · rw [decide_eq_true h3, Bool.true_and]
        apply ev_succ
        simp only [spec_FitsPattern.j0]
        exact ev_neg (by simp [h3]) (spec_FitsPattern_l0_ev p w h3 (by omega) 0 (by omega))
      · rw [decide_eq_false h3, Bool.false_and]
        rw [show ((p.size : Int) != (w.size : Int)) = true by simp; omega]
        exact hno
    · refine ev_neg h2 (ev_eq hno ?_)
      rw [Bool.not_eq_true] at h2
      rw [h2, Bool.false_and]
  · refine ev_neg h1 (ev_eq hno ?_)
    rw [Bool.not_eq_true] at h1
    rw [h1, Bool.false_and]
theorem impl_FitsPattern_l0_ev (p w : ByteArray) (he : p.size = w.size) (hs : p.size ≤ 1000) : ∀ i : Nat, i ≤ p.size → Ev (fun k => impl_FitsPattern.l0 k p w p.size i) ((List.range' i (p.size - i)).all fun j => decide (bt p j = 63 ∨ bt p j = bt w j)) := by
  refine down p.size ?_ ?_
  · intro i h hi
    apply ev_succ
    simp only [impl_FitsPattern.l0]
    refine ev_neg (by omega) (ev_now ?_)
    rw [range_nil h]; rfl
  · intro i h ih hi
    apply ev_succ
    simp only [impl_FitsPattern.l0]
    rw [range_cons h, List.all_cons, wrap64_id (by omega) (by omega), succ_cast]
    refine ev_pos (by omega) (ev_pos (by omega) (ev_pos (by omega) ?_))
    by_cases h0 : bt p i = 63
    · exact ev_pos h0 (ev_eq (ih (by omega)) (by simp [h0]))
    · refine ev_neg h0 (ev_pos (by omega) ?_)
      by_cases h1 : bt p i = bt w i
      · exact ev_pos h1 (ev_eq (ih (by omega)) (by simp [h1]))
      · exact ev_neg h1 (ev_now (by simp [h0, h1]))
theorem impl_FitsPattern_ev (p w : ByteArray) (hp : p.size ≤ 140737488351232) (hw : w.size ≤ 140737488351232) : Ev (fun k => impl_FitsPattern.f k p w) (fitsM p w) := by
  have hno : Ev (fun k => impl_FitsPattern.j0 k p w true) false := by
    apply ev_succ
    simp only [impl_FitsPattern.j0]
    exact ev_pos (by simp) (ev_now rfl)
  unfold impl_FitsPattern.f fitsM
  refine ev_bind (impl_IsPattern_ev p hp) ?_
  by_cases h1 : patOk p = true
  · have h8 : p.size ≤ 8 := by
      unfold patOk at h1
      simp only [Bool.and_eq_true, decide_eq_true_eq] at h1
      exact h1.1.2
    refine ev_pos h1 (ev_bind (impl_IsWord_ev w hw) ?_)
    rw [h1, Bool.true_and]
    by_cases h2 : wordM w = true
    · refine ev_pos h2 ?_
      rw [h2, Bool.true_and]
      by_cases h3 : p.size = w.size
      · rw [decide_eq_true h3, Bool.true_and]
        apply ev_succ
        simp only [impl_FitsPattern.j0]
        exact ev_neg (by simp [h3]) (impl_FitsPattern_l0_ev p w h3 (by omega) 0 (by omega))
      · rw [decide_eq_false h3, Bool.false_and]
        rw [show ((p.size : Int) != (w.size : Int)) = true by simp; omega]
        exact hno
    · refine ev_neg h2 (ev_eq hno ?_)
      rw [Bool.not_eq_true] at h2
      rw [h2, Bool.false_and]
  · refine ev_neg h1 (ev_eq hno ?_)
    rw [Bool.not_eq_true] at h1
    rw [h1, Bool.false_and]

/-! ### putword -/
theorem splice (f w : ByteArray) (a i : Nat) (ha : a < f.size) (hi : i < w.size) : (f.extract 0 a ++ w.extract i (i + 1)) ++ f.extract (a + 1) f.size = ⟨f.data.setIfInBounds a (w.data.toList.getD i 0)⟩ := by
  have hl : i < w.data.toList.length := by simpa using hi
  have hf : a < f.data.toList.length := by simpa using ha
  apply ByteArray.ext
  apply Array.ext'
  rw [ByteArray.data_append, ByteArray.data_append, Array.toList_append, Array.toList_append, ByteArray.data_extract, ByteArray.data_extract, ByteArray.data_extract, Array.toList_extract, Array.toList_extract, Array.toList_extract, Array.toList_setIfInBounds, List.set_eq_take_append_cons_drop, if_pos hf]
  simp only [List.extract]
  rw [show i + 1 - i = 1 by omega, List.drop_eq_getElem_cons hl, List.getD_eq_getElem?_getD, List.getElem?_eq_getElem hl]
  have : (List.drop (a + 1) f.data.toList).take (f.size - (a + 1)) = List.drop (a + 1) f.data.toList := by
    apply List.take_of_length_le
    simp
    try exact Nat.le_refl _
  rw [this]
  simp
/-- A word put into a slot. -/
def putM (r c : Int) (s f : ByteArray) (slot : Int) (w : ByteArray) : ByteArray × Bool := if fitsM (patternM r c s f slot) w = true then (⟨writeGo w ((layoutM r c s).getD slot.toNat []) 0 f.data⟩, true) else (f, false)
theorem fitsM_facts {r c : Int} {s f : ByteArray} {slot : Int} {w : ByteArray} (h : fitsM (patternM r c s f slot) w = true) : ∃ j : Nat, slot = j ∧ ∃ hj : j < (slotsM r c s).length, fillM r c s f = true ∧ patternM r c s f slot = patM f (cellsM c.toNat (slotsM r c s)[j]) ∧ (cellsM c.toNat (slotsM r c s)[j]).length = w.size ∧ w.size ≤ 8 := by
  unfold fitsM at h
  simp only [Bool.and_eq_true, decide_eq_true_eq] at h
  obtain ⟨hp, hw, he, _⟩ := h
  unfold patOk at hp
  simp only [Bool.and_eq_true, decide_eq_true_eq] at hp
  have hsz := hp.1
  have hne : patternM r c s f slot ≠ ⟨#[]⟩ := by
    intro e
    rw [e] at hsz
    simp [ByteArray.size] at hsz
  by_cases hb : 0 ≤ slot ∧ slot < (patternsM r c s f).length
  · obtain ⟨j, hj⟩ := Int.eq_ofNat_of_zero_le hb.1
    have hfill : fillM r c s f = true := by
      by_cases hf : fillM r c s f = true
      · exact hf
      · have : patternsM r c s f = [] := if_neg hf
        rw [this] at hb
        simp at hb
        omega
    have e : patternsM r c s f = (layoutM r c s).map (patM f) := if_pos hfill
    have hlen : j < (slotsM r c s).length := by
      have := hb.2
      rw [e, List.length_map, layoutM_length] at this
      omega
    have hpm : patternM r c s f slot = patM f (cellsM c.toNat (slotsM r c s)[j]) := by
      unfold patternM
      rw [if_pos hb, e, hj]
      have h1 : j < (layoutM r c s).length := by rw [layoutM_length]; exact hlen
      simp only [Int.toNat_natCast]
      rw [List.getD_eq_getElem?_getD, List.getElem?_map, List.getElem?_eq_getElem h1, layoutM_get hlen]
      rfl
    refine ⟨j, hj, hlen, hfill, hpm, ?_, ?_⟩
    · rw [← he, hpm]
      unfold patM
      rw [strOfNums_size, List.length_map]
    · omega
  · exact absurd (by unfold patternM; rw [if_neg hb]) hne
theorem layout_in {r c : Int} {s : ByteArray} {j : Nat} (hj : j < (slotsM r c s).length) : ∀ x ∈ cellsM c.toNat (slotsM r c s)[j], 0 ≤ x ∧ x < s.size := fun _ hx => slot_cells_in (List.getElem_mem hj) hx
theorem layout_getD {r c : Int} {s : ByteArray} {j : Nat} (hj : j < (slotsM r c s).length) : (layoutM r c s).getD j [] = cellsM c.toNat (slotsM r c s)[j] := by
  have h1 : j < (layoutM r c s).length := by rw [layoutM_length]; exact hj
  rw [List.getD_eq_getElem?_getD, List.getElem?_eq_getElem h1, layoutM_get hj]
  rfl
theorem patternsM_size (r c : Int) (s f : ByteArray) : ∀ p ∈ patternsM r c s f, p.size ≤ 1000 := by
  intro p hm
  unfold patternsM at hm
  split at hm
  · obtain ⟨l, hl, rfl⟩ := List.mem_map.1 hm
    obtain ⟨x, hx, rfl⟩ := List.mem_map.1 hl
    obtain ⟨i, hi, rfl⟩ := List.getElem_of_mem hx
    have h6 := cellsM_length_elem hi
    unfold patM
    rw [strOfNums_size, List.length_map]
    omega
  · cases hm
theorem patternM_size (r c : Int) (s f : ByteArray) (slot : Int) (_ : s.size ≤ 1048576) : (patternM r c s f slot).size ≤ 1000 := by
  unfold patternM
  split
  · rename_i hb
    have hj : slot.toNat < (patternsM r c s f).length := by omega
    rw [List.getD_eq_getElem?_getD, List.getElem?_eq_getElem hj]
    exact patternsM_size r c s f _ (List.getElem_mem hj)
  · simp [ByteArray.size]
theorem impl_PutWord_ev (r c : Int) (s f : ByteArray) (slot : Int) (w : ByteArray) (hs : s.size ≤ 1048576) (hf : f.size ≤ 1048576) (hw : w.size ≤ 1048576) : Ev (fun k => impl_PutWord.f k r c s f slot w) (putM r c s f slot w) := by
  unfold impl_PutWord.f putM
  have hps := patternM_size r c s f slot hs
  refine ev_bind (impl_SlotPattern_ev r c s f slot hs hf) (ev_bind (impl_FitsPattern_ev _ w (by omega) (by omega)) ?_)
  by_cases h : fitsM (patternM r c s f slot) w = true
  · obtain ⟨j, rfl, hj, hfill, _, hl, h8⟩ := fitsM_facts h
    have hL := layoutM_length r c s
    have hsz := (fillM_size hfill).2
    have hin := layout_in hj
    refine ev_pos h (ev_bind (impl_layout_ev r c s hs) (ev_pos (by omega) (ev_pos (by omega) ?_)))
    rw [rd_ints_get (show j < (layoutM r c s).length by omega), layoutM_get hj]
    unfold impl_writeCells.f
    rw [if_pos ⟨fun x hx => by have := hin x hx; omega, by omega, hf, by omega⟩, if_pos h]
    refine ev_now ?_
    rw [Int.toNat_natCast, layout_getD hj]
  · refine ev_neg h (ev_now ?_)
    rw [if_neg h]
theorem spec_PutWord_l0_ev (w : ByteArray) (l : List Int) (n : Nat) (hn : n ≤ 1048576) (hc : ∀ x ∈ l, 0 ≤ x ∧ x < n) (hl : l.length = w.size) (h8 : w.size ≤ 8) : ∀ i : Nat, i ≤ l.length → ∀ f : ByteArray, f.size = n → Ev (fun k => spec_PutWord.l0 k f w l i) (⟨writeGo w (l.drop i) i f.data⟩, true) := by
  refine down l.length ?_ ?_
  · intro i h hi f hf
    apply ev_succ
    simp only [spec_PutWord.l0]
    exact ev_neg (by omega) (ev_now (by rw [List.drop_eq_nil_of_le h, writeGo_nil]))
  · intro i h ih hi f hf
    have hb := hc l[i] (List.getElem_mem h)
    obtain ⟨a, ha⟩ := Int.eq_ofNat_of_zero_le hb.1
    have haf : a < f.size := by omega
    have hsp := splice f w a i haf (by omega)
    have h1 : (f.extract 0 a).size + (w.extract i (i + 1)).size ≤ 9223372036854775807 := by
      rw [ByteArray.size_extract, ByteArray.size_extract]
      omega
    have h2 : ((f.extract 0 a) ++ (w.extract i (i + 1))).size + (f.extract (a + 1) f.size).size ≤ 9223372036854775807 := by
      rw [ByteArray.size_append, ByteArray.size_extract, ByteArray.size_extract, ByteArray.size_extract]
      omega
    apply ev_succ
    simp only [spec_PutWord.l0]
    rw [rd_get h, wrap64_id (n := (i : Int) + 1) (by omega) (by omega), succ_cast, ha, wrap64_id (n := (a : Int) + 1) (by omega) (by omega), succ_cast, Int.toNat_natCast, Int.toNat_natCast, Int.toNat_natCast, Int.toNat_natCast, hsp, List.drop_eq_getElem_cons h, writeGo_cons, ha, Int.toNat_natCast]
    refine ev_pos (by omega) (ev_pos (by omega) (ev_pos (by omega) (ev_pos (by omega) (ev_pos (by omega) (ev_pos (by omega) (ev_pos h1 (ev_pos (by omega) (ev_pos (by omega) (ev_pos h2 (ih (by omega) _ ?_))))))))))
    show (f.data.setIfInBounds a (w.data.toList.getD i 0)).size = n
    rw [Array.size_setIfInBounds]
    exact hf
theorem spec_PutWord_ev (r c : Int) (s f : ByteArray) (slot : Int) (w : ByteArray) (hs : s.size ≤ 1048576) (hf : f.size ≤ 1048576) (hw : w.size ≤ 1048576) : Ev (fun k => spec_PutWord.f k r c s f slot w) (putM r c s f slot w) := by
  unfold spec_PutWord.f putM
  have hps := patternM_size r c s f slot hs
  refine ev_bind (spec_SlotPattern_ev r c s f slot hs hf) (ev_bind (spec_FitsPattern_ev _ w (by omega) (by omega)) ?_)
  by_cases h : fitsM (patternM r c s f slot) w = true
  · obtain ⟨j, rfl, hj, hfill, _, hl, h8⟩ := fitsM_facts h
    have hsz := (fillM_size hfill).2
    have hin := layout_in hj
    refine ev_pos h (ev_bind (spec_SlotsOf_ev r c s hs) (ev_pos (by omega) (ev_pos (by omega) ?_)))
    rw [rd_Slot_get hj, if_pos h, Int.toNat_natCast, layout_getD hj]
    refine ev_bind (spec_CellsOf_ev r c s _ hs) ?_
    rw [cellsOfM_elem hj]
    exact spec_PutWord_l0_ev w _ f.size hf (fun x hx => by have := hin x hx; omega) hl h8 0 (by omega) f rfl
  · refine ev_neg h (ev_now ?_)
    rw [if_neg h]

/-! ### domains -/
/-- The words that fit a pattern. -/
def fittingM (l : List ByteArray) (p : ByteArray) : List ByteArray := l.filter fun w => fitsM p w
theorem spec_WordsFitting_l0_ev (l : List ByteArray) (p : ByteArray) (hl : l.length ≤ 1048576) (hp : p.size ≤ 140737488351232) (h : ∀ w ∈ l, w.size ≤ 140737488351232) : ∀ i : Nat, i ≤ l.length → ∀ acc : List ByteArray, acc.length ≤ i → Ev (fun k => spec_WordsFitting.l0 k l p acc i) (acc ++ fittingM (l.drop i) p) := by
  refine down l.length ?_ ?_
  · intro i hi _ acc ha
    apply ev_succ
    simp only [spec_WordsFitting.l0]
    refine ev_neg (by omega) (ev_now ?_)
    rw [List.drop_eq_nil_of_le hi]
    simp [fittingM]
  · intro i hi ih _ acc ha
    apply ev_succ
    simp only [spec_WordsFitting.l0]
    rw [rdOf_get hi, wrap64_id (n := (i : Int) + 1) (by omega) (by omega), succ_cast, List.drop_eq_getElem_cons hi]
    refine ev_pos (by omega) (ev_pos (by omega) (ev_bind (spec_FitsPattern_ev p l[i] hp (h _ (List.getElem_mem hi))) ?_))
    unfold fittingM
    rw [List.filter_cons]
    by_cases hf : fitsM p l[i] = true
    · rw [if_pos hf]
      exact ev_pos hf (ev_pos (by omega) (ev_eq (ih (by omega) _ (by simp; omega)) (by simp [fittingM])))
    · rw [if_neg hf]
      exact ev_neg hf (ih (by omega) acc (by omega))
theorem spec_WordsFitting_ev (l : List ByteArray) (p : ByteArray) (hl : l.length ≤ 1048576) (hp : p.size ≤ 140737488351232) (h : ∀ w ∈ l, w.size ≤ 140737488351232) : Ev (fun k => spec_WordsFitting.f k l p) (fittingM l p) := by
  unfold spec_WordsFitting.f
  exact ev_eq (spec_WordsFitting_l0_ev l p hl hp h 0 (by omega) [] (by simp)) (by simp)

/-! ### fillfacts -/
/-! What a word put into a slot leaves in a fill. -/
theorem bt_set (d : Array UInt8) (a j : Nat) (u : UInt8) (ha : a < d.size) : bt ⟨d.setIfInBounds a u⟩ (j : Int) = if a = j then (u.toNat : Int) else bt ⟨d⟩ (j : Int) := by
  unfold bt
  simp only [Int.toNat_natCast]
  by_cases hj : j < d.size
  · rw [dif_pos (show j < (⟨d.setIfInBounds a u⟩ : ByteArray).size by show j < (d.setIfInBounds a u).size; rw [Array.size_setIfInBounds]; exact hj), dif_pos (show j < (⟨d⟩ : ByteArray).size from hj)]
    show (((d.setIfInBounds a u)[j]'(by rw [Array.size_setIfInBounds]; exact hj)).toNat : Int) = if a = j then (u.toNat : Int) else ((d[j]'hj).toNat : Int)
    rw [Array.getElem_setIfInBounds hj]
    split <;> rfl
  · rw [dif_neg (show ¬ j < (⟨d.setIfInBounds a u⟩ : ByteArray).size by show ¬ j < (d.setIfInBounds a u).size; rw [Array.size_setIfInBounds]; exact hj), dif_neg (show ¬ j < (⟨d⟩ : ByteArray).size from hj), if_neg (by omega)]
theorem bt_byte (w : ByteArray) (i : Nat) (h : i < w.size) : ((w.data.toList.getD i 0).toNat : Int) = bt w (i : Int) := by
  have hl : i < w.data.toList.length := by simpa using h
  rw [List.getD_eq_getElem?_getD, List.getElem?_eq_getElem hl]
  unfold bt
  rw [dif_pos (by simpa using h)]
  rfl
theorem writeGo_at (w : ByteArray) : ∀ (l : List Int) (i : Nat) (d : Array UInt8) (j : Nat), (∀ x ∈ l, 0 ≤ x ∧ x < (d.size : Int)) → i + l.length ≤ w.size → (bt ⟨writeGo w l i d⟩ (j : Int) = bt ⟨d⟩ (j : Int) ∧ (j : Int) ∉ l) ∨ ∃ q : Nat, ∃ h : q < l.length, l[q] = (j : Int) ∧ bt ⟨writeGo w l i d⟩ (j : Int) = bt w ((i + q : Nat) : Int)
  | [], i, d, j, _, _ => .inl ⟨rfl, by simp⟩
  | c :: l, i, d, j, hc, hw => by
    rw [List.length_cons] at hw
    obtain ⟨h0, h1⟩ := hc c (by simp)
    rw [writeGo_cons]
    rcases writeGo_at w l (i + 1) (d.setIfInBounds c.toNat (w.data.toList.getD i 0)) j (fun x hx => by rw [Array.size_setIfInBounds]; exact hc x (by simp [hx])) (by omega) with ⟨e, hn⟩ | ⟨q, hq, e1, e2⟩
    · rw [bt_set d c.toNat j _ (by omega)] at e
      by_cases hcj : c.toNat = j
      · rw [if_pos hcj, bt_byte w i (by omega)] at e
        exact .inr ⟨0, by simp, by show c = (j : Int); omega, e⟩
      · rw [if_neg hcj] at e
        refine .inl ⟨e, ?_⟩
        rw [List.mem_cons]
        rintro (h | h)
        · omega
        · exact hn h
    · refine .inr ⟨q + 1, by simp; exact hq, ?_, ?_⟩
      · rw [List.getElem_cons_succ]; exact e1
      · rw [e2, show i + 1 + q = i + (q + 1) by omega]
theorem bt_nums (l : List Int) (q : Nat) (h : q < l.length) (hb : 0 ≤ l[q] ∧ l[q] ≤ 255) : bt (strOfNums l) (q : Int) = l[q] := by
  have hs : q < (strOfNums l).size := by rw [strOfNums_size]; exact h
  rw [← bt_byte _ q hs]
  unfold strOfNums
  simp only [List.getD_eq_getElem?_getD, List.getElem?_map, List.getElem?_eq_getElem h, Option.map_some, Option.getD_some]
  rw [UInt8.toNat_ofNat']
  omega
theorem patM_size (f : ByteArray) (l : List Int) : (patM f l).size = l.length := by unfold patM; rw [strOfNums_size, List.length_map]
theorem patM_at (f : ByteArray) (l : List Int) (q : Nat) (h : q < l.length) : bt (patM f l) (q : Int) = bt f l[q] := by
  unfold patM
  rw [bt_nums _ q (by rw [List.length_map]; exact h) (by rw [List.getElem_map]; exact bt_range _ _), List.getElem_map]
theorem all_range {n : Nat} {p : Nat → Bool} : ((List.range' 0 (n - 0)).all p = true) ↔ ∀ j, j < n → p j = true := by
  rw [List.all_eq_true]
  constructor
  · intro h j hj
    exact h j (by rw [List.mem_range']; exact ⟨j, by omega, by omega⟩)
  · intro h j hj
    rw [List.mem_range'] at hj
    obtain ⟨q, hq, rfl⟩ := hj
    exact h _ (by omega)
theorem fillM_iff {r c : Int} {s f : ByteArray} : fillM r c s f = true ↔ gridM r c s = true ∧ f.size = s.size ∧ ∀ j, j < f.size → fillC (bt s (j : Int)) (bt f (j : Int)) = true := by
  unfold fillM
  rw [Bool.and_eq_true, Bool.and_eq_true, decide_eq_true_eq, all_range]
theorem wordM_iff {w : ByteArray} : wordM w = true ↔ (1 ≤ w.size ∧ w.size ≤ 8) ∧ ∀ j, j < w.size → isL (bt w (j : Int)) = true := by
  unfold wordM
  rw [Bool.and_eq_true, decide_eq_true_eq, all_range]
theorem patOk_iff {p : ByteArray} : patOk p = true ↔ (1 ≤ p.size ∧ p.size ≤ 8) ∧ ∀ j, j < p.size → isQ (bt p (j : Int)) = true := by
  unfold patOk
  rw [Bool.and_eq_true, decide_eq_true_eq, all_range]
theorem fitsM_iff {p w : ByteArray} : fitsM p w = true ↔ patOk p = true ∧ wordM w = true ∧ p.size = w.size ∧ ∀ j : Nat, j < p.size → bt p (j : Int) = 63 ∨ bt p (j : Int) = bt w (j : Int) := by
  unfold fitsM
  rw [Bool.and_eq_true, Bool.and_eq_true, Bool.and_eq_true, decide_eq_true_eq, all_range]
  simp only [decide_eq_true_eq]
/-- Does this word fit the slot k? -/
def fitK (L : List (List Int)) (k : Nat) (f w : ByteArray) : Bool := fitsM (patM f (L.getD k [])) w
def wrK (L : List (List Int)) (k : Nat) (f w : ByteArray) : ByteArray := ⟨writeGo w (L.getD k []) 0 f.data⟩
theorem fitK_iff {L : List (List Int)} {k : Nat} {f w : ByteArray} : fitK L k f w = true ↔ patOk (patM f (L.getD k [])) = true ∧ wordM w = true ∧ (L.getD k []).length = w.size ∧ ∀ j (h : j < (L.getD k []).length), bt f (L.getD k [])[j] = 63 ∨ bt f (L.getD k [])[j] = bt w (j : Int) := by
  unfold fitK
  rw [fitsM_iff, patM_size]
  constructor
  · rintro ⟨h1, h2, h3, h4⟩
    exact ⟨h1, h2, h3, fun j h => by rw [← patM_at f _ j h]; exact h4 j h⟩
  · rintro ⟨h1, h2, h3, h4⟩
    exact ⟨h1, h2, h3, fun j h => by rw [patM_at f _ j h]; exact h4 j h⟩
theorem row_mem {L : List (List Int)} {k : Nat} (h : k < L.length) : L.getD k [] ∈ L := by
  rw [List.getD_eq_getElem?_getD, List.getElem?_eq_getElem h, Option.getD_some]
  exact List.getElem_mem h
theorem row_white {r c : Int} {s : ByteArray} {k : Nat} (h : k < (layoutM r c s).length) {x : Int} (hx : x ∈ (layoutM r c s).getD k []) : bt s x = 46 := slotsAtM_white (in_layout.1 (List.mem_flatten.2 ⟨_, row_mem h, hx⟩))
theorem wrK_at {r c : Int} {s f w : ByteArray} {k : Nat} (hk : k < (layoutM r c s).length) (hv : fillM r c s f = true) (hf : fitK (layoutM r c s) k f w = true) (j : Nat) : (bt (wrK (layoutM r c s) k f w) (j : Int) = bt f (j : Int) ∧ (j : Int) ∉ (layoutM r c s).getD k []) ∨ ∃ q : Nat, ∃ h : q < ((layoutM r c s).getD k []).length, ((layoutM r c s).getD k [])[q] = (j : Int) ∧ bt (wrK (layoutM r c s) k f w) (j : Int) = bt w (q : Int) := by
  obtain ⟨_, _, hsz, _⟩ := fitK_iff.1 hf
  obtain ⟨_, hin⟩ := layout_row (row_mem hk)
  have he := (fillM_iff.1 hv).2.1
  have h := writeGo_at w ((layoutM r c s).getD k []) 0 f.data j (fun x hx => by
    have h1 := hin x hx
    have h2 : f.data.size = f.size := rfl
    omega) (by omega)
  simp only [Nat.zero_add] at h
  exact h
theorem wrK_size (L : List (List Int)) (k : Nat) (f w : ByteArray) : (wrK L k f w).size = f.size := by
  show (writeGo w (L.getD k []) 0 f.data).size = f.data.size
  have : ∀ (l : List Int) (i : Nat) (d : Array UInt8), (writeGo w l i d).size = d.size := by
    intro l
    induction l with
    | nil => intro i d; rfl
    | cons x l ih => intro i d; rw [writeGo_cons, ih, Array.size_setIfInBounds]
  exact this _ _ _
theorem wrK_fill {r c : Int} {s f w : ByteArray} {k : Nat} (hk : k < (layoutM r c s).length) (hv : fillM r c s f = true) (hf : fitK (layoutM r c s) k f w = true) : fillM r c s (wrK (layoutM r c s) k f w) = true := by
  obtain ⟨hg, hs, ha⟩ := fillM_iff.1 hv
  refine fillM_iff.2 ⟨hg, by rw [wrK_size]; exact hs, fun j hj => ?_⟩
  rw [wrK_size] at hj
  rcases wrK_at hk hv hf j with ⟨e, _⟩ | ⟨q, hq, e1, e2⟩
  · rw [e]; exact ha j hj
  · obtain ⟨_, hw, hsz, _⟩ := fitK_iff.1 hf
    have hl := (wordM_iff.1 hw).2 q (by omega)
    have hb := row_white hk (List.getElem_mem hq)
    rw [e1] at hb
    rw [e2, hb]
    unfold fillC
    unfold isL at hl
    rw [decide_eq_true_eq] at hl
    have h1 : ¬ bt w (q : Int) = 35 := by omega
    simp [isL, h1, hl]
theorem cellsM_nodup {C : Nat} (h : 1 ≤ C) (x : ISlot) : (cellsM C x).Nodup := by
  unfold cellsM
  have hs : 1 ≤ stepM C x.f1 := by unfold stepM; split <;> omega
  refine List.pairwise_map.2 ((List.pairwise_lt_range' (s := 0) (n := x.f3.toNat - 0)).imp ?_)
  intro a b hab e
  have h1 : (a : Int) * (stepM C x.f1 : Int) < (b : Int) * (stepM C x.f1 : Int) := Int.mul_lt_mul_of_pos_right (by omega) (by omega)
  omega
theorem row_nodup {r c : Int} {s : ByteArray} {k : Nat} (h : k < (layoutM r c s).length) : ((layoutM r c s).getD k []).Nodup := by
  have h' : k < (slotsM r c s).length := by rw [← layoutM_length]; exact h
  obtain ⟨R, C, _, rfl, _, _, h3, _⟩ := slotsM_ok (List.getElem_mem h')
  rw [layout_getD h']
  exact cellsM_nodup (by omega) _

/-! ### emptyfill -/
theorem gridM_cell2 {r c : Int} {s : ByteArray} (h : gridM r c s = true) (i : Nat) (hi : i < s.size) : bt s i = 35 ∨ bt s i = 46 := by
  simp only [gridM, Bool.and_eq_true, List.all_eq_true] at h
  have := h.2 i (by rw [List.mem_range']; exact ⟨i, by omega, by omega⟩)
  simpa [isC] using this
def subB (b : UInt8) : UInt8 := if b = 46 then 63 else b
theorem replaceK_map : ∀ s : List UInt8, Lib.replaceK [46] [63] (Lib.count s [46]) s = s.map subB
  | [] => rfl
  | b :: l => by
    have ih := replaceK_map l
    by_cases hb : b = 46
    · subst hb
      have hi : Lib.index (46 :: l) [46] = ((0 : Nat) : Int) := by
        unfold Lib.index
        simp
      rw [Lib.count_cons_eq, Nat.add_comm, Lib.replaceK_hit _ _ _ _ 0 hi]
      simp [ih, subB]
    · rw [Lib.count_cons_ne b 46 l hb]
      have hs : subB b = b := if_neg hb
      rcases Nat.eq_zero_or_pos (Lib.count l [46]) with h0 | h0
      · rw [h0] at ih ⊢
        have e1 : Lib.replaceK [46] [63] 0 l = l := rfl
        have e2 : Lib.replaceK [46] [63] 0 (b :: l) = b :: l := rfl
        rw [e1] at ih
        rw [e2, List.map_cons, hs, ← ih]
      · obtain ⟨i, hi⟩ := Lib.index_of_count h0
        obtain ⟨n, hn⟩ : ∃ n, Lib.count l [46] = n + 1 := ⟨Lib.count l [46] - 1, by omega⟩
        have hi2 : Lib.index (b :: l) [46] = ((i + 1 : Nat) : Int) := by
          have hp : List.isPrefixOf [46] (b :: l) = false := by
            rw [List.isPrefixOf_cons_cons]
            rw [show ((46 : UInt8) == b) = false from beq_eq_false_iff_ne.mpr (fun e => hb e.symm)]
            rfl
          have hne : (Lib.index l [46] == -1) = false := by
            rw [hi]
            exact beq_eq_false_iff_ne.mpr (by omega)
          unfold Lib.index
          rw [hp, hne, hi]
          simp
        rw [hn] at ih ⊢
        rw [Lib.replaceK_hit _ _ _ _ i hi] at ih
        rw [Lib.replaceK_hit _ _ _ _ (i + 1) hi2, List.map_cons, hs, ← ih]
        simp
theorem replaceAll_map (s : List UInt8) : Lib.replaceAll s [46] [63] = s.map subB := by
  unfold Lib.replaceAll Lib.replace Lib.replaceNum
  rw [if_neg (by decide), if_pos (Or.inl (by decide))]
  exact replaceK_map s
def emptyM (r c : Int) (s : ByteArray) : ByteArray := if gridM r c s = true then ⟨(s.data.toList.map subB).toArray⟩ else ⟨#[]⟩
theorem bt_list {s : ByteArray} {i : Nat} (h : i < s.data.toList.length) : bt s (i : Int) = ((s.data.toList[i]).toNat : Int) := by
  have h' : i < s.size := by simpa using h
  unfold bt
  rw [dif_pos (by simpa using h')]
  rfl
theorem u8_of (b : UInt8) (n : Nat) (hn : n < 256) (h : (b.toNat : Int) = n) : b = UInt8.ofNat n := by
  apply UInt8.toNat_inj.1
  rw [UInt8.toNat_ofNat']
  omega
def fillTo (s : ByteArray) (i : Nat) : ByteArray := ⟨((s.data.toList.take i).map subB).toArray⟩
theorem fillTo_size (s : ByteArray) (i : Nat) : (fillTo s i).size ≤ s.size := by
  have : (fillTo s i).size = ((s.data.toList.take i).map subB).length := by
    show ((s.data.toList.take i).map subB).toArray.size = _
    rw [List.size_toArray]
  rw [this, List.length_map, List.length_take]
  have : s.data.toList.length = s.size := by simp
  omega
theorem fillTo_next (s : ByteArray) (i : Nat) (h : i < s.data.toList.length) (b : UInt8) (hb : subB (s.data.toList[i]) = b) : fillTo s i ++ ⟨#[b]⟩ = fillTo s (i + 1) := by
  apply ByteArray.ext
  apply Array.ext'
  rw [ByteArray.data_append, Array.toList_append]
  unfold fillTo
  rw [List.take_succ_eq_append_getElem h, List.map_append, List.map_cons, List.map_nil, hb]
theorem spec_EmptyFill_l0_ev (r c : Int) (s : ByteArray) (hg : gridM r c s = true) (hs : s.size ≤ 1048576) : ∀ i : Nat, i ≤ s.size → Ev (fun k => spec_EmptyFill.l0 k (fillTo s i) i r c s) (fillTo s s.size) := by
  refine down s.size ?_ ?_
  · intro i h hi
    have e : i = s.size := by omega
    subst e
    apply ev_succ
    simp only [spec_EmptyFill.l0]
    refine ev_neg (by omega) (ev_succ ?_)
    simp only [spec_EmptyFill.j1]
    exact ev_neg (by simp) (ev_now rfl)
  · intro i h ih hi
    have hl : i < s.data.toList.length := by simpa using h
    have hb := bt_list hl
    have hcell := gridM_cell2 hg i h
    have hsz := fillTo_size s i
    apply ev_succ
    simp only [spec_EmptyFill.l0]
    refine ev_pos (by omega) (ev_bind (spec_IsGrid_ev r c s (by omega)) ?_)
    rw [hg]
    apply ev_succ
    simp only [spec_EmptyFill.j1]
    rw [wrap64_id (n := (i : Int) + 1) (by omega) (by omega), succ_cast]
    refine ev_pos (by trivial) (ev_pos (by omega) (ev_pos (by omega) ?_))
    by_cases h1 : bt s (i : Int) = 35
    · have e : s.data.toList[i] = 35 := u8_of _ 35 (by decide) (by omega)
      rw [fillTo_next s i hl 35 (by rw [e]; rfl)]
      exact ev_pos h1 (ev_pos (by omega) (ih (by omega)))
    · have e : s.data.toList[i] = 46 := u8_of _ 46 (by decide) (by omega)
      rw [fillTo_next s i hl 63 (by rw [e]; rfl)]
      exact ev_neg h1 (ev_pos (by omega) (ih (by omega)))
theorem fillTo_all (s : ByteArray) : fillTo s s.size = ⟨(s.data.toList.map subB).toArray⟩ := by
  unfold fillTo
  rw [List.take_of_length_le (by simp)]
theorem spec_EmptyFill_ev (r c : Int) (s : ByteArray) (hs : s.size ≤ 1048576) : Ev (fun k => spec_EmptyFill.f k r c s) (emptyM r c s) := by
  unfold spec_EmptyFill.f emptyM
  by_cases hg : gridM r c s = true
  · rw [if_pos hg, ← fillTo_all]
    exact spec_EmptyFill_l0_ev r c s hg hs 0 (by omega)
  · rw [if_neg hg]
    rw [Bool.not_eq_true] at hg
    have hstop : Ev (fun k => spec_EmptyFill.j1 k (⟨#[]⟩ : ByteArray) 0 false r c s) ⟨#[]⟩ := by
      apply ev_succ
      simp only [spec_EmptyFill.j1]
      exact ev_neg (by simp) (ev_now rfl)
    apply ev_succ
    simp only [spec_EmptyFill.l0]
    by_cases h0 : (0 : Int) < (s.size : Int)
    · refine ev_pos h0 (ev_bind (spec_IsGrid_ev r c s (by omega)) ?_)
      rw [hg]
      exact hstop
    · exact ev_neg h0 hstop
theorem impl_EmptyFill_ev (r c : Int) (s : ByteArray) (hs : s.size ≤ 1048576) : Ev (fun k => impl_EmptyFill.f k r c s) (emptyM r c s) := by
  unfold impl_EmptyFill.f emptyM
  refine ev_bind (impl_IsGrid_ev r c s (by omega)) ?_
  by_cases hg : gridM r c s = true
  · have h36 : s.size ≤ 36 := by
      unfold gridM at hg
      simp only [Bool.and_eq_true, decide_eq_true_eq] at hg
      obtain ⟨⟨⟨hr, hc⟩, h3⟩, _⟩ := hg
      have : r * c ≤ 6 * 6 := Int.mul_le_mul hr.2 hc.2 (by omega) (by omega)
      omega
    have hc := Lib.count_le s.data.toList [46]
    have hl : s.data.toList.length = s.size := by simp
    refine ev_pos hg (ev_pos ⟨hs, ?_⟩ (ev_now ?_))
    · show Lib.count s.data.toList [46] ≤ 1048576
      omega
    · rw [if_pos hg]
      unfold replM
      rw [replaceAll_map]
  · refine ev_neg hg (ev_now ?_)
    rw [if_neg hg]

/-! ### drawfill -/
/-! What is drawn for a fill: a grid that is one, a fill with letters, and the rest in bounds. -/
theorem okText_grid {x : ByteArray} (h : okText x = true) : ∃ (R C : Int) (s : ByteArray), parseM x = (R, C, s, true) ∧ (1 ≤ s.size ∧ s.size ≤ 36) ∧ gridM R C s = true := by
  unfold okText at h
  rw [Bool.and_eq_true, Bool.and_eq_true, decide_eq_true_eq, decide_eq_true_eq] at h
  obtain ⟨hg, ht, h1, h2, h3, h4⟩ := h
  refine ⟨((cutL x.data.toList).length : Int), (((cutL x.data.toList).headD []).length : Int), ⟨(cutL x.data.toList).flatten.toArray⟩, ?_, ?_, hg⟩
  · unfold parseM finM
    rw [if_pos (by rw [ht]), if_pos hg]
  · show 1 ≤ (cutL x.data.toList).flatten.toArray.size ∧ (cutL x.data.toList).flatten.toArray.size ≤ 36
    rw [List.size_toArray]
    exact ⟨h1, h2⟩
theorem grid_set {r c : Int} {s y : ByteArray} {an : Nat} (hg : gridM r c s = true) (ha : an < s.size) (hy : y = ⟨#[35]⟩ ∨ y = ⟨#[46]⟩) : gridM r c ((s.extract 0 an ++ y) ++ s.extract (an + 1) s.size) = true := by
  have hy0 : y.extract 0 1 = y := by rcases hy with rfl | rfl <;> rfl
  have h1 := splice s y an 0 ha (by rcases hy with rfl | rfl <;> decide)
  rw [Nat.zero_add, hy0] at h1
  rw [h1]
  have hv : ((y.data.toList.getD 0 0).toNat : Int) = 35 ∨ ((y.data.toList.getD 0 0).toNat : Int) = 46 := by rcases hy with rfl | rfl <;> decide
  generalize y.data.toList.getD 0 0 = u at hv ⊢
  unfold gridM at hg ⊢
  simp only [Bool.and_eq_true, decide_eq_true_eq, List.all_eq_true] at hg ⊢
  obtain ⟨⟨⟨hr, hc⟩, hs⟩, hall⟩ := hg
  have hz : (⟨s.data.setIfInBounds an u⟩ : ByteArray).size = s.size := Array.size_setIfInBounds
  refine ⟨⟨⟨hr, hc⟩, by rw [hz]; exact hs⟩, fun j hj => ?_⟩
  rw [hz] at hj
  have h2 := hall j hj
  rw [bt_set s.data an j u ha]
  split
  · unfold isC
    rcases hv with hv | hv <;> rw [hv] <;> rfl
  · exact h2
theorem spec_l7Draw_grid (l : List Int) (i h : Int) (h0 : 0 ≤ i ∧ i ≤ l.length) (hl : l.length ≤ 1048576) : ∃ (r c : Int) (s : ByteArray) (i' h' : Int), Ev (fun k => spec_l7Draw.f k l i h) (r, c, s, i', h') ∧ (1 ≤ s.size ∧ s.size ≤ 36) ∧ gridM r c s = true ∧ (0 ≤ i' ∧ i' ≤ l.length) := by
  unfold spec_l7Draw.f spec_l7Texts.f
  have hall : ∀ x ∈ [(⟨#[46, 46, 46, 47, 46, 46, 46, 47, 46, 46, 46]⟩ : ByteArray), (⟨#[46, 46, 35, 47, 46, 46, 46, 47, 35, 46, 46]⟩ : ByteArray), (⟨#[46, 46, 46, 47, 46, 35, 46, 47, 46, 46, 46]⟩ : ByteArray), (⟨#[46, 46, 46, 46, 47, 46, 46, 46, 46, 47, 46, 46, 46, 46]⟩ : ByteArray), (⟨#[46, 46, 46, 46, 35, 47, 46, 35, 46, 46, 46, 47, 46, 46, 46, 46, 46]⟩ : ByteArray), (⟨#[46, 46, 46, 46, 47, 46, 35, 35, 46, 47, 46, 46, 46, 46]⟩ : ByteArray), (⟨#[46, 46, 46, 46, 46, 35, 47, 46, 35, 46, 35, 46, 46, 47, 46, 46, 46, 46, 46, 46]⟩ : ByteArray), (⟨#[46, 46, 47, 46, 46]⟩ : ByteArray), (⟨#[35, 46, 46, 46, 47, 46, 46, 46, 46, 47, 46, 46, 46, 35]⟩ : ByteArray), (⟨#[46, 46, 46, 47, 35, 35, 35, 47, 46, 46, 46]⟩ : ByteArray)], okText x = true ∧ x.size ≤ 100 := by decide +kernel
  obtain ⟨x, i1, g1, e1, hx, hi1⟩ := spec_l1Str_some l i h (L := [(⟨#[46, 46, 46, 47, 46, 46, 46, 47, 46, 46, 46]⟩ : ByteArray), (⟨#[46, 46, 35, 47, 46, 46, 46, 47, 35, 46, 46]⟩ : ByteArray), (⟨#[46, 46, 46, 47, 46, 35, 46, 47, 46, 46, 46]⟩ : ByteArray), (⟨#[46, 46, 46, 46, 47, 46, 46, 46, 46, 47, 46, 46, 46, 46]⟩ : ByteArray), (⟨#[46, 46, 46, 46, 35, 47, 46, 35, 46, 46, 46, 47, 46, 46, 46, 46, 46]⟩ : ByteArray), (⟨#[46, 46, 46, 46, 47, 46, 35, 35, 46, 47, 46, 46, 46, 46]⟩ : ByteArray), (⟨#[46, 46, 46, 46, 46, 35, 47, 46, 35, 46, 35, 46, 46, 47, 46, 46, 46, 46, 46, 46]⟩ : ByteArray), (⟨#[46, 46, 47, 46, 46]⟩ : ByteArray), (⟨#[35, 46, 46, 46, 47, 46, 46, 46, 46, 47, 46, 46, 46, 35]⟩ : ByteArray), (⟨#[46, 46, 46, 47, 35, 35, 35, 47, 46, 46, 46]⟩ : ByteArray)]) h0 hl (by decide) (by decide)
  obtain ⟨hok, hxs⟩ := hall x hx
  obtain ⟨R, C, s, hp, hs, hg⟩ := okText_grid hok
  have hpe := spec_ParseGrid_ev x (by omega)
  rw [hp] at hpe
  obtain ⟨z, i2, g2, e2, _, hi2⟩ := spec_l1Below_some l i1 g1 3 hi1 hl (by omega)
  have e3 : spec_l1Once.f l i1 g1 3 = some ((z == 0), i2, g2) := by
    unfold spec_l1Once.f
    rw [e2]
    rfl
  cases hz : (z == 0) with
  | false =>
    rw [hz] at e3
    exact ⟨R, C, s, i2, g2, ev_let rfl (ev_let e1 (ev_bind hpe (ev_let e3 (ev_neg (by simp) (ev_now rfl))))), hs, hg, hi2⟩
  | true =>
    rw [hz] at e3
    obtain ⟨a, i3, g3, e4, ha, hi3⟩ := spec_l1Below_some l i2 g2 (s.size : Int) hi2 hl (by omega)
    have ha1 := ha.2.1 (by omega)
    obtain ⟨an, rfl⟩ := Int.eq_ofNat_of_zero_le ha.1
    obtain ⟨y, i4, g4, e5, hy, hi4⟩ := spec_l1Str_some l i3 g3 [(⟨#[35]⟩ : ByteArray), (⟨#[46]⟩ : ByteArray)] hi3 hl (by decide) (by decide)
    simp only [List.mem_cons, List.not_mem_nil, or_false] at hy
    have hy1 : y.size = 1 := by
      rcases hy with rfl | rfl <;> rfl
    have n1 : (s.extract 0 an).size = an := by rw [ByteArray.size_extract]; omega
    have n2 : (s.extract (an + 1) s.size).size = s.size - (an + 1) := by rw [ByteArray.size_extract]; omega
    have n3 : ((s.extract 0 an) ++ y).size = an + 1 := by rw [ByteArray.size_append]; omega
    refine ⟨R, C, (s.extract 0 an ++ y) ++ s.extract (an + 1) s.size, i4, g4, ?_, ?_, grid_set hg (by omega) hy, hi4⟩
    · refine ev_let rfl (ev_let e1 (ev_bind hpe (ev_let e3 (ev_pos rfl (ev_let e4 ?_)))))
      refine ev_pos (by show 0 ≤ (an : Int); omega) (ev_pos (by show (an : Int) ≤ (s.size : Int); omega) (ev_let e5 ?_))
      show Ev (fun n => if (s.extract 0 ((an : Int)).toNat).size + y.size ≤ 9223372036854775807 then (if 0 ≤ wrap64 ((an : Int) + 1) then (if wrap64 ((an : Int) + 1) ≤ (s.size : Int) then (if ((s.extract 0 ((an : Int)).toNat) ++ y).size + (s.extract (wrap64 ((an : Int) + 1)).toNat s.size).size ≤ 9223372036854775807 then some (R, C, ((s.extract 0 ((an : Int)).toNat) ++ y) ++ (s.extract (wrap64 ((an : Int) + 1)).toNat s.size), i4, g4) else none) else none) else none) else none) _
      rw [wrap64_id (n := (an : Int) + 1) (by omega) (by omega), succ_cast, Int.toNat_natCast, Int.toNat_natCast]
      exact ev_pos (by omega) (ev_pos (by omega) (ev_pos (by omega) (ev_pos (by omega) (ev_now rfl))))
    · rw [ByteArray.size_append]
      omega
theorem emptyM_size (r c : Int) (s : ByteArray) : (emptyM r c s).size ≤ s.size := by
  unfold emptyM
  split
  · show (s.data.toList.map subB).toArray.size ≤ s.size
    rw [List.size_toArray, List.length_map, Array.length_toList]
    exact Nat.le_refl _
  · exact Nat.zero_le _
theorem emptyM_grid {r c : Int} {s : ByteArray} (h : gridM r c s = true) : (emptyM r c s).size = s.size := by
  unfold emptyM
  rw [if_pos h]
  show (s.data.toList.map subB).toArray.size = s.size
  rw [List.size_toArray, List.length_map, Array.length_toList]
  rfl
theorem put_size (r c : Int) (s f : ByteArray) (slot : Int) (w : ByteArray) : (putM r c s f slot w).1.size = f.size := by
  unfold putM
  split
  · exact wrK_size (layoutM r c s) slot.toNat f w
  · rfl
theorem spec_l11Draw_l0_ev (r c : Int) (s : ByteArray) (l : List Int) (n : Int) (hs : s.size ≤ 1048576) (hl : l.length ≤ 1048576) (hn : n ≤ 1000) : ∀ (m : Nat) (f : ByteArray) (i h : Int), m ≤ 100 → f.size ≤ 1048576 → (0 ≤ i ∧ i ≤ l.length) → ∃ (f' : ByteArray) (i' h' : Int), Ev (fun k => spec_l11Draw.l0 k f n (m : Int) l i h r c s) (f', i', h') ∧ f'.size = f.size ∧ (0 ≤ i' ∧ i' ≤ l.length)
  | 0, f, i, h, hm, hf, h0 => by
    refine ⟨f, i, h, ev_succ ?_, rfl, h0⟩
    simp only [spec_l11Draw.l0]
    refine ev_neg (by omega) (ev_succ ?_)
    simp only [spec_l11Draw.j1]
    exact ev_neg (by simp) (ev_now rfl)
  | m + 1, f, i, h, hm, hf, h0 => by
    by_cases hn0 : n > 0
    · obtain ⟨x, i1, h1, e1, x1, b1⟩ := spec_l1Below_some l i h n h0 hl (by omega)
      obtain ⟨w, i2, h2, e2, w2, b2⟩ := spec_l4Word_some l i1 h1 b1 hl
      have ep := spec_PutWord_ev r c s f x w hs hf (by omega)
      have ez := put_size r c s f x w
      obtain ⟨f', i', h', e3, q1, q2⟩ := spec_l11Draw_l0_ev r c s l n hs hl hn m (putM r c s f x w).1 i2 h2 (by omega) (by omega) b2
      refine ⟨f', i', h', ev_succ ?_, q1.trans ez, q2⟩
      simp only [spec_l11Draw.l0]
      refine ev_pos (by omega) (ev_succ ?_)
      simp only [spec_l11Draw.j1]
      rw [wrap64_id (n := ((m + 1 : Nat) : Int) - 1) (by omega) (by omega), show ((m + 1 : Nat) : Int) - 1 = (m : Int) by omega]
      exact ev_pos (decide_eq_true hn0) (ev_let e1 (ev_let e2 (ev_bind ep e3)))
    · refine ⟨f, i, h, ev_succ ?_, rfl, h0⟩
      simp only [spec_l11Draw.l0]
      refine ev_pos (by omega) (ev_succ ?_)
      simp only [spec_l11Draw.j1]
      exact ev_neg (by simpa using hn0) (ev_now rfl)
theorem spec_l11Draw_ev (l : List Int) (i h r c : Int) (s : ByteArray) (h0 : 0 ≤ i ∧ i ≤ l.length) (hl : l.length ≤ 1048576) (hs : s.size ≤ 100) : ∃ (f : ByteArray) (i' h' : Int), Ev (fun k => spec_l11Draw.f k l i h r c s) (f, i', h') ∧ f.size = (emptyM r c s).size ∧ (0 ≤ i' ∧ i' ≤ l.length) := by
  unfold spec_l11Draw.f
  obtain ⟨x, i1, h1, e1, x1, b1⟩ := spec_l1Below_some l i h 5 h0 hl (by omega)
  have x2 := x1.2.1 (by omega)
  obtain ⟨m, rfl⟩ := Int.eq_ofNat_of_zero_le x1.1
  have hlen := slotsM_length r c s
  have hz := emptyM_size r c s
  obtain ⟨f, i', h', e2, q1, q2⟩ := spec_l11Draw_l0_ev r c s l ((slotsM r c s).length : Int) (by omega) hl (by omega) m (emptyM r c s) i1 h1 (by omega) (by omega) b1
  exact ⟨f, i', h', ev_bind (spec_EmptyFill_ev r c s (by omega)) (ev_bind (spec_SlotsOf_ev r c s (by omega)) (ev_let e1 e2)), q1, q2⟩
theorem spec_l11Any_ev (l : List Int) (i h : Int) (h0 : 0 ≤ i ∧ i ≤ l.length) (hl : l.length ≤ 1048576) : ∃ (r c : Int) (s f : ByteArray) (i' h' : Int), Ev (fun k => spec_l11Any.f k l i h) (r, c, s, f, i', h') ∧ (s.size ≤ 100 ∧ f.size ≤ 100) ∧ (0 ≤ i' ∧ i' ≤ l.length) := by
  unfold spec_l11Any.f
  obtain ⟨r, c, s, i1, g1, hd, hs, hg, b1⟩ := spec_l7Draw_grid l i h h0 hl
  obtain ⟨f, i2, g2, e2, hf, b2⟩ := spec_l11Draw_ev l i1 g1 r c s b1 hl (by omega)
  rw [emptyM_grid hg] at hf
  obtain ⟨z, i3, g3, e3, hz, b3⟩ := spec_l1Below_some l i2 g2 9 b2 hl (by omega)
  have n2 : (f.extract 1 f.size).size = f.size - 1 := by rw [ByteArray.size_extract]; omega
  by_cases z0 : z = 0
  · have n1 : (f ++ (⟨#[63]⟩ : ByteArray)).size = f.size + 1 := by rw [ByteArray.size_append]; rfl
    exact ⟨r, c, s, f ++ (⟨#[63]⟩ : ByteArray), i3, g3, ev_bind hd (ev_bind e2 (ev_let e3 (ev_pos z0 (ev_pos (by show f.size + 1 ≤ 9223372036854775807; omega) (ev_now rfl))))), ⟨by omega, by omega⟩, b3⟩
  · by_cases z1 : z = 1
    · have n1 : ((⟨#[65]⟩ : ByteArray) ++ f.extract 1 f.size).size = 1 + (f.size - 1) := by
        rw [ByteArray.size_append, n2]
        rfl
      exact ⟨r, c, s, (⟨#[65]⟩ : ByteArray) ++ f.extract 1 f.size, i3, g3, ev_bind hd (ev_bind e2 (ev_let e3 (ev_neg z0 (ev_pos z1 (ev_pos (by show 1 ≤ (f.size : Int); omega) (ev_pos (by show 1 + (f.extract 1 f.size).size ≤ 9223372036854775807; omega) (ev_now rfl))))))), ⟨by omega, by omega⟩, b3⟩
    · by_cases z2 : z = 2
      · have n1 : ((⟨#[35]⟩ : ByteArray) ++ f.extract 1 f.size).size = 1 + (f.size - 1) := by
          rw [ByteArray.size_append, n2]
          rfl
        exact ⟨r, c, s, (⟨#[35]⟩ : ByteArray) ++ f.extract 1 f.size, i3, g3, ev_bind hd (ev_bind e2 (ev_let e3 (ev_neg z0 (ev_neg z1 (ev_pos z2 (ev_pos (by show 1 ≤ (f.size : Int); omega) (ev_pos (by show 1 + (f.extract 1 f.size).size ≤ 9223372036854775807; omega) (ev_now rfl)))))))), ⟨by omega, by omega⟩, b3⟩
      · by_cases z3 : z = 3
        · obtain ⟨r', c', s', i4, g4, h4, hs4, _, _, b4⟩ := spec_l7Any_ev l i3 g3 b3 hl
          exact ⟨r', c', s', f, i4, g4, ev_bind hd (ev_bind e2 (ev_let e3 (ev_neg z0 (ev_neg z1 (ev_neg z2 (ev_pos z3 (ev_bind h4 (ev_now rfl)))))))), ⟨by omega, by omega⟩, b4⟩
        · exact ⟨r, c, s, f, i3, g3, ev_bind hd (ev_bind e2 (ev_let e3 (ev_neg z0 (ev_neg z1 (ev_neg z2 (ev_neg z3 (ev_now rfl))))))), ⟨by omega, by omega⟩, b3⟩
theorem spec_DrawIsFull_ev (l : List Int) (hl : l.length ≤ 1048576) : ∃ (r c : Int) (s f : ByteArray), Ev (fun k => spec_DrawIsFull.f k l) (r, c, s, f) ∧ (s.size ≤ 100 ∧ f.size ≤ 100) := by
  obtain ⟨h, e1⟩ := spec_l1New_ev l hl
  obtain ⟨r, c, s, f, i', h', e2, q, _⟩ := spec_l11Any_ev l 0 h ⟨by omega, by omega⟩ hl
  have e3 : Ev (fun k => spec_DrawIsFill.f k l) (r, c, s, f) := by
    unfold spec_DrawIsFill.f
    exact ev_bind e1 (ev_bind e2 (ev_now rfl))
  refine ⟨r, c, s, f, ?_, q⟩
  unfold spec_DrawIsFull.f
  exact ev_bind e3 (ev_now rfl)
theorem spec_DrawPutWord_ev (l : List Int) (hl : l.length ≤ 1048576) : ∃ (r c : Int) (s f : ByteArray) (slot : Int) (w : ByteArray), Ev (fun k => spec_DrawPutWord.f k l) (r, c, s, f, slot, w) ∧ (s.size ≤ 100 ∧ f.size ≤ 100 ∧ w.size ≤ 100) := by
  obtain ⟨h, e1⟩ := spec_l1New_ev l hl
  obtain ⟨r, c, s, f, i1, h1, e2, ⟨q1, q2⟩, b1⟩ := spec_l11Any_ev l 0 h ⟨by omega, by omega⟩ hl
  obtain ⟨x, i2, h2, e3, x1, b2⟩ := spec_l1Below_some l i1 h1 9 b1 hl (by omega)
  have e4 : Ev (fun k => spec_DrawSlotPattern.f k l) (r, c, s, f, wrap64 (x - 1)) := by
    unfold spec_DrawSlotPattern.f
    exact ev_bind e1 (ev_bind e2 (ev_let e3 (ev_now rfl)))
  obtain ⟨w, i3, h3, e5, hw, b3⟩ := spec_l4Any_some l 0 h ⟨by omega, by omega⟩ hl
  have e6 := spec_SlotPattern_ev r c s f (wrap64 (x - 1)) (by omega) (by omega)
  have hps := patternM_size r c s f (wrap64 (x - 1)) (by omega)
  have hall : ∀ y ∈ [(⟨#[99, 97, 116]⟩ : ByteArray), (⟨#[97, 99, 116]⟩ : ByteArray), (⟨#[116, 97, 99]⟩ : ByteArray), (⟨#[97, 114, 99]⟩ : ByteArray), (⟨#[99, 97, 114]⟩ : ByteArray), (⟨#[101, 114, 97]⟩ : ByteArray), (⟨#[97, 114, 101]⟩ : ByteArray), (⟨#[101, 97, 114]⟩ : ByteArray), (⟨#[97, 116, 101]⟩ : ByteArray), (⟨#[116, 101, 97]⟩ : ByteArray), (⟨#[101, 97, 116]⟩ : ByteArray), (⟨#[115, 101, 97]⟩ : ByteArray), (⟨#[116, 97, 114]⟩ : ByteArray), (⟨#[114, 97, 116]⟩ : ByteArray), (⟨#[97, 114, 116]⟩ : ByteArray), (⟨#[97, 110, 116]⟩ : ByteArray), (⟨#[116, 97, 110]⟩ : ByteArray), (⟨#[110, 101, 116]⟩ : ByteArray), (⟨#[116, 101, 110]⟩ : ByteArray), (⟨#[114, 101, 115, 116]⟩ : ByteArray), (⟨#[116, 114, 101, 101]⟩ : ByteArray), (⟨#[115, 116, 97, 114]⟩ : ByteArray), (⟨#[114, 97, 116, 115]⟩ : ByteArray), (⟨#[97, 114, 116, 115]⟩ : ByteArray), (⟨#[101, 97, 115, 116]⟩ : ByteArray), (⟨#[115, 101, 97, 116]⟩ : ByteArray), (⟨#[116, 101, 97, 115]⟩ : ByteArray), (⟨#[110, 101, 116, 115]⟩ : ByteArray), (⟨#[116, 101, 110, 115]⟩ : ByteArray), (⟨#[115, 101, 110, 116]⟩ : ByteArray), (⟨#[116, 114, 97, 99, 101]⟩ : ByteArray), (⟨#[114, 101, 97, 99, 116]⟩ : ByteArray), (⟨#[99, 114, 97, 116, 101]⟩ : ByteArray), (⟨#[115, 116, 97, 114, 101]⟩ : ByteArray), (⟨#[116, 101, 97, 114, 115]⟩ : ByteArray)], y.size ≤ 5 := by decide
  have e7 := spec_WordsFitting_ev [(⟨#[99, 97, 116]⟩ : ByteArray), (⟨#[97, 99, 116]⟩ : ByteArray), (⟨#[116, 97, 99]⟩ : ByteArray), (⟨#[97, 114, 99]⟩ : ByteArray), (⟨#[99, 97, 114]⟩ : ByteArray), (⟨#[101, 114, 97]⟩ : ByteArray), (⟨#[97, 114, 101]⟩ : ByteArray), (⟨#[101, 97, 114]⟩ : ByteArray), (⟨#[97, 116, 101]⟩ : ByteArray), (⟨#[116, 101, 97]⟩ : ByteArray), (⟨#[101, 97, 116]⟩ : ByteArray), (⟨#[115, 101, 97]⟩ : ByteArray), (⟨#[116, 97, 114]⟩ : ByteArray), (⟨#[114, 97, 116]⟩ : ByteArray), (⟨#[97, 114, 116]⟩ : ByteArray), (⟨#[97, 110, 116]⟩ : ByteArray), (⟨#[116, 97, 110]⟩ : ByteArray), (⟨#[110, 101, 116]⟩ : ByteArray), (⟨#[116, 101, 110]⟩ : ByteArray), (⟨#[114, 101, 115, 116]⟩ : ByteArray), (⟨#[116, 114, 101, 101]⟩ : ByteArray), (⟨#[115, 116, 97, 114]⟩ : ByteArray), (⟨#[114, 97, 116, 115]⟩ : ByteArray), (⟨#[97, 114, 116, 115]⟩ : ByteArray), (⟨#[101, 97, 115, 116]⟩ : ByteArray), (⟨#[115, 101, 97, 116]⟩ : ByteArray), (⟨#[116, 101, 97, 115]⟩ : ByteArray), (⟨#[110, 101, 116, 115]⟩ : ByteArray), (⟨#[116, 101, 110, 115]⟩ : ByteArray), (⟨#[115, 101, 110, 116]⟩ : ByteArray), (⟨#[116, 114, 97, 99, 101]⟩ : ByteArray), (⟨#[114, 101, 97, 99, 116]⟩ : ByteArray), (⟨#[99, 114, 97, 116, 101]⟩ : ByteArray), (⟨#[115, 116, 97, 114, 101]⟩ : ByteArray), (⟨#[116, 101, 97, 114, 115]⟩ : ByteArray)] (patternM r c s f (wrap64 (x - 1))) (by decide) (by omega) (fun y hy => by have := hall y hy; omega)
  have hsub : ∀ y ∈ fittingM [(⟨#[99, 97, 116]⟩ : ByteArray), (⟨#[97, 99, 116]⟩ : ByteArray), (⟨#[116, 97, 99]⟩ : ByteArray), (⟨#[97, 114, 99]⟩ : ByteArray), (⟨#[99, 97, 114]⟩ : ByteArray), (⟨#[101, 114, 97]⟩ : ByteArray), (⟨#[97, 114, 101]⟩ : ByteArray), (⟨#[101, 97, 114]⟩ : ByteArray), (⟨#[97, 116, 101]⟩ : ByteArray), (⟨#[116, 101, 97]⟩ : ByteArray), (⟨#[101, 97, 116]⟩ : ByteArray), (⟨#[115, 101, 97]⟩ : ByteArray), (⟨#[116, 97, 114]⟩ : ByteArray), (⟨#[114, 97, 116]⟩ : ByteArray), (⟨#[97, 114, 116]⟩ : ByteArray), (⟨#[97, 110, 116]⟩ : ByteArray), (⟨#[116, 97, 110]⟩ : ByteArray), (⟨#[110, 101, 116]⟩ : ByteArray), (⟨#[116, 101, 110]⟩ : ByteArray), (⟨#[114, 101, 115, 116]⟩ : ByteArray), (⟨#[116, 114, 101, 101]⟩ : ByteArray), (⟨#[115, 116, 97, 114]⟩ : ByteArray), (⟨#[114, 97, 116, 115]⟩ : ByteArray), (⟨#[97, 114, 116, 115]⟩ : ByteArray), (⟨#[101, 97, 115, 116]⟩ : ByteArray), (⟨#[115, 101, 97, 116]⟩ : ByteArray), (⟨#[116, 101, 97, 115]⟩ : ByteArray), (⟨#[110, 101, 116, 115]⟩ : ByteArray), (⟨#[116, 101, 110, 115]⟩ : ByteArray), (⟨#[115, 101, 110, 116]⟩ : ByteArray), (⟨#[116, 114, 97, 99, 101]⟩ : ByteArray), (⟨#[114, 101, 97, 99, 116]⟩ : ByteArray), (⟨#[99, 114, 97, 116, 101]⟩ : ByteArray), (⟨#[115, 116, 97, 114, 101]⟩ : ByteArray), (⟨#[116, 101, 97, 114, 115]⟩ : ByteArray)] (patternM r c s f (wrap64 (x - 1))), y.size ≤ 5 := fun y hy => hall y (List.mem_filter.1 hy).1
  have hlen : (fittingM [(⟨#[99, 97, 116]⟩ : ByteArray), (⟨#[97, 99, 116]⟩ : ByteArray), (⟨#[116, 97, 99]⟩ : ByteArray), (⟨#[97, 114, 99]⟩ : ByteArray), (⟨#[99, 97, 114]⟩ : ByteArray), (⟨#[101, 114, 97]⟩ : ByteArray), (⟨#[97, 114, 101]⟩ : ByteArray), (⟨#[101, 97, 114]⟩ : ByteArray), (⟨#[97, 116, 101]⟩ : ByteArray), (⟨#[116, 101, 97]⟩ : ByteArray), (⟨#[101, 97, 116]⟩ : ByteArray), (⟨#[115, 101, 97]⟩ : ByteArray), (⟨#[116, 97, 114]⟩ : ByteArray), (⟨#[114, 97, 116]⟩ : ByteArray), (⟨#[97, 114, 116]⟩ : ByteArray), (⟨#[97, 110, 116]⟩ : ByteArray), (⟨#[116, 97, 110]⟩ : ByteArray), (⟨#[110, 101, 116]⟩ : ByteArray), (⟨#[116, 101, 110]⟩ : ByteArray), (⟨#[114, 101, 115, 116]⟩ : ByteArray), (⟨#[116, 114, 101, 101]⟩ : ByteArray), (⟨#[115, 116, 97, 114]⟩ : ByteArray), (⟨#[114, 97, 116, 115]⟩ : ByteArray), (⟨#[97, 114, 116, 115]⟩ : ByteArray), (⟨#[101, 97, 115, 116]⟩ : ByteArray), (⟨#[115, 101, 97, 116]⟩ : ByteArray), (⟨#[116, 101, 97, 115]⟩ : ByteArray), (⟨#[110, 101, 116, 115]⟩ : ByteArray), (⟨#[116, 101, 110, 115]⟩ : ByteArray), (⟨#[115, 101, 110, 116]⟩ : ByteArray), (⟨#[116, 114, 97, 99, 101]⟩ : ByteArray), (⟨#[114, 101, 97, 99, 116]⟩ : ByteArray), (⟨#[99, 114, 97, 116, 101]⟩ : ByteArray), (⟨#[115, 116, 97, 114, 101]⟩ : ByteArray), (⟨#[116, 101, 97, 114, 115]⟩ : ByteArray)] (patternM r c s f (wrap64 (x - 1)))).length ≤ 100 := Nat.le_trans (List.length_filter_le _ _) (by decide)
  unfold spec_DrawPutWord.f
  unfold spec_l4Words.f
  generalize fittingM [(⟨#[99, 97, 116]⟩ : ByteArray), (⟨#[97, 99, 116]⟩ : ByteArray), (⟨#[116, 97, 99]⟩ : ByteArray), (⟨#[97, 114, 99]⟩ : ByteArray), (⟨#[99, 97, 114]⟩ : ByteArray), (⟨#[101, 114, 97]⟩ : ByteArray), (⟨#[97, 114, 101]⟩ : ByteArray), (⟨#[101, 97, 114]⟩ : ByteArray), (⟨#[97, 116, 101]⟩ : ByteArray), (⟨#[116, 101, 97]⟩ : ByteArray), (⟨#[101, 97, 116]⟩ : ByteArray), (⟨#[115, 101, 97]⟩ : ByteArray), (⟨#[116, 97, 114]⟩ : ByteArray), (⟨#[114, 97, 116]⟩ : ByteArray), (⟨#[97, 114, 116]⟩ : ByteArray), (⟨#[97, 110, 116]⟩ : ByteArray), (⟨#[116, 97, 110]⟩ : ByteArray), (⟨#[110, 101, 116]⟩ : ByteArray), (⟨#[116, 101, 110]⟩ : ByteArray), (⟨#[114, 101, 115, 116]⟩ : ByteArray), (⟨#[116, 114, 101, 101]⟩ : ByteArray), (⟨#[115, 116, 97, 114]⟩ : ByteArray), (⟨#[114, 97, 116, 115]⟩ : ByteArray), (⟨#[97, 114, 116, 115]⟩ : ByteArray), (⟨#[101, 97, 115, 116]⟩ : ByteArray), (⟨#[115, 101, 97, 116]⟩ : ByteArray), (⟨#[116, 101, 97, 115]⟩ : ByteArray), (⟨#[110, 101, 116, 115]⟩ : ByteArray), (⟨#[116, 101, 110, 115]⟩ : ByteArray), (⟨#[115, 101, 110, 116]⟩ : ByteArray), (⟨#[116, 114, 97, 99, 101]⟩ : ByteArray), (⟨#[114, 101, 97, 99, 116]⟩ : ByteArray), (⟨#[99, 114, 97, 116, 101]⟩ : ByteArray), (⟨#[115, 116, 97, 114, 101]⟩ : ByteArray), (⟨#[116, 101, 97, 114, 115]⟩ : ByteArray)] (patternM r c s f (wrap64 (x - 1))) = L at e7 hsub hlen
  by_cases hL : (L.length : Int) > 0
  · obtain ⟨z, i4, h4, e8, _, b4⟩ := spec_l1Below_some l i3 h3 3 b3 hl (by omega)
    have e9 : spec_l1Once.f l i3 h3 3 = some ((z == 0), i4, h4) := by
      unfold spec_l1Once.f
      rw [e8]
      rfl
    cases hz : (z == 0) with
    | true =>
      rw [hz] at e9
      exact ⟨r, c, s, f, wrap64 (x - 1), w, ev_bind e4 (ev_bind e1 (ev_let e5 (ev_let rfl (ev_bind e6 (ev_bind e7 (ev_pos hL (ev_let e9 (ev_pos rfl (ev_now rfl))))))))), q1, q2, by omega⟩
    | false =>
      rw [hz] at e9
      obtain ⟨y, i5, h5, e10, y1, b5⟩ := spec_l1Below_some l i4 h4 (L.length : Int) b4 hl (by omega)
      have y2 := y1.2.1 (by omega)
      obtain ⟨j, rfl⟩ := Int.eq_ofNat_of_zero_le y1.1
      have hj : j < L.length := by omega
      refine ⟨r, c, s, f, wrap64 (x - 1), L[j], ev_bind e4 (ev_bind e1 (ev_let e5 (ev_let rfl (ev_bind e6 (ev_bind e7 (ev_pos hL (ev_let e9 (ev_neg (by simp) (ev_let e10 (ev_pos y1.1 (ev_pos y2 (ev_now ?_)))))))))))), q1, q2, ?_⟩
      · show (r, c, s, f, wrap64 (x - 1), rdOf ByteArray.empty L (j : Int)) = _
        rw [rdOf_get hj]
      · have := hsub _ (List.getElem_mem hj)
        omega
  · exact ⟨r, c, s, f, wrap64 (x - 1), w, ev_bind e4 (ev_bind e1 (ev_let e5 (ev_let rfl (ev_bind e6 (ev_bind e7 (ev_neg hL (ev_now rfl))))))), q1, q2, by omega⟩
theorem spec_DrawEmptyFill_ev (l : List Int) (hl : l.length ≤ 1048576) : ∃ (r c : Int) (s : ByteArray), Ev (fun k => spec_DrawEmptyFill.f k l) (r, c, s) ∧ s.size ≤ 100 := by
  obtain ⟨h, e1⟩ := spec_l1New_ev l hl
  obtain ⟨r, c, s, i', h', e2, ⟨_, hs⟩, _⟩ := spec_l7Any_ev l 0 h ⟨by omega, by omega⟩ hl
  have e3 : Ev (fun k => spec_DrawIsGrid.f k l) (r, c, s) := by
    unfold spec_DrawIsGrid.f
    exact ev_bind e1 (ev_bind e2 (ev_now rfl))
  refine ⟨r, c, s, ?_, hs⟩
  unfold spec_DrawEmptyFill.f
  exact ev_bind e3 (ev_now rfl)

/-! ### marks -/

/-! ### wordsin -/
theorem patternsM_small (r c : Int) (s f : ByteArray) : ∀ p ∈ patternsM r c s f, p.size ≤ 1000 := by
  intro p hm
  unfold patternsM at hm
  split at hm
  · obtain ⟨l, hl, rfl⟩ := List.mem_map.1 hm
    obtain ⟨x, hx, rfl⟩ := List.mem_map.1 hl
    obtain ⟨i, hi, rfl⟩ := List.getElem_of_mem hx
    have h6 := cellsM_length_elem hi
    unfold patM
    rw [strOfNums_size, List.length_map]
    omega
  · cases hm
/-- The words of the slots that are closed. -/
def wordsInM (r c : Int) (s f : ByteArray) : List ByteArray := (patternsM r c s f).filter closedM
theorem wordsInM_length (r c : Int) (s f : ByteArray) : (wordsInM r c s f).length ≤ 72 := by
  have h1 := patternsM_length r c s f
  have h2 := List.length_filter_le closedM (patternsM r c s f)
  unfold wordsInM
  omega
theorem impl_WordsIn_ev (r c : Int) (s f : ByteArray) (hs : s.size ≤ 1048576) (hf : f.size ≤ 1048576) : Ev (fun k => impl_WordsIn.f k r c s f) (wordsInM r c s f) := by
  unfold impl_WordsIn.f wordsInM
  have h1 := patternsM_length r c s f
  exact ev_bind (impl_patterns_ev r c s f hs hf) (ev_pos ⟨by omega, fun p hp => by have := patternsM_small r c s f p hp; omega⟩ (ev_now rfl))

/-! ### athas -/
/-! ### fnfills -/
/-! What the law FnFills says of a word that is put, of an empty fill and of a full one. -/
theorem bt_ext {a b : ByteArray} (hs : a.size = b.size) (h : ∀ j : Nat, j < a.size → bt a (j : Int) = bt b (j : Int)) : a = b := by
  apply ByteArray.ext
  refine Array.ext hs fun i h1 h2 => ?_
  have h3 := h i h1
  unfold bt at h3
  simp only [Int.toNat_natCast] at h3
  rw [dif_pos (show i < a.size from h1), dif_pos (show i < b.size from h2)] at h3
  exact UInt8.toNat_inj.1 (Int.ofNat.inj h3)
theorem put_facts {r c : Int} {s f : ByteArray} {slot : Int} {w : ByteArray} (h : fitsM (patternM r c s f slot) w = true) : ∃ k : Nat, slot = (k : Int) ∧ k < (layoutM r c s).length ∧ fillM r c s f = true ∧ fitK (layoutM r c s) k f w = true ∧ putM r c s f slot w = (wrK (layoutM r c s) k f w, true) := by
  obtain ⟨j, e, hj, hf, hp, hl, h8⟩ := fitsM_facts h
  subst e
  have hk : j < (layoutM r c s).length := by rw [layoutM_length]; exact hj
  refine ⟨j, rfl, hk, hf, ?_, ?_⟩
  · unfold fitK
    rw [layout_getD hj, ← hp]
    exact h
  · unfold putM
    rw [if_pos h, Int.toNat_natCast]
    rfl
theorem pattern_get {r c : Int} {s f : ByteArray} {k : Nat} (hk : k < (layoutM r c s).length) (hf : fillM r c s f = true) : patternM r c s f (k : Int) = patM f ((layoutM r c s).getD k []) := by
  have e : patternsM r c s f = (layoutM r c s).map (patM f) := if_pos hf
  unfold patternM
  rw [e, if_pos ⟨by omega, by rw [List.length_map]; omega⟩, Int.toNat_natCast, List.getD_eq_getElem?_getD, List.getElem?_map, List.getElem?_eq_getElem hk, List.getD_eq_getElem?_getD, List.getElem?_eq_getElem hk]
  rfl
theorem wr_in {r c : Int} {s f w : ByteArray} {k : Nat} (hk : k < (layoutM r c s).length) (hv : fillM r c s f = true) (hf : fitK (layoutM r c s) k f w = true) {q : Nat} (hq : q < ((layoutM r c s).getD k []).length) : bt (wrK (layoutM r c s) k f w) ((layoutM r c s).getD k [])[q] = bt w (q : Int) := by
  have hi := (layout_row (row_mem hk)).2 _ (List.getElem_mem hq)
  obtain ⟨a, ha⟩ := Int.eq_ofNat_of_zero_le hi.1
  rcases wrK_at hk hv hf a with ⟨_, hn⟩ | ⟨p, hp, e1, e2⟩
  · exact absurd (ha ▸ List.getElem_mem hq) hn
  · have e : p = q := by
      rcases Nat.lt_trichotomy p q with h | h | h
      · exact absurd (e1.trans ha.symm) (List.pairwise_iff_getElem.1 (row_nodup hk) p q hp hq h)
      · exact h
      · exact absurd (ha.trans e1.symm) (List.pairwise_iff_getElem.1 (row_nodup hk) q p hq hp h)
    subst e
    rw [ha]
    exact e2
theorem wr_pat {r c : Int} {s f w : ByteArray} {k : Nat} (hk : k < (layoutM r c s).length) (hv : fillM r c s f = true) (hf : fitK (layoutM r c s) k f w = true) : patM (wrK (layoutM r c s) k f w) ((layoutM r c s).getD k []) = w :=
  bt_ext (by rw [patM_size]; exact (fitK_iff.1 hf).2.2.1) fun j hj => by
    rw [patM_size] at hj
    rw [patM_at _ _ j hj]
    exact wr_in hk hv hf hj
theorem word_fits {w : ByteArray} (h : wordM w = true) : fitsM w w = true := fitsM_iff.2 ⟨patOk_iff.2 ⟨(wordM_iff.1 h).1, fun j hj => by unfold isQ; rw [(wordM_iff.1 h).2 j hj]; simp⟩, h, rfl, fun _ _ => .inr rfl⟩
theorem wr_fit {r c : Int} {s f w : ByteArray} {k : Nat} (hk : k < (layoutM r c s).length) (hv : fillM r c s f = true) (hf : fitK (layoutM r c s) k f w = true) : fitK (layoutM r c s) k (wrK (layoutM r c s) k f w) w = true := by
  unfold fitK
  rw [wr_pat hk hv hf]
  exact word_fits (fitK_iff.1 hf).2.1
theorem wr_twice {r c : Int} {s f w : ByteArray} {k : Nat} (hk : k < (layoutM r c s).length) (hv : fillM r c s f = true) (hf : fitK (layoutM r c s) k f w = true) : wrK (layoutM r c s) k (wrK (layoutM r c s) k f w) w = wrK (layoutM r c s) k f w :=
  bt_ext (wrK_size _ _ _ _) fun j _ => by
    rcases wrK_at hk (wrK_fill hk hv hf) (wr_fit hk hv hf) j with ⟨e, _⟩ | ⟨q, hq, e1, e2⟩
    · exact e
    · have h2 := wr_in hk hv hf hq
      rw [e1] at h2
      exact e2.trans h2.symm
theorem wr_agrees {r c : Int} {s f w : ByteArray} {k : Nat} (hk : k < (layoutM r c s).length) (hv : fillM r c s f = true) (hf : fitK (layoutM r c s) k f w = true) (j : Nat) : bt f (j : Int) = 63 ∨ bt (wrK (layoutM r c s) k f w) (j : Int) = bt f (j : Int) := by
  rcases wrK_at hk hv hf j with ⟨e, _⟩ | ⟨q, hq, e1, e2⟩
  · exact .inr e
  · have h := (fitK_iff.1 hf).2.2.2 q hq
    rw [e1] at h
    rcases h with h | h
    · exact .inl h
    · exact .inr (e2.trans h.symm)
theorem open_none {f : ByteArray} (h : openN f 0 = 0) (j : Nat) (hj : j < f.size) : ¬ bt f (j : Int) = 63 := by
  unfold openN at h
  rw [List.countP_eq_zero] at h
  have h2 := h j (by rw [List.mem_range']; exact ⟨j, by omega, by omega⟩)
  simpa using h2
theorem closed_of {p : ByteArray} (h : ∀ j : Nat, j < p.size → ¬ bt p (j : Int) = 63) : closedM p = true := by
  unfold closedM openN
  rw [beq_iff_eq, List.countP_eq_zero]
  intro j hj
  rw [List.mem_range'] at hj
  obtain ⟨q, hq, rfl⟩ := hj
  have h2 := h (0 + 1 * q) (by omega)
  simpa using h2
theorem word_closed {w : ByteArray} (h : wordM w = true) : closedM w = true := closed_of fun j hj => by
  have h2 := (wordM_iff.1 h).2 j hj
  unfold isL at h2
  rw [decide_eq_true_eq] at h2
  omega
theorem wr_words {r c : Int} {s f w : ByteArray} {k : Nat} (hk : k < (layoutM r c s).length) (hv : fillM r c s f = true) (hf : fitK (layoutM r c s) k f w = true) : w ∈ wordsInM r c s (wrK (layoutM r c s) k f w) := by
  unfold wordsInM
  rw [List.mem_filter]
  refine ⟨?_, word_closed (fitK_iff.1 hf).2.1⟩
  rw [show patternsM r c s (wrK (layoutM r c s) k f w) = (layoutM r c s).map (patM (wrK (layoutM r c s) k f w)) from if_pos (wrK_fill hk hv hf)]
  exact List.mem_map.2 ⟨_, row_mem hk, wr_pat hk hv hf⟩
theorem full_words {r c : Int} {s f : ByteArray} (hv : fillM r c s f = true) (ho : openN f 0 = 0) : (wordsInM r c s f).length = (slotsM r c s).length := by
  unfold wordsInM
  rw [show patternsM r c s f = (layoutM r c s).map (patM f) from if_pos hv, List.filter_eq_self.2, List.length_map, layoutM_length]
  intro p hp
  obtain ⟨l, hl, rfl⟩ := List.mem_map.1 hp
  refine closed_of fun j hj => ?_
  rw [patM_size] at hj
  rw [patM_at _ _ j hj]
  have hi := (layout_row hl).2 _ (List.getElem_mem hj)
  obtain ⟨a, ha⟩ := Int.eq_ofNat_of_zero_le hi.1
  rw [ha]
  have hs := (fillM_iff.1 hv).2.1
  exact open_none ho a (by omega)
theorem fill_empty (r c : Int) (s : ByteArray) : fillM r c s (emptyM r c s) = gridM r c s := by
  by_cases hg : gridM r c s = true
  · rw [hg]
    unfold emptyM
    rw [if_pos hg]
    have hz : (⟨(s.data.toList.map subB).toArray⟩ : ByteArray).size = s.size := by
      show (s.data.toList.map subB).toArray.size = s.size
      rw [List.size_toArray, List.length_map, Array.length_toList]
      rfl
    refine fillM_iff.2 ⟨hg, hz, fun j hj => ?_⟩
    rw [hz] at hj
    have h1 : j < s.data.toList.length := by simpa using hj
    have h2 : j < (⟨(s.data.toList.map subB).toArray⟩ : ByteArray).data.toList.length := by simpa using hj
    have e2 := bt_list h2
    rw [show (⟨(s.data.toList.map subB).toArray⟩ : ByteArray).data.toList[j] = subB (s.data.toList[j]) by simp] at e2
    have e1 := bt_list h1
    rw [e2]
    rcases gridM_cell2 hg j hj with hb | hb
    · have e : s.data.toList[j] = 35 := u8_of _ 35 (by decide) (by omega)
      rw [hb, e]
      decide
    · have e : s.data.toList[j] = 46 := u8_of _ 46 (by decide) (by omega)
      rw [hb, e]
      decide
  · rw [Bool.not_eq_true] at hg
    unfold fillM
    rw [hg, Bool.false_and]

/-! ### once -/
theorem slices_Index_string_string_l0_ev (l : List ByteArray) (w : ByteArray) (hl : l.length ≤ 9223372036854775806) : ∀ i : Nat, i ≤ l.length → ∃ r : Int, Ev (fun k => slices_Index_string_string.l0 k l w l.length i) r ∧ decide (r ≥ 0) = decide (w ∈ l.drop i) := by
  refine down l.length ?_ ?_
  · intro i h hi
    refine ⟨-1, ?_, by rw [List.drop_eq_nil_of_le h]; simp⟩
    apply ev_succ
    simp only [slices_Index_string_string.l0]
    exact ev_neg (by omega) (ev_now rfl)
  · intro i h ih hi
    by_cases he : w.toList = l[i].toList
    · refine ⟨i, ?_, by rw [List.drop_eq_getElem_cons h]; simp [-List.getElem_cons_drop, toList_inj.1 he]⟩
      apply ev_succ
      simp only [slices_Index_string_string.l0]
      rw [rdOf_get h]
      exact ev_pos (by omega) (ev_pos (by omega) (ev_pos (by omega) (ev_pos he (ev_now rfl))))
    · obtain ⟨r, hr, h1⟩ := ih (by omega)
      refine ⟨r, ?_, ?_⟩
      · apply ev_succ
        simp only [slices_Index_string_string.l0]
        rw [rdOf_get h, wrap64_id (n := (i : Int) + 1) (by omega) (by omega), succ_cast]
        exact ev_pos (by omega) (ev_pos (by omega) (ev_pos (by omega) (ev_neg he hr)))
      · rw [toList_inj] at he
        rw [h1, List.drop_eq_getElem_cons h]
        simp [-List.getElem_cons_drop, he]
theorem slices_Contains_string_string_ev (l : List ByteArray) (w : ByteArray) (hl : l.length ≤ 9223372036854775806) : Ev (fun k => slices_Contains_string_string.f k l w) (decide (w ∈ l)) := by
  unfold slices_Contains_string_string.f slices_Index_string_string.f
  obtain ⟨r, hr, h⟩ := slices_Index_string_string_l0_ev l w hl 0 (by omega)
  exact ev_bind hr (ev_now (by simpa using h))

/-! ### fullfill -/
theorem laws_agrees_ev {x f : ByteArray} (hs : x.size = f.size) (hl : f.size ≤ 1048576) (h : ∀ j : Nat, bt f (j : Int) = 63 ∨ bt x (j : Int) = bt f (j : Int)) : Ev (fun k => laws_agrees.f k x f) true := by
  have main : ∀ i : Nat, i ≤ f.size → Ev (fun k => laws_agrees.l0 k x f i) true := by
    refine down f.size ?_ ?_
    · intro i hi _
      apply ev_succ
      simp only [laws_agrees.l0]
      exact ev_neg (by omega) (ev_now (by rw [hs]; simp))
    · intro i hi ih _
      apply ev_succ
      simp only [laws_agrees.l0]
      rw [wrap64_id (n := (i : Int) + 1) (by omega) (by omega), succ_cast]
      refine ev_pos (by omega) (ev_pos (by omega) ?_)
      by_cases h1 : bt f (i : Int) = 63
      · exact ev_pos h1 (ih (by omega))
      · exact ev_neg h1 (ev_neg (by omega) (ev_pos (by omega) (ev_pos ((h i).resolve_left h1) (ih (by omega)))))
  unfold laws_agrees.f
  exact main 0 (by omega)
theorem impl_openIn_ev (s : ByteArray) (hs : s.size ≤ 1048576) : Ev (fun k => impl_openIn.f k s) ((openN s 0 : Nat) : Int) := by
  have main : ∀ i : Nat, i ≤ s.size → ∀ n : Nat, n ≤ i → Ev (fun k => impl_openIn.l0 k s (n : Int) (s.size : Int) i) ((n + openN s i : Nat) : Int) := by
    refine down s.size ?_ ?_
    · intro i hi _ n hn
      apply ev_succ
      simp only [impl_openIn.l0]
      exact ev_neg (by omega) (ev_now (by rw [openN_end s i hi, Nat.add_zero]))
    · intro i hi ih _ n hn
      apply ev_succ
      simp only [impl_openIn.l0]
      rw [wrap64_id (n := (i : Int) + 1) (by omega) (by omega), wrap64_id (n := (n : Int) + 1) (by omega) (by omega), succ_cast i, succ_cast n, openN_step s i hi]
      refine ev_pos (by omega) (ev_pos (by omega) (ev_pos (by omega) ?_))
      by_cases hb : bt s (i : Int) = 63
      · exact ev_pos hb (ev_eq (ih (by omega) (n + 1) (by omega)) (by rw [if_pos hb]; omega))
      · exact ev_neg hb (ev_eq (ih (by omega) n (by omega)) (by rw [if_neg hb]; omega))
  unfold impl_openIn.f
  exact ev_eq (main 0 (by omega) 0 (Nat.le_refl _)) (by omega)
theorem impl_IsFull_ev (r c : Int) (s f : ByteArray) (hs : s.size ≤ 1048576) (hf : f.size ≤ 1048576) : Ev (fun k => impl_IsFull.f k r c s f) (fillM r c s f && decide (openN f 0 = 0)) := by
  have hi := impl_IsFill_ev r c s f (by omega) (by omega)
  unfold impl_IsFull.f
  by_cases hv : fillM r c s f = true
  · rw [hv] at hi ⊢
    refine ev_bind hi (ev_pos rfl (ev_bind (impl_openIn_ev f hf) (ev_now ?_)))
    by_cases ho : openN f 0 = 0
    · rw [ho]
      rfl
    · rw [decide_eq_false ho, Bool.and_false, beq_eq_false_iff_ne]
      omega
  · rw [Bool.not_eq_true] at hv
    rw [hv] at hi ⊢
    exact ev_bind hi (ev_neg (by simp) (ev_now (by simp)))
theorem hasWord_ev {n : ByteArray} {l : List ByteArray} (hl : l.length ≤ 1000) (hm : n ∈ l) : Ev (fun k => impl_HasWord.f k l n) true := by
  unfold impl_HasWord.f
  refine ev_bind (slices_Contains_string_string_ev l n (by omega)) (ev_now ?_)
  exact decide_eq_true hm

/-! ### the law -/
theorem fills_j2 (l : List Int) (hl : l.length ≤ 1048576) : Ev (fun k => laws_FnFills.j2 k l) true := by
  obtain ⟨r, c, s, f, hd, hs, hf⟩ := spec_DrawIsFull_ev l hl
  have hu := impl_IsFull_ev r c s f (by omega) (by omega)
  unfold laws_FnFills.j2
  refine ev_bind hd (ev_bind hu ?_)
  by_cases hc : (fillM r c s f && decide (openN f 0 = 0)) = true
  · have hc2 := hc
    rw [Bool.and_eq_true, decide_eq_true_eq] at hc2
    exact ev_pos hc (ev_bind (impl_WordsIn_ev r c s f (by omega) (by omega)) (ev_bind (impl_SlotsOf_ev r c s (by omega)) (ev_pos (full_words hc2.1 hc2.2) (ev_now rfl))))
  · exact ev_neg hc (ev_now rfl)
theorem fills_j1 (l : List Int) (hl : l.length ≤ 1048576) : Ev (fun k => laws_FnFills.j1 k l) true := by
  obtain ⟨r, c, s, hd, hs⟩ := spec_DrawEmptyFill_ev l hl
  have hz := emptyM_size r c s
  unfold laws_FnFills.j1
  exact ev_bind hd (ev_bind (impl_EmptyFill_ev r c s (by omega)) (ev_bind (impl_IsFill_ev r c s (emptyM r c s) (by omega) (by omega)) (ev_bind (impl_IsGrid_ev r c s (by omega)) (ev_pos (fill_empty r c s) (fills_j2 l hl)))))
theorem fills_j0 (l : List Int) (hl : l.length ≤ 1048576) (r c : Int) (s f : ByteArray) (slot : Int) (w : ByteArray) (hs : s.size ≤ 100) (hf : f.size ≤ 100) (hw : w.size ≤ 100) : Ev (fun k => laws_FnFills.j0 k l r c s f slot w) true := by
  have e1 := impl_PutWord_ev r c s f slot w (by omega) (by omega) (by omega)
  unfold laws_FnFills.j0
  by_cases h : fitsM (patternM r c s f slot) w = true
  · obtain ⟨k, rfl, hk, hv, hfit, hp⟩ := put_facts h
    rw [hp] at e1
    have hx := wrK_size (layoutM r c s) k f w
    have hvx := wrK_fill hk hv hfit
    have hpat : patternM r c s (wrK (layoutM r c s) k f w) (k : Int) = w := by rw [pattern_get hk hvx, wr_pat hk hv hfit]
    have hfit2 : fitsM (patternM r c s (wrK (layoutM r c s) k f w) (k : Int)) w = true := by
      rw [hpat]
      exact word_fits (fitK_iff.1 hfit).2.1
    have e2 := impl_PutWord_ev r c s (wrK (layoutM r c s) k f w) (k : Int) w (by omega) (by omega) (by omega)
    obtain ⟨k2, hk2, _, _, _, hp2⟩ := put_facts hfit2
    obtain rfl : k2 = k := by omega
    rw [hp2, wr_twice hk hv hfit] at e2
    have e3 := impl_IsFill_ev r c s (wrK (layoutM r c s) k2 f w) (by omega) (by omega)
    rw [hvx] at e3
    have e4 := impl_SlotPattern_ev r c s (wrK (layoutM r c s) k2 f w) (k2 : Int) (by omega) (by omega)
    rw [hpat] at e4
    have hlen := wordsInM_length r c s (wrK (layoutM r c s) k2 f w)
    exact ev_bind e1 (ev_pos rfl (ev_bind e3 (ev_bind e4 (ev_bind (laws_agrees_ev hx (by omega) (wr_agrees hk hv hfit)) (ev_bind (impl_WordsIn_ev r c s (wrK (layoutM r c s) k2 f w) (by omega) (by omega)) (ev_bind (hasWord_ev (by omega) (wr_words hk hv hfit)) (ev_bind e2 (ev_pos ⟨rfl, rfl, rfl, rfl, rfl, rfl⟩ (fills_j1 l hl)))))))))
  · rw [show putM r c s f slot w = (f, false) from if_neg h] at e1
    exact ev_bind e1 (ev_neg (by simp) (ev_pos rfl (fills_j1 l hl)))
theorem FnFills : laws_FnFills.Pure := by
  intro l _ _ _
  apply Ev.rounds
  unfold laws_FnFills.f
  refine ev_let (laws_big_eq l) ?_
  by_cases hb : (l.length : Int) > 1048576
  · exact ev_pos (decide_eq_true hb) (ev_now rfl)
  · obtain ⟨r, c, s, f, slot, w, hd, hs, hf, hw⟩ := spec_DrawPutWord_ev l (by omega)
    exact ev_neg (by simpa using hb) (ev_bind hd (fills_j0 l (by omega) r c s f slot w hs hf hw))

end Go.Proofs.YtodcckiphdnjeabDoor.Pure
