/-
  The law FnExactSlotName over numbers: the program's SlotName and the reference's answer alike for every slot.
  Conditions: none.
-/
import Derived.Test.YtgmhjinlpikpjaeDoorQFnExactSlotNamex
namespace Go.Proofs.YtgmhjinlpikpjaeDoor.Pure
open Go.RowKit Go.Proofs.YtgmhjinlpikpjaeDoor.QFnExactSlotName Go.Proofs.YtgmhjinlpikpjaeDoorW.PrintWords Go.Proofs.YtgmhjinlpikpjaeDoorW.PrintLast Go.Proofs.YtgmhjinlpikpjaeDoorW.PrintMore
set_option linter.unusedVariables false
set_option linter.unusedSimpArgs false

/-! ### base -/
theorem wrap64_id {n : Int} (h : -9223372036854775808 ≤ n) (h' : n ≤ 9223372036854775807) : wrap64 n = n := by
  unfold wrap64
  omega
section
variable {α β : Type}
theorem ev_succ {g : Nat → Option α} {r : α} (h : Ev (fun k => g (k + 1)) r) : Ev g r := Ev.step (fun _ => rfl) h
theorem ev_pos {c : Prop} [Decidable c] {g f : Nat → Option α} {r : α} (h : c) (k : Ev g r) : Ev (fun n => if c then g n else f n) r := by
  simpa only [if_pos h] using k
theorem ev_neg {c : Prop} [Decidable c] {g f : Nat → Option α} {r : α} (h : ¬ c) (k : Ev f r) : Ev (fun n => if c then g n else f n) r := by
  simpa only [if_neg h] using k
theorem ev_now {a r : α} (h : a = r) : Ev (fun _ => some a) r := h ▸ Ev.now a
theorem ev_let {o : Option β} {a : β} {f : Nat → β → Option α} {r : α} (h : o = some a) (k : Ev (fun n => f n a) r) : Ev (fun n => o.bind (f n)) r := by
  subst h
  exact k
theorem ev_bind {g : Nat → Option β} {f : Nat → β → Option α} {a : β} {r : α} (h : Ev g a) (k : Ev (fun n => f n a) r) : Ev (fun n => (g n).bind (f n)) r := Ev.bind h k
theorem ev_eq {g : Nat → Option α} {a r : α} (h : Ev g a) (e : a = r) : Ev g r := e ▸ h
end
/-- From the end of a loop back to a round: P holds from n on, and a round below n may use the next. -/
theorem down {P : Nat → Prop} (n : Nat) (hend : ∀ i, n ≤ i → P i) (hstep : ∀ i, i < n → P (i + 1) → P i) : ∀ i, P i := by
  intro i
  rcases Nat.lt_or_ge i n with h | h
  · obtain ⟨d, hd⟩ : ∃ d, n = i + d := ⟨n - i, by omega⟩
    induction d generalizing i with
    | zero => omega
    | succ d ih =>
      refine hstep i h ?_
      rcases Nat.lt_or_ge (i + 1) n with h1 | h1
      · exact ih (i + 1) h1 (by omega)
      · exact hend _ h1
  · exact hend i h
theorem range_cons {i n : Nat} (h : i < n) : List.range' i (n - i) = i :: List.range' (i + 1) (n - (i + 1)) := by
  obtain ⟨d, hd⟩ : ∃ d, n - i = d + 1 := ⟨n - i - 1, by omega⟩
  rw [hd, List.range'_succ, show n - (i + 1) = d by omega]
theorem range_nil {i n : Nat} (h : n ≤ i) : List.range' i (n - i) = [] := by
  rw [show n - i = 0 by omega]
  rfl
theorem succ_cast (i : Nat) : ((i : Int) + 1) = ((i + 1 : Nat) : Int) := by omega

/-! ### lists -/
theorem rdOf_get {α : Type} {d : α} {l : List α} {i : Nat} (h : i < l.length) : rdOf d l (i : Int) = l[i] := by
  unfold rdOf
  simp [h]
theorem rd_get {l : List Int} {i : Nat} (h : i < l.length) : rd l (i : Int) = l[i] := by
  unfold rd
  simp [h]
theorem toList_eq (s : ByteArray) : s.toList = s.data.toList := Go.ByteArray.toList_eq s
instance lawfulBA : LawfulBEq ByteArray where
  eq_of_beq {a b} h := ByteArray.ext (eq_of_beq (α := Array UInt8) h)
  rfl {a} := by
    show (a.data == a.data) = true
    simp
theorem toList_inj {a b : ByteArray} : a.toList = b.toList ↔ a = b := by
  constructor
  · intro h
    rw [toList_eq, toList_eq] at h
    cases a
    cases b
    simp only [ByteArray.mk.injEq]
    exact Array.toList_inj.1 h
  · intro h
    rw [h]
theorem set_known {α : Type} {l x : List α} {i : Nat} {a : α} (hi : i < l.length) (hx : x.length = l.length) (ha : a = l[i]) (h : ∀ j, j < i → x[j]? = l[j]?) : ∀ j, j < i + 1 → (x.set i a)[j]? = l[j]? := by
  intro j hj
  by_cases e : j = i
  · subst e
    rw [List.getElem?_set_self (by omega), ha, List.getElem?_eq_getElem hi]
  · rw [List.getElem?_set_ne (Ne.symm e)]
    exact h j (by omega)
theorem all_known {α : Type} {l x : List α} (hx : x.length = l.length) (h : ∀ j, j < l.length → x[j]? = l[j]?) : x = l := by
  apply List.ext_getElem?
  intro j
  by_cases hj : j < l.length
  · exact h j hj
  · rw [List.getElem?_eq_none (by omega), List.getElem?_eq_none (by omega)]

/-! ### slotname -/
def digs (u : Nat) : List UInt8 := if u = 0 then [] else Lib.decDigits u
theorem digs_step (u : Nat) (h : u ≠ 0) : digs u = digs (u / 10) ++ [UInt8.ofNat (48 + u % 10)] := by
  unfold digs
  rw [if_neg h]
  by_cases h1 : u < 10
  · rw [if_pos (by omega), Lib.decDigits, dif_pos h1, show u % 10 = u by omega]
    rfl
  · rw [if_neg (by omega), Lib.decDigits, dif_neg h1]
def sgnM (n : Int) (s : ByteArray) : ByteArray := if n < 0 then (⟨#[45]⟩ : ByteArray) ++ s else s
theorem one_byte (v : Nat) (h : v < 10) : strOfNums [((48 : Int) + (v : Int)) % 256] = ⟨#[UInt8.ofNat (48 + v)]⟩ := by
  have : v = 0 ∨ v = 1 ∨ v = 2 ∨ v = 3 ∨ v = 4 ∨ v = 5 ∨ v = 6 ∨ v = 7 ∨ v = 8 ∨ v = 9 := by omega
  rcases this with rfl | rfl | rfl | rfl | rfl | rfl | rfl | rfl | rfl | rfl <;> rfl
theorem cons_text (u : Nat) (h : u ≠ 0) (acc : ByteArray) : (⟨(digs (u / 10)).toArray⟩ : ByteArray) ++ ((⟨#[UInt8.ofNat (48 + u % 10)]⟩ : ByteArray) ++ acc) = (⟨(digs u).toArray⟩ : ByteArray) ++ acc := by
  apply ByteArray.ext
  apply Array.ext'
  rw [ByteArray.data_append, ByteArray.data_append, ByteArray.data_append, Array.toList_append, Array.toList_append, Array.toList_append, digs_step u h]
  simp
theorem spec_FormatInt_l0_ev (n : Int) : ∀ (d : Nat) (x : Int) (acc : ByteArray), x.natAbs < 10 ^ d → acc.size + d ≤ 1000 → d ≤ 19 → Ev (fun k => spec_FormatInt.l0 k n acc x) (sgnM n ((⟨(digs x.natAbs).toArray⟩ : ByteArray) ++ acc)) := by
  intro d
  induction d with
  | zero =>
    intro x acc hx ha _
    have h0 : x = 0 := by
      have : x.natAbs < 1 := by simpa using hx
      omega
    subst h0
    have e : (⟨(digs (0 : Int).natAbs).toArray⟩ : ByteArray) ++ acc = acc := by
      apply ByteArray.ext
      apply Array.ext'
      rw [ByteArray.data_append, Array.toList_append]
      rfl
    rw [e]
    apply ev_succ
    simp only [spec_FormatInt.l0]
    refine ev_pos (by trivial) ?_
    unfold sgnM
    by_cases hn : n < 0
    · refine ev_pos hn (ev_pos (by omega) (ev_now ?_))
      rw [if_pos hn]
    · refine ev_neg hn (ev_now ?_)
      rw [if_neg hn]
  | succ d ih =>
    intro x acc hx ha hd
    by_cases h0 : x = 0
    · subst h0
      exact ih 0 acc (by simp; exact Nat.pow_pos (by omega)) (by omega) (by omega)
    · have hu : x.natAbs ≠ 0 := by omega
      have hlt : x.natAbs / 10 < 10 ^ d := by
        have : 10 ^ (d + 1) = 10 ^ d * 10 := Nat.pow_succ 10 d
        omega
      have hbig : (10 : Nat) ^ (d + 1) ≤ 10 ^ 19 := Nat.pow_le_pow_right (by omega) hd
      have hb19 : (10 : Nat) ^ 19 = 10000000000000000000 := by decide
      rw [← cons_text x.natAbs hu acc]
      have h1 : ((⟨#[UInt8.ofNat (48 + x.natAbs % 10)]⟩ : ByteArray) ++ acc).size ≤ acc.size + 1 := by
        rw [ByteArray.size_append]
        have : (⟨#[UInt8.ofNat (48 + x.natAbs % 10)]⟩ : ByteArray).size = 1 := rfl
        omega
      have hs1 : (⟨#[UInt8.ofNat (48 + x.natAbs % 10)]⟩ : ByteArray).size + acc.size ≤ 9223372036854775807 := by
        have : (⟨#[UInt8.ofNat (48 + x.natAbs % 10)]⟩ : ByteArray).size = 1 := rfl
        omega
      have hone := one_byte (x.natAbs % 10) (Nat.mod_lt _ (by omega))
      apply ev_succ
      simp only [spec_FormatInt.l0]
      refine ev_neg h0 ?_
      by_cases hp : 0 ≤ x
      · obtain ⟨m, rfl⟩ := Int.eq_ofNat_of_zero_le hp
        have e1 : Int.tmod (m : Int) 10 = ((m % 10 : Nat) : Int) := rfl
        have e2 : Int.tdiv (m : Int) 10 = ((m / 10 : Nat) : Int) := rfl
        simp only [Int.natAbs_natCast] at hone hlt h1 hs1 hx hbig hb19 ⊢
        have := ih ((m / 10 : Nat) : Int) ((⟨#[UInt8.ofNat (48 + m % 10)]⟩ : ByteArray) ++ acc) (by rw [Int.natAbs_natCast]; exact hlt) (by omega) (by omega)
        simp only [Int.natAbs_natCast] at this
        rw [e1, e2, wrap64_id (n := 48 + ((m % 10 : Nat) : Int)) (by omega) (by omega), wrap64_id (n := ((m / 10 : Nat) : Int)) (by omega) (by omega)]
        refine ev_neg (by omega) (ev_let rfl ?_)
        rw [hone]
        exact ev_pos hs1 this
      · obtain ⟨m, hm⟩ : ∃ m : Nat, x = -(m : Int) := ⟨x.natAbs, by omega⟩
        subst hm
        have e1 : Int.tmod (-(m : Int)) 10 = -((m % 10 : Nat) : Int) := by rw [Int.neg_tmod]; rfl
        have e2 : Int.tdiv (-(m : Int)) 10 = -((m / 10 : Nat) : Int) := by rw [Int.neg_tdiv]; rfl
        simp only [Int.natAbs_neg, Int.natAbs_natCast] at hone hlt h1 hs1 hx hbig hb19 ⊢
        have := ih (-((m / 10 : Nat) : Int)) ((⟨#[UInt8.ofNat (48 + m % 10)]⟩ : ByteArray) ++ acc) (by rw [Int.natAbs_neg, Int.natAbs_natCast]; exact hlt) (by omega) (by omega)
        simp only [Int.natAbs_neg, Int.natAbs_natCast] at this
        rw [e1, e2, wrap64_id (n := -((m / 10 : Nat) : Int)) (by omega) (by omega), Int.neg_neg, wrap64_id (n := ((m % 10 : Nat) : Int)) (by omega) (by omega)]
        by_cases hz : -((m % 10 : Nat) : Int) < 0
        · rw [wrap64_id (n := 48 + ((m % 10 : Nat) : Int)) (by omega) (by omega)]
          refine ev_pos hz (ev_let rfl ?_)
          rw [hone]
          exact ev_pos hs1 this
        · have ez : -((m % 10 : Nat) : Int) = ((m % 10 : Nat) : Int) := by omega
          rw [ez, wrap64_id (n := 48 + ((m % 10 : Nat) : Int)) (by omega) (by omega)]
          refine ev_neg (by omega) (ev_let rfl ?_)
          rw [hone]
          exact ev_pos hs1 this
theorem itoa_sgn (n : Int) (h : n ≠ 0) : itoaM n = sgnM n (⟨(digs n.natAbs).toArray⟩ : ByteArray) := by
  unfold itoaM Lib.itoa sgnM digs
  have hd : (if n.natAbs = 0 then [] else Lib.decDigits n.natAbs) = Lib.decDigits n.natAbs := if_neg (by omega)
  rw [hd]
  by_cases hn : n < 0
  · rw [if_pos hn, if_pos hn]
    apply ByteArray.ext
    apply Array.ext'
    rw [ByteArray.data_append, Array.toList_append]
    rfl
  · rw [if_neg hn, if_neg hn, show n.toNat = n.natAbs by omega]
theorem spec_FormatInt_ev (n : Int) (h0 : -9223372036854775808 ≤ n) (h1 : n ≤ 9223372036854775807) : Ev (fun k => spec_FormatInt.f k n) (itoaM n) := by
  unfold spec_FormatInt.f
  by_cases h : n = 0
  · subst h
    refine ev_pos rfl (ev_now ?_)
    unfold itoaM Lib.itoa
    rw [if_neg (by omega)]
    show _ = (⟨(Lib.decDigits 0).toArray⟩ : ByteArray)
    rw [Lib.decDigits, dif_pos (by omega)]
    rfl
  · refine ev_neg h ?_
    rw [itoa_sgn n h]
    have hb : n.natAbs < 10 ^ 19 := by
      have hb19 : (10 : Nat) ^ 19 = 10000000000000000000 := by decide
      omega
    have := spec_FormatInt_l0_ev n 19 n ⟨#[]⟩ hb (by decide) (by omega)
    have e : (⟨(digs n.natAbs).toArray⟩ : ByteArray) ++ (⟨#[]⟩ : ByteArray) = ⟨(digs n.natAbs).toArray⟩ := by
      apply ByteArray.ext
      apply Array.ext'
      rw [ByteArray.data_append, Array.toList_append]
      simp
    rw [e] at this
    exact this
theorem decDigits_length : ∀ (d u : Nat), u < 10 ^ (d + 1) → (Lib.decDigits u).length ≤ d + 1
  | 0, u, h => by
    rw [Lib.decDigits, dif_pos (by simpa using h)]
    simp
  | d + 1, u, h => by
    rw [Lib.decDigits]
    split
    · simp
    · have h2 : u / 10 < 10 ^ (d + 1) := by
        have : 10 ^ (d + 1 + 1) = 10 ^ (d + 1) * 10 := Nat.pow_succ 10 (d + 1)
        omega
      have := decDigits_length d (u / 10) h2
      rw [List.length_append]
      simp
      omega
theorem itoaM_size (n : Int) (h0 : -9223372036854775808 ≤ n) (h1 : n ≤ 9223372036854775807) : (itoaM n).size ≤ 100 := by
  have e : (itoaM n).size = (Lib.itoa n).length := by
    show (Lib.itoa n).toArray.size = _
    rw [List.size_toArray]
  have hb19 : (10 : Nat) ^ 19 = 10000000000000000000 := by decide
  have h2 := decDigits_length 18 n.natAbs (by show n.natAbs < 10 ^ 19; omega)
  have h3 := decDigits_length 18 n.toNat (by show n.toNat < 10 ^ 19; omega)
  rw [e]
  unfold Lib.itoa
  split
  · rw [List.length_cons]
    omega
  · omega
theorem spec_SlotName_ev (n : Int) (d : Bool) (a b : Int) (h0 : -9223372036854775808 ≤ n) (h1 : n ≤ 9223372036854775807) : Ev (fun k => spec_SlotName.f k n d a b) (itoaM n ++ (if d = true then (⟨#[100]⟩ : ByteArray) else ⟨#[97]⟩)) := by
  have hs := itoaM_size n h0 h1
  have hf := spec_FormatInt_ev n h0 h1
  unfold spec_SlotName.f
  cases d with
  | true => exact ev_pos rfl (ev_bind hf (ev_pos (by omega) (ev_now rfl)))
  | false => exact ev_neg (by simp) (ev_bind hf (ev_pos (by omega) (ev_now rfl)))

/-! ### the law -/
theorem FnExactSlotName (n : Int) (d : Bool) (a b : Int) (h : -9223372036854775808 ≤ n ∧ n ≤ 9223372036854775807) : ∃ (k : Nat) (T : ByteArray), spec_SlotName.f k n d a b = some T ∧ impl_SlotName.f n d = some T := by
  obtain ⟨K, hK⟩ := spec_SlotName_ev n d a b h.1 h.2
  have hs := itoaM_size n h.1 h.2
  exact ⟨K, _, hK K (Nat.le_refl _), if_pos ⟨h, by omega⟩⟩

end Go.Proofs.YtgmhjinlpikpjaeDoor.Pure
