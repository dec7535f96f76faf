/-
  The law FnExactFormOf over numbers and lists: the program's FormOf and the reference's answer alike for every grid.
  Conditions: none.
-/
import Derived.Test.YtachbhggeibciaaQFnExactFormOfx
namespace Go.Proofs.Ytachbhggeibciaa.Pure
open Go.RowKit Go.Proofs.Ytachbhggeibciaa.QFnExactFormOf Go.Proofs.YtachbhggeibciaaW.PrintWords Go.Proofs.YtachbhggeibciaaW.PrintLast Go.Proofs.YtachbhggeibciaaW.PrintMore
set_option linter.unusedVariables false
set_option linter.unusedSimpArgs false

/-! ### base -/
theorem wrap64_id {n : Int} (h : -9223372036854775808 ≤ n) (h' : n ≤ 9223372036854775807) : wrap64 n = n := by
  unfold wrap64
  omega
section
variable {α β : Type}
theorem ev_succ {g : Nat → Option α} {r : α} (h : Ev (fun k => g (k + 1)) r) : Ev g r := Ev.step (fun _ => rfl) h
theorem ev_pos {c : Prop} [Decidable c] {g f : Nat → Option α} {r : α} (h : c) (k : Ev g r) : Ev (fun n => if c then g n else f n) r := by
  simpa only [if_pos h] using k
theorem ev_neg {c : Prop} [Decidable c] {g f : Nat → Option α} {r : α} (h : ¬ c) (k : Ev f r) : Ev (fun n => if c then g n else f n) r := by
  simpa only [if_neg h] using k
theorem ev_now {a r : α} (h : a = r) : Ev (fun _ => some a) r := h ▸ Ev.now a
theorem ev_let {o : Option β} {a : β} {f : Nat → β → Option α} {r : α} (h : o = some a) (k : Ev (fun n => f n a) r) : Ev (fun n => o.bind (f n)) r := by
  subst h
  exact k
theorem ev_bind {g : Nat → Option β} {f : Nat → β → Option α} {a : β} {r : α} (h : Ev g a) (k : Ev (fun n => f n a) r) : Ev (fun n => (g n).bind (f n)) r := Ev.bind h k
theorem ev_eq {g : Nat → Option α} {a r : α} (h : Ev g a) (e : a = r) : Ev g r := e ▸ h
end
/-- From the end of a loop back to a round: P holds from n on, and a round below n may use the next. -/
theorem down {P : Nat → Prop} (n : Nat) (hend : ∀ i, n ≤ i → P i) (hstep : ∀ i, i < n → P (i + 1) → P i) : ∀ i, P i := by
  intro i
  rcases Nat.lt_or_ge i n with h | h
  · obtain ⟨d, hd⟩ : ∃ d, n = i + d := ⟨n - i, by omega⟩
    induction d generalizing i with
    | zero => omega
    | succ d ih =>
      refine hstep i h ?_
      rcases Nat.lt_or_ge (i + 1) n with h1 | h1
      · exact ih (i + 1) h1 (by omega)
      · exact hend _ h1
  · exact hend i h
theorem range_cons {i n : Nat} (h : i < n) : List.range' i (n - i) = i :: List.range' (i + 1) (n - (i + 1)) := by
  obtain ⟨d, hd⟩ : ∃ d, n - i = d + 1 := ⟨n - i - 1, by omega⟩
  rw [hd, List.range'_succ, show n - (i + 1) = d by omega]
theorem range_nil {i n : Nat} (h : n ≤ i) : List.range' i (n - i) = [] := by
  rw [show n - i = 0 by omega]
  rfl
theorem succ_cast (i : Nat) : ((i : Int) + 1) = ((i + 1 : Nat) : Int) := by omega

/-! ### lists -/
theorem rdOf_get {α : Type} {d : α} {l : List α} {i : Nat} (h : i < l.length) : rdOf d l (i : Int) = l[i] := by
  unfold rdOf
  simp [h]
theorem rd_get {l : List Int} {i : Nat} (h : i < l.length) : rd l (i : Int) = l[i] := by
  unfold rd
  simp [h]
theorem toList_eq (s : ByteArray) : s.toList = s.data.toList := Go.ByteArray.toList_eq s
instance lawfulBA : LawfulBEq ByteArray where
  eq_of_beq {a b} h := ByteArray.ext (eq_of_beq (α := Array UInt8) h)
  rfl {a} := by
    show (a.data == a.data) = true
    simp
theorem toList_inj {a b : ByteArray} : a.toList = b.toList ↔ a = b := by
  constructor
  · intro h
    rw [toList_eq, toList_eq] at h
    cases a
    cases b
    simp only [ByteArray.mk.injEq]
    exact Array.toList_inj.1 h
  · intro h
    rw [h]
theorem set_known {α : Type} {l x : List α} {i : Nat} {a : α} (hi : i < l.length) (hx : x.length = l.length) (ha : a = l[i]) (h : ∀ j, j < i → x[j]? = l[j]?) : ∀ j, j < i + 1 → (x.set i a)[j]? = l[j]? := by
  intro j hj
  by_cases e : j = i
  · subst e
    rw [List.getElem?_set_self (by omega), ha, List.getElem?_eq_getElem hi]
  · rw [List.getElem?_set_ne (Ne.symm e)]
    exact h j (by omega)
theorem all_known {α : Type} {l x : List α} (hx : x.length = l.length) (h : ∀ j, j < l.length → x[j]? = l[j]?) : x = l := by
  apply List.ext_getElem?
  intro j
  by_cases hj : j < l.length
  · exact h j hj
  · rw [List.getElem?_eq_none (by omega), List.getElem?_eq_none (by omega)]

/-! ### word -/
/-- A byte is a small letter. -/
def isL (c : Int) : Bool := decide (97 ≤ c ∧ c ≤ 122)
/-- A word: one to eight small letters. -/
def wordM (s : ByteArray) : Bool := decide (1 ≤ s.size ∧ s.size ≤ 8) && (List.range' 0 (s.size - 0)).all fun j => isL (bt s j)
theorem spec_l1In_eq (a b c : Int) : spec_l1In.f a b c = some (decide (b ≤ a ∧ a ≤ c)) := by
  unfold spec_l1In.f
  by_cases h : b ≤ a
  · rw [if_pos h]; simp [h]
  · rw [if_neg h]; simp [h]
theorem impl_InRange_eq (a b c : Int) : impl_InRange.f a b c = some (decide (b ≤ a ∧ a ≤ c)) := by
  unfold impl_InRange.f
  by_cases h : b ≤ a
  · rw [if_pos h]; simp [h]
  · rw [if_neg h]; simp [h]
theorem impl_isLetter_eq (c : Int) : impl_isLetter.f c = some (isL c) := by
  unfold impl_isLetter.f isL
  by_cases h : c ≥ 97
  · rw [if_pos h]; congr 1; simp; omega
  · rw [if_neg h]; congr 1; simp; omega
theorem wordM_size {s : ByteArray} (h : wordM s = true) : 1 ≤ s.size ∧ s.size ≤ 8 := by
  simp only [wordM, Bool.and_eq_true, decide_eq_true_eq] at h
  exact h.1

/-! ### grid -/
/-- A cell's sign. -/
def isC (c : Int) : Bool := decide (c = 35) || decide (c = 46)
/-- A grid: 2 to 6 rows and columns, its cells black or white. -/
def gridM (r c : Int) (s : ByteArray) : Bool := decide (2 ≤ r ∧ r ≤ 6) && decide (2 ≤ c ∧ c ≤ 6) && decide ((s.size : Int) = r * c) && (List.range' 0 (s.size - 0)).all fun j => isC (bt s j)
theorem gridM_nat {r c : Int} {s : ByteArray} (h : gridM r c s = true) : ∃ R C : Nat, r = R ∧ c = C ∧ 2 ≤ R ∧ R ≤ 6 ∧ 2 ≤ C ∧ C ≤ 6 ∧ s.size = R * C := by
  simp only [gridM, Bool.and_eq_true, decide_eq_true_eq] at h
  obtain ⟨⟨⟨hr, hc⟩, hs⟩, _⟩ := h
  obtain ⟨R, rfl⟩ := Int.eq_ofNat_of_zero_le (show 0 ≤ r by omega)
  obtain ⟨C, rfl⟩ := Int.eq_ofNat_of_zero_le (show 0 ≤ c by omega)
  exact ⟨R, C, rfl, rfl, by omega, by omega, by omega, by omega, by exact_mod_cast hs⟩
theorem bounds36 {R C : Nat} (hR : R ≤ 6) (hC : C ≤ 6) : R * C ≤ 36 := Nat.mul_le_mul hR hC
theorem spec_IsGrid_l0_ev (r c : Int) (s : ByteArray) (hs : s.size ≤ 140737488351232) : ∀ i : Nat, i ≤ s.size → Ev (fun k => spec_IsGrid.l0 k i r c s) ((List.range' i (s.size - i)).all fun j => isC (bt s j)) := by
  refine down s.size ?_ ?_
  · intro i h hi
    apply ev_succ
    simp only [spec_IsGrid.l0]
    refine ev_neg (by omega) (ev_now ?_)
    rw [range_nil h]; rfl
  · intro i h ih hi
    apply ev_succ
    simp only [spec_IsGrid.l0]
    rw [range_cons h, List.all_cons, wrap64_id (by omega) (by omega), succ_cast]
    refine ev_pos (by omega) (ev_pos (by omega) ?_)
    by_cases h1 : bt s i = 35
    · exact ev_pos h1 (ev_eq (ih (by omega)) (by simp [isC, h1]))
    · refine ev_neg h1 ?_
      by_cases h2 : bt s i = 46
      · exact ev_pos h2 (ev_eq (ih (by omega)) (by simp [isC, h2]))
      · exact ev_neg h2 (ev_now (by simp [isC, h1, h2]))
theorem impl_IsGrid_l0_ev (r c : Int) (s : ByteArray) (hs : s.size ≤ 140737488351232) : ∀ i : Nat, i ≤ s.size → Ev (fun k => impl_IsGrid.l0 k s.size i r c s) ((List.range' i (s.size - i)).all fun j => isC (bt s j)) := by
  refine down s.size ?_ ?_
  · intro i h hi
    apply ev_succ
    simp only [impl_IsGrid.l0]
    refine ev_neg (by omega) (ev_now ?_)
    rw [range_nil h]; rfl
  · intro i h ih hi
    apply ev_succ
    simp only [impl_IsGrid.l0]
    rw [range_cons h, List.all_cons, wrap64_id (by omega) (by omega), succ_cast]
    refine ev_pos (by omega) (ev_pos (by omega) (ev_pos (by omega) ?_))
    by_cases h1 : bt s i = 35
    · exact ev_pos h1 (ev_eq (ih (by omega)) (by simp [isC, h1]))
    · refine ev_neg h1 ?_
      by_cases h2 : bt s i = 46
      · exact ev_pos h2 (ev_eq (ih (by omega)) (by simp [isC, h2]))
      · exact ev_neg h2 (ev_now (by simp [isC, h1, h2]))
theorem wrap_mul {r c : Int} (hr : 2 ≤ r ∧ r ≤ 6) (hc : 2 ≤ c ∧ c ≤ 6) : wrap64 (r * c) = r * c := by
  have h1 : 0 ≤ r * c := Int.mul_nonneg (by omega) (by omega)
  have h2 : r * c ≤ 6 * 6 := Int.mul_le_mul hr.2 hc.2 (by omega) (by omega)
  exact wrap64_id (by omega) (by omega)
theorem spec_IsGrid_ev (r c : Int) (s : ByteArray) (hs : s.size ≤ 140737488351232) : Ev (fun k => spec_IsGrid.f k r c s) (gridM r c s) := by
  unfold spec_IsGrid.f
  refine ev_let (spec_l1In_eq _ _ _) ?_
  by_cases hr : 2 ≤ r ∧ r ≤ 6
  · refine ev_pos (by simpa using hr) (ev_let (spec_l1In_eq _ _ _) ?_)
    by_cases hc : 2 ≤ c ∧ c ≤ 6
    · refine ev_pos (by simpa using hc) ?_
      rw [wrap_mul hr hc]
      apply ev_succ
      simp only [spec_IsGrid.j0]
      by_cases hn : (s.size : Int) = r * c
      · refine ev_neg (by simp [hn]) (ev_eq (spec_IsGrid_l0_ev r c s hs 0 (by omega)) ?_)
        simp [gridM, hr, hc, hn]
      · exact ev_pos (by simp [hn]) (ev_now (by simp [gridM, hn]))
    · refine ev_neg (by simpa using hc) (ev_succ ?_)
      simp only [spec_IsGrid.j0]
      exact ev_pos (by simp) (ev_now (by simp [gridM, hc]))
  · refine ev_neg (by simpa using hr) (ev_succ ?_)
    simp only [spec_IsGrid.j0]
    exact ev_pos (by simp) (ev_now (by simp [gridM, hr]))
theorem impl_IsGrid_ev (r c : Int) (s : ByteArray) (hs : s.size ≤ 140737488351232) : Ev (fun k => impl_IsGrid.f k r c s) (gridM r c s) := by
  unfold impl_IsGrid.f
  refine ev_let (impl_InRange_eq _ _ _) ?_
  by_cases hr : 2 ≤ r ∧ r ≤ 6
  · refine ev_pos (by simpa using hr) (ev_let (impl_InRange_eq _ _ _) ?_)
    by_cases hc : 2 ≤ c ∧ c ≤ 6
    · refine ev_pos (by simpa using hc) ?_
      rw [wrap_mul hr hc]
      apply ev_succ
      simp only [impl_IsGrid.j0]
      by_cases hn : (s.size : Int) = r * c
      · refine ev_neg (by simp [hn]) (ev_eq (impl_IsGrid_l0_ev r c s hs 0 (by omega)) ?_)
        simp [gridM, hr, hc, hn]
      · exact ev_pos (by simp [hn]) (ev_now (by simp [gridM, hn]))
    · refine ev_neg (by simpa using hc) (ev_succ ?_)
      simp only [impl_IsGrid.j0]
      exact ev_pos (by simp) (ev_now (by simp [gridM, hc]))
  · refine ev_neg (by simpa using hr) (ev_succ ?_)
    simp only [impl_IsGrid.j0]
    exact ev_pos (by simp) (ev_now (by simp [gridM, hr]))

/-! ### conn -/
/-- Two cells side by side, or one above the other, in a grid of C columns. -/
def Nb (C i j : Nat) : Prop := (i / C = j / C ∧ (i % C + 1 = j % C ∨ j % C + 1 = i % C)) ∨ (i % C = j % C ∧ (i / C + 1 = j / C ∨ j / C + 1 = i / C))
theorem Nb.symm {C i j : Nat} (h : Nb C i j) : Nb C j i := by
  unfold Nb at *
  omega
/-- The white cells that are connected with a white cell. -/
inductive Con (R C : Nat) (s : ByteArray) (i : Nat) : Nat → Prop
  | here : i < R * C → bt s i = 46 → Con R C s i i
  | next {j k : Nat} : Con R C s i j → Nb C j k → k < R * C → bt s k = 46 → Con R C s i k
theorem Con.head {R C : Nat} {s : ByteArray} {i j k : Nat} (hi : i < R * C) (hw : bt s i = 46) (hn : Nb C i j) (h : Con R C s j k) : Con R C s i k := by
  induction h with
  | here h1 h2 => exact .next (.here hi hw) hn h1 h2
  | next _ h2 h3 h4 ih => exact .next ih h2 h3 h4
/-- Is a cell marked? -/
def mkd (m : List Bool) (i : Nat) : Prop := m.getD i false = true
theorem mk_set_self {m : List Bool} {i : Nat} (h : i < m.length) : mkd (m.set i true) i := by
  simp [mkd, List.getD_eq_getElem?_getD, h]
theorem mk_set_iff {m : List Bool} {i j : Nat} (h : i < m.length) : mkd (m.set i true) j ↔ i = j ∨ mkd m j := by
  unfold mkd
  simp only [List.getD_eq_getElem?_getD, List.getElem?_set]
  by_cases e : i = j
  · subst e
    simp [h]
  · simp [e]
theorem mk_ext {a b : List Bool} (hl : a.length = b.length) (h : ∀ i, i < a.length → (mkd a i ↔ mkd b i)) : a = b := by
  apply List.ext_getElem hl
  intro i h1 h2
  have := h i h1
  simp [mkd, h1, h2] at this
  exact this
/-- A cell of the grid, a white one, by its row and column. -/
def okRC (R C : Nat) (s : ByteArray) (r c : Int) : Prop := (0 ≤ r ∧ r < R) ∧ (0 ≤ c ∧ c < C) ∧ bt s (r * C + c) = 46
theorem rc_nat {R C : Nat} {r c : Int} (hr : 0 ≤ r ∧ r < R) (hc : 0 ≤ c ∧ c < C) : ∃ i : Nat, r * C + c = i ∧ i < R * C ∧ ((i / C : Nat) : Int) = r ∧ ((i % C : Nat) : Int) = c := by
  obtain ⟨a, rfl⟩ := Int.eq_ofNat_of_zero_le hr.1
  obtain ⟨b, rfl⟩ := Int.eq_ofNat_of_zero_le hc.1
  have h0 : 0 < C := by omega
  have hb : b < C := by omega
  have ha : a < R := by omega
  refine ⟨a * C + b, by simp, ?_, ?_, ?_⟩
  · have : (a + 1) * C ≤ R * C := Nat.mul_le_mul_right _ ha
    rw [Nat.add_mul, Nat.one_mul] at this
    omega
  · rw [Nat.mul_comm, Nat.mul_add_div h0, Nat.div_eq_of_lt hb, Nat.add_zero]
  · rw [Nat.mul_comm, Nat.mul_add_mod, Nat.mod_eq_of_lt hb]
/-- What a visit of a cell does to the marks. -/
structure Vis (R C : Nat) (s : ByteArray) (m : List Bool) (r c : Int) (m' : List Bool) : Prop where
  len : m'.length = m.length
  cnt : m'.count false ≤ m.count false
  mono : ∀ i, mkd m i → mkd m' i
  src : ∀ i, mkd m' i → mkd m i ∨ (okRC R C s r c ∧ Con R C s (r * C + c).toNat i)
  cl : ∀ i, mkd m' i → ¬ mkd m i → ∀ j, Nb C i j → j < R * C → bt s j = 46 → mkd m' j
  hit : okRC R C s r c → mkd m' (r * C + c).toNat
/-- On the way through a visit that has marked the cell i0. -/
structure Mid (R C : Nat) (s : ByteArray) (i0 : Nat) (m m' : List Bool) : Prop where
  len : m'.length = m.length
  cnt : m'.count false ≤ m.count false
  mono : ∀ i, mkd m i → mkd m' i
  src : ∀ i, mkd m' i → mkd m i ∨ Con R C s i0 i
  cl : ∀ i, mkd m' i → ¬ mkd m i → ∀ j, Nb C i j → j < R * C → bt s j = 46 → mkd m' j
theorem Mid.refl (R C : Nat) (s : ByteArray) (i0 : Nat) (m : List Bool) : Mid R C s i0 m m := ⟨rfl, Nat.le_refl _, fun _ h => h, fun _ h => .inl h, fun _ h h' => absurd h h'⟩
theorem Mid.step {R C : Nat} {s : ByteArray} {i0 : Nat} {m a b : List Bool} {r c : Int} (hi : i0 < R * C) (hw : bt s i0 = 46) (h : Mid R C s i0 m a) (hv : Vis R C s a r c b)
    (hn : ∀ i, r * C + c = (i : Nat) → ((i / C : Nat) : Int) = r → ((i % C : Nat) : Int) = c → Nb C i0 i) : Mid R C s i0 m b := by
  refine ⟨hv.len.trans h.len, Nat.le_trans hv.cnt h.cnt, fun i hm => hv.mono i (h.mono i hm), fun i hm => ?_, fun i hm hno j hj hlt hwj => ?_⟩
  · rcases hv.src i hm with h1 | ⟨hok, hcon⟩
    · exact h.src i h1
    · obtain ⟨q, e1, e2, e3, e4⟩ := rc_nat hok.1 hok.2.1
      rw [e1, Int.toNat_natCast] at hcon
      exact .inr (Con.head hi hw (hn q e1 e3 e4) hcon)
  · by_cases ha : mkd a i
    · exact hv.mono j (h.cl i ha hno j hj hlt hwj)
    · exact hv.cl i hm ha j hj hlt hwj
theorem visF_spec (R C : Nat) (s : ByteArray) (h0 : 0 < C) : ∀ (k : Nat) (m : List Bool) (r c : Int), m.length = R * C → m.count false < k → Vis R C s m r c (visF R C s k m r c)
  | 0, _, _, _, _, h => by omega
  | k + 1, m, r, c, hl, hk => by
    unfold visF
    by_cases hc : (0 ≤ r ∧ r < R) ∧ (0 ≤ c ∧ c < C) ∧ (m.getD (r * C + c).toNat false = false ∧ bt s (r * C + c) = 46)
    · rw [if_pos hc]
      obtain ⟨hr, hcc, hno, hw⟩ := hc
      obtain ⟨i0, e1, e2, e3, e4⟩ := rc_nat hr hcc
      rw [e1, Int.toNat_natCast] at hno ⊢
      rw [e1] at hw
      have hil : i0 < m.length := by omega
      have hno' : m[i0] = false := by simpa [List.getD_eq_getElem?_getD, hil] using hno
      have hcnt : (m.set i0 true).count false + 1 = m.count false := by
        have hpos : 0 < m.count false := List.count_pos_iff.mpr (hno' ▸ List.getElem_mem hil)
        rw [List.count_set hil]
        simp [hno']
        omega
      have hlen1 : (m.set i0 true).length = R * C := by simpa using hl
      have ih := fun (m : List Bool) (r c : Int) hl hk => visF_spec R C s h0 k m r c hl hk
      have m1 := Mid.refl R C s i0 (m.set i0 true)
      have v1 := ih (m.set i0 true) (r - 1) c hlen1 (by omega)
      have m2 := m1.step e2 hw v1 (fun i a1 a2 a3 => by unfold Nb; omega)
      have v2 := ih _ (r + 1) c (m2.len.trans hlen1) (by have := m2.cnt; omega)
      have m3 := m2.step e2 hw v2 (fun i a1 a2 a3 => by unfold Nb; omega)
      have v3 := ih _ r (c - 1) (m3.len.trans hlen1) (by have := m3.cnt; omega)
      have m4 := m3.step e2 hw v3 (fun i a1 a2 a3 => by unfold Nb; omega)
      have v4 := ih _ r (c + 1) (m4.len.trans hlen1) (by have := m4.cnt; omega)
      have m5 := m4.step e2 hw v4 (fun i a1 a2 a3 => by unfold Nb; omega)
      have hok : okRC R C s r c := ⟨hr, hcc, by rw [e1]; exact hw⟩
      have hit0 := m5.mono i0 (mk_set_self hil)
      refine ⟨by have := m5.len; simpa using this, by have := m5.cnt; omega, fun i hm => m5.mono i ((mk_set_iff hil).2 (.inr hm)), fun i hm => ?_, fun i hm hno2 j hj hlt hwj => ?_, fun _ => by rw [e1, Int.toNat_natCast]; exact hit0⟩
      · rcases m5.src i hm with h1 | h1
        · rcases (mk_set_iff hil).1 h1 with rfl | h2
          · exact .inr ⟨hok, by rw [e1, Int.toNat_natCast]; exact .here e2 hw⟩
          · exact .inl h2
        · exact .inr ⟨hok, by rw [e1, Int.toNat_natCast]; exact h1⟩
      · by_cases hm1 : mkd (m.set i0 true) i
        · rcases (mk_set_iff hil).1 hm1 with rfl | h2
          · have hj' : ((j / C : Nat) : Int) < R := by
              have : j / C < R := (Nat.div_lt_iff_lt_mul h0).2 hlt
              omega
            have hjm := Nat.mod_lt j h0
            have hjd := Nat.div_add_mod j C
            have key : ∀ (r' c' : Int), ((j / C : Nat) : Int) = r' → ((j % C : Nat) : Int) = c' → r' * C + c' = (j : Nat) := by
              rintro _ _ rfl rfl
              rw [← Int.natCast_mul, ← Int.natCast_add, Nat.mul_comm, hjd]
            have okj : ∀ (r' c' : Int), ((j / C : Nat) : Int) = r' → ((j % C : Nat) : Int) = c' → okRC R C s r' c' := by
              intro r' c' h1 h2
              subst h1 h2
              refine ⟨⟨Int.natCast_nonneg _, hj'⟩, ⟨Int.natCast_nonneg _, by exact_mod_cast hjm⟩, ?_⟩
              rw [key _ _ rfl rfl]
              exact hwj
            rcases hj with ⟨g1, g2 | g2⟩ | ⟨g1, g2 | g2⟩
            · have := v4.hit (okj r (c + 1) (by omega) (by omega))
              rwa [key r (c + 1) (by omega) (by omega), Int.toNat_natCast] at this
            · have := v3.hit (okj r (c - 1) (by omega) (by omega))
              rw [key r (c - 1) (by omega) (by omega), Int.toNat_natCast] at this
              exact v4.mono _ this
            · have := v2.hit (okj (r + 1) c (by omega) (by omega))
              rw [key (r + 1) c (by omega) (by omega), Int.toNat_natCast] at this
              exact v4.mono _ (v3.mono _ this)
            · have := v1.hit (okj (r - 1) c (by omega) (by omega))
              rw [key (r - 1) c (by omega) (by omega), Int.toNat_natCast] at this
              exact v4.mono _ (v3.mono _ (v2.mono _ this))
          · exact absurd h2 hno2
        · exact m5.cl i hm hm1 j hj hlt hwj
    · rw [if_neg hc]
      refine ⟨rfl, Nat.le_refl _, fun _ h => h, fun _ h => .inl h, fun _ h h' => absurd h h', fun hok => ?_⟩
      unfold mkd
      cases hb : m.getD (r * C + c).toNat false with
      | true => rfl
      | false => exact absurd ⟨hok.1, hok.2.1, hb, hok.2.2⟩ hc
/-- Marks that hold whole parts. -/
def closedM (R C : Nat) (s : ByteArray) (m : List Bool) : Prop := ∀ i j, mkd m i → Nb C i j → j < R * C → bt s j = 46 → mkd m j
theorem vis_closed {R C : Nat} {s : ByteArray} {m m' : List Bool} {r c : Int} {i0 : Nat} (hm : closedM R C s m) (hv : Vis R C s m r c m') (hok : okRC R C s r c) (e : r * C + c = i0) :
    (∀ i, mkd m' i ↔ mkd m i ∨ Con R C s i0 i) ∧ closedM R C s m' := by
  have hcl : closedM R C s m' := by
    intro i j hi hn hj hw
    by_cases h : mkd m i
    · exact hv.mono j (hm i j h hn hj hw)
    · exact hv.cl i hi h j hn hj hw
  have hhit := hv.hit hok
  rw [e, Int.toNat_natCast] at hhit
  refine ⟨fun i => ⟨fun h => ?_, fun h => ?_⟩, hcl⟩
  · rcases hv.src i h with h1 | ⟨_, h1⟩
    · exact .inl h1
    · rw [e, Int.toNat_natCast] at h1
      exact .inr h1
  · rcases h with h | h
    · exact hv.mono i h
    · induction h with
      | here => exact hhit
      | next _ h2 h3 h4 ih => exact hcl _ _ ih h2 h3 h4
theorem dm {C q t : Nat} (h : t < C) : (C * q + t) / C = q ∧ (C * q + t) % C = t :=
  ⟨by rw [Nat.mul_add_div (by omega), Nat.div_eq_of_lt h, Nat.add_zero], by rw [Nat.mul_add_mod, Nat.mod_eq_of_lt h]⟩
theorem dm_of {C i q t : Nat} (h : t < C) (e : i = C * q + t) : i / C = q ∧ i % C = t := e ▸ dm h
theorem dm_ex {C : Nat} (h0 : 0 < C) (i : Nat) : ∃ q t, t < C ∧ i = C * q + t := ⟨i / C, i % C, Nat.mod_lt i h0, (Nat.div_add_mod i C).symm⟩
/-- Has a cell a marked neighbour? (as the reference asks) -/
def nearB (C : Nat) (m : List Bool) (i : Nat) : Bool :=
  (decide (0 < i % C) && m.getD (i - 1) false) || ((decide (i % C + 1 < C) && m.getD (i + 1) false) || ((decide (C ≤ i) && m.getD (i - C) false) || (decide (i + C < m.length) && m.getD (i + C) false)))
theorem nearB_iff {C : Nat} (h0 : 0 < C) {m : List Bool} {i : Nat} : nearB C m i = true ↔ ∃ j, mkd m j ∧ Nb C j i := by
  obtain ⟨q, t, ht, rfl⟩ := dm_ex h0 i
  obtain ⟨e1, e2⟩ := dm (q := q) ht
  have hm : ∀ j, mkd m j → j < m.length := by
    intro j hj
    by_cases h : j < m.length
    · exact h
    · simp [mkd, List.getD_eq_getElem?_getD, List.getElem?_eq_none (Nat.le_of_not_lt h)] at hj
  unfold nearB
  rw [e2]
  simp only [Bool.or_eq_true, Bool.and_eq_true, decide_eq_true_eq]
  unfold Nb
  constructor
  · rintro (⟨h1, h2⟩ | ⟨h1, h2⟩ | ⟨h1, h2⟩ | ⟨h1, h2⟩)
    · obtain ⟨f1, f2⟩ := dm_of (C := C) (i := C * q + t - 1) (q := q) (t := t - 1) (by omega) (by omega)
      exact ⟨_, h2, by rw [e1, e2, f1, f2]; omega⟩
    · obtain ⟨f1, f2⟩ := dm_of (C := C) (i := C * q + t + 1) (q := q) (t := t + 1) (by omega) (by omega)
      exact ⟨_, h2, by rw [e1, e2, f1, f2]; omega⟩
    · have hq : 0 < q := by
        rcases Nat.eq_zero_or_pos q with rfl | h
        · omega
        · exact h
      obtain ⟨p, rfl⟩ : ∃ p, q = p + 1 := ⟨q - 1, by omega⟩
      obtain ⟨f1, f2⟩ := dm_of (i := C * (p + 1) + t - C) (q := p) (t := t) ht (by rw [Nat.mul_add]; omega)
      exact ⟨_, h2, by rw [e1, e2, f1, f2]; omega⟩
    · obtain ⟨f1, f2⟩ := dm_of (i := C * q + t + C) (q := q + 1) (t := t) ht (by rw [Nat.mul_add]; omega)
      exact ⟨_, h2, by rw [e1, e2, f1, f2]; omega⟩
  · rintro ⟨j, hj, hn⟩
    have hjl := hm j hj
    obtain ⟨q', t', ht', rfl⟩ := dm_ex h0 j
    obtain ⟨f1, f2⟩ := dm (q := q') ht'
    rw [e1, e2, f1, f2] at hn
    rcases hn with ⟨rfl, h | h⟩ | ⟨rfl, h | h⟩
    · refine .inl ⟨by omega, ?_⟩
      rw [show C * q' + t - 1 = C * q' + t' by omega]
      exact hj
    · refine .inr (.inl ⟨by omega, ?_⟩)
      rw [show C * q' + t + 1 = C * q' + t' by omega]
      exact hj
    · subst h
      have e : C * (q' + 1) + t' = C * q' + t' + C := by rw [Nat.mul_add]; omega
      refine .inr (.inr (.inl ⟨by omega, ?_⟩))
      rw [e, Nat.add_sub_cancel]
      exact hj
    · subst h
      have e : C * (q + 1) + t' = C * q + t' + C := by rw [Nat.mul_add]; omega
      refine .inr (.inr (.inr ⟨by omega, ?_⟩))
      rw [← e]
      exact hj
/-- One pass of the reference over the cells from i on. -/
def passM (C : Nat) (s : ByteArray) : List Nat → Bool → List Bool → Bool × List Bool
  | [], a, m => (a, m)
  | i :: l, a, m => if m.getD i false = false ∧ bt s i = 46 ∧ nearB C m i = true then passM C s l true (m.set i true) else passM C s l a m
def reachM (C : Nat) (s : ByteArray) : Nat → List Bool → List Bool
  | 0, m => m
  | k + 1, m => if (passM C s (List.range' 0 m.length) false m).1 = true then reachM C s k (passM C s (List.range' 0 m.length) false m).2 else (passM C s (List.range' 0 m.length) false m).2
theorem pass_spec (R C : Nat) (s : ByteArray) (h0 : 0 < C) (i0 : Nat) : ∀ (l : List Nat) (a : Bool) (m : List Bool), (∀ i ∈ l, i < m.length) → m.length = R * C → (∀ i, mkd m i → Con R C s i0 i) →
    (passM C s l a m).2.length = m.length ∧ (∀ i, mkd m i → mkd (passM C s l a m).2 i) ∧ (∀ i, mkd (passM C s l a m).2 i → Con R C s i0 i) ∧
    (a = true → (passM C s l a m).1 = true) ∧ (passM C s l a m).2.count false ≤ m.count false ∧ (a = false → (passM C s l a m).1 = true → (passM C s l a m).2.count false < m.count false) ∧
    ((passM C s l a m).1 = false → (passM C s l a m).2 = m ∧ ∀ i ∈ l, bt s i = 46 → nearB C m i = true → mkd m i)
  | [], a, m, _, _, hs => ⟨rfl, fun _ h => h, hs, id, Nat.le_refl _, fun h1 h2 => by simp [passM, h1] at h2, fun _ => ⟨rfl, fun _ h => by cases h⟩⟩
  | i :: l, a, m, hl, hn, hs => by
    unfold passM
    have hi := hl i (by simp)
    by_cases hc : m.getD i false = false ∧ bt s i = 46 ∧ nearB C m i = true
    · rw [if_pos hc]
      obtain ⟨hc1, hc2, hc3⟩ := hc
      obtain ⟨j, hj, hnb⟩ := (nearB_iff h0).1 hc3
      have hno' : m[i] = false := by simpa [List.getD_eq_getElem?_getD, hi] using hc1
      have hcnt : (m.set i true).count false + 1 = m.count false := by
        have hpos : 0 < m.count false := List.count_pos_iff.mpr (hno' ▸ List.getElem_mem hi)
        rw [List.count_set hi]
        simp [hno']
        omega
      have hs' : ∀ k, mkd (m.set i true) k → Con R C s i0 k := by
        intro k hk
        rcases (mk_set_iff hi).1 hk with rfl | h
        · exact .next (hs j hj) hnb (by omega) hc2
        · exact hs k h
      obtain ⟨p1, p2, p3, p4, p5, p6, p7⟩ := pass_spec R C s h0 i0 l true (m.set i true) (fun k hk => by have := hl k (by simp [hk]); simpa using this) (by simpa using hn) hs'
      have pt := p4 rfl
      refine ⟨by simpa using p1, fun k hk => p2 k ((mk_set_iff hi).2 (.inr hk)), p3, fun _ => pt, by omega, fun _ _ => by omega, fun h => ?_⟩
      rw [pt] at h
      cases h
    · rw [if_neg hc]
      obtain ⟨p1, p2, p3, p4, p5, p6, p7⟩ := pass_spec R C s h0 i0 l a m (fun k hk => hl k (by simp [hk])) hn hs
      refine ⟨p1, p2, p3, p4, p5, p6, fun h => ⟨(p7 h).1, fun k hk hw hnr => ?_⟩⟩
      rcases List.mem_cons.1 hk with rfl | hk
      · unfold mkd
        cases hb : m.getD k false with
        | true => rfl
        | false => exact absurd ⟨hb, hw, hnr⟩ hc
      · exact (p7 h).2 k hk hw hnr
theorem reach_spec (R C : Nat) (s : ByteArray) (h0 : 0 < C) (i0 : Nat) : ∀ (k : Nat) (m : List Bool), m.count false < k → m.length = R * C → (∀ i, mkd m i → Con R C s i0 i) →
    (reachM C s k m).length = m.length ∧ (∀ i, mkd m i → mkd (reachM C s k m) i) ∧ (∀ i, mkd (reachM C s k m) i → Con R C s i0 i) ∧ closedM R C s (reachM C s k m)
  | 0, _, h, _, _ => by omega
  | k + 1, m, hk, hn, hs => by
    unfold reachM
    obtain ⟨p1, p2, p3, p4, p5, p6, p7⟩ := pass_spec R C s h0 i0 (List.range' 0 m.length) false m (fun k hk => by rw [List.mem_range'] at hk; omega) hn hs
    by_cases hb : (passM C s (List.range' 0 m.length) false m).1 = true
    · rw [if_pos hb]
      have := p6 rfl hb
      obtain ⟨q1, q2, q3, q4⟩ := reach_spec R C s h0 i0 k _ (by omega) (p1.trans hn) p3
      exact ⟨q1.trans p1, fun i hi => q2 i (p2 i hi), q3, q4⟩
    · rw [if_neg hb]
      refine ⟨p1, p2, p3, fun i j hi hnb hj hw => ?_⟩
      obtain ⟨e, hall⟩ := p7 (by simpa using hb)
      rw [e] at hi ⊢
      exact hall j (by rw [List.mem_range']; exact ⟨j, by omega, by omega⟩) hw ((nearB_iff h0).2 ⟨i, hi, hnb⟩)
theorem reach_con {R C : Nat} {s : ByteArray} (h0 : 0 < C) {i0 : Nat} {m : List Bool} (hi : i0 < R * C) (hw : bt s i0 = 46) (hn : m.length = R * C) (hm : ∀ i, mkd m i ↔ i = i0) (k : Nat) (hk : m.count false < k) :
    (reachM C s k m).length = R * C ∧ ∀ i, mkd (reachM C s k m) i ↔ Con R C s i0 i := by
  obtain ⟨q1, q2, q3, q4⟩ := reach_spec R C s h0 i0 k m hk hn (fun i h => by rw [(hm i).1 h]; exact .here hi hw)
  refine ⟨q1.trans hn, fun i => ⟨q3 i, fun h => ?_⟩⟩
  induction h with
  | here => exact q2 _ ((hm _).2 rfl)
  | next _ h2 h3 h4 ih => exact q4 _ _ ih h2 h3 h4
def bothM (a b : List Bool) : List Bool := List.zipWith (fun x y => x || y) a b
theorem mkd_or {a b : List Bool} (h : a.length = b.length) (i : Nat) : mkd (bothM a b) i ↔ mkd a i ∨ mkd b i := by
  unfold mkd bothM
  simp only [List.getD_eq_getElem?_getD, List.getElem?_zipWith]
  by_cases hi : i < a.length
  · rw [List.getElem?_eq_getElem hi, List.getElem?_eq_getElem (by omega)]
    simp
  · rw [List.getElem?_eq_none (by omega), List.getElem?_eq_none (by omega)]
    simp
def oneM (s : ByteArray) (i : Nat) : List Bool := (List.replicate s.size false).set i true
def seenGo (C : Nat) (s : ByteArray) : List Nat → List Bool → Nat → Nat
  | [], _, n => n
  | i :: l, m, n => if bt s i = 46 ∧ m.getD i false = false then seenGo C s l (bothM m (reachM C s (s.size + 1) (oneM s i))) (n + 1) else seenGo C s l m n
theorem oneM_iff {s : ByteArray} {i : Nat} (h : i < s.size) (j : Nat) : mkd (oneM s i) j ↔ j = i := by
  unfold oneM
  rw [mk_set_iff (by simpa using h)]
  constructor
  · rintro (rfl | h)
    · rfl
    · unfold mkd at h
      simp only [List.getD_eq_getElem?_getD, List.getElem?_replicate] at h
      split at h <;> simp at h
  · rintro rfl
    exact .inl rfl
theorem oneM_length (s : ByteArray) (i : Nat) : (oneM s i).length = s.size := by simp [oneM]
theorem parts_same (R C : Nat) (s : ByteArray) (h0 : 0 < C) (hs : s.size = R * C) : ∀ (l : List Nat) (m : List Bool) (n : Nat), (∀ i ∈ l, i < s.size) → m.length = s.size → closedM R C s m → partsGo R C s l m n = seenGo C s l m n
  | [], _, _, _, _, _ => rfl
  | i :: l, m, n, hl, hm, hcl => by
    unfold partsGo seenGo
    have hi := hl i (by simp)
    by_cases hc : bt s i = 46 ∧ m.getD i false = false
    · rw [if_pos hc, if_pos hc]
      have hcn : m.count false < s.size + 1 := by
        have := List.count_le_length (a := false) (l := m)
        omega
      have hv := visF_spec R C s h0 (s.size + 1) m ((i / C : Nat) : Int) ((i % C : Nat) : Int) (by omega) hcn
      have hdm := Nat.div_add_mod i C
      have hml := Nat.mod_lt i h0
      have e : ((i / C : Nat) : Int) * C + ((i % C : Nat) : Int) = i := by
        rw [← Int.natCast_mul, ← Int.natCast_add, Nat.mul_comm, hdm]
      have hdl : i / C < R := (Nat.div_lt_iff_lt_mul h0).2 (by omega)
      have hok : okRC R C s ((i / C : Nat) : Int) ((i % C : Nat) : Int) := ⟨⟨Int.natCast_nonneg _, by exact_mod_cast hdl⟩, ⟨Int.natCast_nonneg _, by exact_mod_cast hml⟩, by rw [e]; exact hc.1⟩
      obtain ⟨k1, k2⟩ := vis_closed hcl hv hok e
      have ho : (oneM s i).count false < s.size + 1 := by
        have := List.count_le_length (a := false) (l := oneM s i)
        rw [oneM_length] at this
        omega
      obtain ⟨r1, r2⟩ := reach_con h0 (by omega) hc.1 ((oneM_length s i).trans hs) (oneM_iff hi) (s.size + 1) ho
      have heq : visF R C s (s.size + 1) m ((i / C : Nat) : Int) ((i % C : Nat) : Int) = bothM m (reachM C s (s.size + 1) (oneM s i)) := by
        refine mk_ext ?_ fun j _ => ?_
        · have := hv.len
          unfold bothM
          rw [List.length_zipWith, r1]
          omega
        · rw [k1, mkd_or (by omega), r2]
      rw [← heq]
      exact parts_same R C s h0 hs l _ _ (fun j hj => hl j (by simp [hj])) (hv.len.trans hm) k2
    · rw [if_neg hc, if_neg hc]
      exact parts_same R C s h0 hs l m n (fun j hj => hl j (by simp [hj])) hm hcl
theorem parts_same0 (R C : Nat) (s : ByteArray) (h0 : 0 < C) (hs : s.size = R * C) : partsGo R C s (List.range' 0 s.size) (List.replicate s.size false) 0 = seenGo C s (List.range' 0 s.size) (List.replicate s.size false) 0 := by
  refine parts_same R C s h0 hs _ _ _ (fun i hi => by rw [List.mem_range'] at hi; omega) (by simp) (fun i j hi => ?_)
  unfold mkd at hi
  simp only [List.getD_eq_getElem?_getD, List.getElem?_replicate] at hi
  split at hi <;> simp at hi

/-! ### connspec -/
theorem rdOf_bool (m : List Bool) (j : Nat) : rdOf false m (j : Int) = m.getD j false := by
  unfold rdOf
  rw [Int.toNat_natCast]
theorem next_lt {R C i : Nat} (h0 : 0 < C) (hi : i < R * C) (h : i % C + 1 < C) : i + 1 < R * C := by
  have h1 := Nat.div_add_mod i C
  have h2 : i / C < R := (Nat.div_lt_iff_lt_mul h0).2 hi
  have h3 : C * (i / C + 1) ≤ C * R := Nat.mul_le_mul_left _ h2
  rw [Nat.mul_add, Nat.mul_one, Nat.mul_comm C R] at h3
  omega
def rSet (C : Nat) (s : ByteArray) (m : List Bool) (i : Nat) (r : Int) (k : Nat) : Option (List Bool) := if (0 : Int) ≤ (i : Int) then (if (i : Int) < (m.length : Int) then (spec_l10Reach.l1 k (m.set (i : Int).toNat true) true ((i + 1 : Nat) : Int) r C s) else none) else none
def rD4 (C : Nat) (s : ByteArray) (m : List Bool) (a : Bool) (i : Nat) (r : Int) (k : Nat) : Option (List Bool) := if ((i + C : Nat) : Int) < (m.length : Int) then (if (0 : Int) ≤ ((i + C : Nat) : Int) then (if rdOf false m ((i + C : Nat) : Int) = true then rSet C s m i r k else (spec_l10Reach.l1 k m a ((i + 1 : Nat) : Int) r C s)) else none) else (spec_l10Reach.l1 k m a ((i + 1 : Nat) : Int) r C s)
def rD3 (C : Nat) (s : ByteArray) (m : List Bool) (a : Bool) (i : Nat) (r : Int) (k : Nat) : Option (List Bool) := if (i : Int) ≥ (C : Int) then (if (0 : Int) ≤ wrap64 ((i : Int) - (C : Int)) then (if wrap64 ((i : Int) - (C : Int)) < (m.length : Int) then (if rdOf false m (wrap64 ((i : Int) - (C : Int))) = true then rSet C s m i r k else rD4 C s m a i r k) else none) else none) else rD4 C s m a i r k
def rD2 (C : Nat) (s : ByteArray) (m : List Bool) (a : Bool) (i : Nat) (r : Int) (k : Nat) : Option (List Bool) := if ((i % C + 1 : Nat) : Int) < (C : Int) then (if (0 : Int) ≤ ((i + 1 : Nat) : Int) then (if ((i + 1 : Nat) : Int) < (m.length : Int) then (if rdOf false m ((i + 1 : Nat) : Int) = true then rSet C s m i r k else rD3 C s m a i r k) else none) else none) else rD3 C s m a i r k
theorem reach_j2 (R C : Nat) (s : ByteArray) (m : List Bool) (a : Bool) (i : Nat) (r : Int) (ρ : List Bool) (h0 : 0 < C) (hC : C ≤ 6) (hi : i < m.length) (hm : m.length ≤ 36) (hl : m.length = R * C)
    (hset : nearB C m i = true → Ev (fun k => spec_l10Reach.l1 k (m.set i true) true (i + 1 : Nat) r C s) ρ) (hnext : nearB C m i = false → Ev (fun k => spec_l10Reach.l1 k m a (i + 1 : Nat) r C s) ρ) :
    Ev (fun k => spec_l10Reach.j2 k m a i false r C s) ρ := by
  have hmod := Nat.mod_lt i h0
  have e1 : Int.tmod (i : Int) (C : Int) = ((i % C : Nat) : Int) := Int.ofNat_tmod i C |>.symm
  have e2 : wrap64 ((i : Int) + 1) = ((i + 1 : Nat) : Int) := by rw [wrap64_id (by omega) (by omega)]; omega
  have e3 : wrap64 ((i : Int) + (C : Int)) = ((i + C : Nat) : Int) := by rw [wrap64_id (by omega) (by omega)]; omega
  have e4 : wrap64 (((i % C : Nat) : Int) + 1) = ((i % C + 1 : Nat) : Int) := by rw [wrap64_id (by omega) (by omega)]; omega
  have e5 : C ≤ i → wrap64 ((i : Int) - (C : Int)) = ((i - C : Nat) : Int) := fun h => by rw [wrap64_id (by omega) (by omega)]; omega
  have e6 : 0 < i % C → wrap64 ((i : Int) - 1) = ((i - 1 : Nat) : Int) := fun h => by
    have := Nat.mod_le i C
    rw [wrap64_id (by omega) (by omega)]; omega
  unfold nearB at hset hnext
  have set_ : nearB C m i = true → Ev (rSet C s m i r) ρ := fun h => by
    unfold rSet
    rw [Int.toNat_natCast]
    exact ev_pos (by omega) (ev_pos (by omega) (hset h))
  unfold nearB at set_
  have d4 : (decide (0 < i % C) && m.getD (i - 1) false) = false → (decide (i % C + 1 < C) && m.getD (i + 1) false) = false → (decide (C ≤ i) && m.getD (i - C) false) = false → Ev (rD4 C s m a i r) ρ := by
    intro b1 b2 b3
    rw [b1, b2, b3] at hset hnext set_
    unfold rD4
    by_cases p : i + C < m.length
    · refine ev_pos (by omega) (ev_pos (by omega) ?_)
      rw [rdOf_bool]
      by_cases v : m.getD (i + C) false = true
      · exact ev_pos v (set_ (by simp only [p, v]; rfl))
      · exact ev_neg v (hnext (by simp only [p, Bool.not_eq_true] at v ⊢; rw [v]; rfl))
    · exact ev_neg (by omega) (hnext (by simp [p]))
  have d3 : (decide (0 < i % C) && m.getD (i - 1) false) = false → (decide (i % C + 1 < C) && m.getD (i + 1) false) = false → Ev (rD3 C s m a i r) ρ := by
    intro b1 b2
    unfold rD3
    by_cases p : C ≤ i
    · refine ev_pos (by omega) ?_
      rw [e5 p]
      refine ev_pos (by omega) (ev_pos (by omega) ?_)
      rw [rdOf_bool]
      by_cases v : m.getD (i - C) false = true
      · exact ev_pos v (set_ (by simp only [b1, b2, p, v]; rfl))
      · exact ev_neg v (d4 b1 b2 (by simp only [Bool.not_eq_true] at v; rw [v]; simp))
    · exact ev_neg (by omega) (d4 b1 b2 (by simp [p]))
  have d2 : (decide (0 < i % C) && m.getD (i - 1) false) = false → Ev (rD2 C s m a i r) ρ := by
    intro b1
    unfold rD2
    by_cases p : i % C + 1 < C
    · have q : i + 1 < m.length := by rw [hl]; exact next_lt h0 (by omega) p
      refine ev_pos (by omega) (ev_pos (by omega) (ev_pos (by omega) ?_))
      rw [rdOf_bool]
      by_cases v : m.getD (i + 1) false = true
      · exact ev_pos v (set_ (by simp only [b1, p, v]; rfl))
      · exact ev_neg v (d3 b1 (by simp only [Bool.not_eq_true] at v; rw [v]; simp))
    · exact ev_neg (by omega) (d3 b1 (by simp [p]))
  apply ev_succ
  simp only [spec_l10Reach.j2]
  rw [e1, e2, e3, e4]
  refine ev_neg (by simp) (ev_neg (by omega) ?_)
  by_cases p : 0 < i % C
  · have := Nat.mod_le i C
    refine ev_pos (by omega) ?_
    rw [e6 p]
    refine ev_pos (by omega) (ev_pos (by omega) ?_)
    rw [rdOf_bool]
    by_cases v : m.getD (i - 1) false = true
    · exact ev_pos v (set_ (by simp only [p, v]; rfl))
    · exact ev_neg v (d2 (by simp only [Bool.not_eq_true] at v; rw [v]; simp))
  · exact ev_neg (by omega) (d2 (by simp [p]))
theorem spec_l10Reach_l1_ev (R C : Nat) (s : ByteArray) (r : Int) (h0 : 0 < C) (hC : C ≤ 6) (hs : s.size = R * C) (h36 : s.size ≤ 36) (ρ : List Bool) : ∀ i : Nat, i ≤ s.size → ∀ (m : List Bool) (a : Bool), m.length = s.size →
    Ev (fun k => spec_l10Reach.l0 k (passM C s (List.range' i (s.size - i)) a m).2 (passM C s (List.range' i (s.size - i)) a m).1 r C s) ρ → Ev (fun k => spec_l10Reach.l1 k m a i r C s) ρ := by
  refine down s.size ?_ ?_
  · intro i h hi m a hm hρ
    apply ev_succ
    simp only [spec_l10Reach.l1]
    rw [range_nil h] at hρ
    exact ev_neg (by omega) hρ
  · intro i h ih hi m a hm hρ
    rw [range_cons h] at hρ
    unfold passM at hρ
    apply ev_succ
    simp only [spec_l10Reach.l1]
    refine ev_pos (by omega) (ev_pos (by omega) ?_)
    rw [rdOf_bool]
    have skip : ∀ hc : ¬ (m.getD i false = false ∧ bt s i = 46 ∧ nearB C m i = true), Ev (fun k => spec_l10Reach.l1 k m a (i + 1 : Nat) r C s) ρ := fun hc => by
      rw [if_neg hc] at hρ
      exact ih (by omega) m a hm hρ
    have j2t : ¬ (m.getD i false = false ∧ bt s i = 46 ∧ nearB C m i = true) → Ev (fun k => spec_l10Reach.j2 k m a i true r C s) ρ := fun hc => by
      apply ev_succ
      simp only [spec_l10Reach.j2]
      rw [wrap64_id (n := (i : Int) + 1) (by omega) (by omega), succ_cast]
      exact ev_pos (by trivial) (skip hc)
    by_cases hk : m.getD i false = true
    · exact ev_pos hk (j2t (by rw [hk]; simp))
    · refine ev_neg hk (ev_pos (by omega) ?_)
      rw [Bool.not_eq_true] at hk
      by_cases hw : bt s i = 46
      · rw [show (bt s (i : Int) != 46) = false by simp [hw]]
        refine reach_j2 R C s m a i r ρ h0 hC (by omega) (by omega) (by omega) (fun hn => ?_) (fun hn => skip (by rw [hn]; simp))
        rw [if_pos ⟨hk, hw, hn⟩] at hρ
        exact ih (by omega) _ true (by simpa using hm) hρ
      · rw [show (bt s (i : Int) != 46) = true by simp [hw]]
        exact j2t (fun h => hw h.2.1)
theorem pass_cnt (C : Nat) (s : ByteArray) : ∀ (l : List Nat) (a : Bool) (m : List Bool), (∀ i ∈ l, i < m.length) → (passM C s l a m).2.length = m.length ∧ (passM C s l a m).2.count false ≤ m.count false ∧ (a = false → (passM C s l a m).1 = true → (passM C s l a m).2.count false < m.count false)
  | [], a, m, _ => ⟨rfl, Nat.le_refl _, fun h1 h2 => by simp [passM, h1] at h2⟩
  | i :: l, a, m, hl => by
    unfold passM
    have hi := hl i (by simp)
    split
    · rename_i hc
      have hno' : m[i] = false := by simpa [List.getD_eq_getElem?_getD, hi] using hc.1
      have hcnt : (m.set i true).count false + 1 = m.count false := by
        have hpos : 0 < m.count false := List.count_pos_iff.mpr (hno' ▸ List.getElem_mem hi)
        rw [List.count_set hi]
        simp [hno']
        omega
      obtain ⟨p1, p2, _⟩ := pass_cnt C s l true (m.set i true) (fun k hk => by have := hl k (by simp [hk]); simpa using this)
      exact ⟨by simpa using p1, by omega, fun _ _ => by omega⟩
    · exact pass_cnt C s l a m (fun k hk => hl k (by simp [hk]))
theorem spec_l10Reach_l0_ev (R C : Nat) (s : ByteArray) (r : Int) (h0 : 0 < C) (hC : C ≤ 6) (hs : s.size = R * C) (h36 : s.size ≤ 36) : ∀ (k : Nat) (m : List Bool), m.length = s.size → m.count false < k →
    Ev (fun K => spec_l10Reach.l0 K m true r C s) (reachM C s k m)
  | 0, _, _, h => by omega
  | k + 1, m, hm, hk => by
    apply ev_succ
    simp only [spec_l10Reach.l0]
    refine ev_pos (by trivial) (spec_l10Reach_l1_ev R C s r h0 hC hs h36 _ 0 (by omega) m false hm ?_)
    rw [Nat.sub_zero, ← hm]
    unfold reachM
    have hp : (passM C s (List.range' 0 m.length) false m).2.length = m.length ∧ ((passM C s (List.range' 0 m.length) false m).1 = true → (passM C s (List.range' 0 m.length) false m).2.count false < m.count false) := pass_cnt C s _ false m (fun i hi => by rw [List.mem_range'] at hi; omega) |>.imp id (fun h => h.2 rfl)
    by_cases hb : (passM C s (List.range' 0 m.length) false m).1 = true
    · rw [if_pos hb, hb]
      exact spec_l10Reach_l0_ev R C s r h0 hC hs h36 k _ (hp.1.trans hm) (by have := hp.2 hb; omega)
    · rw [if_neg hb]
      rw [Bool.not_eq_true] at hb
      rw [hb]
      apply ev_succ
      simp only [spec_l10Reach.l0]
      exact ev_neg (by simp) (ev_now rfl)
theorem spec_PartsOf_l3_ev (R C : Nat) (s : ByteArray) (n : Int) (r c : Int) (j : Int) (m one : List Bool) (ρ : Int) (h36 : s.size ≤ 36) (hm : m.length = s.size) (ho : one.length = s.size)
    (hρ : Ev (fun k => spec_PartsOf.l1 k n (bothM m one) (wrap64 (j + 1)) r c s) ρ) : ∀ i : Nat, i ≤ s.size → ∀ x : List Bool, x.length = s.size → (∀ q, q < i → x[q]? = (bothM m one)[q]?) → (∀ q, i ≤ q → x[q]? = m[q]?) →
    Ev (fun k => spec_PartsOf.l3 k n x j one i r c s) ρ := by
  have hb : (bothM m one).length = s.size := by
    unfold bothM
    rw [List.length_zipWith]
    omega
  refine down s.size ?_ ?_
  · intro i h hi x hx h1 h2
    have e : x = bothM m one := by
      apply List.ext_getElem?
      intro q
      by_cases hq : q < i
      · exact h1 q hq
      · rw [List.getElem?_eq_none (by omega), List.getElem?_eq_none (by omega)]
    apply ev_succ
    simp only [spec_PartsOf.l3]
    rw [e]
    exact ev_neg (by omega) hρ
  · intro i h ih hi x hx h1 h2
    apply ev_succ
    simp only [spec_PartsOf.l3]
    rw [rdOf_bool, wrap64_id (n := (i : Int) + 1) (by omega) (by omega), succ_cast, Int.toNat_natCast]
    have hxi : x.getD i false = m.getD i false := by
      rw [List.getD_eq_getElem?_getD, List.getD_eq_getElem?_getD, h2 i (Nat.le_refl _)]
    have hbi : (bothM m one)[i]'(by omega) = (m.getD i false || one.getD i false) := by
      unfold bothM
      simp [hm, ho, h]
    have next : ∀ v : Bool, v = (m.getD i false || one.getD i false) → Ev (fun k => spec_PartsOf.l3 k n (x.set i v) j one (i + 1 : Nat) r c s) ρ := by
      intro v hv
      refine ih (by omega) _ (by simpa using hx) (set_known (l := bothM m one) (by omega) (by omega) (hv.trans hbi.symm) h1) (fun q hq => ?_)
      rw [List.getElem?_set_ne (by omega)]
      exact h2 q (by omega)
    refine ev_pos (by omega) (ev_pos (by omega) ?_)
    rw [hxi]
    by_cases hv : m.getD i false = true
    · exact ev_pos hv (next true (by rw [hv]; rfl))
    · refine ev_neg hv (ev_pos (by omega) ?_)
      rw [Bool.not_eq_true] at hv
      rw [rdOf_bool]
      exact next _ (by rw [hv]; rfl)
theorem rep_snoc (i : Nat) : List.replicate i false ++ [false] = List.replicate (i + 1) false := by
  rw [List.replicate_succ']
theorem spec_PartsOf_l2_ev (R C : Nat) (s : ByteArray) (n : Int) (r : Int) (j : Nat) (m : List Bool) (ρ : Int) (h0 : 0 < C) (hC : C ≤ 6) (hs : s.size = R * C) (h36 : s.size ≤ 36) (hm : m.length = s.size) (hj : j < s.size)
    (hρ : Ev (fun k => spec_PartsOf.l1 k n (bothM m (reachM C s (s.size + 1) (oneM s j))) (j + 1 : Nat) r C s) ρ) : ∀ i : Nat, i ≤ s.size →
    Ev (fun k => spec_PartsOf.l2 k n m j (List.replicate i false) i r C s) ρ := by
  refine down s.size ?_ ?_
  · intro i h hi
    obtain rfl : i = s.size := by omega
    have hone := oneM_length s j
    have hcnt : (oneM s j).count false < s.size + 1 := by
      have := List.count_le_length (a := false) (l := oneM s j)
      omega
    have hr := spec_l10Reach_l0_ev R C s r h0 hC hs h36 (s.size + 1) (oneM s j) hone hcnt
    have hrl : ∀ (k : Nat) (x : List Bool), x.length = s.size → (reachM C s k x).length = s.size := by
      intro k
      induction k with
      | zero => intro x hx; exact hx
      | succ k ihk =>
        intro x hx
        unfold reachM
        have hp := (pass_cnt C s (List.range' 0 x.length) false x (fun i hi => by rw [List.mem_range'] at hi; omega)).1
        split
        · exact ihk _ (hp.trans hx)
        · exact hp.trans hx
    apply ev_succ
    simp only [spec_PartsOf.l2]
    refine ev_neg (by omega) (ev_bind (a := reachM C s (s.size + 1) (oneM s j)) ?_ (spec_PartsOf_l3_ev R C s n r C j m _ ρ h36 hm (hrl _ _ hone) ?_ 0 (by omega) m hm (fun q hq => by omega) (fun _ _ => rfl)))
    · unfold spec_l10Reach.f
      rw [Int.toNat_natCast]
      exact ev_pos (by omega) (ev_pos (by simp; omega) hr)
    · rw [wrap64_id (n := (j : Int) + 1) (by omega) (by omega), succ_cast]
      exact hρ
  · intro i h ih hi
    apply ev_succ
    simp only [spec_PartsOf.l2]
    rw [wrap64_id (n := (i : Int) + 1) (by omega) (by omega), succ_cast, rep_snoc]
    exact ev_pos (by omega) (ev_pos (by simp; omega) (ih (by omega)))
theorem spec_PartsOf_l1_ev (R C : Nat) (s : ByteArray) (h0 : 0 < C) (hC : C ≤ 6) (hs : s.size = R * C) (h36 : s.size ≤ 36) (hg : gridM R C s = true) : ∀ i : Nat, i ≤ s.size → ∀ (m : List Bool) (n : Nat), m.length = s.size → n ≤ i →
    Ev (fun k => spec_PartsOf.l1 k n m i R C s) ((seenGo C s (List.range' i (s.size - i)) m n : Nat) : Int) := by
  refine down s.size ?_ ?_
  · intro i h hi m n hm hn
    apply ev_succ
    simp only [spec_PartsOf.l1]
    rw [range_nil h]
    refine ev_neg (by omega) (ev_succ ?_)
    simp only [spec_PartsOf.j2]
    exact ev_neg (by simp) (ev_now rfl)
  · intro i h ih hi m n hm hn
    apply ev_succ
    simp only [spec_PartsOf.l1]
    rw [range_cons h]
    unfold seenGo
    refine ev_pos (by omega) (ev_bind (spec_IsGrid_ev R C s (by omega)) (ev_succ ?_))
    simp only [spec_PartsOf.j2]
    refine ev_pos hg (ev_pos (by omega) (ev_pos (by omega) ?_))
    have j3f : ¬ (bt s i = 46 ∧ m.getD i false = false) → Ev (fun k => spec_PartsOf.j3 k n m i false R C s) ((if bt s i = 46 ∧ m.getD i false = false then seenGo C s (List.range' (i + 1) (s.size - (i + 1))) (bothM m (reachM C s (s.size + 1) (oneM s i))) (n + 1) else seenGo C s (List.range' (i + 1) (s.size - (i + 1))) m n : Nat) : Int) := fun hc => by
      rw [if_neg hc]
      apply ev_succ
      simp only [spec_PartsOf.j3]
      rw [wrap64_id (n := (i : Int) + 1) (by omega) (by omega), succ_cast]
      exact ev_neg (by simp) (ih (by omega) m n hm (by omega))
    by_cases hw : bt s i = 46
    · refine ev_pos hw (ev_pos (by omega) ?_)
      rw [rdOf_bool]
      by_cases hk : m.getD i false = true
      · rw [hk]
        have := j3f (by rw [hk]; simp)
        rw [hk] at this
        exact this
      · rw [Bool.not_eq_true] at hk
        rw [hk, if_pos ⟨hw, rfl⟩]
        apply ev_succ
        simp only [spec_PartsOf.j3]
        rw [wrap64_id (n := (n : Int) + 1) (by omega) (by omega), show ((n : Int) + 1) = ((n + 1 : Nat) : Int) by omega]
        refine ev_pos (by trivial) (spec_PartsOf_l2_ev R C s _ R i m _ h0 hC hs h36 hm h ?_ 0 (by omega))
        have hrl : (bothM m (reachM C s (s.size + 1) (oneM s i))).length = s.size := by
          have hone := oneM_length s i
          have hcnt : (oneM s i).count false < s.size + 1 := by
            have := List.count_le_length (a := false) (l := oneM s i)
            omega
          have := (reach_con h0 (by omega) hw (hone.trans hs) (oneM_iff h) (s.size + 1) hcnt).1
          unfold bothM
          rw [List.length_zipWith]
          omega
        exact ih (by omega) _ (n + 1) hrl (by omega)
    · exact ev_neg hw (j3f (fun x => hw x.1))
theorem spec_PartsOf_l0_ev (s : ByteArray) (r c : Int) (hs : s.size ≤ 1048576) (ρ : Int) (hρ : Ev (fun k => spec_PartsOf.l1 k 0 (List.replicate s.size false) 0 r c s) ρ) : ∀ i : Nat, i ≤ s.size →
    Ev (fun k => spec_PartsOf.l0 k 0 (List.replicate i false) i r c s) ρ := by
  refine down s.size ?_ ?_
  · intro i h hi
    obtain rfl : i = s.size := by omega
    apply ev_succ
    simp only [spec_PartsOf.l0]
    exact ev_neg (by omega) hρ
  · intro i h ih hi
    apply ev_succ
    simp only [spec_PartsOf.l0]
    rw [wrap64_id (n := (i : Int) + 1) (by omega) (by omega), succ_cast, rep_snoc]
    exact ev_pos (by omega) (ev_pos (by simp; omega) (ih (by omega)))
/-- How many parts of white cells a grid has. -/
def partsM (r c : Int) (s : ByteArray) : Nat := if gridM r c s then seenGo c.toNat s (List.range' 0 s.size) (List.replicate s.size false) 0 else 0
theorem spec_PartsOf_ev (r c : Int) (s : ByteArray) (hs : s.size ≤ 1048576) : Ev (fun k => spec_PartsOf.f k r c s) (partsM r c s : Nat) := by
  unfold spec_PartsOf.f partsM
  refine spec_PartsOf_l0_ev s r c hs _ ?_ 0 (by omega)
  by_cases hg : gridM r c s = true
  · rw [if_pos hg]
    obtain ⟨R, C, rfl, rfl, h1, h2, h3, h4, h5⟩ := gridM_nat hg
    have h36 : R * C ≤ 36 := Nat.mul_le_mul h2 h4
    have := spec_PartsOf_l1_ev R C s (by omega) h4 h5 (by omega) hg 0 (by omega) (List.replicate s.size false) 0 (by simp) (by omega)
    simpa using this
  · rw [if_neg hg]
    rw [Bool.not_eq_true] at hg
    have hj : Ev (fun k => spec_PartsOf.j2 k 0 (List.replicate s.size false) 0 false r c s) ((0 : Nat) : Int) := by
      apply ev_succ
      simp only [spec_PartsOf.j2]
      exact ev_neg (by simp) (ev_now rfl)
    apply ev_succ
    simp only [spec_PartsOf.l1]
    by_cases h : (0 : Int) < (s.size : Int)
    · refine ev_pos h (ev_bind (spec_IsGrid_ev r c s (by omega)) ?_)
      rw [hg]
      exact hj
    · exact ev_neg h hj
theorem impl_PartsOf_ev (r c : Int) (s : ByteArray) (hs : s.size ≤ 1048576) : Ev (fun k => impl_PartsOf.f k r c s) (partsM r c s : Nat) := by
  unfold impl_PartsOf.f partsM
  refine ev_bind (impl_IsGrid_ev r c s (by omega)) ?_
  by_cases hg : gridM r c s = true
  · rw [if_pos hg]
    obtain ⟨R, C, rfl, rfl, h1, h2, h3, h4, h5⟩ := gridM_nat hg
    refine ev_pos ⟨by omega, by omega, by rw [h5, Int.natCast_mul]⟩ (ev_now ?_)
    rw [Int.toNat_natCast, parts_same0 R C s (by omega) h5, if_pos hg]
  · rw [if_neg hg]
    exact ev_now (by rw [if_neg hg]; rfl)

/-! ### strs -/
def total (l : List ByteArray) : Nat := (l.map ByteArray.size).sum
theorem mem_total {l : List ByteArray} {x : ByteArray} (h : x ∈ l) : x.size ≤ total l := by
  induction l with
  | nil => cases h
  | cons a r ih =>
    have e : total (a :: r) = a.size + total r := rfl
    rcases List.mem_cons.1 h with rfl | h
    · omega
    · have := ih h
      omega
theorem total_drop {l : List ByteArray} {i : Nat} (h : i < l.length) : total (l.drop i) = l[i].size + total (l.drop (i + 1)) := by
  rw [List.drop_eq_getElem_cons h]
  rfl

/-! ### back -/
def backM (s : ByteArray) : ByteArray := if 100 < s.size then ⟨#[]⟩ else ⟨s.data.reverse⟩
theorem impl_Backwards_eq (s : ByteArray) : impl_Backwards.f s = some (backM s) := rfl
theorem back_step (s acc : ByteArray) (i : Nat) (hi : i < s.size) (ha : acc.data.toList = (s.data.toList.take i).reverse) : (s.extract i (i + 1) ++ acc).data.toList = (s.data.toList.take (i + 1)).reverse := by
  have hl : i < s.data.toList.length := by simpa using hi
  rw [List.take_succ_eq_append_getElem hl, List.reverse_append, ← ha]
  have e : (s.extract i (i + 1)).data.toList = [s.data.toList[i]] := by
    rw [ByteArray.data_extract, Array.toList_extract]
    simp only [List.extract]
    rw [show i + 1 - i = 1 by omega, List.drop_eq_getElem_cons hl]
    rfl
  rw [ByteArray.data_append, Array.toList_append, e]
  rfl
theorem spec_Backwards_l0_ev (s : ByteArray) (hs : s.size ≤ 100) : ∀ i : Nat, i ≤ s.size → ∀ acc : ByteArray, acc.data.toList = (s.data.toList.take i).reverse → Ev (fun k => spec_Backwards.l0 k s acc i) (⟨s.data.reverse⟩ : ByteArray) := by
  refine down s.size ?_ ?_
  · intro i h hi acc ha
    apply ev_succ
    simp only [spec_Backwards.l0]
    refine ev_neg (by omega) (ev_now ?_)
    have hx : acc = ⟨s.data.reverse⟩ := by
      have : s.data.toList.length ≤ i := by simpa using h
      rw [List.take_of_length_le this] at ha
      apply ByteArray.ext
      apply Array.ext'
      rw [ha]
      simp
    rw [hx]
  · intro i h ih hi acc ha
    have hsz : acc.size ≤ 100 := by
      have : acc.size = acc.data.toList.length := by simp
      rw [this, ha]
      simp
      omega
    apply ev_succ
    simp only [spec_Backwards.l0]
    rw [wrap64_id (n := (i : Int) + 1) (by omega) (by omega), succ_cast]
    have hx : (s.extract i (i + 1)).size ≤ 1 := by
      rw [ByteArray.size_extract]
      omega
    refine ev_pos (by omega) (ev_pos (by omega) (ev_pos (by omega) (ev_pos (by omega) (ev_pos (by omega) (ev_pos ?_ (ih (by omega) _ ?_))))))
    · show (s.extract i (i + 1)).size + acc.size ≤ 9223372036854775807
      omega
    · exact back_step s acc i h ha
theorem spec_Backwards_ev (s : ByteArray) : Ev (fun k => spec_Backwards.f k s) (backM s) := by
  unfold spec_Backwards.f backM
  by_cases hs : 100 < s.size
  · rw [if_pos hs]
    apply ev_succ
    simp only [spec_Backwards.l0]
    exact ev_pos (by omega) (ev_neg (by omega) (ev_now rfl))
  · rw [if_neg hs]
    exact spec_Backwards_l0_ev s (by omega) 0 (by omega) _ (by simp)

/-! ### turn -/
def turnM (r c : Int) (s : ByteArray) : Int × Int × ByteArray := if gridM r c s = true then (r, c, backM s) else (0, 0, ⟨#[]⟩)
theorem spec_TurnGrid_ev (r c : Int) (s : ByteArray) (hs : s.size ≤ 140737488351232) : Ev (fun k => spec_TurnGrid.f k r c s) (turnM r c s) := by
  unfold spec_TurnGrid.f turnM
  refine ev_bind (spec_IsGrid_ev r c s hs) ?_
  by_cases hg : gridM r c s = true
  · rw [if_pos hg]
    exact ev_pos hg (ev_bind (spec_Backwards_ev s) (ev_now rfl))
  · rw [if_neg hg]
    exact ev_neg hg (ev_now rfl)
theorem impl_TurnGrid_ev (r c : Int) (s : ByteArray) (hs : s.size ≤ 140737488351232) : Ev (fun k => impl_TurnGrid.f k r c s) (turnM r c s) := by
  unfold impl_TurnGrid.f turnM
  refine ev_bind (impl_IsGrid_ev r c s hs) ?_
  by_cases hg : gridM r c s = true
  · refine ev_pos hg (ev_let (impl_Backwards_eq s) (ev_now ?_))
    rw [if_pos hg]
  · refine ev_neg hg (ev_now ?_)
    rw [if_neg hg]

/-! ### slots -/
/-- How many cells follow one another from a cell on, white ones, at most m. -/
def runLen (s : ByteArray) (step : Nat) : Nat → Nat → Nat
  | _, 0 => 0
  | i, m + 1 => if bt s i = 46 then 1 + runLen s step (i + step) m else 0
def stepM (C : Nat) (dn : Bool) : Nat := if dn then C else 1
def atM (C : Nat) (dn : Bool) (i : Nat) : Nat := if dn then i / C else i % C
def mostM (R C : Nat) (dn : Bool) : Nat := if dn then R else C
/-- The length of the part of white cells that begins at a cell; 0 if none begins there. -/
def runM (R C : Nat) (s : ByteArray) (i : Nat) (dn : Bool) : Nat :=
  if bt s i = 46 ∧ ¬ (0 < atM C dn i ∧ bt s (i - stepM C dn : Nat) = 46) then runLen s (stepM C dn) i (mostM R C dn - atM C dn i) else 0
theorem runLen_le (s : ByteArray) (step : Nat) : ∀ m i, runLen s step i m ≤ m
  | 0, _ => Nat.le_refl _
  | m + 1, i => by
    unfold runLen
    split
    · have := runLen_le s step m (i + step)
      omega
    · omega
theorem cell_lt {R C : Nat} {i j : Nat} {dn : Bool} (hC : 0 < C) (hi : i < R * C) (hj : atM C dn i + j < mostM R C dn) : i + j * stepM C dn < R * C := by
  cases dn with
  | true =>
    simp only [atM, mostM, stepM, if_true] at hj ⊢
    have h1 := Nat.div_add_mod i C
    have h2 := Nat.mod_lt i hC
    have h3 : C * (i / C + j + 1) ≤ C * R := Nat.mul_le_mul_left _ (by omega)
    rw [Nat.mul_comm R C]
    rw [Nat.mul_add, Nat.mul_add, Nat.mul_one] at h3
    rw [Nat.mul_comm j C]
    omega
  | false =>
    simp only [atM, mostM, stepM, Bool.false_eq_true, if_false] at hj ⊢
    have h1 := Nat.div_add_mod i C
    have h4 : i / C < R := (Nat.div_lt_iff_lt_mul hC).2 hi
    have h3 : C * (i / C + 1) ≤ C * R := Nat.mul_le_mul_left _ h4
    rw [Nat.mul_comm R C]
    rw [Nat.mul_add, Nat.mul_one] at h3
    omega
theorem mul_bound {j C : Nat} (hj : j ≤ 6) (hC : C ≤ 6) : j * C ≤ 36 := Nat.mul_le_mul hj hC
theorem stepM_le {C : Nat} (hC : C ≤ 6) (h0 : 0 < C) (dn : Bool) : 1 ≤ stepM C dn ∧ stepM C dn ≤ 6 := by
  unfold stepM
  split <;> omega
theorem mostM_le {R C : Nat} (hR : R ≤ 6) (hC : C ≤ 6) (dn : Bool) : mostM R C dn ≤ 6 := by
  unfold mostM
  split <;> omega
theorem spec_l8From_l0_ev (R C : Nat) (s : ByteArray) (r c : Int) (hR : R ≤ 6) (hC : C ≤ 6) (h0 : 0 < C) (hs : s.size = R * C) (i : Nat) (dn : Bool) (hi : i < R * C) : ∀ n : Nat, atM C dn i + n ≤ mostM R C dn →
    Ev (fun k => spec_l8From.l0 k i (stepM C dn) (atM C dn i) (mostM R C dn) n r c s) (n + runLen s (stepM C dn) (i + n * stepM C dn) (mostM R C dn - atM C dn i - n) : Nat) := by
  have hm := mostM_le hR hC dn
  have hst := stepM_le hC h0 dn
  have h36 := bounds36 hR hC
  refine down (mostM R C dn - atM C dn i) ?_ ?_
  · intro n h hn
    apply ev_succ
    simp only [spec_l8From.l0]
    rw [wrap64_id (n := (atM C dn i : Int) + n) (by omega) (by omega)]
    refine ev_neg (by omega) (ev_now ?_)
    rw [show mostM R C dn - atM C dn i - n = 0 by omega]
    rfl
  · intro n h ih hn
    have hlt := cell_lt h0 hi (show atM C dn i + n < mostM R C dn by omega)
    have hb := mul_bound (show n ≤ 6 by omega) (show stepM C dn ≤ 6 by omega)
    have hcast : ((n : Int) * (stepM C dn : Int)) = ((n * stepM C dn : Nat) : Int) := by rw [Int.natCast_mul]
    apply ev_succ
    simp only [spec_l8From.l0]
    rw [wrap64_id (n := (atM C dn i : Int) + n) (by omega) (by omega), hcast, wrap64_id (n := ((n * stepM C dn : Nat) : Int)) (by omega) (by omega), wrap64_id (n := (i : Int) + _) (by omega) (by omega), wrap64_id (n := (n : Int) + 1) (by omega) (by omega), succ_cast]
    rw [show mostM R C dn - atM C dn i - n = (mostM R C dn - atM C dn i - (n + 1)) + 1 by omega]
    unfold runLen
    rw [show ((i : Int) + ((n * stepM C dn : Nat) : Int)) = ((i + n * stepM C dn : Nat) : Int) by omega]
    refine ev_pos (by omega) (ev_pos (by omega) (ev_pos (by omega) ?_))
    by_cases hw : bt s (i + n * stepM C dn : Nat) = 46
    · rw [if_pos hw]
      refine ev_pos hw (ev_eq (ih (by omega)) ?_)
      rw [show i + (n + 1) * stepM C dn = i + n * stepM C dn + stepM C dn by rw [Nat.add_mul, Nat.one_mul, Nat.add_assoc]]
      omega
    · rw [if_neg hw]
      exact ev_neg hw (ev_now (by simp))
theorem spec_l8From_ev (R C : Nat) (s : ByteArray) (hR : R ≤ 6) (hC : C ≤ 6) (h0 : 0 < C) (hs : s.size = R * C) (i : Nat) (dn : Bool) (hi : i < R * C) :
    Ev (fun k => spec_l8From.f k R C s i dn) (runM R C s i dn : Nat) := by
  have hst := stepM_le hC h0 dn
  have h36 := bounds36 hR hC
  have hl0 := spec_l8From_l0_ev R C s R C hR hC h0 hs i dn hi 0
  have key : Ev (fun k => spec_l8From.j0 k i (stepM C dn) (atM C dn i) (mostM R C dn) R C s) (runM R C s i dn : Nat) := by
    have hat : atM C dn i ≤ i ∧ (0 < atM C dn i → stepM C dn ≤ i) ∧ atM C dn i ≤ mostM R C dn := by
      cases dn with
      | true =>
        simp only [atM, stepM, mostM, if_true]
        refine ⟨Nat.div_le_self _ _, fun h => ?_, ?_⟩
        · exact (Nat.div_pos_iff.1 h).2
        · exact Nat.le_of_lt ((Nat.div_lt_iff_lt_mul h0).2 hi)
      | false =>
        simp only [atM, stepM, mostM, Bool.false_eq_true, if_false]
        have := Nat.mod_le i C
        have := Nat.mod_lt i h0
        omega
    have hj1 : ∀ b : Bool, (b = true → Ev (fun k => spec_l8From.j1 k i (stepM C dn) (atM C dn i) (mostM R C dn) b R C s) 0) ∧
        (b = false → Ev (fun k => spec_l8From.j1 k i (stepM C dn) (atM C dn i) (mostM R C dn) b R C s) (runLen s (stepM C dn) i (mostM R C dn - atM C dn i) : Nat)) := by
      intro b
      refine ⟨fun hb => ?_, fun hb => ?_⟩
      · apply ev_succ
        simp only [spec_l8From.j1]
        exact ev_pos hb (ev_now rfl)
      · apply ev_succ
        simp only [spec_l8From.j1]
        exact ev_neg (by simp [hb]) (by simpa using hl0 (by omega))
    apply ev_succ
    simp only [spec_l8From.j0]
    refine ev_pos (by omega) (ev_pos (by omega) ?_)
    unfold runM
    by_cases hw : bt s i = 46
    · refine ev_pos hw ?_
      by_cases ha : 0 < atM C dn i
      · have h2 := hat.2.1 ha
        rw [wrap64_id (n := (i : Int) - _) (by omega) (by omega), show ((i : Int) - (stepM C dn : Nat)) = ((i - stepM C dn : Nat) : Int) by omega]
        refine ev_pos (by omega) (ev_pos (by omega) (ev_pos (by omega) ?_))
        by_cases hp : bt s (i - stepM C dn : Nat) = 46
        · rw [if_neg (by simp [ha, hp])]
          exact (hj1 _).1 (by simp [hp])
        · rw [if_pos ⟨hw, fun x => hp x.2⟩]
          exact (hj1 _).2 (by simp [hp])
      · rw [if_pos ⟨hw, fun x => ha x.1⟩]
        exact ev_neg (by omega) ((hj1 false).2 rfl)
    · rw [if_neg (fun x => hw x.1)]
      exact ev_neg hw ((hj1 true).1 rfl)
  unfold spec_l8From.f
  refine ev_neg (by omega) ?_
  cases dn with
  | true =>
    refine ev_pos rfl ?_
    have e : Int.tdiv (i : Int) (C : Int) = ((i / C : Nat) : Int) := Int.ofNat_tdiv i C |>.symm
    have hd := Nat.div_le_self i C
    have hq := Int.natCast_nonneg (i / C)
    rw [e, wrap64_id (by omega) (by omega)]
    simpa only [stepM, atM, mostM, if_true] using key
  | false =>
    refine ev_neg (by simp) ?_
    have e : Int.tmod (i : Int) (C : Int) = ((i % C : Nat) : Int) := Int.ofNat_tmod i C |>.symm
    rw [e]
    simpa [stepM, atM, mostM] using key

theorem impl_run_l0_ev (R C : Nat) (s : ByteArray) (r c : Int) (hR : R ≤ 6) (hC : C ≤ 6) (h0 : 0 < C) (hs : s.size = R * C) (i : Nat) (dn : Bool) (hi : i < R * C) : ∀ n : Nat, atM C dn i + n ≤ mostM R C dn →
    Ev (fun k => impl_run.l0 k i (stepM C dn) (atM C dn i) (mostM R C dn) n r c s) (n + runLen s (stepM C dn) (i + n * stepM C dn) (mostM R C dn - atM C dn i - n) : Nat) := by
  have hm := mostM_le hR hC dn
  have hst := stepM_le hC h0 dn
  have h36 := bounds36 hR hC
  refine down (mostM R C dn - atM C dn i) ?_ ?_
  · intro n h hn
    apply ev_succ
    simp only [impl_run.l0]
    rw [wrap64_id (n := (atM C dn i : Int) + n) (by omega) (by omega)]
    refine ev_neg (by omega) (ev_now ?_)
    rw [show mostM R C dn - atM C dn i - n = 0 by omega]
    rfl
  · intro n h ih hn
    have hlt := cell_lt h0 hi (show atM C dn i + n < mostM R C dn by omega)
    have hb := mul_bound (show n ≤ 6 by omega) (show stepM C dn ≤ 6 by omega)
    have hcast : ((n : Int) * (stepM C dn : Int)) = ((n * stepM C dn : Nat) : Int) := by rw [Int.natCast_mul]
    apply ev_succ
    simp only [impl_run.l0]
    rw [wrap64_id (n := (atM C dn i : Int) + n) (by omega) (by omega), hcast, wrap64_id (n := ((n * stepM C dn : Nat) : Int)) (by omega) (by omega), wrap64_id (n := (i : Int) + _) (by omega) (by omega), wrap64_id (n := (n : Int) + 1) (by omega) (by omega), succ_cast]
    rw [show mostM R C dn - atM C dn i - n = (mostM R C dn - atM C dn i - (n + 1)) + 1 by omega]
    unfold runLen
    rw [show ((i : Int) + ((n * stepM C dn : Nat) : Int)) = ((i + n * stepM C dn : Nat) : Int) by omega]
    refine ev_pos (by omega) (ev_pos (by omega) (ev_pos (by omega) ?_))
    by_cases hw : bt s (i + n * stepM C dn : Nat) = 46
    · rw [if_pos hw]
      refine ev_pos hw (ev_eq (ih (by omega)) ?_)
      rw [show i + (n + 1) * stepM C dn = i + n * stepM C dn + stepM C dn by rw [Nat.add_mul, Nat.one_mul, Nat.add_assoc]]
      omega
    · rw [if_neg hw]
      exact ev_neg hw (ev_now (by simp))
theorem impl_run_ev (R C : Nat) (s : ByteArray) (hR : R ≤ 6) (hC : C ≤ 6) (h0 : 0 < C) (hs : s.size = R * C) (i : Nat) (dn : Bool) (hi : i < R * C) :
    Ev (fun k => impl_run.f k R C s i dn) (runM R C s i dn : Nat) := by
  have hst := stepM_le hC h0 dn
  have h36 := bounds36 hR hC
  have hl0 := impl_run_l0_ev R C s R C hR hC h0 hs i dn hi 0
  have key : Ev (fun k => impl_run.j0 k i (stepM C dn) (atM C dn i) (mostM R C dn) R C s) (runM R C s i dn : Nat) := by
    have hat : atM C dn i ≤ i ∧ (0 < atM C dn i → stepM C dn ≤ i) ∧ atM C dn i ≤ mostM R C dn := by
      cases dn with
      | true =>
        simp only [atM, stepM, mostM, if_true]
        refine ⟨Nat.div_le_self _ _, fun h => ?_, ?_⟩
        · exact (Nat.div_pos_iff.1 h).2
        · exact Nat.le_of_lt ((Nat.div_lt_iff_lt_mul h0).2 hi)
      | false =>
        simp only [atM, stepM, mostM, Bool.false_eq_true, if_false]
        have := Nat.mod_le i C
        have := Nat.mod_lt i h0
        omega
    have hj1 : ∀ b : Bool, (b = true → Ev (fun k => impl_run.j1 k i (stepM C dn) (atM C dn i) (mostM R C dn) b R C s) 0) ∧
        (b = false → Ev (fun k => impl_run.j1 k i (stepM C dn) (atM C dn i) (mostM R C dn) b R C s) (runLen s (stepM C dn) i (mostM R C dn - atM C dn i) : Nat)) := by
      intro b
      refine ⟨fun hb => ?_, fun hb => ?_⟩
      · apply ev_succ
        simp only [impl_run.j1]
        exact ev_pos hb (ev_now rfl)
      · apply ev_succ
        simp only [impl_run.j1]
        exact ev_neg (by simp [hb]) (by simpa using hl0 (by omega))
    apply ev_succ
    simp only [impl_run.j0]
    refine ev_pos (by omega) (ev_pos (by omega) ?_)
    unfold runM
    by_cases hw : bt s i = 46
    · refine ev_pos hw ?_
      by_cases ha : 0 < atM C dn i
      · have h2 := hat.2.1 ha
        rw [wrap64_id (n := (i : Int) - _) (by omega) (by omega), show ((i : Int) - (stepM C dn : Nat)) = ((i - stepM C dn : Nat) : Int) by omega]
        refine ev_pos (by omega) (ev_pos (by omega) (ev_pos (by omega) ?_))
        by_cases hp : bt s (i - stepM C dn : Nat) = 46
        · rw [if_neg (by simp [ha, hp])]
          exact (hj1 _).1 (by simp [hp])
        · rw [if_pos ⟨hw, fun x => hp x.2⟩]
          exact (hj1 _).2 (by simp [hp])
      · rw [if_pos ⟨hw, fun x => ha x.1⟩]
        exact ev_neg (by omega) ((hj1 false).2 rfl)
    · rw [if_neg (fun x => hw x.1)]
      exact ev_neg hw ((hj1 true).1 rfl)
  unfold impl_run.f
  refine ev_neg (by omega) ?_
  cases dn with
  | true =>
    refine ev_pos rfl ?_
    have e : Int.tdiv (i : Int) (C : Int) = ((i / C : Nat) : Int) := Int.ofNat_tdiv i C |>.symm
    have hd := Nat.div_le_self i C
    have hq := Int.natCast_nonneg (i / C)
    rw [e, wrap64_id (by omega) (by omega)]
    simpa only [stepM, atM, mostM, if_true] using key
  | false =>
    refine ev_neg (by simp) ?_
    have e : Int.tmod (i : Int) (C : Int) = ((i % C : Nat) : Int) := Int.ofNat_tmod i C |>.symm
    rw [e]
    simpa [stepM, atM, mostM] using key

/-! ### slotsof -/
abbrev ISlot := S68
theorem rd_Slot_get {l : List ISlot} {i : Nat} (h : i < l.length) : rd_T68 l (i : Int) = l[i] := by
  unfold rd_T68
  simp [h]
/-- The slots that begin at a cell, under a number. -/
def slotsOne (R C : Nat) (s : ByteArray) (i : Nat) (n : Int) : List ISlot :=
  (if 2 ≤ runM R C s i false then [⟨n, false, i, runM R C s i false⟩] else []) ++ (if 2 ≤ runM R C s i true then [⟨n, true, i, runM R C s i true⟩] else [])
def numOne (R C : Nat) (s : ByteArray) (i : Nat) (n : Int) : Int := if 2 ≤ runM R C s i false ∨ 2 ≤ runM R C s i true then n + 1 else n
def slotsGo (R C : Nat) (s : ByteArray) : List Nat → Int → List ISlot
  | [], _ => []
  | i :: l, n => slotsOne R C s i (numOne R C s i n) ++ slotsGo R C s l (numOne R C s i n)
/-- The slots of a grid; none of what is no grid. -/
def slotsM (r c : Int) (s : ByteArray) : List ISlot := if gridM r c s then slotsGo r.toNat c.toNat s (List.range' 0 (s.size - 0)) 0 else []
theorem slotsOne_length (R C : Nat) (s : ByteArray) (i : Nat) (n : Int) : (slotsOne R C s i n).length ≤ 2 := by
  unfold slotsOne
  split <;> split <;> simp
theorem slotsGo_length (R C : Nat) (s : ByteArray) : ∀ (l : List Nat) (n : Int), (slotsGo R C s l n).length ≤ 2 * l.length
  | [], _ => by simp [slotsGo]
  | i :: l, n => by
    unfold slotsGo
    have h1 := slotsOne_length R C s i (numOne R C s i n)
    have h2 := slotsGo_length R C s l (numOne R C s i n)
    simp only [List.length_append, List.length_cons]
    omega
theorem slotsM_length (r c : Int) (s : ByteArray) : (slotsM r c s).length ≤ 72 := by
  unfold slotsM
  split
  · rename_i h
    obtain ⟨R, C, rfl, rfl, _, hR, _, hC, hs⟩ := gridM_nat h
    have := slotsGo_length R C s (List.range' 0 (s.size - 0)) 0
    have h36 := bounds36 hR hC
    rw [List.length_range'] at this
    simp only [Int.toNat_natCast]
    omega
  · simp
theorem spec_SlotsOf_j3_ev {acc : List ISlot} {n : Int} {i a d : Nat} {r c : Int} {s : ByteArray} {ρ : List ISlot} (ha : acc.length ≤ 72) (hi : i ≤ 100)
    (h : Ev (fun k => spec_SlotsOf.l0 k (acc ++ ((if 2 ≤ a then [⟨n, false, i, a⟩] else []) ++ (if 2 ≤ d then [⟨n, true, i, d⟩] else []))) n (i + 1 : Nat) r c s) ρ) : Ev (fun k => spec_SlotsOf.j3 k acc n i a d r c s) ρ := by
  apply ev_succ
  simp only [spec_SlotsOf.j3]
  rw [wrap64_id (n := (i : Int) + 1) (by omega) (by omega), succ_cast]
  by_cases h1 : 2 ≤ a
  · rw [if_pos h1] at h
    refine ev_pos (by omega) (ev_pos (by omega) (ev_let rfl ?_))
    by_cases h2 : 2 ≤ d
    · rw [if_pos h2] at h
      exact ev_pos (by omega) (ev_pos (by simp; omega) (by simpa using h))
    · rw [if_neg h2] at h
      exact ev_neg (by omega) (by simpa using h)
  · rw [if_neg h1] at h
    refine ev_neg (by omega) ?_
    by_cases h2 : 2 ≤ d
    · rw [if_pos h2] at h
      exact ev_pos (by omega) (ev_pos (by omega) (by simpa using h))
    · rw [if_neg h2] at h
      exact ev_neg (by omega) (by simpa using h)
theorem spec_SlotsOf_l0_ev (R C : Nat) (s : ByteArray) (hR : 2 ≤ R ∧ R ≤ 6) (hC : 2 ≤ C ∧ C ≤ 6) (hg : gridM R C s = true) (hs : s.size = R * C) : ∀ i : Nat, i ≤ s.size → ∀ (acc : List ISlot) (n : Int), acc.length ≤ 2 * i → 0 ≤ n → n ≤ i →
    Ev (fun k => spec_SlotsOf.l0 k acc n i R C s) (acc ++ slotsGo R C s (List.range' i (s.size - i)) n) := by
  have h36 := bounds36 hR.2 hC.2
  refine down s.size ?_ ?_
  · intro i h hi acc n ha h0 hn
    apply ev_succ
    simp only [spec_SlotsOf.l0]
    refine ev_neg (by omega) (ev_succ ?_)
    simp only [spec_SlotsOf.j1]
    rw [range_nil h]
    exact ev_neg (by simp) (ev_now (by simp [slotsGo]))
  · intro i h ih hi acc n ha h0 hn
    apply ev_succ
    simp only [spec_SlotsOf.l0]
    refine ev_pos (by omega) (ev_bind (spec_IsGrid_ev R C s (by omega)) (ev_succ ?_))
    simp only [spec_SlotsOf.j1]
    refine ev_pos hg (ev_bind (spec_l8From_ev R C s hR.2 hC.2 (by omega) hs i false (by omega)) (ev_bind (spec_l8From_ev R C s hR.2 hC.2 (by omega) hs i true (by omega)) ?_))
    rw [range_cons h]
    unfold slotsGo
    have hnum : numOne R C s i n ≤ i + 1 ∧ 0 ≤ numOne R C s i n := by
      unfold numOne
      split <;> omega
    have hl := slotsOne_length R C s i (numOne R C s i n)
    have hnext := ih (by omega) (acc ++ slotsOne R C s i (numOne R C s i n)) (numOne R C s i n) (by simp; omega) hnum.2 (by omega)
    rw [List.append_assoc] at hnext
    have key : ∀ b : Bool, b = decide (2 ≤ runM R C s i false ∨ 2 ≤ runM R C s i true) → Ev (fun k => spec_SlotsOf.j2 k acc n i (runM R C s i false : Nat) (runM R C s i true : Nat) b R C s) (acc ++ (slotsOne R C s i (numOne R C s i n) ++ slotsGo R C s (List.range' (i + 1) (s.size - (i + 1))) (numOne R C s i n))) := by
      intro b hb
      apply ev_succ
      simp only [spec_SlotsOf.j2]
      rw [wrap64_id (n := n + 1) (by omega) (by omega)]
      by_cases hc : 2 ≤ runM R C s i false ∨ 2 ≤ runM R C s i true
      · have e : numOne R C s i n = n + 1 := if_pos hc
        rw [e] at hnext ⊢
        exact ev_pos (by rw [hb]; simpa using hc) (spec_SlotsOf_j3_ev (by omega) (by omega) hnext)
      · have e : numOne R C s i n = n := if_neg hc
        rw [e] at hnext ⊢
        exact ev_neg (by rw [hb]; simpa using hc) (spec_SlotsOf_j3_ev (by omega) (by omega) hnext)
    by_cases h1 : 2 ≤ runM R C s i false
    · exact ev_pos (by omega) (key true (decide_eq_true (.inl h1)).symm)
    · exact ev_neg (by omega) (key _ (decide_eq_decide.2 (by omega)))
theorem spec_SlotsOf_ev (r c : Int) (s : ByteArray) (hs : s.size ≤ 1048576) : Ev (fun k => spec_SlotsOf.f k r c s) (slotsM r c s) := by
  unfold spec_SlotsOf.f slotsM
  by_cases hg : gridM r c s = true
  · rw [if_pos hg]
    obtain ⟨R, C, rfl, rfl, h1, h2, h3, h4, h5⟩ := gridM_nat hg
    simpa using spec_SlotsOf_l0_ev R C s ⟨h1, h2⟩ ⟨h3, h4⟩ hg h5 0 (by omega) [] 0 (by simp) (by omega) (by omega)
  · rw [if_neg hg]
    have hj : Ev (fun k => spec_SlotsOf.j1 k [] 0 0 false r c s) [] := by
      apply ev_succ
      simp only [spec_SlotsOf.j1]
      exact ev_neg (by simp) (ev_now rfl)
    apply ev_succ
    simp only [spec_SlotsOf.l0]
    by_cases h : (0 : Int) < (s.size : Int)
    · refine ev_pos h (ev_bind (spec_IsGrid_ev r c s (by omega)) ?_)
      rw [Bool.not_eq_true] at hg
      rw [hg]
      exact hj
    · exact ev_neg h hj
theorem impl_SlotsOf_j2_ev {acc : List ISlot} {n : Int} {i a d m : Nat} {r c : Int} {s : ByteArray} {ρ : List ISlot} (ha : acc.length ≤ 72) (hi : i ≤ 100)
    (h : Ev (fun k => impl_SlotsOf.l0 k (acc ++ ((if 2 ≤ a then [⟨n, false, i, a⟩] else []) ++ (if 2 ≤ d then [⟨n, true, i, d⟩] else []))) n m (i + 1 : Nat) r c s) ρ) : Ev (fun k => impl_SlotsOf.j2 k acc n i a d m i r c s) ρ := by
  apply ev_succ
  simp only [impl_SlotsOf.j2]
  rw [wrap64_id (n := (i : Int) + 1) (by omega) (by omega), succ_cast]
  by_cases h1 : 2 ≤ a
  · rw [if_pos h1] at h
    refine ev_pos (by omega) (ev_pos (by omega) (ev_let rfl ?_))
    by_cases h2 : 2 ≤ d
    · rw [if_pos h2] at h
      exact ev_pos (by omega) (ev_pos (by simp; omega) (by simpa using h))
    · rw [if_neg h2] at h
      exact ev_neg (by omega) (by simpa using h)
  · rw [if_neg h1] at h
    refine ev_neg (by omega) ?_
    by_cases h2 : 2 ≤ d
    · rw [if_pos h2] at h
      exact ev_pos (by omega) (ev_pos (by omega) (by simpa using h))
    · rw [if_neg h2] at h
      exact ev_neg (by omega) (by simpa using h)
theorem impl_SlotsOf_l0_ev (R C : Nat) (s : ByteArray) (hR : 2 ≤ R ∧ R ≤ 6) (hC : 2 ≤ C ∧ C ≤ 6) (hs : s.size = R * C) : ∀ i : Nat, i ≤ s.size → ∀ (acc : List ISlot) (n : Int), acc.length ≤ 2 * i → 0 ≤ n → n ≤ i →
    Ev (fun k => impl_SlotsOf.l0 k acc n s.size i R C s) (acc ++ slotsGo R C s (List.range' i (s.size - i)) n) := by
  have h36 := bounds36 hR.2 hC.2
  refine down s.size ?_ ?_
  · intro i h hi acc n ha h0 hn
    apply ev_succ
    simp only [impl_SlotsOf.l0]
    rw [range_nil h]
    exact ev_neg (by omega) (ev_now (by simp [slotsGo]))
  · intro i h ih hi acc n ha h0 hn
    apply ev_succ
    simp only [impl_SlotsOf.l0]
    refine ev_pos (by omega) (ev_bind (impl_run_ev R C s hR.2 hC.2 (by omega) hs i false (by omega)) (ev_bind (impl_run_ev R C s hR.2 hC.2 (by omega) hs i true (by omega)) ?_))
    rw [range_cons h]
    unfold slotsGo
    have hnum : numOne R C s i n ≤ i + 1 ∧ 0 ≤ numOne R C s i n := by
      unfold numOne
      split <;> omega
    have hl := slotsOne_length R C s i (numOne R C s i n)
    have hnext := ih (by omega) (acc ++ slotsOne R C s i (numOne R C s i n)) (numOne R C s i n) (by simp; omega) hnum.2 (by omega)
    rw [List.append_assoc] at hnext
    have key : ∀ b : Bool, b = decide (2 ≤ runM R C s i false ∨ 2 ≤ runM R C s i true) → Ev (fun k => impl_SlotsOf.j1 k acc n i (runM R C s i false : Nat) (runM R C s i true : Nat) s.size i b R C s) (acc ++ (slotsOne R C s i (numOne R C s i n) ++ slotsGo R C s (List.range' (i + 1) (s.size - (i + 1))) (numOne R C s i n))) := by
      intro b hb
      apply ev_succ
      simp only [impl_SlotsOf.j1]
      rw [wrap64_id (n := n + 1) (by omega) (by omega)]
      by_cases hc : 2 ≤ runM R C s i false ∨ 2 ≤ runM R C s i true
      · have e : numOne R C s i n = n + 1 := if_pos hc
        rw [e] at hnext ⊢
        exact ev_pos (by rw [hb]; simpa using hc) (impl_SlotsOf_j2_ev (by omega) (by omega) hnext)
      · have e : numOne R C s i n = n := if_neg hc
        rw [e] at hnext ⊢
        exact ev_neg (by rw [hb]; simpa using hc) (impl_SlotsOf_j2_ev (by omega) (by omega) hnext)
    by_cases h1 : 2 ≤ runM R C s i false
    · exact ev_pos (by omega) (key true (decide_eq_true (.inl h1)).symm)
    · exact ev_neg (by omega) (key _ (decide_eq_decide.2 (by omega)))
theorem impl_SlotsOf_ev (r c : Int) (s : ByteArray) (hs : s.size ≤ 1048576) : Ev (fun k => impl_SlotsOf.f k r c s) (slotsM r c s) := by
  unfold impl_SlotsOf.f slotsM
  refine ev_bind (impl_IsGrid_ev r c s (by omega)) ?_
  by_cases hg : gridM r c s = true
  · rw [if_pos hg]
    obtain ⟨R, C, rfl, rfl, h1, h2, h3, h4, h5⟩ := gridM_nat hg
    exact ev_pos hg (by simpa using impl_SlotsOf_l0_ev R C s ⟨h1, h2⟩ ⟨h3, h4⟩ h5 0 (by omega) [] 0 (by simp) (by omega) (by omega))
  · rw [if_neg hg]
    exact ev_neg hg (ev_now rfl)

/-! ### cells -/
theorem slot_ext_iff {a b : ISlot} : (a.f0 = b.f0 ∧ a.f1 = b.f1 ∧ a.f2 = b.f2 ∧ a.f3 = b.f3) ↔ a = b := by
  cases a
  cases b
  simp
instance decSlot : DecidableEq ISlot := fun a b => decidable_of_iff _ slot_ext_iff
/-- The cells of a slot. -/
def cellsM (C : Nat) (x : ISlot) : List Int := (List.range' 0 (x.f3.toNat - 0)).map fun k : Nat => x.f2 + (k : Int) * (stepM C x.f1 : Int)
def okSlot (R C : Nat) (s : ByteArray) (x : ISlot) : Prop := ∃ i : Nat, i < R * C ∧ x.f2 = i ∧ x.f3 = runM R C s i x.f1 ∧ 2 ≤ runM R C s i x.f1
theorem slotsOne_mem {R C : Nat} {s : ByteArray} {i : Nat} {n : Int} {x : ISlot} (h : x ∈ slotsOne R C s i n) : x.f0 = n ∧ x.f2 = i ∧ x.f3 = runM R C s i x.f1 ∧ 2 ≤ runM R C s i x.f1 := by
  unfold slotsOne at h
  rcases List.mem_append.1 h with h | h
  · split at h
    · rename_i h2
      rw [List.mem_singleton] at h
      subst h
      exact ⟨rfl, rfl, rfl, h2⟩
    · cases h
  · split at h
    · rename_i h2
      rw [List.mem_singleton] at h
      subst h
      exact ⟨rfl, rfl, rfl, h2⟩
    · cases h
theorem slotsGo_mem {R C : Nat} {s : ByteArray} {x : ISlot} : ∀ {l : List Nat} {n : Int}, x ∈ slotsGo R C s l n → ∃ i ∈ l, x.f2 = i ∧ x.f3 = runM R C s i x.f1 ∧ 2 ≤ runM R C s i x.f1
  | [], _, h => by cases h
  | i :: l, n, h => by
    unfold slotsGo at h
    rcases List.mem_append.1 h with h | h
    · exact ⟨i, List.mem_cons_self, (slotsOne_mem h).2⟩
    · obtain ⟨j, hj, h2⟩ := slotsGo_mem h
      exact ⟨j, List.mem_cons_of_mem _ hj, h2⟩
theorem slotsM_ok {r c : Int} {s : ByteArray} {x : ISlot} (h : x ∈ slotsM r c s) : ∃ R C : Nat, r = R ∧ c = C ∧ 2 ≤ R ∧ R ≤ 6 ∧ 2 ≤ C ∧ C ≤ 6 ∧ s.size = R * C ∧ gridM r c s = true ∧ okSlot R C s x := by
  unfold slotsM at h
  split at h
  · rename_i hg
    obtain ⟨R, C, rfl, rfl, h1, h2, h3, h4, h5⟩ := gridM_nat hg
    obtain ⟨i, hi, h6⟩ := slotsGo_mem h
    rw [List.mem_range'] at hi
    obtain ⟨j, hj, rfl⟩ := hi
    refine ⟨R, C, rfl, rfl, h1, h2, h3, h4, h5, hg, _, ?_, h6⟩
    omega
  · cases h
def slotLt (a b : ISlot) : Prop := a.f2 < b.f2 ∨ (a.f2 = b.f2 ∧ a.f1 = false ∧ b.f1 = true)
theorem slotLt_ne {a b : ISlot} (h : slotLt a b) : a ≠ b := by
  rintro rfl
  rcases h with h | ⟨_, h1, h2⟩
  · omega
  · rw [h1] at h2
    cases h2
theorem slotsGo_pairwise {R C : Nat} {s : ByteArray} : ∀ {l : List Nat} {n : Int}, l.Pairwise (· < ·) → (slotsGo R C s l n).Pairwise slotLt
  | [], _, _ => by simp [slotsGo]
  | i :: l, n, h => by
    unfold slotsGo
    rw [List.pairwise_append]
    refine ⟨?_, slotsGo_pairwise (List.pairwise_cons.1 h).2, ?_⟩
    · unfold slotsOne
      rw [List.pairwise_append]
      refine ⟨by split <;> simp, by split <;> simp, ?_⟩
      intro a ha b hb
      split at ha
      · split at hb
        · rw [List.mem_singleton] at ha hb
          subst ha hb
          exact .inr ⟨rfl, rfl, rfl⟩
        · cases hb
      · cases ha
    · intro a ha b hb
      have h1 := (slotsOne_mem ha).2.1
      obtain ⟨j, hj, h2, _⟩ := slotsGo_mem hb
      have := (List.pairwise_cons.1 h).1 j hj
      exact .inl (by omega)
theorem slotsM_pairwise (r c : Int) (s : ByteArray) : (slotsM r c s).Pairwise slotLt := by
  unfold slotsM
  split
  · exact slotsGo_pairwise (List.pairwise_lt_range' (step := 1) (by omega))
  · simp
theorem slotsM_nodup (r c : Int) (s : ByteArray) : (slotsM r c s).Nodup := (slotsM_pairwise r c s).imp slotLt_ne
theorem okSlot_bounds {R C : Nat} {s : ByteArray} {x : ISlot} (hR : R ≤ 6) (hC : C ≤ 6) (h : okSlot R C s x) : 0 ≤ x.f2 ∧ x.f2 < 36 ∧ 2 ≤ x.f3 ∧ x.f3 ≤ 6 ∧ x.f3.toNat ≤ 6 := by
  obtain ⟨i, hi, h2, h3, h4⟩ := h
  have h36 := bounds36 hR hC
  have h5 : runM R C s i x.f1 ≤ 6 := by
    unfold runM
    split
    · have := runLen_le s (stepM C x.f1) (mostM R C x.f1 - atM C x.f1 i) i
      have := mostM_le hR hC x.f1
      omega
    · omega
  omega
/-- What CellsOf answers. -/
def cellsOfM (r c : Int) (s : ByteArray) (x : ISlot) : List Int := if x ∈ slotsM r c s then cellsM c.toNat x else []
theorem cellsM_length (C : Nat) (x : ISlot) : (cellsM C x).length = x.f3.toNat := by simp [cellsM]
theorem cellsOfM_length (r c : Int) (s : ByteArray) (x : ISlot) : (cellsOfM r c s x).length ≤ 6 := by
  unfold cellsOfM
  split
  · rename_i h
    obtain ⟨R, C, rfl, rfl, _, h2, _, h4, _, _, hk⟩ := slotsM_ok h
    have := okSlot_bounds h2 h4 hk
    rw [cellsM_length]
    omega
  · simp
theorem cell_wrap {C : Nat} {x : ISlot} {k : Nat} (hC : C ≤ 6) (_ : 0 < C) (hk : k ≤ 6) (h1 : 0 ≤ x.f2) (h2 : x.f2 < 36) : wrap64 ((k : Int) * (C : Int)) = (k : Int) * (C : Int) ∧ wrap64 (x.f2 + (k : Int) * (C : Int)) = x.f2 + (k : Int) * (C : Int) := by
  have hb := mul_bound hk hC
  have hcast : ((k : Int) * (C : Int)) = ((k * C : Nat) : Int) := by rw [Int.natCast_mul]
  rw [hcast]
  exact ⟨wrap64_id (by omega) (by omega), wrap64_id (by omega) (by omega)⟩
theorem spec_CellsOf_l1_ev {l : List ISlot} {j : Nat} {R C : Nat} {s : ByteArray} {x : ISlot} {ρ : List Int} (hl : l.length ≤ 1048576) (hj : j < l.length) (hC : C ≤ 6) (h0 : 0 < C) (hx : 0 ≤ x.f2 ∧ x.f2 < 36 ∧ 0 ≤ x.f3 ∧ x.f3.toNat ≤ 6) : ∀ n : Nat, n ≤ x.f3.toNat → ∀ acc : List Int, acc.length ≤ 1000000 + n →
    Ev (fun k => spec_CellsOf.l0 k (acc ++ (List.range' n (x.f3.toNat - n)).map fun k : Nat => x.f2 + (k : Int) * (stepM C x.f1 : Int)) l (j + 1 : Nat) R C s x.f0 x.f1 x.f2 x.f3) ρ → Ev (fun k => spec_CellsOf.l1 k acc l j n R C s x.f0 x.f1 x.f2 x.f3) ρ := by
  refine down x.f3.toNat ?_ ?_
  · intro n h hn acc ha hρ
    apply ev_succ
    simp only [spec_CellsOf.l1]
    rw [wrap64_id (n := (j : Int) + 1) (by omega) (by omega), succ_cast]
    rw [range_nil h] at hρ
    exact ev_neg (by omega) (by simpa using hρ)
  · intro n h ih hn acc ha hρ
    apply ev_succ
    simp only [spec_CellsOf.l1]
    rw [wrap64_id (n := (n : Int) + 1) (by omega) (by omega), succ_cast]
    rw [range_cons h, List.map_cons] at hρ
    have hw := cell_wrap (x := x) hC h0 (show n ≤ 6 by omega) hx.1 hx.2.1
    refine ev_pos (by omega) ?_
    cases hd : x.f1 with
    | true =>
      refine ev_pos rfl (ev_pos (by omega) ?_)
      rw [hw.1, hw.2]
      have := ih (by omega) (acc ++ [x.f2 + (n : Int) * (C : Int)]) (by simp; omega)
      rw [hd] at this hρ
      exact this (by simpa [stepM] using hρ)
    | false =>
      refine ev_neg (by simp) (ev_pos (by omega) ?_)
      rw [wrap64_id (n := x.f2 + n) (by omega) (by omega)]
      have := ih (by omega) (acc ++ [x.f2 + (n : Int)]) (by simp; omega)
      rw [hd] at this hρ
      exact this (by simpa [stepM] using hρ)
theorem spec_CellsOf_l0_ev (R C : Nat) (s : ByteArray) (x : ISlot) (l : List ISlot) (hl : l.length ≤ 1000) (hC : C ≤ 6) (h0 : 0 < C) (hx : x ∈ l → 0 ≤ x.f2 ∧ x.f2 < 36 ∧ 0 ≤ x.f3 ∧ x.f3.toNat ≤ 6) : ∀ i : Nat, i ≤ l.length → ∀ acc : List Int, acc.length ≤ 6 * i →
    Ev (fun k => spec_CellsOf.l0 k acc l i R C s x.f0 x.f1 x.f2 x.f3) (acc ++ (l.drop i).flatMap fun y => if y = x then cellsM C x else []) := by
  refine down l.length ?_ ?_
  · intro i h hi acc ha
    apply ev_succ
    simp only [spec_CellsOf.l0]
    exact ev_neg (by omega) (ev_now (by rw [List.drop_eq_nil_of_le h]; simp))
  · intro i h ih hi acc ha
    apply ev_succ
    simp only [spec_CellsOf.l0]
    rw [rd_Slot_get h, wrap64_id (n := (i : Int) + 1) (by omega) (by omega), succ_cast, List.drop_eq_getElem_cons h, List.flatMap_cons]
    refine ev_pos (by omega) (ev_pos (by omega) ?_)
    by_cases he : l[i] = x
    · have hm : x ∈ l := he ▸ List.getElem_mem h
      have hb := hx hm
      rw [if_pos he]
      refine ev_neg (by rw [he]; simp) ?_
      have := ih (by omega) (acc ++ cellsM C x) (by rw [List.length_append, cellsM_length]; omega)
      exact spec_CellsOf_l1_ev (by omega) h hC h0 hb 0 (by omega) acc (by omega) (by simpa [cellsM] using this)
    · rw [if_neg he]
      refine ev_pos ?_ (by simpa using ih (by omega) acc (by omega))
      rw [← slot_ext_iff] at he
      simp only [Bool.or_eq_true, Bool.not_eq_true', beq_eq_false_iff_ne, ne_eq]
      by_cases a : l[i].f0 = x.f0 <;> by_cases b : l[i].f1 = x.f1 <;> by_cases c : l[i].f2 = x.f2 <;> simp_all
theorem flatMap_one {l : List ISlot} {x : ISlot} {v : List Int} (h : l.Nodup) : (l.flatMap fun y => if y = x then v else []) = if x ∈ l then v else [] := by
  induction l with
  | nil => simp
  | cons a l ih =>
    rw [List.nodup_cons] at h
    rw [List.flatMap_cons, ih h.2]
    by_cases e : a = x
    · subst e
      simp [h.1]
    · simp [e, show ¬ x = a from fun h => e h.symm]
theorem spec_CellsOf_ev (r c : Int) (s : ByteArray) (x : ISlot) (hs : s.size ≤ 1048576) : Ev (fun k => spec_CellsOf.f k r c s x.f0 x.f1 x.f2 x.f3) (cellsOfM r c s x) := by
  unfold spec_CellsOf.f
  refine ev_bind (spec_SlotsOf_ev r c s hs) ?_
  by_cases hg : gridM r c s = true
  · obtain ⟨R, C, rfl, rfl, h1, h2, h3, h4, h5⟩ := gridM_nat hg
    have hl := slotsM_length R C s
    refine ev_eq (spec_CellsOf_l0_ev R C s x (slotsM R C s) (by omega) h4 (by omega) ?_ 0 (by omega) [] (by simp)) ?_
    · intro hm
      obtain ⟨R', C', e1, e2, _, h7, _, h9, _, _, hk⟩ := slotsM_ok hm
      have := okSlot_bounds h7 h9 hk
      omega
    · rw [List.drop_zero, flatMap_one (slotsM_nodup _ _ _)]
      simp [cellsOfM]
  · have e : slotsM r c s = [] := by
      unfold slotsM
      rw [if_neg hg]
    unfold cellsOfM
    rw [e]
    apply ev_succ
    simp only [spec_CellsOf.l0]
    exact ev_neg (by simp) (ev_now (by simp))
theorem impl_cells_l0_ev (C : Nat) (x : ISlot) (hC : C ≤ 6) (h0 : 0 < C) (hx : 0 ≤ x.f2 ∧ x.f2 < 36 ∧ 0 ≤ x.f3 ∧ x.f3.toNat ≤ 6) : ∀ n : Nat, n ≤ x.f3.toNat → ∀ acc : List Int, acc.length ≤ n →
    Ev (fun k => impl_cells.l0 k (stepM C x.f1) acc x.f3 n x.f0 x.f1 x.f2 x.f3) (acc ++ (List.range' n (x.f3.toNat - n)).map fun k : Nat => x.f2 + (k : Int) * (stepM C x.f1 : Int)) := by
  refine down x.f3.toNat ?_ ?_
  · intro n h hn acc ha
    apply ev_succ
    simp only [impl_cells.l0]
    rw [range_nil h]
    exact ev_neg (by omega) (ev_now (by simp))
  · intro n h ih hn acc ha
    have hst := stepM_le hC h0 x.f1
    have hw := cell_wrap (C := stepM C x.f1) (x := x) hst.2 (by omega) (show n ≤ 6 by omega) hx.1 hx.2.1
    apply ev_succ
    simp only [impl_cells.l0]
    rw [wrap64_id (n := (n : Int) + 1) (by omega) (by omega), succ_cast, hw.1, hw.2, range_cons h, List.map_cons]
    exact ev_pos (by omega) (ev_pos (by omega) (ev_eq (ih (by omega) _ (by simp; omega)) (by simp)))
theorem impl_cells_ev (R : Int) (C : Nat) (s : ByteArray) (x : ISlot) (hC : C ≤ 6) (h0 : 0 < C) (hx : 0 ≤ x.f2 ∧ x.f2 < 36 ∧ 0 ≤ x.f3 ∧ x.f3.toNat ≤ 6) : Ev (fun k => impl_cells.f k R C s x.f0 x.f1 x.f2 x.f3) (cellsM C x) := by
  have key : Ev (fun k => impl_cells.j0 k (stepM C x.f1) x.f0 x.f1 x.f2 x.f3) (cellsM C x) := by
    apply ev_succ
    simp only [impl_cells.j0]
    simpa [cellsM] using impl_cells_l0_ev C x hC h0 hx 0 (by omega) [] (by simp)
  unfold impl_cells.f
  cases hd : x.f1 with
  | true =>
    rw [hd] at key
    exact ev_pos rfl (by simpa [stepM] using key)
  | false =>
    rw [hd] at key
    exact ev_neg (by simp) (by simpa [stepM] using key)

/-! ### ints -/
theorem spec_l8Has_l0_ev (l : List Int) (n : Int) (hl : l.length ≤ 9223372036854775806) : ∀ i : Nat, i ≤ l.length → Ev (fun k => spec_l8Has.l0 k l n i) (decide (n ∈ l.drop i)) := by
  refine down l.length ?_ ?_
  · intro i h hi
    apply ev_succ
    simp only [spec_l8Has.l0]
    exact ev_neg (by omega) (ev_now (by rw [List.drop_eq_nil_of_le h]; simp))
  · intro i h ih hi
    apply ev_succ
    simp only [spec_l8Has.l0]
    rw [rd_get h, wrap64_id (n := (i : Int) + 1) (by omega) (by omega), succ_cast, List.drop_eq_getElem_cons h]
    refine ev_pos (by omega) (ev_pos (by omega) ?_)
    by_cases he : l[i] = n
    · exact ev_pos he (ev_now (by simp [-List.getElem_cons_drop, he]))
    · exact ev_neg he (ev_eq (ih (by omega)) (by simp [-List.getElem_cons_drop, show ¬ n = l[i] from fun e => he e.symm]))
theorem spec_l8Has_ev (l : List Int) (n : Int) (hl : l.length ≤ 9223372036854775806) : Ev (fun k => spec_l8Has.f k l n) (decide (n ∈ l)) := by
  unfold spec_l8Has.f
  exact ev_eq (spec_l8Has_l0_ev l n hl 0 (by omega)) (by simp)
/-- Where a number stands first; -1 where it does not. -/
def placeM (n : Int) : List Int → Nat → Int
  | [], _ => -1
  | a :: l, i => if a = n then i else placeM n l (i + 1)
theorem placeM_nonneg {n : Int} : ∀ {l : List Int} {i : Nat}, (0 ≤ placeM n l i ↔ n ∈ l)
  | [], i => by simp [placeM]
  | a :: l, i => by
    unfold placeM
    by_cases h : a = n
    · simp [h]
    · rw [if_neg h, placeM_nonneg]
      simp [show ¬ n = a from fun e => h e.symm]
theorem slices_Index_int_int_l0_ev (l : List Int) (n : Int) (hl : l.length ≤ 9223372036854775806) : ∀ i : Nat, i ≤ l.length → Ev (fun k => slices_Index_int_int.l0 k l n l.length i) (placeM n (l.drop i) i) := by
  refine down l.length ?_ ?_
  · intro i h hi
    apply ev_succ
    simp only [slices_Index_int_int.l0]
    exact ev_neg (by omega) (ev_now (by rw [List.drop_eq_nil_of_le h]; rfl))
  · intro i h ih hi
    apply ev_succ
    simp only [slices_Index_int_int.l0]
    rw [rd_get h, wrap64_id (n := (i : Int) + 1) (by omega) (by omega), succ_cast, List.drop_eq_getElem_cons h]
    unfold placeM
    refine ev_pos (by omega) (ev_pos (by omega) (ev_pos (by omega) ?_))
    by_cases he : n = l[i]
    · exact ev_pos he (ev_now (by rw [if_pos he.symm]))
    · exact ev_neg he (ev_eq (ih (by omega)) (by rw [if_neg (fun e => he e.symm)]))
theorem slices_Index_int_int_ev (l : List Int) (n : Int) (hl : l.length ≤ 9223372036854775806) : Ev (fun k => slices_Index_int_int.f k l n) (placeM n l 0) := by
  unfold slices_Index_int_int.f
  exact ev_eq (slices_Index_int_int_l0_ev l n hl 0 (by omega)) (by simp)
theorem slices_Contains_int_int_ev (l : List Int) (n : Int) (hl : l.length ≤ 9223372036854775806) : Ev (fun k => slices_Contains_int_int.f k l n) (decide (n ∈ l)) := by
  unfold slices_Contains_int_int.f
  refine ev_bind (slices_Index_int_int_ev l n hl) (ev_now ?_)
  rw [decide_eq_decide]
  exact placeM_nonneg

/-! ### slotsat -/
theorem rd_ints_get {l : List (List Int)} {i : Nat} (h : i < l.length) : rd_L5 l (i : Int) = l[i] := by
  unfold rd_L5
  simp [h]
/-- The places, from i on, of the slots that hold a cell. -/
def atGo (C : Nat) (cell : Int) : List ISlot → Nat → List Int
  | [], _ => []
  | x :: l, i => if cell ∈ cellsM C x then (i : Int) :: atGo C cell l (i + 1) else atGo C cell l (i + 1)
def slotsAtM (r c : Int) (s : ByteArray) (cell : Int) : List Int := atGo c.toNat cell (slotsM r c s) 0
def checkedM (r c : Int) (s : ByteArray) (cell : Int) : Bool := decide ((slotsAtM r c s cell).length = 2)
theorem atGo_length (C : Nat) (cell : Int) : ∀ (l : List ISlot) (i : Nat), (atGo C cell l i).length ≤ l.length
  | [], _ => by simp [atGo]
  | x :: l, i => by
    unfold atGo
    have := atGo_length C cell l (i + 1)
    split <;> simp only [List.length_cons] <;> omega
theorem slotsAtM_length (r c : Int) (s : ByteArray) (cell : Int) : (slotsAtM r c s cell).length ≤ 72 := by
  have := atGo_length c.toNat cell (slotsM r c s) 0
  have := slotsM_length r c s
  unfold slotsAtM
  omega
theorem slotsM_elem {r c : Int} {s : ByteArray} {i : Nat} (h : i < (slotsM r c s).length) : ∃ R C : Nat, r = R ∧ c = C ∧ C ≤ 6 ∧ 0 < C ∧ 0 ≤ (slotsM r c s)[i].f2 ∧ (slotsM r c s)[i].f2 < 36 ∧ 0 ≤ (slotsM r c s)[i].f3 ∧ (slotsM r c s)[i].f3.toNat ≤ 6 := by
  obtain ⟨R, C, h1, h2, h3, h4, h5, h6, _, _, hk⟩ := slotsM_ok (List.getElem_mem h)
  have := okSlot_bounds h4 h6 hk
  exact ⟨R, C, h1, h2, h6, by omega, by omega, by omega, by omega, by omega⟩
theorem cellsOfM_elem {r c : Int} {s : ByteArray} {i : Nat} (h : i < (slotsM r c s).length) : cellsOfM r c s (slotsM r c s)[i] = cellsM c.toNat (slotsM r c s)[i] := by
  unfold cellsOfM
  rw [if_pos (List.getElem_mem h)]
theorem cellsM_length_elem {r c : Int} {s : ByteArray} {i : Nat} (h : i < (slotsM r c s).length) : (cellsM c.toNat (slotsM r c s)[i]).length ≤ 6 := by
  rw [← cellsOfM_elem h]
  exact cellsOfM_length _ _ _ _
theorem spec_SlotsAt_l0_ev (r c : Int) (s : ByteArray) (cell : Int) (hs : s.size ≤ 1048576) : ∀ i : Nat, i ≤ (slotsM r c s).length → ∀ acc : List Int, acc.length ≤ i →
    Ev (fun k => spec_SlotsAt.l0 k cell acc (slotsM r c s) i r c s) (acc ++ atGo c.toNat cell ((slotsM r c s).drop i) i) := by
  have hl := slotsM_length r c s
  refine down (slotsM r c s).length ?_ ?_
  · intro i h hi acc ha
    apply ev_succ
    simp only [spec_SlotsAt.l0]
    exact ev_neg (by omega) (ev_now (by rw [List.drop_eq_nil_of_le h]; simp [atGo]))
  · intro i h ih hi acc ha
    have h6 := cellsM_length_elem h
    apply ev_succ
    simp only [spec_SlotsAt.l0]
    rw [rd_Slot_get h, wrap64_id (n := (i : Int) + 1) (by omega) (by omega), succ_cast, List.drop_eq_getElem_cons h]
    unfold atGo
    refine ev_pos (by omega) (ev_pos (by omega) (ev_bind (spec_CellsOf_ev r c s _ hs) ?_))
    rw [cellsOfM_elem h]
    refine ev_bind (spec_l8Has_ev _ cell (by omega)) ?_
    by_cases hm : cell ∈ cellsM c.toNat (slotsM r c s)[i]
    · rw [if_pos hm]
      exact ev_pos (by simpa using hm) (ev_pos (by omega) (ev_eq (ih (by omega) _ (by simp; omega)) (by simp)))
    · rw [if_neg hm]
      exact ev_neg (by simpa using hm) (ih (by omega) _ (by omega))
theorem spec_SlotsAt_ev (r c : Int) (s : ByteArray) (cell : Int) (hs : s.size ≤ 1048576) : Ev (fun k => spec_SlotsAt.f k r c s cell) (slotsAtM r c s cell) := by
  unfold spec_SlotsAt.f slotsAtM
  exact ev_bind (spec_SlotsOf_ev r c s hs) (ev_eq (spec_SlotsAt_l0_ev r c s cell hs 0 (by omega) [] (by simp)) (by simp))
theorem impl_layout_l0_ev (r c : Int) (s : ByteArray) : ∀ i : Nat, i ≤ (slotsM r c s).length → ∀ acc : List (List Int), acc.length ≤ i →
    Ev (fun k => impl_layout.l0 k acc (slotsM r c s) (slotsM r c s).length i r c s) (acc ++ ((slotsM r c s).drop i).map (cellsM c.toNat)) := by
  have hl := slotsM_length r c s
  refine down (slotsM r c s).length ?_ ?_
  · intro i h hi acc ha
    apply ev_succ
    simp only [impl_layout.l0]
    exact ev_neg (by omega) (ev_now (by rw [List.drop_eq_nil_of_le h]; simp))
  · intro i h ih hi acc ha
    obtain ⟨R, C, h1, h2, h3, h4, h5, h6, h7, h8⟩ := slotsM_elem h
    have e : c.toNat = C := by omega
    have hcells := impl_cells_ev r C s (slotsM r c s)[i] h3 h4 ⟨h5, h6, h7, h8⟩
    apply ev_succ
    simp only [impl_layout.l0]
    rw [rd_Slot_get h, wrap64_id (n := (i : Int) + 1) (by omega) (by omega), succ_cast, List.drop_eq_getElem_cons h, List.map_cons]
    refine ev_pos (by omega) (ev_pos (by omega) (ev_pos (by omega) (ev_bind (a := cellsM C (slotsM r c s)[i]) ?_ (ev_pos (by omega) ?_))))
    · rw [← h2] at hcells
      exact hcells
    · exact ev_eq (ih (by omega) _ (by simp; omega)) (by rw [e]; simp)
def layoutM (r c : Int) (s : ByteArray) : List (List Int) := (slotsM r c s).map (cellsM c.toNat)
theorem layoutM_length (r c : Int) (s : ByteArray) : (layoutM r c s).length = (slotsM r c s).length := by simp [layoutM]
theorem layoutM_get {r c : Int} {s : ByteArray} {i : Nat} (h : i < (slotsM r c s).length) : (layoutM r c s)[i]'(by rw [layoutM_length]; exact h) = cellsM c.toNat (slotsM r c s)[i] := by simp [layoutM]
theorem impl_layout_ev (r c : Int) (s : ByteArray) (hs : s.size ≤ 1048576) : Ev (fun k => impl_layout.f k r c s) (layoutM r c s) := by
  unfold impl_layout.f
  exact ev_bind (impl_SlotsOf_ev r c s hs) (ev_eq (impl_layout_l0_ev r c s 0 (by omega) [] (by simp)) (by simp [layoutM]))
theorem impl_SlotsAt_l0_ev (r c : Int) (s : ByteArray) (cell : Int) : ∀ i : Nat, i ≤ (slotsM r c s).length → ∀ acc : List Int, acc.length ≤ i →
    Ev (fun k => impl_SlotsAt.l0 k cell acc (layoutM r c s) (layoutM r c s).length i) (acc ++ atGo c.toNat cell ((slotsM r c s).drop i) i) := by
  have hl := slotsM_length r c s
  have hL := layoutM_length r c s
  refine down (slotsM r c s).length ?_ ?_
  · intro i h hi acc ha
    apply ev_succ
    simp only [impl_SlotsAt.l0]
    exact ev_neg (by omega) (ev_now (by rw [List.drop_eq_nil_of_le h]; simp [atGo]))
  · intro i h ih hi acc ha
    have h6 := cellsM_length_elem h
    apply ev_succ
    simp only [impl_SlotsAt.l0]
    rw [rd_ints_get (show i < (layoutM r c s).length by omega), layoutM_get h, wrap64_id (n := (i : Int) + 1) (by omega) (by omega), succ_cast, List.drop_eq_getElem_cons h]
    unfold atGo
    refine ev_pos (by omega) (ev_pos (by omega) (ev_pos (by omega) (ev_bind (slices_Contains_int_int_ev _ cell (by omega)) ?_)))
    by_cases hm : cell ∈ cellsM c.toNat (slotsM r c s)[i]
    · rw [if_pos hm]
      exact ev_pos (by simpa using hm) (ev_pos (by omega) (ev_eq (ih (by omega) _ (by simp; omega)) (by simp)))
    · rw [if_neg hm]
      exact ev_neg (by simpa using hm) (ih (by omega) _ (by omega))
theorem impl_SlotsAt_ev (r c : Int) (s : ByteArray) (cell : Int) (hs : s.size ≤ 1048576) : Ev (fun k => impl_SlotsAt.f k r c s cell) (slotsAtM r c s cell) := by
  unfold impl_SlotsAt.f slotsAtM
  exact ev_bind (impl_layout_ev r c s hs) (ev_eq (impl_SlotsAt_l0_ev r c s cell 0 (by omega) [] (by simp)) (by simp))
theorem len_two (l : List Int) : ((l.length : Int) == 2) = decide (l.length = 2) := by
  by_cases h : l.length = 2
  · simp [h]
  · simp [h]
    omega
theorem spec_IsChecked_ev (r c : Int) (s : ByteArray) (cell : Int) (hs : s.size ≤ 1048576) : Ev (fun k => spec_IsChecked.f k r c s cell) (checkedM r c s cell) := by
  unfold spec_IsChecked.f
  exact ev_bind (spec_SlotsAt_ev r c s cell hs) (ev_now (len_two _))
theorem impl_IsChecked_ev (r c : Int) (s : ByteArray) (cell : Int) (hs : s.size ≤ 1048576) : Ev (fun k => impl_IsChecked.f k r c s cell) (checkedM r c s cell) := by
  unfold impl_IsChecked.f
  exact ev_bind (impl_SlotsAt_ev r c s cell hs) (ev_now (len_two _))

/-! ### slotfacts -/
theorem runLen_white {s : ByteArray} {step : Nat} : ∀ {m i k : Nat}, k < runLen s step i m → bt s (i + k * step : Nat) = 46
  | 0, i, k, h => by simp [runLen] at h
  | m + 1, i, k, h => by
    unfold runLen at h
    split at h
    · rename_i hw
      cases k with
      | zero => simpa using hw
      | succ k =>
        have := runLen_white (s := s) (step := step) (m := m) (i := i + step) (k := k) (by omega)
        rw [show i + (k + 1) * step = i + step + k * step by rw [Nat.add_mul, Nat.one_mul]; omega]
        exact this
    · omega
theorem cellsM_mem {C : Nat} {x : ISlot} {c : Int} : c ∈ cellsM C x ↔ ∃ k : Nat, k < x.f3.toNat ∧ c = x.f2 + (k : Int) * (stepM C x.f1 : Int) := by
  unfold cellsM
  rw [List.mem_map]
  constructor
  · rintro ⟨k, hk, rfl⟩
    rw [List.mem_range'] at hk
    obtain ⟨j, hj, rfl⟩ := hk
    exact ⟨_, by omega, rfl⟩
  · rintro ⟨k, hk, rfl⟩
    exact ⟨k, by rw [List.mem_range']; exact ⟨k, by omega, by omega⟩, rfl⟩
/-- A slot's cell: its place, that it lies in the grid, that it is white. -/
theorem okSlot_cell {R C : Nat} {s : ByteArray} {x : ISlot} {c : Int} (h0 : 0 < C) (h : okSlot R C s x) (hc : c ∈ cellsM C x) :
    ∃ i k : Nat, x.f2 = i ∧ x.f3 = runM R C s i x.f1 ∧ i < R * C ∧ c = ((i + k * stepM C x.f1 : Nat) : Int) ∧ k < runM R C s i x.f1 ∧ atM C x.f1 i + k < mostM R C x.f1 ∧ i + k * stepM C x.f1 < R * C ∧ bt s c = 46 ∧ ¬ (0 < atM C x.f1 i ∧ bt s (i - stepM C x.f1 : Nat) = 46) := by
  obtain ⟨i, hi, h2, h3, h4⟩ := h
  obtain ⟨k, hk, rfl⟩ := cellsM_mem.1 hc
  have hk' : k < runM R C s i x.f1 := by omega
  have hk0 := hk'
  unfold runM at hk'
  split at hk'
  · rename_i hs
    have hle := runLen_le s (stepM C x.f1) (mostM R C x.f1 - atM C x.f1 i) i
    have hw := runLen_white hk'
    have hat : atM C x.f1 i + k < mostM R C x.f1 := by omega
    have hcast : x.f2 + (k : Int) * (stepM C x.f1 : Int) = ((i + k * stepM C x.f1 : Nat) : Int) := by
      rw [h2, Int.natCast_add, Int.natCast_mul]
    refine ⟨i, k, h2, h3, hi, hcast, hk0, hat, cell_lt h0 hi hat, ?_, hs.2⟩
    rw [hcast]
    exact hw
  · omega
theorem atM_add {C : Nat} {dn : Bool} {i d : Nat} {R : Nat} (h0 : 0 < C) (h : atM C dn i + d < mostM R C dn) : atM C dn (i + d * stepM C dn) = atM C dn i + d := by
  cases dn with
  | true =>
    simp only [atM, stepM, if_true]
    rw [Nat.add_mul_div_right _ _ h0]
  | false =>
    simp only [atM, stepM, mostM, Bool.false_eq_true, if_false, Nat.mul_one] at h ⊢
    rw [Nat.add_mod, Nat.mod_eq_of_lt (show d < C by omega), Nat.mod_eq_of_lt h]
/-- Two slots of one direction that share a cell begin at one cell. -/
theorem slot_one {R C : Nat} {s : ByteArray} {x y : ISlot} {c : Int} (h0 : 0 < C) (hx : okSlot R C s x) (hy : okSlot R C s y) (hd : x.f1 = y.f1) (h1 : c ∈ cellsM C x) (h2 : c ∈ cellsM C y) : x.f2 = y.f2 := by
  have aux : ∀ x y : ISlot, okSlot R C s x → okSlot R C s y → x.f1 = y.f1 → c ∈ cellsM C x → c ∈ cellsM C y → ¬ x.f2 < y.f2 := by
    intro x y hx hy hd h1 h2 hlt
    obtain ⟨i, a, e1, _, _, e2, ha, hat, _, _, _⟩ := okSlot_cell h0 hx h1
    obtain ⟨j, b, e3, _, _, e4, hb, hat2, _, _, hst⟩ := okSlot_cell h0 hy h2
    rw [← hd] at e4 hb hat2 hst
    have hij : i < j := by omega
    have hst' : 0 < stepM C x.f1 := by
      unfold stepM
      split <;> omega
    have e5 : i + a * stepM C x.f1 = j + b * stepM C x.f1 := by omega
    have hab : b < a := by
      apply Classical.byContradiction
      intro hn
      have := Nat.mul_le_mul_right (stepM C x.f1) (show a ≤ b by omega)
      omega
    obtain ⟨d, rfl⟩ : ∃ d, a = b + (d + 1) := ⟨a - b - 1, by omega⟩
    have e6 : j = i + (d + 1) * stepM C x.f1 := by
      rw [Nat.add_mul] at e5
      omega
    have e7 : atM C x.f1 j = atM C x.f1 i + (d + 1) := by
      rw [e6]
      exact atM_add (R := R) h0 (by omega)
    have hr : d < runM R C s i x.f1 := by omega
    have hw : bt s (i + d * stepM C x.f1 : Nat) = 46 := by
      unfold runM at hr
      split at hr
      · exact runLen_white hr
      · omega
    refine hst ⟨by omega, ?_⟩
    rw [show j - stepM C x.f1 = i + d * stepM C x.f1 by rw [e6, Nat.add_mul, Nat.one_mul]; omega]
    exact hw
  have := aux x y hx hy hd h1 h2
  have := aux y x hy hx hd.symm h2 h1
  omega
/-- The slots that hold a cell. -/
def holdersM (r c : Int) (s : ByteArray) (cell : Int) : List ISlot := (slotsM r c s).filter fun x => decide (cell ∈ cellsM c.toNat x)
theorem holders_dirs (r c : Int) (s : ByteArray) (cell : Int) : (holdersM r c s cell).Pairwise fun a b => a.f1 ≠ b.f1 := by
  unfold holdersM
  have hp := (slotsM_pairwise r c s).filter fun x => decide (cell ∈ cellsM c.toNat x)
  refine List.Pairwise.imp_of_mem ?_ hp
  intro a b ha hb hlt he
  rw [List.mem_filter, decide_eq_true_eq] at ha hb
  obtain ⟨R, C, rfl, rfl, _, _, h3, _, _, _, hka⟩ := slotsM_ok ha.1
  obtain ⟨R', C', e1, e2, _, _, _, _, _, _, hkb⟩ := slotsM_ok hb.1
  have e1' : R' = R := by omega
  have e2' : C' = C := by omega
  subst e1' e2'
  have := slot_one (by omega) hka hkb he ha.2 hb.2
  rcases hlt with h | ⟨_, h1, h2⟩
  · omega
  · rw [h1, h2] at he
    cases he
theorem holders_two (r c : Int) (s : ByteArray) (cell : Int) : (holdersM r c s cell).length ≤ 2 := by
  have h := holders_dirs r c s cell
  match holdersM r c s cell, h with
  | [], _ => simp
  | [_], _ => simp
  | [_, _], _ => simp
  | a :: b :: d :: l, h =>
    simp only [List.pairwise_cons] at h
    have h1 := h.1 b (by simp)
    have h2 := h.1 d (by simp)
    have h3 := h.2.1 d (by simp)
    cases ha : a.f1 <;> cases hb : b.f1 <;> cases hd : d.f1 <;> simp_all
theorem atGo_holders (C : Nat) (cell : Int) : ∀ (l : List ISlot) (i : Nat), (atGo C cell l i).length = (l.filter fun x => decide (cell ∈ cellsM C x)).length
  | [], _ => rfl
  | x :: l, i => by
    unfold atGo
    by_cases h : cell ∈ cellsM C x
    · simp [h, atGo_holders C cell l (i + 1)]
    · simp [h, atGo_holders C cell l (i + 1)]
theorem slotsAtM_two (r c : Int) (s : ByteArray) (cell : Int) : (slotsAtM r c s cell).length ≤ 2 := by
  have := holders_two r c s cell
  unfold slotsAtM
  rw [atGo_holders]
  exact this
theorem slotsAtM_white {r c : Int} {s : ByteArray} {cell : Int} (h : 0 < (slotsAtM r c s cell).length) : bt s cell = 46 := by
  unfold slotsAtM at h
  rw [atGo_holders] at h
  obtain ⟨x, hx⟩ := List.exists_mem_of_length_pos h
  rw [List.mem_filter, decide_eq_true_eq] at hx
  obtain ⟨R, C, rfl, rfl, _, _, h3, _, _, _, hk⟩ := slotsM_ok hx.1
  obtain ⟨_, _, _, _, _, _, _, _, _, hw, _⟩ := okSlot_cell (by omega) hk hx.2
  exact hw
theorem slotsM_nil {r c : Int} {s : ByteArray} (h : ¬ gridM r c s = true) : slotsM r c s = [] := by
  unfold slotsM
  rw [if_neg h]

/-! ### unchecked -/
def countU (r c : Int) (s : ByteArray) : List Int → Nat
  | [] => 0
  | x :: l => (if checkedM r c s x = true then 0 else 1) + countU r c s l
theorem countU_drop {r c : Int} {s : ByteArray} {l : List Int} {i : Nat} (h : i < l.length) : countU r c s (l.drop i) = (if checkedM r c s l[i] = true then 0 else 1) + countU r c s (l.drop (i + 1)) := by
  rw [List.drop_eq_getElem_cons h]
  rfl
def uncheckedM (r c : Int) (s : ByteArray) (slot : Int) : Int := if 0 ≤ slot ∧ slot < (slotsM r c s).length then countU r c s (cellsM c.toNat ((slotsM r c s).getD slot.toNat ⟨0, false, 0, 0⟩)) else -1
theorem impl_at_eq (i n : Int) : impl_at.f i n = some (decide (0 ≤ i ∧ i < n)) := by
  unfold impl_at.f
  by_cases h : i ≥ 0
  · rw [if_pos h]
    simp [h]
  · rw [if_neg h]
    simp [h]
theorem spec_UncheckedIn_l0_ev (r c : Int) (s : ByteArray) (l : List Int) (hs : s.size ≤ 1048576) (hl : l.length ≤ 1000) : ∀ i : Nat, i ≤ l.length → ∀ n : Int, 0 ≤ n → n ≤ i → Ev (fun k => spec_UncheckedIn.l0 k l n i r c s) (n + countU r c s (l.drop i)) := by
  refine down l.length ?_ ?_
  · intro i h hi n h0 hn
    apply ev_succ
    simp only [spec_UncheckedIn.l0]
    exact ev_neg (by omega) (ev_now (by rw [List.drop_eq_nil_of_le h]; simp [countU]))
  · intro i h ih hi n h0 hn
    have hd := countU_drop (r := r) (c := c) (s := s) h
    apply ev_succ
    simp only [spec_UncheckedIn.l0]
    rw [rd_get h, wrap64_id (n := (i : Int) + 1) (by omega) (by omega), wrap64_id (n := n + 1) (by omega) (by omega), succ_cast, hd]
    refine ev_pos (by omega) (ev_pos (by omega) (ev_bind (spec_IsChecked_ev r c s _ hs) ?_))
    cases checkedM r c s l[i] with
    | true => exact ev_pos rfl (ev_eq (ih (by omega) n (by omega) (by omega)) (by simp))
    | false => exact ev_neg (by simp) (ev_eq (ih (by omega) (n + 1) (by omega) (by omega)) (by simp; omega))
theorem spec_UncheckedIn_ev (r c : Int) (s : ByteArray) (slot : Int) (hs : s.size ≤ 1048576) : Ev (fun k => spec_UncheckedIn.f k r c s slot) (uncheckedM r c s slot) := by
  have hl := slotsM_length r c s
  unfold spec_UncheckedIn.f uncheckedM
  refine ev_bind (spec_SlotsOf_ev r c s hs) (ev_let (spec_l1In_eq _ _ _) ?_)
  rw [wrap64_id (by omega) (by omega)]
  by_cases hb : 0 ≤ slot ∧ slot < (slotsM r c s).length
  · obtain ⟨j, rfl⟩ := Int.eq_ofNat_of_zero_le hb.1
    have hj : j < (slotsM r c s).length := by omega
    have h6 := cellsM_length_elem hj
    rw [if_pos hb, rd_Slot_get hj]
    refine ev_pos (by simp; omega) (ev_pos (by omega) (ev_pos (by omega) (ev_bind (spec_CellsOf_ev r c s _ hs) ?_)))
    rw [cellsOfM_elem hj]
    refine ev_eq (spec_UncheckedIn_l0_ev r c s _ hs (by omega) 0 (by omega) 0 (by omega) (by omega)) ?_
    simp [hj]
  · rw [if_neg hb]
    exact ev_neg (by simp; omega) (ev_now rfl)
theorem impl_UncheckedIn_l0_ev (r c : Int) (s : ByteArray) (l : List Int) (hs : s.size ≤ 1048576) (hl : l.length ≤ 1000) : ∀ i : Nat, i ≤ l.length → ∀ n : Int, 0 ≤ n → n ≤ i → Ev (fun k => impl_UncheckedIn.l0 k n l l.length i r c s) (n + countU r c s (l.drop i)) := by
  refine down l.length ?_ ?_
  · intro i h hi n h0 hn
    apply ev_succ
    simp only [impl_UncheckedIn.l0]
    exact ev_neg (by omega) (ev_now (by rw [List.drop_eq_nil_of_le h]; simp [countU]))
  · intro i h ih hi n h0 hn
    have hd := countU_drop (r := r) (c := c) (s := s) h
    apply ev_succ
    simp only [impl_UncheckedIn.l0]
    rw [rd_get h, wrap64_id (n := (i : Int) + 1) (by omega) (by omega), wrap64_id (n := n + 1) (by omega) (by omega), succ_cast, hd]
    refine ev_pos (by omega) (ev_pos (by omega) (ev_pos (by omega) (ev_bind (impl_IsChecked_ev r c s _ hs) ?_)))
    cases checkedM r c s l[i] with
    | true => exact ev_pos rfl (ev_eq (ih (by omega) n (by omega) (by omega)) (by simp))
    | false => exact ev_neg (by simp) (ev_eq (ih (by omega) (n + 1) (by omega) (by omega)) (by simp; omega))
theorem impl_UncheckedIn_ev (r c : Int) (s : ByteArray) (slot : Int) (hs : s.size ≤ 1048576) : Ev (fun k => impl_UncheckedIn.f k r c s slot) (uncheckedM r c s slot) := by
  have hl := slotsM_length r c s
  have hL := layoutM_length r c s
  unfold impl_UncheckedIn.f uncheckedM
  refine ev_bind (impl_layout_ev r c s hs) (ev_let (impl_at_eq _ _) ?_)
  by_cases hb : 0 ≤ slot ∧ slot < (slotsM r c s).length
  · obtain ⟨j, rfl⟩ := Int.eq_ofNat_of_zero_le hb.1
    have hj : j < (slotsM r c s).length := by omega
    have h6 := cellsM_length_elem hj
    rw [if_pos hb, rd_ints_get (show j < (layoutM r c s).length by omega), layoutM_get hj]
    refine ev_pos (by simp; omega) (ev_pos (by omega) (ev_pos (by omega) ?_))
    refine ev_eq (impl_UncheckedIn_l0_ev r c s _ hs (by omega) 0 (by omega) 0 (by omega) (by omega)) ?_
    simp [hj]
  · rw [if_neg hb]
    exact ev_neg (by simp; omega) (ev_now rfl)

/-! ### alone -/
theorem grid_le36 {r c : Int} {s : ByteArray} (h : gridM r c s = true) : s.size ≤ 36 := by
  obtain ⟨R, C, _, _, _, h2, _, h4, h5⟩ := gridM_nat h
  have := bounds36 h2 h4
  omega
theorem layout_row {r c : Int} {s : ByteArray} {l : List Int} (h : l ∈ layoutM r c s) : l.length ≤ 6 ∧ ∀ x ∈ l, 0 ≤ x ∧ x < 36 ∧ x < s.size := by
  unfold layoutM at h
  obtain ⟨x, hx, rfl⟩ := List.mem_map.1 h
  obtain ⟨i, hi, rfl⟩ := List.getElem_of_mem hx
  refine ⟨cellsM_length_elem hi, fun y hy => ?_⟩
  obtain ⟨R, C, rfl, rfl, _, h2, h3, h4, h5, _, hk⟩ := slotsM_ok hx
  obtain ⟨i, k, _, _, _, e, _, _, h, _⟩ := okSlot_cell (by omega) hk hy
  have := bounds36 h2 h4
  omega
/-- Is there a white cell in no slot, without a letter? -/
def aloneAllM (r c : Int) (s f : ByteArray) : Bool := (List.range' 0 s.size).any (aloneAt (layoutM r c s).flatten s f)
theorem impl_alone_ev (r c : Int) (s f : ByteArray) (hs : s.size ≤ 1048576) (hf : s.size ≤ f.size) (hf2 : f.size ≤ 1000000) : Ev (fun k => impl_alone.f k r c s f) (aloneAllM r c s f) := by
  have hl := slotsM_length r c s
  have hL := layoutM_length r c s
  unfold impl_alone.f aloneAllM
  refine ev_bind (impl_layout_ev r c s hs) (ev_pos ⟨⟨by omega, fun l h => ?_⟩, hf, hf2⟩ (ev_now rfl))
  obtain ⟨h1, h2⟩ := layout_row h
  exact ⟨by omega, fun x hx => by have := h2 x hx; omega⟩
theorem in_layout {r c : Int} {s : ByteArray} {cell : Int} : cell ∈ (layoutM r c s).flatten ↔ 0 < (slotsAtM r c s cell).length := by
  unfold slotsAtM layoutM
  rw [atGo_holders, List.mem_flatten]
  constructor
  · rintro ⟨l, hl, hc⟩
    obtain ⟨x, hx, rfl⟩ := List.mem_map.1 hl
    exact List.length_pos_of_mem (List.mem_filter.2 ⟨hx, by simpa using hc⟩)
  · intro h
    obtain ⟨x, hx⟩ := List.exists_mem_of_length_pos h
    rw [List.mem_filter, decide_eq_true_eq] at hx
    exact ⟨_, List.mem_map.2 ⟨x, hx.1, rfl⟩, hx.2⟩

/-! ### share -/
def cntC (r c : Int) (s : ByteArray) : List Nat → Nat
  | [] => 0
  | i :: l => (if checkedM r c s (i : Int) = true then 1 else 0) + cntC r c s l
def cntW (s : ByteArray) : List Nat → Nat
  | [] => 0
  | i :: l => (if bt s (i : Int) = 46 then 1 else 0) + cntW s l
theorem cntC_cons (r c : Int) (s : ByteArray) (i : Nat) (l : List Nat) : cntC r c s (i :: l) = (if checkedM r c s i = true then 1 else 0) + cntC r c s l := rfl
theorem cntW_cons (s : ByteArray) (i : Nat) (l : List Nat) : cntW s (i :: l) = (if bt s i = 46 then 1 else 0) + cntW s l := rfl
def shareM (r c : Int) (s : ByteArray) : Int × Int := if gridM r c s then ((cntC r c s (List.range' 0 (s.size - 0)) : Int), (cntW s (List.range' 0 (s.size - 0)) : Int)) else (0, 0)

/-! ### form -/
def symM (r c : Int) (s : ByteArray) : Bool := gridM r c s && decide (backM s = s)
theorem sym_eq (s : ByteArray) : ((backM s).toList == s.toList) = decide (backM s = s) ∧ (s.toList == (backM s).toList) = decide (backM s = s) := by
  constructor
  · rw [Bool.eq_iff_iff, beq_iff_eq, decide_eq_true_eq, toList_inj]
  · rw [Bool.eq_iff_iff, beq_iff_eq, decide_eq_true_eq, toList_inj]
    exact ⟨Eq.symm, Eq.symm⟩
theorem spec_IsSymmetric_ev (r c : Int) (s : ByteArray) (hs : s.size ≤ 1048576) : Ev (fun k => spec_IsSymmetric.f k r c s) (symM r c s) := by
  unfold spec_IsSymmetric.f symM
  refine ev_bind (spec_IsGrid_ev r c s (by omega)) ?_
  by_cases h : gridM r c s = true
  · refine ev_pos h (ev_bind (spec_TurnGrid_ev r c s (by omega)) (ev_now ?_))
    unfold turnM
    rw [if_pos h, h, (sym_eq s).1]
    simp
  · exact ev_neg h (ev_now (by rw [Bool.not_eq_true] at h; rw [h]; rfl))
theorem impl_IsSymmetric_ev (r c : Int) (s : ByteArray) (hs : s.size ≤ 1048576) : Ev (fun k => impl_IsSymmetric.f k r c s) (symM r c s) := by
  unfold impl_IsSymmetric.f symM
  refine ev_bind (impl_IsGrid_ev r c s (by omega)) ?_
  by_cases h : gridM r c s = true
  · refine ev_pos h (ev_bind (impl_TurnGrid_ev r c s (by omega)) (ev_now ?_))
    unfold turnM
    rw [if_pos h, h, (sym_eq s).2]
    simp
  · exact ev_neg h (ev_now (by rw [Bool.not_eq_true] at h; rw [h]; rfl))
theorem spec_IsConnected_ev (r c : Int) (s : ByteArray) (hs : s.size ≤ 1048576) : Ev (fun k => spec_IsConnected.f k r c s) (decide (partsM r c s = 1)) := by
  unfold spec_IsConnected.f
  refine ev_bind (spec_PartsOf_ev r c s hs) (ev_now ?_)
  rw [Bool.eq_iff_iff, beq_iff_eq, decide_eq_true_eq]
  omega
theorem impl_IsConnected_ev (r c : Int) (s : ByteArray) (hs : s.size ≤ 1048576) : Ev (fun k => impl_IsConnected.f k r c s) (decide (partsM r c s = 1)) := by
  unfold impl_IsConnected.f
  refine ev_bind (impl_PartsOf_ev r c s hs) (ev_now ?_)
  rw [Bool.eq_iff_iff, beq_iff_eq, decide_eq_true_eq]
  omega
theorem countU_le (r c : Int) (s : ByteArray) : ∀ l : List Int, countU r c s l ≤ l.length
  | [] => by simp [countU]
  | x :: l => by
    unfold countU
    have := countU_le r c s l
    rw [List.length_cons]
    split <;> omega
theorem uncheckedM_bound (r c : Int) (s : ByteArray) (i : Int) : -1 ≤ uncheckedM r c s i ∧ uncheckedM r c s i ≤ 6 := by
  unfold uncheckedM
  split
  · rename_i h
    obtain ⟨j, rfl⟩ := Int.eq_ofNat_of_zero_le h.1
    have hj : j < (slotsM r c s).length := by omega
    have h6 := cellsM_length_elem hj
    rw [Int.toNat_natCast, List.getD_eq_getElem?_getD, List.getElem?_eq_getElem hj, Option.getD_some]
    have := countU_le r c s (cellsM c.toNat (slotsM r c s)[j])
    omega
  · omega
def shortM (r c : Int) (s : ByteArray) : Bool := (slotsM r c s).any fun x => decide (x.f3 < 3)
/-- A slot from place i on with too many unchecked cells. -/
def looseGo (r c : Int) (s : ByteArray) : List ISlot → Nat → Bool
  | [], _ => false
  | x :: l, i => decide (2 * uncheckedM r c s i > x.f3) || looseGo r c s l (i + 1)
def lonelyM (r c : Int) (s : ByteArray) : Bool := (List.range' 0 s.size).any fun i => decide (bt s (i : Int) = 46) && decide ((slotsAtM r c s i).length = 0)
theorem lonely_alone (r c : Int) (s : ByteArray) : aloneAllM r c s s = lonelyM r c s := by
  unfold aloneAllM lonelyM
  congr 1
  funext i
  unfold aloneAt
  by_cases h : bt s (i : Int) = 46
  · rw [decide_eq_true h, Bool.true_and, Bool.true_and, h, show aloneL 46 = false from rfl, Bool.not_false, Bool.and_true, decide_eq_decide, in_layout]
    omega
  · rw [decide_eq_false h]
    rfl
def formM (r c : Int) (s : ByteArray) : Int := if gridM r c s = true then (if symM r c s = true then (if partsM r c s = 1 then (if shortM r c s = true then 4 else if looseGo r c s (slotsM r c s) 0 = true then 5 else if lonelyM r c s = true then 5 else 0) else 3) else 2) else 1
theorem spec_l10Short_l0_ev (l : List ISlot) (hl : l.length ≤ 1000) : ∀ i : Nat, i ≤ l.length → Ev (fun k => spec_l10Short.l0 k l i) ((l.drop i).any fun x => decide (x.f3 < 3)) := by
  refine down l.length ?_ ?_
  · intro i h hi
    apply ev_succ
    simp only [spec_l10Short.l0]
    exact ev_neg (by omega) (ev_now (by rw [List.drop_eq_nil_of_le h]; rfl))
  · intro i h ih hi
    apply ev_succ
    simp only [spec_l10Short.l0]
    rw [rd_Slot_get h, wrap64_id (n := (i : Int) + 1) (by omega) (by omega), succ_cast, List.drop_eq_getElem_cons h, List.any_cons]
    refine ev_pos (by omega) (ev_pos (by omega) ?_)
    by_cases hc : l[i].f3 < 3
    · exact ev_pos hc (ev_now (by rw [decide_eq_true hc]; rfl))
    · exact ev_neg hc (ev_eq (ih (by omega)) (by rw [decide_eq_false hc]; rfl))
theorem spec_l10Short_ev (r c : Int) (s : ByteArray) (hs : s.size ≤ 1048576) : Ev (fun k => spec_l10Short.f k r c s) (shortM r c s) := by
  have hl := slotsM_length r c s
  unfold spec_l10Short.f shortM
  exact ev_bind (spec_SlotsOf_ev r c s hs) (ev_eq (spec_l10Short_l0_ev _ (by omega) 0 (by omega)) (by rw [List.drop_zero]))
theorem spec_IsWhite_ev (r c : Int) (s : ByteArray) (i : Nat) (hs : s.size ≤ 1048576) (hg : gridM r c s = true) (hi : i < s.size) : Ev (fun k => spec_IsWhite.f k r c s i) (decide (bt s (i : Int) = 46)) := by
  unfold spec_IsWhite.f
  refine ev_bind (spec_IsGrid_ev r c s (by omega)) (ev_pos hg (ev_let (spec_l1In_eq _ _ _) ?_))
  rw [wrap64_id (by omega) (by omega)]
  refine ev_pos (by simp; omega) (ev_pos (by omega) (ev_pos (by omega) (ev_now ?_)))
  rw [Bool.eq_iff_iff, beq_iff_eq, decide_eq_true_eq]
theorem spec_l10Alone_l1_ev (r c : Int) (s : ByteArray) (hs : s.size ≤ 1048576) (hg : gridM r c s = true) : ∀ i : Nat, i ≤ s.size → Ev (fun k => spec_l10Alone.l1 k i r c s) ((List.range' i (s.size - i)).any fun i : Nat => decide (bt s (i : Int) = 46) && decide ((slotsAtM r c s i).length = 0)) := by
  refine down s.size ?_ ?_
  · intro i h hi
    apply ev_succ
    simp only [spec_l10Alone.l1]
    exact ev_neg (by omega) (ev_now (by rw [range_nil h]; rfl))
  · intro i h ih hi
    apply ev_succ
    simp only [spec_l10Alone.l1]
    rw [wrap64_id (n := (i : Int) + 1) (by omega) (by omega), succ_cast, range_cons h, List.any_cons]
    refine ev_pos (by omega) (ev_bind (spec_IsWhite_ev r c s i hs hg h) ?_)
    by_cases h1 : bt s (i : Int) = 46
    · refine ev_pos (by simpa using h1) (ev_bind (spec_SlotsAt_ev r c s i hs) ?_)
      by_cases h2 : (slotsAtM r c s i).length = 0
      · exact ev_pos (by omega) (ev_now (by rw [decide_eq_true h1, decide_eq_true h2]; rfl))
      · exact ev_neg (by omega) (ev_eq (ih (by omega)) (by rw [decide_eq_true h1, decide_eq_false h2]; rfl))
    · exact ev_neg (by simpa using h1) (ev_eq (ih (by omega)) (by rw [decide_eq_false h1]; rfl))
theorem spec_l10Alone_l0_ev (r c : Int) (s : ByteArray) (hs : s.size ≤ 1048576) (hg : gridM r c s = true) : ∀ i : Nat, i ≤ (slotsM r c s).length → Ev (fun k => spec_l10Alone.l0 k (slotsM r c s) i r c s) (looseGo r c s ((slotsM r c s).drop i) i || lonelyM r c s) := by
  have hl := slotsM_length r c s
  refine down (slotsM r c s).length ?_ ?_
  · intro i h hi
    apply ev_succ
    simp only [spec_l10Alone.l0]
    refine ev_neg (by omega) (ev_eq (spec_l10Alone_l1_ev r c s hs hg 0 (by omega)) ?_)
    rw [List.drop_eq_nil_of_le h, Nat.sub_zero]
    rfl
  · intro i h ih hi
    have hb := uncheckedM_bound r c s i
    apply ev_succ
    simp only [spec_l10Alone.l0]
    rw [rd_Slot_get h, wrap64_id (n := (i : Int) + 1) (by omega) (by omega), succ_cast, List.drop_eq_getElem_cons h]
    unfold looseGo
    refine ev_pos (by omega) (ev_bind (spec_UncheckedIn_ev r c s i hs) (ev_pos (by omega) ?_))
    rw [wrap64_id (by omega) (by omega)]
    by_cases hc : 2 * uncheckedM r c s i > (slotsM r c s)[i].f3
    · exact ev_pos hc (ev_now (by rw [decide_eq_true hc]; rfl))
    · exact ev_neg hc (ev_eq (ih (by omega)) (by rw [decide_eq_false hc]; rfl))
theorem spec_FormOf_ev (r c : Int) (s : ByteArray) (hs : s.size ≤ 1048576) : Ev (fun k => spec_FormOf.f k r c s) (formM r c s) := by
  unfold spec_FormOf.f formM
  refine ev_bind (spec_IsGrid_ev r c s (by omega)) ?_
  by_cases h1 : gridM r c s = true
  · rw [if_pos h1]
    refine ev_pos h1 (ev_bind (spec_IsSymmetric_ev r c s hs) ?_)
    by_cases h2 : symM r c s = true
    · rw [if_pos h2]
      refine ev_pos h2 (ev_bind (spec_IsConnected_ev r c s hs) ?_)
      by_cases h3 : partsM r c s = 1
      · rw [if_pos h3]
        refine ev_pos (by simpa using h3) (ev_bind (spec_l10Short_ev r c s hs) ?_)
        by_cases h4 : shortM r c s = true
        · rw [if_pos h4]
          exact ev_pos h4 (ev_now rfl)
        · rw [if_neg h4]
          have ha : Ev (fun k => spec_l10Alone.f k r c s) (looseGo r c s (slotsM r c s) 0 || lonelyM r c s) := by
            unfold spec_l10Alone.f
            exact ev_bind (spec_SlotsOf_ev r c s hs) (ev_eq (spec_l10Alone_l0_ev r c s hs h1 0 (by omega)) (by rw [List.drop_zero]))
          refine ev_neg h4 (ev_bind ha ?_)
          by_cases h5 : looseGo r c s (slotsM r c s) 0 = true
          · rw [if_pos h5]
            exact ev_pos (by rw [h5]; rfl) (ev_now rfl)
          · rw [if_neg h5]
            rw [Bool.not_eq_true] at h5
            rw [h5, Bool.false_or]
            by_cases h6 : lonelyM r c s = true
            · exact ev_pos h6 (ev_now (by rw [if_pos h6]))
            · exact ev_neg h6 (ev_now (by rw [if_neg h6]))
      · rw [if_neg h3]
        exact ev_neg (by simpa using h3) (ev_now rfl)
    · rw [if_neg h2]
      exact ev_neg h2 (ev_now rfl)
  · rw [if_neg h1]
    exact ev_neg h1 (ev_now rfl)
theorem impl_FormOf_l1_ev (r c : Int) (s : ByteArray) (hs : s.size ≤ 36) : ∀ i : Nat, i ≤ (slotsM r c s).length → Ev (fun k => impl_FormOf.l1 k (slotsM r c s) (slotsM r c s).length i r c s) (if looseGo r c s ((slotsM r c s).drop i) i = true then 5 else if lonelyM r c s = true then 5 else 0) := by
  have hl := slotsM_length r c s
  refine down (slotsM r c s).length ?_ ?_
  · intro i h hi
    apply ev_succ
    simp only [impl_FormOf.l1]
    rw [List.drop_eq_nil_of_le h]
    refine ev_neg (by omega) (ev_bind (impl_alone_ev r c s s (by omega) (by omega) (by omega)) ?_)
    rw [lonely_alone, if_neg (show ¬ looseGo r c s [] i = true by simp [looseGo])]
    by_cases h6 : lonelyM r c s = true
    · exact ev_pos h6 (ev_now (by rw [if_pos h6]))
    · exact ev_neg h6 (ev_now (by rw [if_neg h6]))
  · intro i h ih hi
    have hb := uncheckedM_bound r c s i
    apply ev_succ
    simp only [impl_FormOf.l1]
    rw [rd_Slot_get h, wrap64_id (n := (i : Int) + 1) (by omega) (by omega), succ_cast, List.drop_eq_getElem_cons h]
    unfold looseGo
    refine ev_pos (by omega) (ev_pos (by omega) (ev_pos (by omega) (ev_bind (impl_UncheckedIn_ev r c s i (by omega)) ?_)))
    rw [wrap64_id (by omega) (by omega)]
    by_cases hc : 2 * uncheckedM r c s i > (slotsM r c s)[i].f3
    · exact ev_pos hc (ev_now (by rw [decide_eq_true hc]; rfl))
    · exact ev_neg hc (ev_eq (ih (by omega)) (by rw [decide_eq_false hc, Bool.false_or]))
theorem impl_FormOf_l0_ev (r c : Int) (s : ByteArray) (hs : s.size ≤ 36) : ∀ i : Nat, i ≤ (slotsM r c s).length → Ev (fun k => impl_FormOf.l0 k (slotsM r c s) (slotsM r c s) (slotsM r c s).length i r c s) (if (((slotsM r c s).drop i).any fun x => decide (x.f3 < 3)) = true then 4 else if looseGo r c s (slotsM r c s) 0 = true then 5 else if lonelyM r c s = true then 5 else 0) := by
  have hl := slotsM_length r c s
  refine down (slotsM r c s).length ?_ ?_
  · intro i h hi
    apply ev_succ
    simp only [impl_FormOf.l0]
    rw [List.drop_eq_nil_of_le h]
    exact ev_neg (by omega) (ev_eq (impl_FormOf_l1_ev r c s hs 0 (by omega)) (by rw [List.drop_zero, if_neg (show ¬ (([] : List ISlot).any fun x => decide (x.f3 < 3)) = true by simp)]))
  · intro i h ih hi
    apply ev_succ
    simp only [impl_FormOf.l0]
    rw [rd_Slot_get h, wrap64_id (n := (i : Int) + 1) (by omega) (by omega), succ_cast, List.drop_eq_getElem_cons h, List.any_cons]
    refine ev_pos (by omega) (ev_pos (by omega) (ev_pos (by omega) ?_))
    by_cases hc : (slotsM r c s)[i].f3 < 3
    · exact ev_pos hc (ev_now (by rw [decide_eq_true hc]; rfl))
    · exact ev_neg hc (ev_eq (ih (by omega)) (by rw [decide_eq_false hc, Bool.false_or]))
theorem impl_FormOf_ev (r c : Int) (s : ByteArray) (hs : s.size ≤ 1048576) : Ev (fun k => impl_FormOf.f k r c s) (formM r c s) := by
  unfold impl_FormOf.f formM
  refine ev_bind (impl_IsGrid_ev r c s (by omega)) ?_
  by_cases h1 : gridM r c s = true
  · rw [if_pos h1]
    refine ev_pos h1 (ev_bind (impl_IsSymmetric_ev r c s hs) ?_)
    by_cases h2 : symM r c s = true
    · rw [if_pos h2]
      refine ev_pos h2 (ev_bind (impl_IsConnected_ev r c s hs) ?_)
      by_cases h3 : partsM r c s = 1
      · rw [if_pos h3]
        refine ev_pos (by simpa using h3) (ev_bind (impl_SlotsOf_ev r c s hs) (ev_eq (impl_FormOf_l0_ev r c s (grid_le36 h1) 0 (by omega)) ?_))
        rw [List.drop_zero]
        rfl
      · rw [if_neg h3]
        exact ev_neg (by simpa using h3) (ev_now rfl)
    · rw [if_neg h2]
      exact ev_neg h2 (ev_now rfl)
  · rw [if_neg h1]
    exact ev_neg h1 (ev_now rfl)

/-! ### sz -/
def szM (s : ByteArray) : Int := if s.size ≤ 1048576 then 1048576 - s.size else -1
theorem laws_szGrid_eq (r c : Int) (s : ByteArray) (hs : s.size ≤ 9223372036854775807) : laws_szGrid.f r c s 1048576 = some (szM s) := by
  unfold laws_szGrid.f szM
  rw [wrap64_id (by omega) (by omega)]
  by_cases h : s.size ≤ 1048576
  · rw [if_neg (by omega), if_pos h]
  · rw [if_pos (by omega), if_neg h]

/-! ### the law -/
theorem FnExactFormOf (r c : Int) (s : ByteArray) (_ : -9223372036854775808 ≤ r ∧ r ≤ 9223372036854775807) (_ : -9223372036854775808 ≤ c ∧ c ≤ 9223372036854775807) (hs : s.size ≤ 9223372036854775807) : ∃ k, laws_FnExactFormOf.f k r c s = some true := by
  apply Ev.rounds
  unfold laws_FnExactFormOf.f
  refine ev_let (laws_szGrid_eq r c s hs) ?_
  by_cases hc : s.size ≤ 1048576
  · exact ev_neg (by simp [szM, hc]; omega) (ev_let rfl (ev_bind (spec_FormOf_ev r c s hc) (ev_let rfl (ev_bind (impl_FormOf_ev r c s hc) (ev_pos rfl (ev_now rfl))))))
  · exact ev_pos (by simp [szM, hc]) (ev_now rfl)

end Go.Proofs.Ytachbhggeibciaa.Pure
