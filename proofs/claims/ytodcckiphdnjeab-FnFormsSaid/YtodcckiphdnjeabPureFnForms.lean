/-
  The law FnForms over numbers and lists: for every code, a drawn grid of the right form is symmetric, connected, checked enough, and a half turn keeps its parts and its form.
  Conditions: none.
-/
import Derived.Test.YtodcckiphdnjeabQFnFormsx
import Derived.Lib.Join
import Derived.Lib.SplitLaws
namespace Go.Proofs.Ytodcckiphdnjeab.Pure
open Go.RowKit Go.Proofs.Ytodcckiphdnjeab.QFnForms Go.Proofs.YtodcckiphdnjeabW.PrintWords Go.Proofs.YtodcckiphdnjeabW.PrintLast Go.Proofs.YtodcckiphdnjeabW.PrintMore
set_option linter.unusedVariables false
set_option linter.unusedSimpArgs false

/-! ### base -/
theorem wrap64_id {n : Int} (h : -9223372036854775808 ≤ n) (h' : n ≤ 9223372036854775807) : wrap64 n = n := by
  unfold wrap64
  omega
section
variable {α β : Type}
theorem ev_succ {g : Nat → Option α} {r : α} (h : Ev (fun k => g (k + 1)) r) : Ev g r := Ev.step (fun _ => rfl) h
theorem ev_pos {c : Prop} [Decidable c] {g f : Nat → Option α} {r : α} (h : c) (k : Ev g r) : Ev (fun n => if c then g n else f n) r := by
  simpa only [if_pos h] using k
theorem ev_neg {c : Prop} [Decidable c] {g f : Nat → Option α} {r : α} (h : ¬ c) (k : Ev f r) : Ev (fun n => if c then g n else f n) r := by
  simpa only [if_neg h] using k
theorem ev_now {a r : α} (h : a = r) : Ev (fun _ => some a) r := h ▸ Ev.now a
theorem ev_let {o : Option β} {a : β} {f : Nat → β → Option α} {r : α} (h : o = some a) (k : Ev (fun n => f n a) r) : Ev (fun n => o.bind (f n)) r := by
  subst h
  exact k
theorem ev_bind {g : Nat → Option β} {f : Nat → β → Option α} {a : β} {r : α} (h : Ev g a) (k : Ev (fun n => f n a) r) : Ev (fun n => (g n).bind (f n)) r := Ev.bind h k
theorem ev_eq {g : Nat → Option α} {a r : α} (h : Ev g a) (e : a = r) : Ev g r := e ▸ h
end
/-- From the end of a loop back to a round: P holds from n on, and a round below n may use the next. -/
theorem down {P : Nat → Prop} (n : Nat) (hend : ∀ i, n ≤ i → P i) (hstep : ∀ i, i < n → P (i + 1) → P i) : ∀ i, P i := by
  intro i
  rcases Nat.lt_or_ge i n with h | h
  · obtain ⟨d, hd⟩ : ∃ d, n = i + d := ⟨n - i, by omega⟩
    induction d generalizing i with
    | zero => omega
    | succ d ih =>
      refine hstep i h ?_
      rcases Nat.lt_or_ge (i + 1) n with h1 | h1
      · exact ih (i + 1) h1 (by omega)
      · exact hend _ h1
  · exact hend i h
theorem range_cons {i n : Nat} (h : i < n) : List.range' i (n - i) = i :: List.range' (i + 1) (n - (i + 1)) := by
  obtain ⟨d, hd⟩ : ∃ d, n - i = d + 1 := ⟨n - i - 1, by omega⟩
  rw [hd, List.range'_succ, show n - (i + 1) = d by omega]
theorem range_nil {i n : Nat} (h : n ≤ i) : List.range' i (n - i) = [] := by
  rw [show n - i = 0 by omega]
  rfl
theorem succ_cast (i : Nat) : ((i : Int) + 1) = ((i + 1 : Nat) : Int) := by omega

/-! ### lists -/
theorem rdOf_get {α : Type} {d : α} {l : List α} {i : Nat} (h : i < l.length) : rdOf d l (i : Int) = l[i] := by
  unfold rdOf
  simp [h]
theorem rd_get {l : List Int} {i : Nat} (h : i < l.length) : rd l (i : Int) = l[i] := by
  unfold rd
  simp [h]
theorem toList_eq (s : ByteArray) : s.toList = s.data.toList := Go.ByteArray.toList_eq s
instance lawfulBA : LawfulBEq ByteArray where
  eq_of_beq {a b} h := ByteArray.ext (eq_of_beq (α := Array UInt8) h)
  rfl {a} := by
    show (a.data == a.data) = true
    simp
theorem toList_inj {a b : ByteArray} : a.toList = b.toList ↔ a = b := by
  constructor
  · intro h
    rw [toList_eq, toList_eq] at h
    cases a
    cases b
    simp only [ByteArray.mk.injEq]
    exact Array.toList_inj.1 h
  · intro h
    rw [h]
theorem set_known {α : Type} {l x : List α} {i : Nat} {a : α} (hi : i < l.length) (hx : x.length = l.length) (ha : a = l[i]) (h : ∀ j, j < i → x[j]? = l[j]?) : ∀ j, j < i + 1 → (x.set i a)[j]? = l[j]? := by
  intro j hj
  by_cases e : j = i
  · subst e
    rw [List.getElem?_set_self (by omega), ha, List.getElem?_eq_getElem hi]
  · rw [List.getElem?_set_ne (Ne.symm e)]
    exact h j (by omega)
theorem all_known {α : Type} {l x : List α} (hx : x.length = l.length) (h : ∀ j, j < l.length → x[j]? = l[j]?) : x = l := by
  apply List.ext_getElem?
  intro j
  by_cases hj : j < l.length
  · exact h j hj
  · rw [List.getElem?_eq_none (by omega), List.getElem?_eq_none (by omega)]

/-! ### word -/
/-- A byte is a small letter. -/
def isL (c : Int) : Bool := decide (97 ≤ c ∧ c ≤ 122)
/-- A word: one to eight small letters. -/
def wordM (s : ByteArray) : Bool := decide (1 ≤ s.size ∧ s.size ≤ 8) && (List.range' 0 (s.size - 0)).all fun j => isL (bt s j)
theorem spec_l1In_eq (a b c : Int) : spec_l1In.f a b c = some (decide (b ≤ a ∧ a ≤ c)) := by
  unfold spec_l1In.f
  by_cases h : b ≤ a
  · rw [if_pos h]; simp [h]
  · rw [if_neg h]; simp [h]
theorem impl_InRange_eq (a b c : Int) : impl_InRange.f a b c = some (decide (b ≤ a ∧ a ≤ c)) := by
  unfold impl_InRange.f
  by_cases h : b ≤ a
  · rw [if_pos h]; simp [h]
  · rw [if_neg h]; simp [h]
theorem impl_isLetter_eq (c : Int) : impl_isLetter.f c = some (isL c) := by
  unfold impl_isLetter.f isL
  by_cases h : c ≥ 97
  · rw [if_pos h]; congr 1; simp; omega
  · rw [if_neg h]; congr 1; simp; omega
theorem wordM_size {s : ByteArray} (h : wordM s = true) : 1 ≤ s.size ∧ s.size ≤ 8 := by
  simp only [wordM, Bool.and_eq_true, decide_eq_true_eq] at h
  exact h.1

/-! ### grid -/
/-- A cell's sign. -/
def isC (c : Int) : Bool := decide (c = 35) || decide (c = 46)
/-- A grid: 2 to 6 rows and columns, its cells black or white. -/
def gridM (r c : Int) (s : ByteArray) : Bool := decide (2 ≤ r ∧ r ≤ 6) && decide (2 ≤ c ∧ c ≤ 6) && decide ((s.size : Int) = r * c) && (List.range' 0 (s.size - 0)).all fun j => isC (bt s j)
theorem gridM_nat {r c : Int} {s : ByteArray} (h : gridM r c s = true) : ∃ R C : Nat, r = R ∧ c = C ∧ 2 ≤ R ∧ R ≤ 6 ∧ 2 ≤ C ∧ C ≤ 6 ∧ s.size = R * C := by
  simp only [gridM, Bool.and_eq_true, decide_eq_true_eq] at h
  obtain ⟨⟨⟨hr, hc⟩, hs⟩, _⟩ := h
  obtain ⟨R, rfl⟩ := Int.eq_ofNat_of_zero_le (show 0 ≤ r by omega)
  obtain ⟨C, rfl⟩ := Int.eq_ofNat_of_zero_le (show 0 ≤ c by omega)
  exact ⟨R, C, rfl, rfl, by omega, by omega, by omega, by omega, by exact_mod_cast hs⟩
theorem bounds36 {R C : Nat} (hR : R ≤ 6) (hC : C ≤ 6) : R * C ≤ 36 := Nat.mul_le_mul hR hC
theorem spec_IsGrid_l0_ev (r c : Int) (s : ByteArray) (hs : s.size ≤ 140737488351232) : ∀ i : Nat, i ≤ s.size → Ev (fun k => spec_IsGrid.l0 k i r c s) ((List.range' i (s.size - i)).all fun j => isC (bt s j)) := by
  refine down s.size ?_ ?_
  · intro i h hi
    apply ev_succ
    simp only [spec_IsGrid.l0]
    refine ev_neg (by omega) (ev_now ?_)
    rw [range_nil h]; rfl
  · intro i h ih hi
    apply ev_succ
    simp only [spec_IsGrid.l0]
    rw [range_cons h, List.all_cons, wrap64_id (by omega) (by omega), succ_cast]
    refine ev_pos (by omega) (ev_pos (by omega) ?_)
    by_cases h1 : bt s i = 35
    · exact ev_pos h1 (ev_eq (ih (by omega)) (by simp [isC, h1]))
    · refine ev_neg h1 ?_
      by_cases h2 : bt s i = 46
      · exact ev_pos h2 (ev_eq (ih (by omega)) (by simp [isC, h2]))
      · exact ev_neg h2 (ev_now (by simp [isC, h1, h2]))
theorem impl_IsGrid_l0_ev (r c : Int) (s : ByteArray) (hs : s.size ≤ 140737488351232) : ∀ i : Nat, i ≤ s.size → Ev (fun k => impl_IsGrid.l0 k s.size i r c s) ((List.range' i (s.size - i)).all fun j => isC (bt s j)) := by
  refine down s.size ?_ ?_
  · intro i h hi
    apply ev_succ
    simp only [impl_IsGrid.l0]
    refine ev_neg (by omega) (ev_now ?_)
    rw [range_nil h]; rfl
  · intro i h ih hi
    apply ev_succ
    simp only [impl_IsGrid.l0]
    rw [range_cons h, List.all_cons, wrap64_id (by omega) (by omega), succ_cast]
    refine ev_pos (by omega) (ev_pos (by omega) (ev_pos (by omega) ?_))
    by_cases h1 : bt s i = 35
    · exact ev_pos h1 (ev_eq (ih (by omega)) (by simp [isC, h1]))
    · refine ev_neg h1 ?_
      by_cases h2 : bt s i = 46
      · exact ev_pos h2 (ev_eq (ih (by omega)) (by simp [isC, h2]))
      · exact ev_neg h2 (ev_now (by simp [isC, h1, h2]))
theorem wrap_mul {r c : Int} (hr : 2 ≤ r ∧ r ≤ 6) (hc : 2 ≤ c ∧ c ≤ 6) : wrap64 (r * c) = r * c := by
  have h1 : 0 ≤ r * c := Int.mul_nonneg (by omega) (by omega)
  have h2 : r * c ≤ 6 * 6 := Int.mul_le_mul hr.2 hc.2 (by omega) (by omega)
  exact wrap64_id (by omega) (by omega)
theorem spec_IsGrid_ev (r c : Int) (s : ByteArray) (hs : s.size ≤ 140737488351232) : Ev (fun k => spec_IsGrid.f k r c s) (gridM r c s) := by
  unfold spec_IsGrid.f
  refine ev_let (spec_l1In_eq _ _ _) ?_
  by_cases hr : 2 ≤ r ∧ r ≤ 6
  · refine ev_pos (by simpa using hr) (ev_let (spec_l1In_eq _ _ _) ?_)
    by_cases hc : 2 ≤ c ∧ c ≤ 6
    · refine ev_pos (by simpa using hc) ?_
      rw [wrap_mul hr hc]
      apply ev_succ
      simp only [spec_IsGrid.j0]
      by_cases hn : (s.size : Int) = r * c
      · refine ev_neg (by simp [hn]) (ev_eq (spec_IsGrid_l0_ev r c s hs 0 (by omega)) ?_)
        simp [gridM, hr, hc, hn]
      · exact ev_pos (by simp [hn]) (ev_now (by simp [gridM, hn]))
    · refine ev_neg (by simpa using hc) (ev_succ ?_)
      simp only [spec_IsGrid.j0]
      exact ev_pos (by simp) (ev_now (by simp [gridM, hc]))
  · refine ev_neg (by simpa using hr) (ev_succ ?_)
    simp only [spec_IsGrid.j0]
    exact ev_pos (by simp) (ev_now (by simp [gridM, hr]))
theorem impl_IsGrid_ev (r c : Int) (s : ByteArray) (hs : s.size ≤ 140737488351232) : Ev (fun k => impl_IsGrid.f k r c s) (gridM r c s) := by
  unfold impl_IsGrid.f
  refine ev_let (impl_InRange_eq _ _ _) ?_
  by_cases hr : 2 ≤ r ∧ r ≤ 6
  · refine ev_pos (by simpa using hr) (ev_let (impl_InRange_eq _ _ _) ?_)
    by_cases hc : 2 ≤ c ∧ c ≤ 6
    · refine ev_pos (by simpa using hc) ?_
      rw [wrap_mul hr hc]
      apply ev_succ
      simp only [impl_IsGrid.j0]
      by_cases hn : (s.size : Int) = r * c
      · refine ev_neg (by simp [hn]) (ev_eq (impl_IsGrid_l0_ev r c s hs 0 (by omega)) ?_)
        simp [gridM, hr, hc, hn]
      · exact ev_pos (by simp [hn]) (ev_now (by simp [gridM, hn]))
    · refine ev_neg (by simpa using hc) (ev_succ ?_)
      simp only [impl_IsGrid.j0]
      exact ev_pos (by simp) (ev_now (by simp [gridM, hc]))
  · refine ev_neg (by simpa using hr) (ev_succ ?_)
    simp only [impl_IsGrid.j0]
    exact ev_pos (by simp) (ev_now (by simp [gridM, hr]))

/-! ### conn -/
/-- Two cells side by side, or one above the other, in a grid of C columns. -/
def Nb (C i j : Nat) : Prop := (i / C = j / C ∧ (i % C + 1 = j % C ∨ j % C + 1 = i % C)) ∨ (i % C = j % C ∧ (i / C + 1 = j / C ∨ j / C + 1 = i / C))
theorem Nb.symm {C i j : Nat} (h : Nb C i j) : Nb C j i := by
  unfold Nb at *
  omega
/-- The white cells that are connected with a white cell. -/
inductive Con (R C : Nat) (s : ByteArray) (i : Nat) : Nat → Prop
  | here : i < R * C → bt s i = 46 → Con R C s i i
  | next {j k : Nat} : Con R C s i j → Nb C j k → k < R * C → bt s k = 46 → Con R C s i k
theorem Con.head {R C : Nat} {s : ByteArray} {i j k : Nat} (hi : i < R * C) (hw : bt s i = 46) (hn : Nb C i j) (h : Con R C s j k) : Con R C s i k := by
  induction h with
  | here h1 h2 => exact .next (.here hi hw) hn h1 h2
  | next _ h2 h3 h4 ih => exact .next ih h2 h3 h4
/-- Is a cell marked? -/
def mkd (m : List Bool) (i : Nat) : Prop := m.getD i false = true
theorem mk_set_self {m : List Bool} {i : Nat} (h : i < m.length) : mkd (m.set i true) i := by
  simp [mkd, List.getD_eq_getElem?_getD, h]
theorem mk_set_iff {m : List Bool} {i j : Nat} (h : i < m.length) : mkd (m.set i true) j ↔ i = j ∨ mkd m j := by
  unfold mkd
  simp only [List.getD_eq_getElem?_getD, List.getElem?_set]
  by_cases e : i = j
  · subst e
    simp [h]
  · simp [e]
theorem mk_ext {a b : List Bool} (hl : a.length = b.length) (h : ∀ i, i < a.length → (mkd a i ↔ mkd b i)) : a = b := by
  apply List.ext_getElem hl
  intro i h1 h2
  have := h i h1
  simp [mkd, h1, h2] at this
  exact this
/-- A cell of the grid, a white one, by its row and column. -/
def okRC (R C : Nat) (s : ByteArray) (r c : Int) : Prop := (0 ≤ r ∧ r < R) ∧ (0 ≤ c ∧ c < C) ∧ bt s (r * C + c) = 46
theorem rc_nat {R C : Nat} {r c : Int} (hr : 0 ≤ r ∧ r < R) (hc : 0 ≤ c ∧ c < C) : ∃ i : Nat, r * C + c = i ∧ i < R * C ∧ ((i / C : Nat) : Int) = r ∧ ((i % C : Nat) : Int) = c := by
  obtain ⟨a, rfl⟩ := Int.eq_ofNat_of_zero_le hr.1
  obtain ⟨b, rfl⟩ := Int.eq_ofNat_of_zero_le hc.1
  have h0 : 0 < C := by omega
  have hb : b < C := by omega
  have ha : a < R := by omega
  refine ⟨a * C + b, by simp, ?_, ?_, ?_⟩
  · have : (a + 1) * C ≤ R * C := Nat.mul_le_mul_right _ ha
    rw [Nat.add_mul, Nat.one_mul] at this
    omega
  · rw [Nat.mul_comm, Nat.mul_add_div h0, Nat.div_eq_of_lt hb, Nat.add_zero]
  · rw [Nat.mul_comm, Nat.mul_add_mod, Nat.mod_eq_of_lt hb]
/-- What a visit of a cell does to the marks. -/
structure Vis (R C : Nat) (s : ByteArray) (m : List Bool) (r c : Int) (m' : List Bool) : Prop where
  len : m'.length = m.length
  cnt : m'.count false ≤ m.count false
  mono : ∀ i, mkd m i → mkd m' i
  src : ∀ i, mkd m' i → mkd m i ∨ (okRC R C s r c ∧ Con R C s (r * C + c).toNat i)
  cl : ∀ i, mkd m' i → ¬ mkd m i → ∀ j, Nb C i j → j < R * C → bt s j = 46 → mkd m' j
  hit : okRC R C s r c → mkd m' (r * C + c).toNat
/-- On the way through a visit that has marked the cell i0. -/
structure Mid (R C : Nat) (s : ByteArray) (i0 : Nat) (m m' : List Bool) : Prop where
  len : m'.length = m.length
  cnt : m'.count false ≤ m.count false
  mono : ∀ i, mkd m i → mkd m' i
  src : ∀ i, mkd m' i → mkd m i ∨ Con R C s i0 i
  cl : ∀ i, mkd m' i → ¬ mkd m i → ∀ j, Nb C i j → j < R * C → bt s j = 46 → mkd m' j
theorem Mid.refl (R C : Nat) (s : ByteArray) (i0 : Nat) (m : List Bool) : Mid R C s i0 m m := ⟨rfl, Nat.le_refl _, fun _ h => h, fun _ h => .inl h, fun _ h h' => absurd h h'⟩
theorem Mid.step {R C : Nat} {s : ByteArray} {i0 : Nat} {m a b : List Bool} {r c : Int} (hi : i0 < R * C) (hw : bt s i0 = 46) (h : Mid R C s i0 m a) (hv : Vis R C s a r c b)
    (hn : ∀ i, r * C + c = (i : Nat) → ((i / C : Nat) : Int) = r → ((i % C : Nat) : Int) = c → Nb C i0 i) : Mid R C s i0 m b := by
  refine ⟨hv.len.trans h.len, Nat.le_trans hv.cnt h.cnt, fun i hm => hv.mono i (h.mono i hm), fun i hm => ?_, fun i hm hno j hj hlt hwj => ?_⟩
  · rcases hv.src i hm with h1 | ⟨hok, hcon⟩
    · exact h.src i h1
    · obtain ⟨q, e1, e2, e3, e4⟩ := rc_nat hok.1 hok.2.1
      rw [e1, Int.toNat_natCast] at hcon
      exact .inr (Con.head hi hw (hn q e1 e3 e4) hcon)
  · by_cases ha : mkd a i
    · exact hv.mono j (h.cl i ha hno j hj hlt hwj)
    · exact hv.cl i hm ha j hj hlt hwj
theorem visF_spec (R C : Nat) (s : ByteArray) (h0 : 0 < C) : ∀ (k : Nat) (m : List Bool) (r c : Int), m.length = R * C → m.count false < k → Vis R C s m r c (visF R C s k m r c)
  | 0, _, _, _, _, h => by omega
  | k + 1, m, r, c, hl, hk => by
    unfold visF
    by_cases hc : (0 ≤ r ∧ r < R) ∧ (0 ≤ c ∧ c < C) ∧ (m.getD (r * C + c).toNat false = false ∧ bt s (r * C + c) = 46)
    · rw [if_pos hc]
      obtain ⟨hr, hcc, hno, hw⟩ := hc
      obtain ⟨i0, e1, e2, e3, e4⟩ := rc_nat hr hcc
      rw [e1, Int.toNat_natCast] at hno ⊢
      rw [e1] at hw
      have hil : i0 < m.length := by omega
      have hno' : m[i0] = false := by simpa [List.getD_eq_getElem?_getD, hil] using hno
      have hcnt : (m.set i0 true).count false + 1 = m.count false := by
        have hpos : 0 < m.count false := List.count_pos_iff.mpr (hno' ▸ List.getElem_mem hil)
        rw [List.count_set hil]
        simp [hno']
        omega
      have hlen1 : (m.set i0 true).length = R * C := by simpa using hl
      have ih := fun (m : List Bool) (r c : Int) hl hk => visF_spec R C s h0 k m r c hl hk
      have m1 := Mid.refl R C s i0 (m.set i0 true)
      have v1 := ih (m.set i0 true) (r - 1) c hlen1 (by omega)
      have m2 := m1.step e2 hw v1 (fun i a1 a2 a3 => by unfold Nb; omega)
      have v2 := ih _ (r + 1) c (m2.len.trans hlen1) (by have := m2.cnt; omega)
      have m3 := m2.step e2 hw v2 (fun i a1 a2 a3 => by unfold Nb; omega)
      have v3 := ih _ r (c - 1) (m3.len.trans hlen1) (by have := m3.cnt; omega)
      have m4 := m3.step e2 hw v3 (fun i a1 a2 a3 => by unfold Nb; omega)
      have v4 := ih _ r (c + 1) (m4.len.trans hlen1) (by have := m4.cnt; omega)
      have m5 := m4.step e2 hw v4 (fun i a1 a2 a3 => by unfold Nb; omega)
      have hok : okRC R C s r c := ⟨hr, hcc, by rw [e1]; exact hw⟩
      have hit0 := m5.mono i0 (mk_set_self hil)
      refine ⟨by have := m5.len; simpa using this, by have := m5.cnt; omega, fun i hm => m5.mono i ((mk_set_iff hil).2 (.inr hm)), fun i hm => ?_, fun i hm hno2 j hj hlt hwj => ?_, fun _ => by rw [e1, Int.toNat_natCast]; exact hit0⟩
      · rcases m5.src i hm with h1 | h1
        · rcases (mk_set_iff hil).1 h1 with rfl | h2
          · exact .inr ⟨hok, by rw [e1, Int.toNat_natCast]; exact .here e2 hw⟩
          · exact .inl h2
        · exact .inr ⟨hok, by rw [e1, Int.toNat_natCast]; exact h1⟩
      · by_cases hm1 : mkd (m.set i0 true) i
        · rcases (mk_set_iff hil).1 hm1 with rfl | h2
          · have hj' : ((j / C : Nat) : Int) < R := by
              have : j / C < R := (Nat.div_lt_iff_lt_mul h0).2 hlt
              omega
            have hjm := Nat.mod_lt j h0
            have hjd := Nat.div_add_mod j C
            have key : ∀ (r' c' : Int), ((j / C : Nat) : Int) = r' → ((j % C : Nat) : Int) = c' → r' * C + c' = (j : Nat) := by
              rintro _ _ rfl rfl
              rw [← Int.natCast_mul, ← Int.natCast_add, Nat.mul_comm, hjd]
            have okj : ∀ (r' c' : Int), ((j / C : Nat) : Int) = r' → ((j % C : Nat) : Int) = c' → okRC R C s r' c' := by
              intro r' c' h1 h2
              subst h1 h2
              refine ⟨⟨Int.natCast_nonneg _, hj'⟩, ⟨Int.natCast_nonneg _, by exact_mod_cast hjm⟩, ?_⟩
              rw [key _ _ rfl rfl]
              exact hwj
            rcases hj with ⟨g1, g2 | g2⟩ | ⟨g1, g2 | g2⟩
            · have := v4.hit (okj r (c + 1) (by omega) (by omega))
              rwa [key r (c + 1) (by omega) (by omega), Int.toNat_natCast] at this
            · have := v3.hit (okj r (c - 1) (by omega) (by omega))
              rw [key r (c - 1) (by omega) (by omega), Int.toNat_natCast] at this
              exact v4.mono _ this
            · have := v2.hit (okj (r + 1) c (by omega) (by omega))
              rw [key (r + 1) c (by omega) (by omega), Int.toNat_natCast] at this
              exact v4.mono _ (v3.mono _ this)
            · have := v1.hit (okj (r - 1) c (by omega) (by omega))
              rw [key (r - 1) c (by omega) (by omega), Int.toNat_natCast] at this
              exact v4.mono _ (v3.mono _ (v2.mono _ this))
          · exact absurd h2 hno2
        · exact m5.cl i hm hm1 j hj hlt hwj
    · rw [if_neg hc]
      refine ⟨rfl, Nat.le_refl _, fun _ h => h, fun _ h => .inl h, fun _ h h' => absurd h h', fun hok => ?_⟩
      unfold mkd
      cases hb : m.getD (r * C + c).toNat false with
      | true => rfl
      | false => exact absurd ⟨hok.1, hok.2.1, hb, hok.2.2⟩ hc
/-- Marks that hold whole parts. -/
def closedM (R C : Nat) (s : ByteArray) (m : List Bool) : Prop := ∀ i j, mkd m i → Nb C i j → j < R * C → bt s j = 46 → mkd m j
theorem vis_closed {R C : Nat} {s : ByteArray} {m m' : List Bool} {r c : Int} {i0 : Nat} (hm : closedM R C s m) (hv : Vis R C s m r c m') (hok : okRC R C s r c) (e : r * C + c = i0) :
    (∀ i, mkd m' i ↔ mkd m i ∨ Con R C s i0 i) ∧ closedM R C s m' := by
  have hcl : closedM R C s m' := by
    intro i j hi hn hj hw
    by_cases h : mkd m i
    · exact hv.mono j (hm i j h hn hj hw)
    · exact hv.cl i hi h j hn hj hw
  have hhit := hv.hit hok
  rw [e, Int.toNat_natCast] at hhit
  refine ⟨fun i => ⟨fun h => ?_, fun h => ?_⟩, hcl⟩
  · rcases hv.src i h with h1 | ⟨_, h1⟩
    · exact .inl h1
    · rw [e, Int.toNat_natCast] at h1
      exact .inr h1
  · rcases h with h | h
    · exact hv.mono i h
    · induction h with
      | here => exact hhit
      | next _ h2 h3 h4 ih => exact hcl _ _ ih h2 h3 h4
theorem dm {C q t : Nat} (h : t < C) : (C * q + t) / C = q ∧ (C * q + t) % C = t :=
  ⟨by rw [Nat.mul_add_div (by omega), Nat.div_eq_of_lt h, Nat.add_zero], by rw [Nat.mul_add_mod, Nat.mod_eq_of_lt h]⟩
theorem dm_of {C i q t : Nat} (h : t < C) (e : i = C * q + t) : i / C = q ∧ i % C = t := e ▸ dm h
theorem dm_ex {C : Nat} (h0 : 0 < C) (i : Nat) : ∃ q t, t < C ∧ i = C * q + t := ⟨i / C, i % C, Nat.mod_lt i h0, (Nat.div_add_mod i C).symm⟩
/-- Has a cell a marked neighbour? (as the reference asks) -/
def nearB (C : Nat) (m : List Bool) (i : Nat) : Bool :=
  (decide (0 < i % C) && m.getD (i - 1) false) || ((decide (i % C + 1 < C) && m.getD (i + 1) false) || ((decide (C ≤ i) && m.getD (i - C) false) || (decide (i + C < m.length) && m.getD (i + C) false)))
theorem nearB_iff {C : Nat} (h0 : 0 < C) {m : List Bool} {i : Nat} : nearB C m i = true ↔ ∃ j, mkd m j ∧ Nb C j i := by
  obtain ⟨q, t, ht, rfl⟩ := dm_ex h0 i
  obtain ⟨e1, e2⟩ := dm (q := q) ht
  have hm : ∀ j, mkd m j → j < m.length := by
    intro j hj
    by_cases h : j < m.length
    · exact h
    · simp [mkd, List.getD_eq_getElem?_getD, List.getElem?_eq_none (Nat.le_of_not_lt h)] at hj
  unfold nearB
  rw [e2]
  simp only [Bool.or_eq_true, Bool.and_eq_true, decide_eq_true_eq]
  unfold Nb
  constructor
  · rintro (⟨h1, h2⟩ | ⟨h1, h2⟩ | ⟨h1, h2⟩ | ⟨h1, h2⟩)
    · obtain ⟨f1, f2⟩ := dm_of (C := C) (i := C * q + t - 1) (q := q) (t := t - 1) (by omega) (by omega)
      exact ⟨_, h2, by rw [e1, e2, f1, f2]; omega⟩
    · obtain ⟨f1, f2⟩ := dm_of (C := C) (i := C * q + t + 1) (q := q) (t := t + 1) (by omega) (by omega)
      exact ⟨_, h2, by rw [e1, e2, f1, f2]; omega⟩
    · have hq : 0 < q := by
        rcases Nat.eq_zero_or_pos q with rfl | h
        · omega
        · exact h
      obtain ⟨p, rfl⟩ : ∃ p, q = p + 1 := ⟨q - 1, by omega⟩
      obtain ⟨f1, f2⟩ := dm_of (i := C * (p + 1) + t - C) (q := p) (t := t) ht (by rw [Nat.mul_add]; omega)
      exact ⟨_, h2, by rw [e1, e2, f1, f2]; omega⟩
    · obtain ⟨f1, f2⟩ := dm_of (i := C * q + t + C) (q := q + 1) (t := t) ht (by rw [Nat.mul_add]; omega)
      exact ⟨_, h2, by rw [e1, e2, f1, f2]; omega⟩
  · rintro ⟨j, hj, hn⟩
    have hjl := hm j hj
    obtain ⟨q', t', ht', rfl⟩ := dm_ex h0 j
    obtain ⟨f1, f2⟩ := dm (q := q') ht'
    rw [e1, e2, f1, f2] at hn
    rcases hn with ⟨rfl, h | h⟩ | ⟨rfl, h | h⟩
    · refine .inl ⟨by omega, ?_⟩
      rw [show C * q' + t - 1 = C * q' + t' by omega]
      exact hj
    · refine .inr (.inl ⟨by omega, ?_⟩)
      rw [show C * q' + t + 1 = C * q' + t' by omega]
      exact hj
    · subst h
      have e : C * (q' + 1) + t' = C * q' + t' + C := by rw [Nat.mul_add]; omega
      refine .inr (.inr (.inl ⟨by omega, ?_⟩))
      rw [e, Nat.add_sub_cancel]
      exact hj
    · subst h
      have e : C * (q + 1) + t' = C * q + t' + C := by rw [Nat.mul_add]; omega
      refine .inr (.inr (.inr ⟨by omega, ?_⟩))
      rw [← e]
      exact hj
/-- One pass of the reference over the cells from i on. -/
def passM (C : Nat) (s : ByteArray) : List Nat → Bool → List Bool → Bool × List Bool
  | [], a, m => (a, m)
  | i :: l, a, m => if m.getD i false = false ∧ bt s i = 46 ∧ nearB C m i = true then passM C s l true (m.set i true) else passM C s l a m
def reachM (C : Nat) (s : ByteArray) : Nat → List Bool → List Bool
  | 0, m => m
  | k + 1, m => if (passM C s (List.range' 0 m.length) false m).1 = true then reachM C s k (passM C s (List.range' 0 m.length) false m).2 else (passM C s (List.range' 0 m.length) false m).2
theorem pass_spec (R C : Nat) (s : ByteArray) (h0 : 0 < C) (i0 : Nat) : ∀ (l : List Nat) (a : Bool) (m : List Bool), (∀ i ∈ l, i < m.length) → m.length = R * C → (∀ i, mkd m i → Con R C s i0 i) →
    (passM C s l a m).2.length = m.length ∧ (∀ i, mkd m i → mkd (passM C s l a m).2 i) ∧ (∀ i, mkd (passM C s l a m).2 i → Con R C s i0 i) ∧
    (a = true → (passM C s l a m).1 = true) ∧ (passM C s l a m).2.count false ≤ m.count false ∧ (a = false → (passM C s l a m).1 = true → (passM C s l a m).2.count false < m.count false) ∧
    ((passM C s l a m).1 = false → (passM C s l a m).2 = m ∧ ∀ i ∈ l, bt s i = 46 → nearB C m i = true → mkd m i)
  | [], a, m, _, _, hs => ⟨rfl, fun _ h => h, hs, id, Nat.le_refl _, fun h1 h2 => by simp [passM, h1] at h2, fun _ => ⟨rfl, fun _ h => by cases h⟩⟩
  | i :: l, a, m, hl, hn, hs => by
    unfold passM
    have hi := hl i (by simp)
    by_cases hc : m.getD i false = false ∧ bt s i = 46 ∧ nearB C m i = true
    · rw [if_pos hc]
      obtain ⟨hc1, hc2, hc3⟩ := hc
      obtain ⟨j, hj, hnb⟩ := (nearB_iff h0).1 hc3
      have hno' : m[i] = false := by simpa [List.getD_eq_getElem?_getD, hi] using hc1
      have hcnt : (m.set i true).count false + 1 = m.count false := by
        have hpos : 0 < m.count false := List.count_pos_iff.mpr (hno' ▸ List.getElem_mem hi)
        rw [List.count_set hi]
        simp [hno']
        omega
      have hs' : ∀ k, mkd (m.set i true) k → Con R C s i0 k := by
        intro k hk
        rcases (mk_set_iff hi).1 hk with rfl | h
        · exact .next (hs j hj) hnb (by omega) hc2
        · exact hs k h
      obtain ⟨p1, p2, p3, p4, p5, p6, p7⟩ := pass_spec R C s h0 i0 l true (m.set i true) (fun k hk => by have := hl k (by simp [hk]); simpa using this) (by simpa using hn) hs'
      have pt := p4 rfl
      refine ⟨by simpa using p1, fun k hk => p2 k ((mk_set_iff hi).2 (.inr hk)), p3, fun _ => pt, by omega, fun _ _ => by omega, fun h => ?_⟩
      rw [pt] at h
      cases h
    · rw [if_neg hc]
      obtain ⟨p1, p2, p3, p4, p5, p6, p7⟩ := pass_spec R C s h0 i0 l a m (fun k hk => hl k (by simp [hk])) hn hs
      refine ⟨p1, p2, p3, p4, p5, p6, fun h => ⟨(p7 h).1, fun k hk hw hnr => ?_⟩⟩
      rcases List.mem_cons.1 hk with rfl | hk
      · unfold mkd
        cases hb : m.getD k false with
        | true => rfl
        | false => exact absurd ⟨hb, hw, hnr⟩ hc
      · exact (p7 h).2 k hk hw hnr
theorem reach_spec (R C : Nat) (s : ByteArray) (h0 : 0 < C) (i0 : Nat) : ∀ (k : Nat) (m : List Bool), m.count false < k → m.length = R * C → (∀ i, mkd m i → Con R C s i0 i) →
    (reachM C s k m).length = m.length ∧ (∀ i, mkd m i → mkd (reachM C s k m) i) ∧ (∀ i, mkd (reachM C s k m) i → Con R C s i0 i) ∧ closedM R C s (reachM C s k m)
  | 0, _, h, _, _ => by omega
  | k + 1, m, hk, hn, hs => by
    unfold reachM
    obtain ⟨p1, p2, p3, p4, p5, p6, p7⟩ := pass_spec R C s h0 i0 (List.range' 0 m.length) false m (fun k hk => by rw [List.mem_range'] at hk; omega) hn hs
    by_cases hb : (passM C s (List.range' 0 m.length) false m).1 = true
    · rw [if_pos hb]
      have := p6 rfl hb
      obtain ⟨q1, q2, q3, q4⟩ := reach_spec R C s h0 i0 k _ (by omega) (p1.trans hn) p3
      exact ⟨q1.trans p1, fun i hi => q2 i (p2 i hi), q3, q4⟩
    · rw [if_neg hb]
      refine ⟨p1, p2, p3, fun i j hi hnb hj hw => ?_⟩
      obtain ⟨e, hall⟩ := p7 (by simpa using hb)
      rw [e] at hi ⊢
      exact hall j (by rw [List.mem_range']; exact ⟨j, by omega, by omega⟩) hw ((nearB_iff h0).2 ⟨i, hi, hnb⟩)
theorem reach_con {R C : Nat} {s : ByteArray} (h0 : 0 < C) {i0 : Nat} {m : List Bool} (hi : i0 < R * C) (hw : bt s i0 = 46) (hn : m.length = R * C) (hm : ∀ i, mkd m i ↔ i = i0) (k : Nat) (hk : m.count false < k) :
    (reachM C s k m).length = R * C ∧ ∀ i, mkd (reachM C s k m) i ↔ Con R C s i0 i := by
  obtain ⟨q1, q2, q3, q4⟩ := reach_spec R C s h0 i0 k m hk hn (fun i h => by rw [(hm i).1 h]; exact .here hi hw)
  refine ⟨q1.trans hn, fun i => ⟨q3 i, fun h => ?_⟩⟩
  induction h with
  | here => exact q2 _ ((hm _).2 rfl)
  | next _ h2 h3 h4 ih => exact q4 _ _ ih h2 h3 h4
def bothM (a b : List Bool) : List Bool := List.zipWith (fun x y => x || y) a b
theorem mkd_or {a b : List Bool} (h : a.length = b.length) (i : Nat) : mkd (bothM a b) i ↔ mkd a i ∨ mkd b i := by
  unfold mkd bothM
  simp only [List.getD_eq_getElem?_getD, List.getElem?_zipWith]
  by_cases hi : i < a.length
  · rw [List.getElem?_eq_getElem hi, List.getElem?_eq_getElem (by omega)]
    simp
  · rw [List.getElem?_eq_none (by omega), List.getElem?_eq_none (by omega)]
    simp
def oneM (s : ByteArray) (i : Nat) : List Bool := (List.replicate s.size false).set i true
def seenGo (C : Nat) (s : ByteArray) : List Nat → List Bool → Nat → Nat
  | [], _, n => n
  | i :: l, m, n => if bt s i = 46 ∧ m.getD i false = false then seenGo C s l (bothM m (reachM C s (s.size + 1) (oneM s i))) (n + 1) else seenGo C s l m n
theorem oneM_iff {s : ByteArray} {i : Nat} (h : i < s.size) (j : Nat) : mkd (oneM s i) j ↔ j = i := by
  unfold oneM
  rw [mk_set_iff (by simpa using h)]
  constructor
  · rintro (rfl | h)
    · rfl
    · unfold mkd at h
      simp only [List.getD_eq_getElem?_getD, List.getElem?_replicate] at h
      split at h <;> simp at h
  · rintro rfl
    exact .inl rfl
theorem oneM_length (s : ByteArray) (i : Nat) : (oneM s i).length = s.size := by simp [oneM]
theorem parts_same (R C : Nat) (s : ByteArray) (h0 : 0 < C) (hs : s.size = R * C) : ∀ (l : List Nat) (m : List Bool) (n : Nat), (∀ i ∈ l, i < s.size) → m.length = s.size → closedM R C s m → partsGo R C s l m n = seenGo C s l m n
  | [], _, _, _, _, _ => rfl
  | i :: l, m, n, hl, hm, hcl => by
    unfold partsGo seenGo
    have hi := hl i (by simp)
    by_cases hc : bt s i = 46 ∧ m.getD i false = false
    · rw [if_pos hc, if_pos hc]
      have hcn : m.count false < s.size + 1 := by
        have := List.count_le_length (a := false) (l := m)
        omega
      have hv := visF_spec R C s h0 (s.size + 1) m ((i / C : Nat) : Int) ((i % C : Nat) : Int) (by omega) hcn
      have hdm := Nat.div_add_mod i C
      have hml := Nat.mod_lt i h0
      have e : ((i / C : Nat) : Int) * C + ((i % C : Nat) : Int) = i := by
        rw [← Int.natCast_mul, ← Int.natCast_add, Nat.mul_comm, hdm]
      have hdl : i / C < R := (Nat.div_lt_iff_lt_mul h0).2 (by omega)
      have hok : okRC R C s ((i / C : Nat) : Int) ((i % C : Nat) : Int) := ⟨⟨Int.natCast_nonneg _, by exact_mod_cast hdl⟩, ⟨Int.natCast_nonneg _, by exact_mod_cast hml⟩, by rw [e]; exact hc.1⟩
      obtain ⟨k1, k2⟩ := vis_closed hcl hv hok e
      have ho : (oneM s i).count false < s.size + 1 := by
        have := List.count_le_length (a := false) (l := oneM s i)
        rw [oneM_length] at this
        omega
      obtain ⟨r1, r2⟩ := reach_con h0 (by omega) hc.1 ((oneM_length s i).trans hs) (oneM_iff hi) (s.size + 1) ho
      have heq : visF R C s (s.size + 1) m ((i / C : Nat) : Int) ((i % C : Nat) : Int) = bothM m (reachM C s (s.size + 1) (oneM s i)) := by
        refine mk_ext ?_ fun j _ => ?_
        · have := hv.len
          unfold bothM
          rw [List.length_zipWith, r1]
          omega
        · rw [k1, mkd_or (by omega), r2]
      rw [← heq]
      exact parts_same R C s h0 hs l _ _ (fun j hj => hl j (by simp [hj])) (hv.len.trans hm) k2
    · rw [if_neg hc, if_neg hc]
      exact parts_same R C s h0 hs l m n (fun j hj => hl j (by simp [hj])) hm hcl
theorem parts_same0 (R C : Nat) (s : ByteArray) (h0 : 0 < C) (hs : s.size = R * C) : partsGo R C s (List.range' 0 s.size) (List.replicate s.size false) 0 = seenGo C s (List.range' 0 s.size) (List.replicate s.size false) 0 := by
  refine parts_same R C s h0 hs _ _ _ (fun i hi => by rw [List.mem_range'] at hi; omega) (by simp) (fun i j hi => ?_)
  unfold mkd at hi
  simp only [List.getD_eq_getElem?_getD, List.getElem?_replicate] at hi
  split at hi <;> simp at hi

/-! ### connspec -/
/-- How many parts of white cells a grid has. -/
def partsM (r c : Int) (s : ByteArray) : Nat := if gridM r c s then seenGo c.toNat s (List.range' 0 s.size) (List.replicate s.size false) 0 else 0
theorem impl_PartsOf_ev (r c : Int) (s : ByteArray) (hs : s.size ≤ 1048576) : Ev (fun k => impl_PartsOf.f k r c s) (partsM r c s : Nat) := by
  unfold impl_PartsOf.f partsM
  refine ev_bind (impl_IsGrid_ev r c s (by omega)) ?_
  by_cases hg : gridM r c s = true
  · rw [if_pos hg]
    obtain ⟨R, C, rfl, rfl, h1, h2, h3, h4, h5⟩ := gridM_nat hg
    refine ev_pos ⟨by omega, by omega, by rw [h5, Int.natCast_mul]⟩ (ev_now ?_)
    rw [Int.toNat_natCast, parts_same0 R C s (by omega) h5, if_pos hg]
  · rw [if_neg hg]
    exact ev_now (by rw [if_neg hg]; rfl)

/-! ### strs -/
def total (l : List ByteArray) : Nat := (l.map ByteArray.size).sum
theorem mem_total {l : List ByteArray} {x : ByteArray} (h : x ∈ l) : x.size ≤ total l := by
  induction l with
  | nil => cases h
  | cons a r ih =>
    have e : total (a :: r) = a.size + total r := rfl
    rcases List.mem_cons.1 h with rfl | h
    · omega
    · have := ih h
      omega
theorem total_drop {l : List ByteArray} {i : Nat} (h : i < l.length) : total (l.drop i) = l[i].size + total (l.drop (i + 1)) := by
  rw [List.drop_eq_getElem_cons h]
  rfl

/-! ### back -/
def backM (s : ByteArray) : ByteArray := if 100 < s.size then ⟨#[]⟩ else ⟨s.data.reverse⟩
theorem impl_Backwards_eq (s : ByteArray) : impl_Backwards.f s = some (backM s) := rfl
theorem back_step (s acc : ByteArray) (i : Nat) (hi : i < s.size) (ha : acc.data.toList = (s.data.toList.take i).reverse) : (s.extract i (i + 1) ++ acc).data.toList = (s.data.toList.take (i + 1)).reverse := by
  have hl : i < s.data.toList.length := by simpa using hi
  rw [List.take_succ_eq_append_getElem hl, List.reverse_append, ← ha]
  have e : (s.extract i (i + 1)).data.toList = [s.data.toList[i]] := by
    rw [ByteArray.data_extract, Array.toList_extract]
    simp only [List.extract]
    rw [show i + 1 - i = 1 by omega, List.drop_eq_getElem_cons hl]
    rfl
  rw [ByteArray.data_append, Array.toList_append, e]
  rfl

/-! ### turn -/
def turnM (r c : Int) (s : ByteArray) : Int × Int × ByteArray := if gridM r c s = true then (r, c, backM s) else (0, 0, ⟨#[]⟩)
theorem impl_TurnGrid_ev (r c : Int) (s : ByteArray) (hs : s.size ≤ 140737488351232) : Ev (fun k => impl_TurnGrid.f k r c s) (turnM r c s) := by
  unfold impl_TurnGrid.f turnM
  refine ev_bind (impl_IsGrid_ev r c s hs) ?_
  by_cases hg : gridM r c s = true
  · refine ev_pos hg (ev_let (impl_Backwards_eq s) (ev_now ?_))
    rw [if_pos hg]
  · refine ev_neg hg (ev_now ?_)
    rw [if_neg hg]

/-! ### slots -/
/-- How many cells follow one another from a cell on, white ones, at most m. -/
def runLen (s : ByteArray) (step : Nat) : Nat → Nat → Nat
  | _, 0 => 0
  | i, m + 1 => if bt s i = 46 then 1 + runLen s step (i + step) m else 0
def stepM (C : Nat) (dn : Bool) : Nat := if dn then C else 1
def atM (C : Nat) (dn : Bool) (i : Nat) : Nat := if dn then i / C else i % C
def mostM (R C : Nat) (dn : Bool) : Nat := if dn then R else C
/-- The length of the part of white cells that begins at a cell; 0 if none begins there. -/
def runM (R C : Nat) (s : ByteArray) (i : Nat) (dn : Bool) : Nat :=
  if bt s i = 46 ∧ ¬ (0 < atM C dn i ∧ bt s (i - stepM C dn : Nat) = 46) then runLen s (stepM C dn) i (mostM R C dn - atM C dn i) else 0
theorem runLen_le (s : ByteArray) (step : Nat) : ∀ m i, runLen s step i m ≤ m
  | 0, _ => Nat.le_refl _
  | m + 1, i => by
    unfold runLen
    split
    · have := runLen_le s step m (i + step)
      omega
    · omega
theorem cell_lt {R C : Nat} {i j : Nat} {dn : Bool} (hC : 0 < C) (hi : i < R * C) (hj : atM C dn i + j < mostM R C dn) : i + j * stepM C dn < R * C := by
  cases dn with
  | true =>
    simp only [atM, mostM, stepM, if_true] at hj ⊢
    have h1 := Nat.div_add_mod i C
    have h2 := Nat.mod_lt i hC
    have h3 : C * (i / C + j + 1) ≤ C * R := Nat.mul_le_mul_left _ (by omega)
    rw [Nat.mul_comm R C]
    rw [Nat.mul_add, Nat.mul_add, Nat.mul_one] at h3
    rw [Nat.mul_comm j C]
    omega
  | false =>
    simp only [atM, mostM, stepM, Bool.false_eq_true, if_false] at hj ⊢
    have h1 := Nat.div_add_mod i C
    have h4 : i / C < R := (Nat.div_lt_iff_lt_mul hC).2 hi
    have h3 : C * (i / C + 1) ≤ C * R := Nat.mul_le_mul_left _ h4
    rw [Nat.mul_comm R C]
    rw [Nat.mul_add, Nat.mul_one] at h3
    omega
theorem mul_bound {j C : Nat} (hj : j ≤ 6) (hC : C ≤ 6) : j * C ≤ 36 := Nat.mul_le_mul hj hC
theorem stepM_le {C : Nat} (hC : C ≤ 6) (h0 : 0 < C) (dn : Bool) : 1 ≤ stepM C dn ∧ stepM C dn ≤ 6 := by
  unfold stepM
  split <;> omega
theorem mostM_le {R C : Nat} (hR : R ≤ 6) (hC : C ≤ 6) (dn : Bool) : mostM R C dn ≤ 6 := by
  unfold mostM
  split <;> omega

theorem impl_run_l0_ev (R C : Nat) (s : ByteArray) (r c : Int) (hR : R ≤ 6) (hC : C ≤ 6) (h0 : 0 < C) (hs : s.size = R * C) (i : Nat) (dn : Bool) (hi : i < R * C) : ∀ n : Nat, atM C dn i + n ≤ mostM R C dn →
    Ev (fun k => impl_run.l0 k i (stepM C dn) (atM C dn i) (mostM R C dn) n r c s) (n + runLen s (stepM C dn) (i + n * stepM C dn) (mostM R C dn - atM C dn i - n) : Nat) := by
  have hm := mostM_le hR hC dn
  have hst := stepM_le hC h0 dn
  have h36 := bounds36 hR hC
  refine down (mostM R C dn - atM C dn i) ?_ ?_
  · intro n h hn
    apply ev_succ
    simp only [impl_run.l0]
    rw [wrap64_id (n := (atM C dn i : Int) + n) (by omega) (by omega)]
    refine ev_neg (by omega) (ev_now ?_)
    rw [show mostM R C dn - atM C dn i - n = 0 by omega]
    rfl
  · intro n h ih hn
    have hlt := cell_lt h0 hi (show atM C dn i + n < mostM R C dn by omega)
    have hb := mul_bound (show n ≤ 6 by omega) (show stepM C dn ≤ 6 by omega)
    have hcast : ((n : Int) * (stepM C dn : Int)) = ((n * stepM C dn : Nat) : Int) := by rw [Int.natCast_mul]
    apply ev_succ
    simp only [impl_run.l0]
    rw [wrap64_id (n := (atM C dn i : Int) + n) (by omega) (by omega), hcast, wrap64_id (n := ((n * stepM C dn : Nat) : Int)) (by omega) (by omega), wrap64_id (n := (i : Int) + _) (by omega) (by omega), wrap64_id (n := (n : Int) + 1) (by omega) (by omega), succ_cast]
    rw [show mostM R C dn - atM C dn i - n = (mostM R C dn - atM C dn i - (n + 1)) + 1 by omega]
    unfold runLen
    rw [show ((i : Int) + ((n * stepM C dn : Nat) : Int)) = ((i + n * stepM C dn : Nat) : Int) by omega]
    refine ev_pos (by omega) (ev_pos (by omega) (ev_pos (by omega) ?_))
    by_cases hw : bt s (i + n * stepM C dn : Nat) = 46
    · rw [if_pos hw]
      refine ev_pos hw (ev_eq (ih (by omega)) ?_)
      rw [show i + (n + 1) * stepM C dn = i + n * stepM C dn + stepM C dn by rw [Nat.add_mul, Nat.one_mul, Nat.add_assoc]]
      omega
    · rw [if_neg hw]
      exact ev_neg hw (ev_now (by simp))
theorem impl_run_ev (R C : Nat) (s : ByteArray) (hR : R ≤ 6) (hC : C ≤ 6) (h0 : 0 < C) (hs : s.size = R * C) (i : Nat) (dn : Bool) (hi : i < R * C) :
    Ev (fun k => impl_run.f k R C s i dn) (runM R C s i dn : Nat) := by
  have hst := stepM_le hC h0 dn
  have h36 := bounds36 hR hC
  have hl0 := impl_run_l0_ev R C s R C hR hC h0 hs i dn hi 0
  have key : Ev (fun k => impl_run.j0 k i (stepM C dn) (atM C dn i) (mostM R C dn) R C s) (runM R C s i dn : Nat) := by
    have hat : atM C dn i ≤ i ∧ (0 < atM C dn i → stepM C dn ≤ i) ∧ atM C dn i ≤ mostM R C dn := by
      cases dn with
      | true =>
        simp only [atM, stepM, mostM, if_true]
        refine ⟨Nat.div_le_self _ _, fun h => ?_, ?_⟩
        · exact (Nat.div_pos_iff.1 h).2
        · exact Nat.le_of_lt ((Nat.div_lt_iff_lt_mul h0).2 hi)
      | false =>
        simp only [atM, stepM, mostM, Bool.false_eq_true, if_false]
        have := Nat.mod_le i C
        have := Nat.mod_lt i h0
        omega
    have hj1 : ∀ b : Bool, (b = true → Ev (fun k => impl_run.j1 k i (stepM C dn) (atM C dn i) (mostM R C dn) b R C s) 0) ∧
        (b = false → Ev (fun k => impl_run.j1 k i (stepM C dn) (atM C dn i) (mostM R C dn) b R C s) (runLen s (stepM C dn) i (mostM R C dn - atM C dn i) : Nat)) := by
      intro b
      refine ⟨fun hb => ?_, fun hb => ?_⟩
      · apply ev_succ
        simp only [impl_run.j1]
        exact ev_pos hb (ev_now rfl)
      · apply ev_succ
        simp only [impl_run.j1]
        exact ev_neg (by simp [hb]) (by simpa using hl0 (by omega))
    apply ev_succ
    simp only [impl_run.j0]
    refine ev_pos (by omega) (ev_pos (by omega) ?_)
    unfold runM
    by_cases hw : bt s i = 46
    · refine ev_pos hw ?_
      by_cases ha : 0 < atM C dn i
      · have h2 := hat.2.1 ha
        rw [wrap64_id (n := (i : Int) - _) (by omega) (by omega), show ((i : Int) - (stepM C dn : Nat)) = ((i - stepM C dn : Nat) : Int) by omega]
        refine ev_pos (by omega) (ev_pos (by omega) (ev_pos (by omega) ?_))
        by_cases hp : bt s (i - stepM C dn : Nat) = 46
        · rw [if_neg (by simp [ha, hp])]
          exact (hj1 _).1 (by simp [hp])
        · rw [if_pos ⟨hw, fun x => hp x.2⟩]
          exact (hj1 _).2 (by simp [hp])
      · rw [if_pos ⟨hw, fun x => ha x.1⟩]
        exact ev_neg (by omega) ((hj1 false).2 rfl)
    · rw [if_neg (fun x => hw x.1)]
      exact ev_neg hw ((hj1 true).1 rfl)
  unfold impl_run.f
  refine ev_neg (by omega) ?_
  cases dn with
  | true =>
    refine ev_pos rfl ?_
    have e : Int.tdiv (i : Int) (C : Int) = ((i / C : Nat) : Int) := Int.ofNat_tdiv i C |>.symm
    have hd := Nat.div_le_self i C
    have hq := Int.natCast_nonneg (i / C)
    rw [e, wrap64_id (by omega) (by omega)]
    simpa only [stepM, atM, mostM, if_true] using key
  | false =>
    refine ev_neg (by simp) ?_
    have e : Int.tmod (i : Int) (C : Int) = ((i % C : Nat) : Int) := Int.ofNat_tmod i C |>.symm
    rw [e]
    simpa [stepM, atM, mostM] using key

/-! ### slotsof -/
abbrev ISlot := S57
theorem rd_Slot_get {l : List ISlot} {i : Nat} (h : i < l.length) : rd_T57 l (i : Int) = l[i] := by
  unfold rd_T57
  simp [h]
/-- The slots that begin at a cell, under a number. -/
def slotsOne (R C : Nat) (s : ByteArray) (i : Nat) (n : Int) : List ISlot :=
  (if 2 ≤ runM R C s i false then [⟨n, false, i, runM R C s i false⟩] else []) ++ (if 2 ≤ runM R C s i true then [⟨n, true, i, runM R C s i true⟩] else [])
def numOne (R C : Nat) (s : ByteArray) (i : Nat) (n : Int) : Int := if 2 ≤ runM R C s i false ∨ 2 ≤ runM R C s i true then n + 1 else n
def slotsGo (R C : Nat) (s : ByteArray) : List Nat → Int → List ISlot
  | [], _ => []
  | i :: l, n => slotsOne R C s i (numOne R C s i n) ++ slotsGo R C s l (numOne R C s i n)
/-- The slots of a grid; none of what is no grid. -/
def slotsM (r c : Int) (s : ByteArray) : List ISlot := if gridM r c s then slotsGo r.toNat c.toNat s (List.range' 0 (s.size - 0)) 0 else []
theorem slotsOne_length (R C : Nat) (s : ByteArray) (i : Nat) (n : Int) : (slotsOne R C s i n).length ≤ 2 := by
  unfold slotsOne
  split <;> split <;> simp
theorem slotsGo_length (R C : Nat) (s : ByteArray) : ∀ (l : List Nat) (n : Int), (slotsGo R C s l n).length ≤ 2 * l.length
  | [], _ => by simp [slotsGo]
  | i :: l, n => by
    unfold slotsGo
    have h1 := slotsOne_length R C s i (numOne R C s i n)
    have h2 := slotsGo_length R C s l (numOne R C s i n)
    simp only [List.length_append, List.length_cons]
    omega
theorem slotsM_length (r c : Int) (s : ByteArray) : (slotsM r c s).length ≤ 72 := by
  unfold slotsM
  split
  · rename_i h
    obtain ⟨R, C, rfl, rfl, _, hR, _, hC, hs⟩ := gridM_nat h
    have := slotsGo_length R C s (List.range' 0 (s.size - 0)) 0
    have h36 := bounds36 hR hC
    rw [List.length_range'] at this
    simp only [Int.toNat_natCast]
    omega
  · simp
theorem impl_SlotsOf_j2_ev {acc : List ISlot} {n : Int} {i a d m : Nat} {r c : Int} {s : ByteArray} {ρ : List ISlot} (ha : acc.length ≤ 72) (hi : i ≤ 100)
    (h : Ev (fun k => impl_SlotsOf.l0 k (acc ++ ((if 2 ≤ a then [⟨n, false, i, a⟩] else []) ++ (if 2 ≤ d then [⟨n, true, i, d⟩] else []))) n m (i + 1 : Nat) r c s) ρ) : Ev (fun k => impl_SlotsOf.j2 k acc n i a d m i r c s) ρ := by
  apply ev_succ
  simp only [impl_SlotsOf.j2]
  rw [wrap64_id (n := (i : Int) + 1) (by omega) (by omega), succ_cast]
  by_cases h1 : 2 ≤ a
  · rw [if_pos h1] at h
    refine ev_pos (by omega) (ev_pos (by omega) (ev_let rfl ?_))
    by_cases h2 : 2 ≤ d
    · rw [if_pos h2] at h
      exact ev_pos (by omega) (ev_pos (by simp; omega) (by simpa using h))
    · rw [if_neg h2] at h
      exact ev_neg (by omega) (by simpa using h)
  · rw [if_neg h1] at h
    refine ev_neg (by omega) ?_
    by_cases h2 : 2 ≤ d
    · rw [if_pos h2] at h
      exact ev_pos (by omega) (ev_pos (by omega) (by simpa using h))
    · rw [if_neg h2] at h
      exact ev_neg (by omega) (by simpa using h)
theorem impl_SlotsOf_l0_ev (R C : Nat) (s : ByteArray) (hR : 2 ≤ R ∧ R ≤ 6) (hC : 2 ≤ C ∧ C ≤ 6) (hs : s.size = R * C) : ∀ i : Nat, i ≤ s.size → ∀ (acc : List ISlot) (n : Int), acc.length ≤ 2 * i → 0 ≤ n → n ≤ i →
    Ev (fun k => impl_SlotsOf.l0 k acc n s.size i R C s) (acc ++ slotsGo R C s (List.range' i (s.size - i)) n) := by
  have h36 := bounds36 hR.2 hC.2
  refine down s.size ?_ ?_
  · intro i h hi acc n ha h0 hn
    apply ev_succ
    simp only [impl_SlotsOf.l0]
    rw [range_nil h]
    exact ev_neg (by omega) (ev_now (by simp [slotsGo]))
  · intro i h ih hi acc n ha h0 hn
    apply ev_succ
    simp only [impl_SlotsOf.l0]
    refine ev_pos (by omega) (ev_bind (impl_run_ev R C s hR.2 hC.2 (by omega) hs i false (by omega)) (ev_bind (impl_run_ev R C s hR.2 hC.2 (by omega) hs i true (by omega)) ?_))
    rw [range_cons h]
    unfold slotsGo
    have hnum : numOne R C s i n ≤ i + 1 ∧ 0 ≤ numOne R C s i n := by
      unfold numOne
      split <;> omega
    have hl := slotsOne_length R C s i (numOne R C s i n)
    have hnext := ih (by omega) (acc ++ slotsOne R C s i (numOne R C s i n)) (numOne R C s i n) (by simp; omega) hnum.2 (by omega)
    rw [List.append_assoc] at hnext
    have key : ∀ b : Bool, b = decide (2 ≤ runM R C s i false ∨ 2 ≤ runM R C s i true) → Ev (fun k => impl_SlotsOf.j1 k acc n i (runM R C s i false : Nat) (runM R C s i true : Nat) s.size i b R C s) (acc ++ (slotsOne R C s i (numOne R C s i n) ++ slotsGo R C s (List.range' (i + 1) (s.size - (i + 1))) (numOne R C s i n))) := by
      intro b hb
      apply ev_succ
      simp only [impl_SlotsOf.j1]
      rw [wrap64_id (n := n + 1) (by omega) (by omega)]
      by_cases hc : 2 ≤ runM R C s i false ∨ 2 ≤ runM R C s i true
      · have e : numOne R C s i n = n + 1 := if_pos hc
        rw [e] at hnext ⊢
        exact ev_pos (by rw [hb]; simpa using hc) (impl_SlotsOf_j2_ev (by omega) (by omega) hnext)
      · have e : numOne R C s i n = n := if_neg hc
        rw [e] at hnext ⊢
        exact ev_neg (by rw [hb]; simpa using hc) (impl_SlotsOf_j2_ev (by omega) (by omega) hnext)
    by_cases h1 : 2 ≤ runM R C s i false
    · exact ev_pos (by omega) (key true (decide_eq_true (.inl h1)).symm)
    · exact ev_neg (by omega) (key _ (decide_eq_decide.2 (by omega)))
theorem impl_SlotsOf_ev (r c : Int) (s : ByteArray) (hs : s.size ≤ 1048576) : Ev (fun k => impl_SlotsOf.f k r c s) (slotsM r c s) := by
  unfold impl_SlotsOf.f slotsM
  refine ev_bind (impl_IsGrid_ev r c s (by omega)) ?_
  by_cases hg : gridM r c s = true
  · rw [if_pos hg]
    obtain ⟨R, C, rfl, rfl, h1, h2, h3, h4, h5⟩ := gridM_nat hg
    exact ev_pos hg (by simpa using impl_SlotsOf_l0_ev R C s ⟨h1, h2⟩ ⟨h3, h4⟩ h5 0 (by omega) [] 0 (by simp) (by omega) (by omega))
  · rw [if_neg hg]
    exact ev_neg hg (ev_now rfl)

/-! ### cells -/
theorem slot_ext_iff {a b : ISlot} : (a.f0 = b.f0 ∧ a.f1 = b.f1 ∧ a.f2 = b.f2 ∧ a.f3 = b.f3) ↔ a = b := by
  cases a
  cases b
  simp
instance decSlot : DecidableEq ISlot := fun a b => decidable_of_iff _ slot_ext_iff
/-- The cells of a slot. -/
def cellsM (C : Nat) (x : ISlot) : List Int := (List.range' 0 (x.f3.toNat - 0)).map fun k : Nat => x.f2 + (k : Int) * (stepM C x.f1 : Int)
def okSlot (R C : Nat) (s : ByteArray) (x : ISlot) : Prop := ∃ i : Nat, i < R * C ∧ x.f2 = i ∧ x.f3 = runM R C s i x.f1 ∧ 2 ≤ runM R C s i x.f1
theorem slotsOne_mem {R C : Nat} {s : ByteArray} {i : Nat} {n : Int} {x : ISlot} (h : x ∈ slotsOne R C s i n) : x.f0 = n ∧ x.f2 = i ∧ x.f3 = runM R C s i x.f1 ∧ 2 ≤ runM R C s i x.f1 := by
  unfold slotsOne at h
  rcases List.mem_append.1 h with h | h
  · split at h
    · rename_i h2
      rw [List.mem_singleton] at h
      subst h
      exact ⟨rfl, rfl, rfl, h2⟩
    · cases h
  · split at h
    · rename_i h2
      rw [List.mem_singleton] at h
      subst h
      exact ⟨rfl, rfl, rfl, h2⟩
    · cases h
theorem slotsGo_mem {R C : Nat} {s : ByteArray} {x : ISlot} : ∀ {l : List Nat} {n : Int}, x ∈ slotsGo R C s l n → ∃ i ∈ l, x.f2 = i ∧ x.f3 = runM R C s i x.f1 ∧ 2 ≤ runM R C s i x.f1
  | [], _, h => by cases h
  | i :: l, n, h => by
    unfold slotsGo at h
    rcases List.mem_append.1 h with h | h
    · exact ⟨i, List.mem_cons_self, (slotsOne_mem h).2⟩
    · obtain ⟨j, hj, h2⟩ := slotsGo_mem h
      exact ⟨j, List.mem_cons_of_mem _ hj, h2⟩
theorem slotsM_ok {r c : Int} {s : ByteArray} {x : ISlot} (h : x ∈ slotsM r c s) : ∃ R C : Nat, r = R ∧ c = C ∧ 2 ≤ R ∧ R ≤ 6 ∧ 2 ≤ C ∧ C ≤ 6 ∧ s.size = R * C ∧ gridM r c s = true ∧ okSlot R C s x := by
  unfold slotsM at h
  split at h
  · rename_i hg
    obtain ⟨R, C, rfl, rfl, h1, h2, h3, h4, h5⟩ := gridM_nat hg
    obtain ⟨i, hi, h6⟩ := slotsGo_mem h
    rw [List.mem_range'] at hi
    obtain ⟨j, hj, rfl⟩ := hi
    refine ⟨R, C, rfl, rfl, h1, h2, h3, h4, h5, hg, _, ?_, h6⟩
    omega
  · cases h
def slotLt (a b : ISlot) : Prop := a.f2 < b.f2 ∨ (a.f2 = b.f2 ∧ a.f1 = false ∧ b.f1 = true)
theorem slotLt_ne {a b : ISlot} (h : slotLt a b) : a ≠ b := by
  rintro rfl
  rcases h with h | ⟨_, h1, h2⟩
  · omega
  · rw [h1] at h2
    cases h2
theorem slotsGo_pairwise {R C : Nat} {s : ByteArray} : ∀ {l : List Nat} {n : Int}, l.Pairwise (· < ·) → (slotsGo R C s l n).Pairwise slotLt
  | [], _, _ => by simp [slotsGo]
  | i :: l, n, h => by
    unfold slotsGo
    rw [List.pairwise_append]
    refine ⟨?_, slotsGo_pairwise (List.pairwise_cons.1 h).2, ?_⟩
    · unfold slotsOne
      rw [List.pairwise_append]
      refine ⟨by split <;> simp, by split <;> simp, ?_⟩
      intro a ha b hb
      split at ha
      · split at hb
        · rw [List.mem_singleton] at ha hb
          subst ha hb
          exact .inr ⟨rfl, rfl, rfl⟩
        · cases hb
      · cases ha
    · intro a ha b hb
      have h1 := (slotsOne_mem ha).2.1
      obtain ⟨j, hj, h2, _⟩ := slotsGo_mem hb
      have := (List.pairwise_cons.1 h).1 j hj
      exact .inl (by omega)
theorem slotsM_pairwise (r c : Int) (s : ByteArray) : (slotsM r c s).Pairwise slotLt := by
  unfold slotsM
  split
  · exact slotsGo_pairwise (List.pairwise_lt_range' (step := 1) (by omega))
  · simp
theorem slotsM_nodup (r c : Int) (s : ByteArray) : (slotsM r c s).Nodup := (slotsM_pairwise r c s).imp slotLt_ne
theorem okSlot_bounds {R C : Nat} {s : ByteArray} {x : ISlot} (hR : R ≤ 6) (hC : C ≤ 6) (h : okSlot R C s x) : 0 ≤ x.f2 ∧ x.f2 < 36 ∧ 2 ≤ x.f3 ∧ x.f3 ≤ 6 ∧ x.f3.toNat ≤ 6 := by
  obtain ⟨i, hi, h2, h3, h4⟩ := h
  have h36 := bounds36 hR hC
  have h5 : runM R C s i x.f1 ≤ 6 := by
    unfold runM
    split
    · have := runLen_le s (stepM C x.f1) (mostM R C x.f1 - atM C x.f1 i) i
      have := mostM_le hR hC x.f1
      omega
    · omega
  omega
/-- What CellsOf answers. -/
def cellsOfM (r c : Int) (s : ByteArray) (x : ISlot) : List Int := if x ∈ slotsM r c s then cellsM c.toNat x else []
theorem cellsM_length (C : Nat) (x : ISlot) : (cellsM C x).length = x.f3.toNat := by simp [cellsM]
theorem cellsOfM_length (r c : Int) (s : ByteArray) (x : ISlot) : (cellsOfM r c s x).length ≤ 6 := by
  unfold cellsOfM
  split
  · rename_i h
    obtain ⟨R, C, rfl, rfl, _, h2, _, h4, _, _, hk⟩ := slotsM_ok h
    have := okSlot_bounds h2 h4 hk
    rw [cellsM_length]
    omega
  · simp
theorem cell_wrap {C : Nat} {x : ISlot} {k : Nat} (hC : C ≤ 6) (_ : 0 < C) (hk : k ≤ 6) (h1 : 0 ≤ x.f2) (h2 : x.f2 < 36) : wrap64 ((k : Int) * (C : Int)) = (k : Int) * (C : Int) ∧ wrap64 (x.f2 + (k : Int) * (C : Int)) = x.f2 + (k : Int) * (C : Int) := by
  have hb := mul_bound hk hC
  have hcast : ((k : Int) * (C : Int)) = ((k * C : Nat) : Int) := by rw [Int.natCast_mul]
  rw [hcast]
  exact ⟨wrap64_id (by omega) (by omega), wrap64_id (by omega) (by omega)⟩
theorem impl_cells_l0_ev (C : Nat) (x : ISlot) (hC : C ≤ 6) (h0 : 0 < C) (hx : 0 ≤ x.f2 ∧ x.f2 < 36 ∧ 0 ≤ x.f3 ∧ x.f3.toNat ≤ 6) : ∀ n : Nat, n ≤ x.f3.toNat → ∀ acc : List Int, acc.length ≤ n →
    Ev (fun k => impl_cells.l0 k (stepM C x.f1) acc x.f3 n x.f0 x.f1 x.f2 x.f3) (acc ++ (List.range' n (x.f3.toNat - n)).map fun k : Nat => x.f2 + (k : Int) * (stepM C x.f1 : Int)) := by
  refine down x.f3.toNat ?_ ?_
  · intro n h hn acc ha
    apply ev_succ
    simp only [impl_cells.l0]
    rw [range_nil h]
    exact ev_neg (by omega) (ev_now (by simp))
  · intro n h ih hn acc ha
    have hst := stepM_le hC h0 x.f1
    have hw := cell_wrap (C := stepM C x.f1) (x := x) hst.2 (by omega) (show n ≤ 6 by omega) hx.1 hx.2.1
    apply ev_succ
    simp only [impl_cells.l0]
    rw [wrap64_id (n := (n : Int) + 1) (by omega) (by omega), succ_cast, hw.1, hw.2, range_cons h, List.map_cons]
    exact ev_pos (by omega) (ev_pos (by omega) (ev_eq (ih (by omega) _ (by simp; omega)) (by simp)))
theorem impl_cells_ev (R : Int) (C : Nat) (s : ByteArray) (x : ISlot) (hC : C ≤ 6) (h0 : 0 < C) (hx : 0 ≤ x.f2 ∧ x.f2 < 36 ∧ 0 ≤ x.f3 ∧ x.f3.toNat ≤ 6) : Ev (fun k => impl_cells.f k R C s x.f0 x.f1 x.f2 x.f3) (cellsM C x) := by
  have key : Ev (fun k => impl_cells.j0 k (stepM C x.f1) x.f0 x.f1 x.f2 x.f3) (cellsM C x) := by
    apply ev_succ
    simp only [impl_cells.j0]
    simpa [cellsM] using impl_cells_l0_ev C x hC h0 hx 0 (by omega) [] (by simp)
  unfold impl_cells.f
  cases hd : x.f1 with
  | true =>
    rw [hd] at key
    exact ev_pos rfl (by simpa [stepM] using key)
  | false =>
    rw [hd] at key
    exact ev_neg (by simp) (by simpa [stepM] using key)

/-! ### ints -/
/-- Where a number stands first; -1 where it does not. -/
def placeM (n : Int) : List Int → Nat → Int
  | [], _ => -1
  | a :: l, i => if a = n then i else placeM n l (i + 1)
theorem placeM_nonneg {n : Int} : ∀ {l : List Int} {i : Nat}, (0 ≤ placeM n l i ↔ n ∈ l)
  | [], i => by simp [placeM]
  | a :: l, i => by
    unfold placeM
    by_cases h : a = n
    · simp [h]
    · rw [if_neg h, placeM_nonneg]
      simp [show ¬ n = a from fun e => h e.symm]
theorem slices_Index_int_int_l0_ev (l : List Int) (n : Int) (hl : l.length ≤ 9223372036854775806) : ∀ i : Nat, i ≤ l.length → Ev (fun k => slices_Index_int_int.l0 k l n l.length i) (placeM n (l.drop i) i) := by
  refine down l.length ?_ ?_
  · intro i h hi
    apply ev_succ
    simp only [slices_Index_int_int.l0]
    exact ev_neg (by omega) (ev_now (by rw [List.drop_eq_nil_of_le h]; rfl))
  · intro i h ih hi
    apply ev_succ
    simp only [slices_Index_int_int.l0]
    rw [rd_get h, wrap64_id (n := (i : Int) + 1) (by omega) (by omega), succ_cast, List.drop_eq_getElem_cons h]
    unfold placeM
    refine ev_pos (by omega) (ev_pos (by omega) (ev_pos (by omega) ?_))
    by_cases he : n = l[i]
    · exact ev_pos he (ev_now (by rw [if_pos he.symm]))
    · exact ev_neg he (ev_eq (ih (by omega)) (by rw [if_neg (fun e => he e.symm)]))
theorem slices_Index_int_int_ev (l : List Int) (n : Int) (hl : l.length ≤ 9223372036854775806) : Ev (fun k => slices_Index_int_int.f k l n) (placeM n l 0) := by
  unfold slices_Index_int_int.f
  exact ev_eq (slices_Index_int_int_l0_ev l n hl 0 (by omega)) (by simp)
theorem slices_Contains_int_int_ev (l : List Int) (n : Int) (hl : l.length ≤ 9223372036854775806) : Ev (fun k => slices_Contains_int_int.f k l n) (decide (n ∈ l)) := by
  unfold slices_Contains_int_int.f
  refine ev_bind (slices_Index_int_int_ev l n hl) (ev_now ?_)
  rw [decide_eq_decide]
  exact placeM_nonneg

/-! ### slotsat -/
theorem rd_ints_get {l : List (List Int)} {i : Nat} (h : i < l.length) : rd_L4 l (i : Int) = l[i] := by
  unfold rd_L4
  simp [h]
/-- The places, from i on, of the slots that hold a cell. -/
def atGo (C : Nat) (cell : Int) : List ISlot → Nat → List Int
  | [], _ => []
  | x :: l, i => if cell ∈ cellsM C x then (i : Int) :: atGo C cell l (i + 1) else atGo C cell l (i + 1)
def slotsAtM (r c : Int) (s : ByteArray) (cell : Int) : List Int := atGo c.toNat cell (slotsM r c s) 0
def checkedM (r c : Int) (s : ByteArray) (cell : Int) : Bool := decide ((slotsAtM r c s cell).length = 2)
theorem atGo_length (C : Nat) (cell : Int) : ∀ (l : List ISlot) (i : Nat), (atGo C cell l i).length ≤ l.length
  | [], _ => by simp [atGo]
  | x :: l, i => by
    unfold atGo
    have := atGo_length C cell l (i + 1)
    split <;> simp only [List.length_cons] <;> omega
theorem slotsAtM_length (r c : Int) (s : ByteArray) (cell : Int) : (slotsAtM r c s cell).length ≤ 72 := by
  have := atGo_length c.toNat cell (slotsM r c s) 0
  have := slotsM_length r c s
  unfold slotsAtM
  omega
theorem slotsM_elem {r c : Int} {s : ByteArray} {i : Nat} (h : i < (slotsM r c s).length) : ∃ R C : Nat, r = R ∧ c = C ∧ C ≤ 6 ∧ 0 < C ∧ 0 ≤ (slotsM r c s)[i].f2 ∧ (slotsM r c s)[i].f2 < 36 ∧ 0 ≤ (slotsM r c s)[i].f3 ∧ (slotsM r c s)[i].f3.toNat ≤ 6 := by
  obtain ⟨R, C, h1, h2, h3, h4, h5, h6, _, _, hk⟩ := slotsM_ok (List.getElem_mem h)
  have := okSlot_bounds h4 h6 hk
  exact ⟨R, C, h1, h2, h6, by omega, by omega, by omega, by omega, by omega⟩
theorem cellsOfM_elem {r c : Int} {s : ByteArray} {i : Nat} (h : i < (slotsM r c s).length) : cellsOfM r c s (slotsM r c s)[i] = cellsM c.toNat (slotsM r c s)[i] := by
  unfold cellsOfM
  rw [if_pos (List.getElem_mem h)]
theorem cellsM_length_elem {r c : Int} {s : ByteArray} {i : Nat} (h : i < (slotsM r c s).length) : (cellsM c.toNat (slotsM r c s)[i]).length ≤ 6 := by
  rw [← cellsOfM_elem h]
  exact cellsOfM_length _ _ _ _
theorem impl_layout_l0_ev (r c : Int) (s : ByteArray) : ∀ i : Nat, i ≤ (slotsM r c s).length → ∀ acc : List (List Int), acc.length ≤ i →
    Ev (fun k => impl_layout.l0 k acc (slotsM r c s) (slotsM r c s).length i r c s) (acc ++ ((slotsM r c s).drop i).map (cellsM c.toNat)) := by
  have hl := slotsM_length r c s
  refine down (slotsM r c s).length ?_ ?_
  · intro i h hi acc ha
    apply ev_succ
    simp only [impl_layout.l0]
    exact ev_neg (by omega) (ev_now (by rw [List.drop_eq_nil_of_le h]; simp))
  · intro i h ih hi acc ha
    obtain ⟨R, C, h1, h2, h3, h4, h5, h6, h7, h8⟩ := slotsM_elem h
    have e : c.toNat = C := by omega
    have hcells := impl_cells_ev r C s (slotsM r c s)[i] h3 h4 ⟨h5, h6, h7, h8⟩
    apply ev_succ
    simp only [impl_layout.l0]
    rw [rd_Slot_get h, wrap64_id (n := (i : Int) + 1) (by omega) (by omega), succ_cast, List.drop_eq_getElem_cons h, List.map_cons]
    refine ev_pos (by omega) (ev_pos (by omega) (ev_pos (by omega) (ev_bind (a := cellsM C (slotsM r c s)[i]) ?_ (ev_pos (by omega) ?_))))
    · rw [← h2] at hcells
      exact hcells
    · exact ev_eq (ih (by omega) _ (by simp; omega)) (by rw [e]; simp)
def layoutM (r c : Int) (s : ByteArray) : List (List Int) := (slotsM r c s).map (cellsM c.toNat)
theorem layoutM_length (r c : Int) (s : ByteArray) : (layoutM r c s).length = (slotsM r c s).length := by simp [layoutM]
theorem layoutM_get {r c : Int} {s : ByteArray} {i : Nat} (h : i < (slotsM r c s).length) : (layoutM r c s)[i]'(by rw [layoutM_length]; exact h) = cellsM c.toNat (slotsM r c s)[i] := by simp [layoutM]
theorem impl_layout_ev (r c : Int) (s : ByteArray) (hs : s.size ≤ 1048576) : Ev (fun k => impl_layout.f k r c s) (layoutM r c s) := by
  unfold impl_layout.f
  exact ev_bind (impl_SlotsOf_ev r c s hs) (ev_eq (impl_layout_l0_ev r c s 0 (by omega) [] (by simp)) (by simp [layoutM]))
theorem impl_SlotsAt_l0_ev (r c : Int) (s : ByteArray) (cell : Int) : ∀ i : Nat, i ≤ (slotsM r c s).length → ∀ acc : List Int, acc.length ≤ i →
    Ev (fun k => impl_SlotsAt.l0 k cell acc (layoutM r c s) (layoutM r c s).length i) (acc ++ atGo c.toNat cell ((slotsM r c s).drop i) i) := by
  have hl := slotsM_length r c s
  have hL := layoutM_length r c s
  refine down (slotsM r c s).length ?_ ?_
  · intro i h hi acc ha
    apply ev_succ
    simp only [impl_SlotsAt.l0]
    exact ev_neg (by omega) (ev_now (by rw [List.drop_eq_nil_of_le h]; simp [atGo]))
  · intro i h ih hi acc ha
    have h6 := cellsM_length_elem h
    apply ev_succ
    simp only [impl_SlotsAt.l0]
    rw [rd_ints_get (show i < (layoutM r c s).length by omega), layoutM_get h, wrap64_id (n := (i : Int) + 1) (by omega) (by omega), succ_cast, List.drop_eq_getElem_cons h]
    unfold atGo
    refine ev_pos (by omega) (ev_pos (by omega) (ev_pos (by omega) (ev_bind (slices_Contains_int_int_ev _ cell (by omega)) ?_)))
    by_cases hm : cell ∈ cellsM c.toNat (slotsM r c s)[i]
    · rw [if_pos hm]
      exact ev_pos (by simpa using hm) (ev_pos (by omega) (ev_eq (ih (by omega) _ (by simp; omega)) (by simp)))
    · rw [if_neg hm]
      exact ev_neg (by simpa using hm) (ih (by omega) _ (by omega))
theorem impl_SlotsAt_ev (r c : Int) (s : ByteArray) (cell : Int) (hs : s.size ≤ 1048576) : Ev (fun k => impl_SlotsAt.f k r c s cell) (slotsAtM r c s cell) := by
  unfold impl_SlotsAt.f slotsAtM
  exact ev_bind (impl_layout_ev r c s hs) (ev_eq (impl_SlotsAt_l0_ev r c s cell 0 (by omega) [] (by simp)) (by simp))
theorem len_two (l : List Int) : ((l.length : Int) == 2) = decide (l.length = 2) := by
  by_cases h : l.length = 2
  · simp [h]
  · simp [h]
    omega
theorem impl_IsChecked_ev (r c : Int) (s : ByteArray) (cell : Int) (hs : s.size ≤ 1048576) : Ev (fun k => impl_IsChecked.f k r c s cell) (checkedM r c s cell) := by
  unfold impl_IsChecked.f
  exact ev_bind (impl_SlotsAt_ev r c s cell hs) (ev_now (len_two _))

/-! ### slotfacts -/
theorem runLen_white {s : ByteArray} {step : Nat} : ∀ {m i k : Nat}, k < runLen s step i m → bt s (i + k * step : Nat) = 46
  | 0, i, k, h => by simp [runLen] at h
  | m + 1, i, k, h => by
    unfold runLen at h
    split at h
    · rename_i hw
      cases k with
      | zero => simpa using hw
      | succ k =>
        have := runLen_white (s := s) (step := step) (m := m) (i := i + step) (k := k) (by omega)
        rw [show i + (k + 1) * step = i + step + k * step by rw [Nat.add_mul, Nat.one_mul]; omega]
        exact this
    · omega
theorem cellsM_mem {C : Nat} {x : ISlot} {c : Int} : c ∈ cellsM C x ↔ ∃ k : Nat, k < x.f3.toNat ∧ c = x.f2 + (k : Int) * (stepM C x.f1 : Int) := by
  unfold cellsM
  rw [List.mem_map]
  constructor
  · rintro ⟨k, hk, rfl⟩
    rw [List.mem_range'] at hk
    obtain ⟨j, hj, rfl⟩ := hk
    exact ⟨_, by omega, rfl⟩
  · rintro ⟨k, hk, rfl⟩
    exact ⟨k, by rw [List.mem_range']; exact ⟨k, by omega, by omega⟩, rfl⟩
/-- A slot's cell: its place, that it lies in the grid, that it is white. -/
theorem okSlot_cell {R C : Nat} {s : ByteArray} {x : ISlot} {c : Int} (h0 : 0 < C) (h : okSlot R C s x) (hc : c ∈ cellsM C x) :
    ∃ i k : Nat, x.f2 = i ∧ x.f3 = runM R C s i x.f1 ∧ i < R * C ∧ c = ((i + k * stepM C x.f1 : Nat) : Int) ∧ k < runM R C s i x.f1 ∧ atM C x.f1 i + k < mostM R C x.f1 ∧ i + k * stepM C x.f1 < R * C ∧ bt s c = 46 ∧ ¬ (0 < atM C x.f1 i ∧ bt s (i - stepM C x.f1 : Nat) = 46) := by
  obtain ⟨i, hi, h2, h3, h4⟩ := h
  obtain ⟨k, hk, rfl⟩ := cellsM_mem.1 hc
  have hk' : k < runM R C s i x.f1 := by omega
  have hk0 := hk'
  unfold runM at hk'
  split at hk'
  · rename_i hs
    have hle := runLen_le s (stepM C x.f1) (mostM R C x.f1 - atM C x.f1 i) i
    have hw := runLen_white hk'
    have hat : atM C x.f1 i + k < mostM R C x.f1 := by omega
    have hcast : x.f2 + (k : Int) * (stepM C x.f1 : Int) = ((i + k * stepM C x.f1 : Nat) : Int) := by
      rw [h2, Int.natCast_add, Int.natCast_mul]
    refine ⟨i, k, h2, h3, hi, hcast, hk0, hat, cell_lt h0 hi hat, ?_, hs.2⟩
    rw [hcast]
    exact hw
  · omega
theorem atM_add {C : Nat} {dn : Bool} {i d : Nat} {R : Nat} (h0 : 0 < C) (h : atM C dn i + d < mostM R C dn) : atM C dn (i + d * stepM C dn) = atM C dn i + d := by
  cases dn with
  | true =>
    simp only [atM, stepM, if_true]
    rw [Nat.add_mul_div_right _ _ h0]
  | false =>
    simp only [atM, stepM, mostM, Bool.false_eq_true, if_false, Nat.mul_one] at h ⊢
    rw [Nat.add_mod, Nat.mod_eq_of_lt (show d < C by omega), Nat.mod_eq_of_lt h]
/-- Two slots of one direction that share a cell begin at one cell. -/
theorem slot_one {R C : Nat} {s : ByteArray} {x y : ISlot} {c : Int} (h0 : 0 < C) (hx : okSlot R C s x) (hy : okSlot R C s y) (hd : x.f1 = y.f1) (h1 : c ∈ cellsM C x) (h2 : c ∈ cellsM C y) : x.f2 = y.f2 := by
  have aux : ∀ x y : ISlot, okSlot R C s x → okSlot R C s y → x.f1 = y.f1 → c ∈ cellsM C x → c ∈ cellsM C y → ¬ x.f2 < y.f2 := by
    intro x y hx hy hd h1 h2 hlt
    obtain ⟨i, a, e1, _, _, e2, ha, hat, _, _, _⟩ := okSlot_cell h0 hx h1
    obtain ⟨j, b, e3, _, _, e4, hb, hat2, _, _, hst⟩ := okSlot_cell h0 hy h2
    rw [← hd] at e4 hb hat2 hst
    have hij : i < j := by omega
    have hst' : 0 < stepM C x.f1 := by
      unfold stepM
      split <;> omega
    have e5 : i + a * stepM C x.f1 = j + b * stepM C x.f1 := by omega
    have hab : b < a := by
      apply Classical.byContradiction
      intro hn
      have := Nat.mul_le_mul_right (stepM C x.f1) (show a ≤ b by omega)
      omega
    obtain ⟨d, rfl⟩ : ∃ d, a = b + (d + 1) := ⟨a - b - 1, by omega⟩
    have e6 : j = i + (d + 1) * stepM C x.f1 := by
      rw [Nat.add_mul] at e5
      omega
    have e7 : atM C x.f1 j = atM C x.f1 i + (d + 1) := by
      rw [e6]
      exact atM_add (R := R) h0 (by omega)
    have hr : d < runM R C s i x.f1 := by omega
    have hw : bt s (i + d * stepM C x.f1 : Nat) = 46 := by
      unfold runM at hr
      split at hr
      · exact runLen_white hr
      · omega
    refine hst ⟨by omega, ?_⟩
    rw [show j - stepM C x.f1 = i + d * stepM C x.f1 by rw [e6, Nat.add_mul, Nat.one_mul]; omega]
    exact hw
  have := aux x y hx hy hd h1 h2
  have := aux y x hy hx hd.symm h2 h1
  omega
/-- The slots that hold a cell. -/
def holdersM (r c : Int) (s : ByteArray) (cell : Int) : List ISlot := (slotsM r c s).filter fun x => decide (cell ∈ cellsM c.toNat x)
theorem holders_dirs (r c : Int) (s : ByteArray) (cell : Int) : (holdersM r c s cell).Pairwise fun a b => a.f1 ≠ b.f1 := by
  unfold holdersM
  have hp := (slotsM_pairwise r c s).filter fun x => decide (cell ∈ cellsM c.toNat x)
  refine List.Pairwise.imp_of_mem ?_ hp
  intro a b ha hb hlt he
  rw [List.mem_filter, decide_eq_true_eq] at ha hb
  obtain ⟨R, C, rfl, rfl, _, _, h3, _, _, _, hka⟩ := slotsM_ok ha.1
  obtain ⟨R', C', e1, e2, _, _, _, _, _, _, hkb⟩ := slotsM_ok hb.1
  have e1' : R' = R := by omega
  have e2' : C' = C := by omega
  subst e1' e2'
  have := slot_one (by omega) hka hkb he ha.2 hb.2
  rcases hlt with h | ⟨_, h1, h2⟩
  · omega
  · rw [h1, h2] at he
    cases he
theorem holders_two (r c : Int) (s : ByteArray) (cell : Int) : (holdersM r c s cell).length ≤ 2 := by
  have h := holders_dirs r c s cell
  match holdersM r c s cell, h with
  | [], _ => simp
  | [_], _ => simp
  | [_, _], _ => simp
  | a :: b :: d :: l, h =>
    simp only [List.pairwise_cons] at h
    have h1 := h.1 b (by simp)
    have h2 := h.1 d (by simp)
    have h3 := h.2.1 d (by simp)
    cases ha : a.f1 <;> cases hb : b.f1 <;> cases hd : d.f1 <;> simp_all
theorem atGo_holders (C : Nat) (cell : Int) : ∀ (l : List ISlot) (i : Nat), (atGo C cell l i).length = (l.filter fun x => decide (cell ∈ cellsM C x)).length
  | [], _ => rfl
  | x :: l, i => by
    unfold atGo
    by_cases h : cell ∈ cellsM C x
    · simp [h, atGo_holders C cell l (i + 1)]
    · simp [h, atGo_holders C cell l (i + 1)]
theorem slotsAtM_two (r c : Int) (s : ByteArray) (cell : Int) : (slotsAtM r c s cell).length ≤ 2 := by
  have := holders_two r c s cell
  unfold slotsAtM
  rw [atGo_holders]
  exact this
theorem slotsAtM_white {r c : Int} {s : ByteArray} {cell : Int} (h : 0 < (slotsAtM r c s cell).length) : bt s cell = 46 := by
  unfold slotsAtM at h
  rw [atGo_holders] at h
  obtain ⟨x, hx⟩ := List.exists_mem_of_length_pos h
  rw [List.mem_filter, decide_eq_true_eq] at hx
  obtain ⟨R, C, rfl, rfl, _, _, h3, _, _, _, hk⟩ := slotsM_ok hx.1
  obtain ⟨_, _, _, _, _, _, _, _, _, hw, _⟩ := okSlot_cell (by omega) hk hx.2
  exact hw
theorem slotsM_nil {r c : Int} {s : ByteArray} (h : ¬ gridM r c s = true) : slotsM r c s = [] := by
  unfold slotsM
  rw [if_neg h]

/-! ### unchecked -/
def countU (r c : Int) (s : ByteArray) : List Int → Nat
  | [] => 0
  | x :: l => (if checkedM r c s x = true then 0 else 1) + countU r c s l
theorem countU_drop {r c : Int} {s : ByteArray} {l : List Int} {i : Nat} (h : i < l.length) : countU r c s (l.drop i) = (if checkedM r c s l[i] = true then 0 else 1) + countU r c s (l.drop (i + 1)) := by
  rw [List.drop_eq_getElem_cons h]
  rfl
def uncheckedM (r c : Int) (s : ByteArray) (slot : Int) : Int := if 0 ≤ slot ∧ slot < (slotsM r c s).length then countU r c s (cellsM c.toNat ((slotsM r c s).getD slot.toNat ⟨0, false, 0, 0⟩)) else -1
theorem impl_at_eq (i n : Int) : impl_at.f i n = some (decide (0 ≤ i ∧ i < n)) := by
  unfold impl_at.f
  by_cases h : i ≥ 0
  · rw [if_pos h]
    simp [h]
  · rw [if_neg h]
    simp [h]
theorem impl_UncheckedIn_l0_ev (r c : Int) (s : ByteArray) (l : List Int) (hs : s.size ≤ 1048576) (hl : l.length ≤ 1000) : ∀ i : Nat, i ≤ l.length → ∀ n : Int, 0 ≤ n → n ≤ i → Ev (fun k => impl_UncheckedIn.l0 k n l l.length i r c s) (n + countU r c s (l.drop i)) := by
  refine down l.length ?_ ?_
  · intro i h hi n h0 hn
    apply ev_succ
    simp only [impl_UncheckedIn.l0]
    exact ev_neg (by omega) (ev_now (by rw [List.drop_eq_nil_of_le h]; simp [countU]))
  · intro i h ih hi n h0 hn
    have hd := countU_drop (r := r) (c := c) (s := s) h
    apply ev_succ
    simp only [impl_UncheckedIn.l0]
    rw [rd_get h, wrap64_id (n := (i : Int) + 1) (by omega) (by omega), wrap64_id (n := n + 1) (by omega) (by omega), succ_cast, hd]
    refine ev_pos (by omega) (ev_pos (by omega) (ev_pos (by omega) (ev_bind (impl_IsChecked_ev r c s _ hs) ?_)))
    cases checkedM r c s l[i] with
    | true => exact ev_pos rfl (ev_eq (ih (by omega) n (by omega) (by omega)) (by simp))
    | false => exact ev_neg (by simp) (ev_eq (ih (by omega) (n + 1) (by omega) (by omega)) (by simp; omega))
theorem impl_UncheckedIn_ev (r c : Int) (s : ByteArray) (slot : Int) (hs : s.size ≤ 1048576) : Ev (fun k => impl_UncheckedIn.f k r c s slot) (uncheckedM r c s slot) := by
  have hl := slotsM_length r c s
  have hL := layoutM_length r c s
  unfold impl_UncheckedIn.f uncheckedM
  refine ev_bind (impl_layout_ev r c s hs) (ev_let (impl_at_eq _ _) ?_)
  by_cases hb : 0 ≤ slot ∧ slot < (slotsM r c s).length
  · obtain ⟨j, rfl⟩ := Int.eq_ofNat_of_zero_le hb.1
    have hj : j < (slotsM r c s).length := by omega
    have h6 := cellsM_length_elem hj
    rw [if_pos hb, rd_ints_get (show j < (layoutM r c s).length by omega), layoutM_get hj]
    refine ev_pos (by simp; omega) (ev_pos (by omega) (ev_pos (by omega) ?_))
    refine ev_eq (impl_UncheckedIn_l0_ev r c s _ hs (by omega) 0 (by omega) 0 (by omega) (by omega)) ?_
    simp [hj]
  · rw [if_neg hb]
    exact ev_neg (by simp; omega) (ev_now rfl)

/-! ### alone -/
theorem grid_le36 {r c : Int} {s : ByteArray} (h : gridM r c s = true) : s.size ≤ 36 := by
  obtain ⟨R, C, _, _, _, h2, _, h4, h5⟩ := gridM_nat h
  have := bounds36 h2 h4
  omega
theorem layout_row {r c : Int} {s : ByteArray} {l : List Int} (h : l ∈ layoutM r c s) : l.length ≤ 6 ∧ ∀ x ∈ l, 0 ≤ x ∧ x < 36 ∧ x < s.size := by
  unfold layoutM at h
  obtain ⟨x, hx, rfl⟩ := List.mem_map.1 h
  obtain ⟨i, hi, rfl⟩ := List.getElem_of_mem hx
  refine ⟨cellsM_length_elem hi, fun y hy => ?_⟩
  obtain ⟨R, C, rfl, rfl, _, h2, h3, h4, h5, _, hk⟩ := slotsM_ok hx
  obtain ⟨i, k, _, _, _, e, _, _, h, _⟩ := okSlot_cell (by omega) hk hy
  have := bounds36 h2 h4
  omega
/-- Is there a white cell in no slot, without a letter? -/
def aloneAllM (r c : Int) (s f : ByteArray) : Bool := (List.range' 0 s.size).any (aloneAt (layoutM r c s).flatten s f)
theorem impl_alone_ev (r c : Int) (s f : ByteArray) (hs : s.size ≤ 1048576) (hf : s.size ≤ f.size) (hf2 : f.size ≤ 1000000) : Ev (fun k => impl_alone.f k r c s f) (aloneAllM r c s f) := by
  have hl := slotsM_length r c s
  have hL := layoutM_length r c s
  unfold impl_alone.f aloneAllM
  refine ev_bind (impl_layout_ev r c s hs) (ev_pos ⟨⟨by omega, fun l h => ?_⟩, hf, hf2⟩ (ev_now rfl))
  obtain ⟨h1, h2⟩ := layout_row h
  exact ⟨by omega, fun x hx => by have := h2 x hx; omega⟩
theorem in_layout {r c : Int} {s : ByteArray} {cell : Int} : cell ∈ (layoutM r c s).flatten ↔ 0 < (slotsAtM r c s cell).length := by
  unfold slotsAtM layoutM
  rw [atGo_holders, List.mem_flatten]
  constructor
  · rintro ⟨l, hl, hc⟩
    obtain ⟨x, hx, rfl⟩ := List.mem_map.1 hl
    exact List.length_pos_of_mem (List.mem_filter.2 ⟨hx, by simpa using hc⟩)
  · intro h
    obtain ⟨x, hx⟩ := List.exists_mem_of_length_pos h
    rw [List.mem_filter, decide_eq_true_eq] at hx
    exact ⟨_, List.mem_map.2 ⟨x, hx.1, rfl⟩, hx.2⟩

/-! ### share -/
def cntC (r c : Int) (s : ByteArray) : List Nat → Nat
  | [] => 0
  | i :: l => (if checkedM r c s (i : Int) = true then 1 else 0) + cntC r c s l
def cntW (s : ByteArray) : List Nat → Nat
  | [] => 0
  | i :: l => (if bt s (i : Int) = 46 then 1 else 0) + cntW s l
theorem cntC_cons (r c : Int) (s : ByteArray) (i : Nat) (l : List Nat) : cntC r c s (i :: l) = (if checkedM r c s i = true then 1 else 0) + cntC r c s l := rfl
theorem cntW_cons (s : ByteArray) (i : Nat) (l : List Nat) : cntW s (i :: l) = (if bt s i = 46 then 1 else 0) + cntW s l := rfl
def shareM (r c : Int) (s : ByteArray) : Int × Int := if gridM r c s then ((cntC r c s (List.range' 0 (s.size - 0)) : Int), (cntW s (List.range' 0 (s.size - 0)) : Int)) else (0, 0)

/-! ### sym -/
def symM (r c : Int) (s : ByteArray) : Bool := gridM r c s && decide (backM s = s)
theorem sym_eq (s : ByteArray) : ((backM s).toList == s.toList) = decide (backM s = s) ∧ (s.toList == (backM s).toList) = decide (backM s = s) := by
  constructor
  · rw [Bool.eq_iff_iff, beq_iff_eq, decide_eq_true_eq, toList_inj]
  · rw [Bool.eq_iff_iff, beq_iff_eq, decide_eq_true_eq, toList_inj]
    exact ⟨Eq.symm, Eq.symm⟩
theorem impl_IsSymmetric_ev (r c : Int) (s : ByteArray) (hs : s.size ≤ 1048576) : Ev (fun k => impl_IsSymmetric.f k r c s) (symM r c s) := by
  unfold impl_IsSymmetric.f symM
  refine ev_bind (impl_IsGrid_ev r c s (by omega)) ?_
  by_cases h : gridM r c s = true
  · refine ev_pos h (ev_bind (impl_TurnGrid_ev r c s (by omega)) (ev_now ?_))
    unfold turnM
    rw [if_pos h, h, (sym_eq s).2]
    simp
  · exact ev_neg h (ev_now (by rw [Bool.not_eq_true] at h; rw [h]; rfl))

/-! ### form -/
theorem impl_IsConnected_ev (r c : Int) (s : ByteArray) (hs : s.size ≤ 1048576) : Ev (fun k => impl_IsConnected.f k r c s) (decide (partsM r c s = 1)) := by
  unfold impl_IsConnected.f
  refine ev_bind (impl_PartsOf_ev r c s hs) (ev_now ?_)
  rw [Bool.eq_iff_iff, beq_iff_eq, decide_eq_true_eq]
  omega
theorem countU_le (r c : Int) (s : ByteArray) : ∀ l : List Int, countU r c s l ≤ l.length
  | [] => by simp [countU]
  | x :: l => by
    unfold countU
    have := countU_le r c s l
    rw [List.length_cons]
    split <;> omega
theorem uncheckedM_bound (r c : Int) (s : ByteArray) (i : Int) : -1 ≤ uncheckedM r c s i ∧ uncheckedM r c s i ≤ 6 := by
  unfold uncheckedM
  split
  · rename_i h
    obtain ⟨j, rfl⟩ := Int.eq_ofNat_of_zero_le h.1
    have hj : j < (slotsM r c s).length := by omega
    have h6 := cellsM_length_elem hj
    rw [Int.toNat_natCast, List.getD_eq_getElem?_getD, List.getElem?_eq_getElem hj, Option.getD_some]
    have := countU_le r c s (cellsM c.toNat (slotsM r c s)[j])
    omega
  · omega
def shortM (r c : Int) (s : ByteArray) : Bool := (slotsM r c s).any fun x => decide (x.f3 < 3)
/-- A slot from place i on with too many unchecked cells. -/
def looseGo (r c : Int) (s : ByteArray) : List ISlot → Nat → Bool
  | [], _ => false
  | x :: l, i => decide (2 * uncheckedM r c s i > x.f3) || looseGo r c s l (i + 1)
def lonelyM (r c : Int) (s : ByteArray) : Bool := (List.range' 0 s.size).any fun i => decide (bt s (i : Int) = 46) && decide ((slotsAtM r c s i).length = 0)
theorem lonely_alone (r c : Int) (s : ByteArray) : aloneAllM r c s s = lonelyM r c s := by
  unfold aloneAllM lonelyM
  congr 1
  funext i
  unfold aloneAt
  by_cases h : bt s (i : Int) = 46
  · rw [decide_eq_true h, Bool.true_and, Bool.true_and, h, show aloneL 46 = false from rfl, Bool.not_false, Bool.and_true, decide_eq_decide, in_layout]
    omega
  · rw [decide_eq_false h]
    rfl
def formM (r c : Int) (s : ByteArray) : Int := if gridM r c s = true then (if symM r c s = true then (if partsM r c s = 1 then (if shortM r c s = true then 4 else if looseGo r c s (slotsM r c s) 0 = true then 5 else if lonelyM r c s = true then 5 else 0) else 3) else 2) else 1
theorem impl_FormOf_l1_ev (r c : Int) (s : ByteArray) (hs : s.size ≤ 36) : ∀ i : Nat, i ≤ (slotsM r c s).length → Ev (fun k => impl_FormOf.l1 k (slotsM r c s) (slotsM r c s).length i r c s) (if looseGo r c s ((slotsM r c s).drop i) i = true then 5 else if lonelyM r c s = true then 5 else 0) := by
  have hl := slotsM_length r c s
  refine down (slotsM r c s).length ?_ ?_
  · intro i h hi
    apply ev_succ
    simp only [impl_FormOf.l1]
    rw [List.drop_eq_nil_of_le h]
    refine ev_neg (by omega) (ev_bind (impl_alone_ev r c s s (by omega) (by omega) (by omega)) ?_)
    rw [lonely_alone, if_neg (show ¬ looseGo r c s [] i = true by simp [looseGo])]
    by_cases h6 : lonelyM r c s = true
    · exact ev_pos h6 (ev_now (by rw [if_pos h6]))
    · exact ev_neg h6 (ev_now (by rw [if_neg h6]))
  · intro i h ih hi
    have hb := uncheckedM_bound r c s i
    apply ev_succ
    simp only [impl_FormOf.l1]
    rw [rd_Slot_get h, wrap64_id (n := (i : Int) + 1) (by omega) (by omega), succ_cast, List.drop_eq_getElem_cons h]
    unfold looseGo
    refine ev_pos (by omega) (ev_pos (by omega) (ev_pos (by omega) (ev_bind (impl_UncheckedIn_ev r c s i (by omega)) ?_)))
    rw [wrap64_id (by omega) (by omega)]
    by_cases hc : 2 * uncheckedM r c s i > (slotsM r c s)[i].f3
    · exact ev_pos hc (ev_now (by rw [decide_eq_true hc]; rfl))
    · exact ev_neg hc (ev_eq (ih (by omega)) (by rw [decide_eq_false hc, Bool.false_or]))
theorem impl_FormOf_l0_ev (r c : Int) (s : ByteArray) (hs : s.size ≤ 36) : ∀ i : Nat, i ≤ (slotsM r c s).length → Ev (fun k => impl_FormOf.l0 k (slotsM r c s) (slotsM r c s) (slotsM r c s).length i r c s) (if (((slotsM r c s).drop i).any fun x => decide (x.f3 < 3)) = true then 4 else if looseGo r c s (slotsM r c s) 0 = true then 5 else if lonelyM r c s = true then 5 else 0) := by
  have hl := slotsM_length r c s
  refine down (slotsM r c s).length ?_ ?_
  · intro i h hi
    apply ev_succ
    simp only [impl_FormOf.l0]
    rw [List.drop_eq_nil_of_le h]
    exact ev_neg (by omega) (ev_eq (impl_FormOf_l1_ev r c s hs 0 (by omega)) (by rw [List.drop_zero, if_neg (show ¬ (([] : List ISlot).any fun x => decide (x.f3 < 3)) = true by simp)]))
  · intro i h ih hi
    apply ev_succ
    simp only [impl_FormOf.l0]
    rw [rd_Slot_get h, wrap64_id (n := (i : Int) + 1) (by omega) (by omega), succ_cast, List.drop_eq_getElem_cons h, List.any_cons]
    refine ev_pos (by omega) (ev_pos (by omega) (ev_pos (by omega) ?_))
    by_cases hc : (slotsM r c s)[i].f3 < 3
    · exact ev_pos hc (ev_now (by rw [decide_eq_true hc]; rfl))
    · exact ev_neg hc (ev_eq (ih (by omega)) (by rw [decide_eq_false hc, Bool.false_or]))
theorem impl_FormOf_ev (r c : Int) (s : ByteArray) (hs : s.size ≤ 1048576) : Ev (fun k => impl_FormOf.f k r c s) (formM r c s) := by
  unfold impl_FormOf.f formM
  refine ev_bind (impl_IsGrid_ev r c s (by omega)) ?_
  by_cases h1 : gridM r c s = true
  · rw [if_pos h1]
    refine ev_pos h1 (ev_bind (impl_IsSymmetric_ev r c s hs) ?_)
    by_cases h2 : symM r c s = true
    · rw [if_pos h2]
      refine ev_pos h2 (ev_bind (impl_IsConnected_ev r c s hs) ?_)
      by_cases h3 : partsM r c s = 1
      · rw [if_pos h3]
        refine ev_pos (by simpa using h3) (ev_bind (impl_SlotsOf_ev r c s hs) (ev_eq (impl_FormOf_l0_ev r c s (grid_le36 h1) 0 (by omega)) ?_))
        rw [List.drop_zero]
        rfl
      · rw [if_neg h3]
        exact ev_neg (by simpa using h3) (ev_now rfl)
    · rw [if_neg h2]
      exact ev_neg h2 (ev_now rfl)
  · rw [if_neg h1]
    exact ev_neg h1 (ev_now rfl)

/-! ### draw -/
/-! What is drawn of a code: bounds alone. -/
theorem and255 (y : Int) : 0 ≤ Go.bits .and .i64 y 255 ∧ Go.bits .and .i64 y 255 ≤ 255 := by
  have h := @Nat.and_le_right (BitVec.ofInt 64 y).toNat (BitVec.ofInt 64 255).toNat
  have e : (BitVec.ofInt 64 255).toNat = 255 := by decide
  have hb : Go.bits .and .i64 y 255 = IntKind.i64.wrap (((BitVec.ofInt 64 y).toNat &&& (BitVec.ofInt 64 255).toNat : Nat) : Int) := by
    show IntKind.i64.wrap (((BitVec.ofInt 64 y) &&& (BitVec.ofInt 64 255)).toNat : Int) = _
    rw [BitVec.toNat_and]
  rw [hb]
  rw [e] at h ⊢
  generalize (BitVec.ofInt 64 y).toNat &&& 255 = n at h ⊢
  simp [IntKind.wrap, IntKind.bits, IntKind.signed]
  omega
theorem spec_l1Byte_some (l : List Int) (i h : Int) (h0 : 0 ≤ i ∧ i ≤ l.length) (hl : l.length ≤ 1048576) : ∃ x i' h' : Int, spec_l1Byte.f l i h = some (x, i', h') ∧ (0 ≤ x ∧ x ≤ 255) ∧ (0 ≤ i' ∧ i' ≤ l.length) := by
  unfold spec_l1Byte.f
  by_cases hi : i < (l.length : Int)
  · rw [if_pos hi, if_pos h0.1]
    exact ⟨_, _, _, rfl, and255 _, by rw [wrap64_id (by omega) (by omega)]; omega⟩
  · rw [if_neg hi]
    exact ⟨_, _, _, rfl, and255 _, h0⟩
theorem spec_l1Below_some (l : List Int) (i h n : Int) (h0 : 0 ≤ i ∧ i ≤ l.length) (hl : l.length ≤ 1048576) (hn : n ≤ 16777216) : ∃ x i' h' : Int, spec_l1Below.f l i h n = some (x, i', h') ∧ (0 ≤ x ∧ (0 < n → x < n) ∧ (n ≤ 0 → x = 0)) ∧ (0 ≤ i' ∧ i' ≤ l.length) := by
  unfold spec_l1Below.f
  by_cases h1 : n ≤ 0
  · rw [if_pos h1]
    exact ⟨_, _, _, rfl, ⟨by omega, fun h => by omega, fun _ => rfl⟩, h0⟩
  · rw [if_neg h1]
    obtain ⟨x, i1, g1, e1, hx, hi1⟩ := spec_l1Byte_some l i h h0 hl
    by_cases h2 : n ≤ 256
    · rw [if_pos h2, e1, Option.bind_some, if_neg (by omega)]
      refine ⟨_, _, _, rfl, ⟨Int.tmod_nonneg _ hx.1, fun h => Int.tmod_lt_of_pos _ h, fun h => by omega⟩, hi1⟩
    · obtain ⟨y, i2, g2, e2, hy, hi2⟩ := spec_l1Byte_some l i1 g1 hi1 hl
      obtain ⟨z, i3, g3, e3, hz, hi3⟩ := spec_l1Byte_some l i2 g2 hi2 hl
      rw [if_neg h2, e1, Option.bind_some]
      show ∃ x i' h' : Int, ((spec_l1Byte.f l i1 g1).bind _) = _ ∧ _
      rw [e2, Option.bind_some]
      show ∃ x i' h' : Int, ((spec_l1Byte.f l i2 g2).bind _) = _ ∧ _
      rw [e3, Option.bind_some, if_neg (by omega)]
      have ew : wrap64 (wrap64 (wrap64 (x * 65536) + wrap64 (y * 256)) + z) = x * 65536 + y * 256 + z := by
        rw [wrap64_id (n := x * 65536) (by omega) (by omega), wrap64_id (n := y * 256) (by omega) (by omega), wrap64_id (n := x * 65536 + y * 256) (by omega) (by omega), wrap64_id (by omega) (by omega)]
      refine ⟨_, _, _, rfl, ?_, hi3⟩
      show 0 ≤ (wrap64 (wrap64 (wrap64 (x * 65536) + wrap64 (y * 256)) + z)).tmod n ∧ _
      rw [ew]
      exact ⟨Int.tmod_nonneg _ (by omega), fun h => Int.tmod_lt_of_pos _ h, fun h => by omega⟩
theorem spec_l1Str_some (l : List Int) (i h : Int) (L : List ByteArray) (h0 : 0 ≤ i ∧ i ≤ l.length) (hl : l.length ≤ 1048576) (hL : 0 < L.length) (hL2 : L.length ≤ 1000) : ∃ (s : ByteArray) (i' h' : Int), spec_l1Str.f l i h L = some (s, i', h') ∧ s ∈ L ∧ (0 ≤ i' ∧ i' ≤ l.length) := by
  unfold spec_l1Str.f
  obtain ⟨x, i1, g1, e1, hx, hi1⟩ := spec_l1Below_some l i h (L.length : Int) h0 hl (by omega)
  obtain ⟨j, rfl⟩ := Int.eq_ofNat_of_zero_le hx.1
  have hj : j < L.length := by have := hx.2.1 (by omega); omega
  rw [e1, Option.bind_some, if_pos hx.1, if_pos (by show (j : Int) < _; omega)]
  refine ⟨_, _, _, rfl, ?_, hi1⟩
  show rdOf ByteArray.empty L (j : Int) ∈ L
  rw [rdOf_get hj]
  exact List.getElem_mem hj
theorem spec_l1New_ev (l : List Int) (hl : l.length ≤ 1048576) : ∃ h : Int, Ev (fun k => spec_l1New.f k l) (l, 0, h) := by
  have main : ∀ (d i : Nat) (x : Int), i + d = l.length → ∃ h : Int, Ev (fun k => spec_l1New.l0 k l x i) (l, 0, h) := by
    intro d
    induction d with
    | zero =>
      intro i x hi
      refine ⟨x, ev_succ ?_⟩
      simp only [spec_l1New.l0]
      exact ev_neg (by omega) (ev_now rfl)
    | succ d ih =>
      intro i x hi
      by_cases h4 : (i : Int) < 4000
      · obtain ⟨h, hh⟩ := ih (i + 1) (Go.bits .and .i64 (wrap64 ((wrap64 ((wrap64 (x * 137)) + (wrap64 (rd l i)))) + 11)) 1073741823) (by omega)
        refine ⟨h, ev_succ ?_⟩
        simp only [spec_l1New.l0]
        rw [wrap64_id (n := (i : Int) + 1) (by omega) (by omega), succ_cast]
        exact ev_pos (by omega) (ev_pos h4 (ev_pos (by omega) hh))
      · refine ⟨x, ev_succ ?_⟩
        simp only [spec_l1New.l0]
        exact ev_pos (by omega) (ev_neg h4 (ev_now rfl))
  unfold spec_l1New.f
  exact main l.length 0 _ (by omega)
theorem laws_big_eq (l : List Int) : laws_big.f l = some (decide ((l.length : Int) > 1048576)) := rfl

/-! ### gridtext -/
def rowM (s : ByteArray) (C i : Nat) : ByteArray := s.extract (i * C) ((i + 1) * C)
/-- The text of a grid's first rows. -/
def txtM (s : ByteArray) (C : Nat) : Nat → List UInt8
  | 0 => []
  | i + 1 => txtM s C i ++ (if 0 < i then [47] else []) ++ (rowM s C i).data.toList
def rowsM (s : ByteArray) (C n : Nat) : List ByteArray := (List.range n).map (rowM s C)
theorem rowsM_succ (s : ByteArray) (C n : Nat) : rowsM s C (n + 1) = rowsM s C n ++ [rowM s C n] := by
  unfold rowsM
  rw [List.range_succ, List.map_append]
  rfl
theorem rowsM_length (s : ByteArray) (C n : Nat) : (rowsM s C n).length = n := by simp [rowsM]
theorem join_snoc (sep x : List UInt8) (l : List (List UInt8)) : Lib.join (l ++ [x]) sep = Lib.join l sep ++ (if 0 < l.length then sep else []) ++ x := by
  match l with
  | [] => simp [Lib.join_one, Lib.join_nil]
  | y :: r =>
    rw [List.cons_append, Lib.join_cons, Lib.join_cons]
    simp [Lib.joinTail]
theorem join_rows (s : ByteArray) (C : Nat) : ∀ n : Nat, Lib.join ((rowsM s C n).map (·.data.toList)) [47] = txtM s C n
  | 0 => rfl
  | n + 1 => by
    rw [rowsM_succ, List.map_append, List.map_cons, List.map_nil, join_snoc, join_rows s C n, List.length_map, rowsM_length]
    rfl
theorem row_size (s : ByteArray) (C i : Nat) : (rowM s C i).size ≤ s.size := by
  unfold rowM
  rw [ByteArray.size_extract]
  omega
theorem txtM_length (s : ByteArray) (C : Nat) (h : s.size ≤ 36) : ∀ n : Nat, (txtM s C n).length ≤ n * 37
  | 0 => by simp [txtM]
  | n + 1 => by
    have h1 := txtM_length s C h n
    have h2 := row_size s C n
    have h3 : (rowM s C n).data.toList.length = (rowM s C n).size := by simp
    have h4 : (if 0 < n then [(47 : UInt8)] else []).length ≤ 1 := by split <;> simp
    unfold txtM
    rw [List.length_append, List.length_append]
    omega
def textM (r c : Int) (s : ByteArray) : ByteArray := if gridM r c s = true then ⟨(txtM s c.toNat r.toNat).toArray⟩ else ⟨#[]⟩
theorem gridM_dims {r c : Int} {s : ByteArray} (h : gridM r c s = true) : ∃ R C : Nat, r = R ∧ c = C ∧ 2 ≤ R ∧ R ≤ 6 ∧ 2 ≤ C ∧ C ≤ 6 ∧ s.size = R * C ∧ R * C ≤ 36 := by
  unfold gridM at h
  simp only [Bool.and_eq_true, decide_eq_true_eq] at h
  obtain ⟨⟨⟨hr, hc⟩, hs⟩, _⟩ := h
  obtain ⟨R, rfl⟩ := Int.eq_ofNat_of_zero_le (show 0 ≤ r by omega)
  obtain ⟨C, rfl⟩ := Int.eq_ofNat_of_zero_le (show 0 ≤ c by omega)
  refine ⟨R, C, rfl, rfl, by omega, by omega, by omega, by omega, ?_, ?_⟩
  · have : ((R * C : Nat) : Int) = (R : Int) * (C : Int) := by simp
    omega
  · have : R * C ≤ 6 * 6 := Nat.mul_le_mul (by omega) (by omega)
    omega
theorem txt_next (s : ByteArray) (C i : Nat) (h : 0 < i) : ((⟨(txtM s C i).toArray⟩ : ByteArray) ++ (⟨#[47]⟩ : ByteArray)) ++ rowM s C i = ⟨(txtM s C (i + 1)).toArray⟩ := by
  apply ByteArray.ext
  apply Array.ext'
  rw [ByteArray.data_append, ByteArray.data_append, Array.toList_append, Array.toList_append]
  simp [txtM, h]
theorem txt_first (s : ByteArray) (C : Nat) : (⟨(txtM s C 0).toArray⟩ : ByteArray) ++ rowM s C 0 = ⟨(txtM s C 1).toArray⟩ := by
  apply ByteArray.ext
  apply Array.ext'
  rw [ByteArray.data_append, Array.toList_append]
  simp [txtM]
theorem spec_GridText_l0_ev (s : ByteArray) (R C : Nat) (hg : gridM R C s = true) (hs : s.size = R * C) (h36 : s.size ≤ 36) (hR : R ≤ 6) (hC : 2 ≤ C) (hC6 : C ≤ 6) : ∀ i : Nat, i ≤ R → Ev (fun k => spec_GridText.l0 k (⟨(txtM s C i).toArray⟩ : ByteArray) i R C s) (⟨(txtM s C R).toArray⟩ : ByteArray) := by
  have hstop : ∀ (x : ByteArray) (i : Nat), Ev (fun k => spec_GridText.j1 k x i false R C s) x := by
    intro x i
    apply ev_succ
    simp only [spec_GridText.j1]
    exact ev_neg (by simp) (ev_now rfl)
  refine down R ?_ ?_
  · intro i h hi
    have e : i = R := by omega
    subst e
    apply ev_succ
    simp only [spec_GridText.l0]
    exact ev_neg (by omega) (hstop _ _)
  · intro i h ih hi
    have hm : (i + 1) * C ≤ R * C := Nat.mul_le_mul_right _ h
    have hm2 : (i + 1) * C = i * C + C := Nat.succ_mul i C
    have hl := txtM_length s C h36 i
    have hrow := row_size s C i
    have e1 : (i : Int) * (C : Int) = ((i * C : Nat) : Int) := by simp
    have e2 : ((i + 1 : Nat) : Int) * (C : Int) = (((i + 1) * C : Nat) : Int) := by simp
    have hx : ((⟨(txtM s C i).toArray⟩ : ByteArray)).size = (txtM s C i).length := by simp [ByteArray.size]
    have h47 : ((⟨(txtM s C i).toArray⟩ : ByteArray) ++ (⟨#[47]⟩ : ByteArray)).size = (txtM s C i).length + 1 := by
      rw [ByteArray.size_append, hx]
      rfl
    apply ev_succ
    simp only [spec_GridText.l0]
    refine ev_pos (by omega) (ev_bind (spec_IsGrid_ev R C s (by omega)) ?_)
    rw [hg]
    apply ev_succ
    simp only [spec_GridText.j1]
    rw [wrap64_id (n := (i : Int) + 1) (by omega) (by omega), succ_cast, e1, e2, wrap64_id (n := ((i * C : Nat) : Int)) (by omega) (by omega), wrap64_id (n := (((i + 1) * C : Nat) : Int)) (by omega) (by omega), Int.toNat_natCast, Int.toNat_natCast]
    refine ev_pos (by trivial) ?_
    have ih' := ih (by omega)
    by_cases h0 : 0 < i
    · rw [← txt_next s C i h0] at ih'
      refine ev_pos (by omega) (ev_pos (by rw [hx]; omega) (ev_pos (by omega) (ev_pos (by omega) (ev_pos (by omega) (ev_pos ?_ ih')))))
      rw [h47]
      have : (s.extract (i * C) ((i + 1) * C)).size ≤ s.size := hrow
      omega
    · have e0 : i = 0 := by omega
      subst e0
      rw [← txt_first s C] at ih'
      refine ev_neg (by omega) (ev_pos (by omega) (ev_pos (by omega) (ev_pos (by omega) (ev_pos ?_ ih'))))
      rw [hx]
      have : (s.extract (0 * C) ((0 + 1) * C)).size ≤ s.size := hrow
      omega
theorem spec_GridText_ev (r c : Int) (s : ByteArray) (hs : s.size ≤ 1048576) : Ev (fun k => spec_GridText.f k r c s) (textM r c s) := by
  unfold spec_GridText.f textM
  by_cases hg : gridM r c s = true
  · obtain ⟨R, C, rfl, rfl, h1, h2, h3, h4, h5, h6⟩ := gridM_dims hg
    rw [if_pos hg]
    exact spec_GridText_l0_ev s R C hg h5 (by omega) h2 h3 h4 0 (by omega)
  · rw [if_neg hg]
    rw [Bool.not_eq_true] at hg
    have hstop : Ev (fun k => spec_GridText.j1 k (⟨#[]⟩ : ByteArray) 0 false r c s) ⟨#[]⟩ := by
      apply ev_succ
      simp only [spec_GridText.j1]
      exact ev_neg (by simp) (ev_now rfl)
    apply ev_succ
    simp only [spec_GridText.l0]
    by_cases h0 : (0 : Int) < r
    · refine ev_pos h0 (ev_bind (spec_IsGrid_ev r c s (by omega)) ?_)
      rw [hg]
      exact hstop
    · exact ev_neg h0 hstop

/-! ### parsegrid -/
/-- A text cut at its strokes. -/
def cutL : List UInt8 → List (List UInt8)
  | [] => [[]]
  | b :: l => if b = 47 then [] :: cutL l else (b :: (cutL l).headD []) :: (cutL l).tail
theorem cutL_cons (b : UInt8) (l : List UInt8) : cutL (b :: l) = if b = 47 then [] :: cutL l else (b :: (cutL l).headD []) :: (cutL l).tail := rfl
theorem cutL_length : ∀ l : List UInt8, 1 ≤ (cutL l).length ∧ (cutL l).length ≤ l.length + 1
  | [] => by simp [cutL]
  | b :: l => by
    have := cutL_length l
    rw [cutL_cons]
    split
    · simp only [List.length_cons]
      omega
    · simp only [List.length_cons, List.length_tail]
      omega
theorem cutL_flat : ∀ l : List UInt8, (cutL l).flatten.length ≤ l.length
  | [] => by simp [cutL]
  | b :: l => by
    have ih := cutL_flat l
    have h1 := (cutL_length l).1
    rw [cutL_cons]
    split
    · simp only [List.flatten_cons, List.nil_append, List.length_cons]
      omega
    · cases hc : cutL l with
      | nil => rw [hc] at h1; simp at h1
      | cons x t =>
        rw [hc] at ih
        simp only [List.flatten_cons, List.length_append, List.length_cons, List.headD_cons, List.tail_cons] at ih ⊢
        omega
theorem cutL_flat_cons {b : UInt8} (h : ¬ b = 47) (l : List UInt8) : (cutL (b :: l)).flatten = b :: (cutL l).flatten := by
  have h1 := (cutL_length l).1
  rw [cutL_cons, if_neg h]
  cases hc : cutL l with
  | nil => rw [hc] at h1; simp at h1
  | cons x t => simp
theorem cutL_head : ∀ l : List UInt8, ((cutL l).headD []).length ≤ l.length
  | [] => by simp [cutL]
  | b :: l => by
    have ih := cutL_head l
    rw [cutL_cons]
    split
    · simp
    · simp only [List.headD_cons, List.length_cons]
      omega
theorem index_cons (b : UInt8) (l : List UInt8) : Lib.index (b :: l) [47] = if b = 47 then 0 else if Lib.index l [47] == -1 then -1 else Lib.index l [47] + 1 := by
  rw [Lib.index]
  by_cases h : b = 47
  · subst h
    simp [List.isPrefixOf]
  · have hp : ([47] : List UInt8).isPrefixOf (b :: l) = false := by simp [List.isPrefixOf, Ne.symm h]
    rw [hp, if_neg h]
    simp
theorem split_cut : ∀ l : List UInt8, Lib.splitK [47] 0 (Lib.count l [47]) l = cutL l
  | [] => by
    rw [Lib.count_one]
    rfl
  | b :: l => by
    have ih := split_cut l
    rw [cutL_cons]
    by_cases h : b = 47
    · subst h
      have e : Lib.index (47 :: l) [47] = 0 := by rw [index_cons, if_pos rfl]
      rw [if_pos rfl, Lib.count_cons_eq, Nat.add_comm, Lib.splitK, e, if_neg (by decide)]
      have e2 : (47 :: l : List UInt8).take ((0 : Int).toNat + 0) = [] := rfl
      have e3 : (47 :: l : List UInt8).drop ((0 : Int).toNat + [(47 : UInt8)].length) = l := rfl
      rw [e2, e3, ih]
    · rw [if_neg h, Lib.count_cons_ne b 47 l h]
      generalize Lib.count l [47] = n at ih ⊢
      cases n with
      | zero =>
        have e : cutL l = [l] := ih.symm
        rw [e]
        rfl
      | succ n =>
        rw [Lib.splitK, index_cons, if_neg h]
        rw [Lib.splitK] at ih
        by_cases hm : Lib.index l [47] = -1
        · rw [if_pos (beq_iff_eq.2 hm)] at ih
          rw [if_pos (beq_iff_eq.2 hm), if_pos (by decide), ← ih]
          rfl
        · have hb : ¬ (Lib.index l [47] == -1) = true := fun e => hm (beq_iff_eq.1 e)
          have hge := Lib.index_ge l [47]
          obtain ⟨j, hj⟩ : ∃ j : Nat, Lib.index l [47] = j := ⟨(Lib.index l [47]).toNat, by omega⟩
          rw [if_neg hb] at ih
          rw [if_neg hb, if_neg (fun e => by have := beq_iff_eq.1 e; omega), ← ih, hj]
          have e1 : ((j : Int) + 1).toNat = j + 1 := by omega
          rw [e1, Int.toNat_natCast]
          rfl
theorem join_empty : ∀ xs : List (List UInt8), Lib.join xs [] = xs.flatten
  | [] => rfl
  | x :: r => by
    rw [Lib.join_cons, List.flatten_cons]
    unfold Lib.joinTail
    simp
def zeroG : Int × Int × ByteArray × Bool := (0, 0, ⟨#[]⟩, false)
/-- What a text that is cut says of a grid. -/
def finM (s : ByteArray) (R C : Int) (cells : ByteArray) : Int × Int × ByteArray × Bool := if (textM R C cells).toList = s.toList then (if gridM R C cells = true then (R, C, cells, true) else zeroG) else zeroG
def parseM (s : ByteArray) : Int × Int × ByteArray × Bool := finM s (cutL s.data.toList).length ((cutL s.data.toList).headD []).length ⟨(cutL s.data.toList).flatten.toArray⟩
theorem bt_lt {s : ByteArray} {i : Nat} (h : i < s.data.toList.length) : bt s (i : Int) = ((s.data.toList[i]).toNat : Int) := by
  have h' : i < s.size := by simpa using h
  unfold bt
  rw [dif_pos (by simpa using h')]
  rfl
theorem spec_ParseGrid_ev (s : ByteArray) (hs : s.size ≤ 1048576) : Ev (fun k => spec_ParseGrid.f k s) (parseM s) := by
  have hL : s.data.toList.length = s.size := by simp
  have main : ∀ i : Nat, i ≤ s.size → ∀ (R C : Int) (cells : ByteArray), 1 ≤ R → R ≤ i + 1 → (R = 1 → C = i) → (¬ R = 1 → 0 ≤ C ∧ C ≤ i) → cells.size ≤ i → Ev (fun k => spec_ParseGrid.l0 k s i R C cells) (finM s (R + (((cutL (s.data.toList.drop i)).length : Int) - 1)) (if R = 1 then (i : Int) + ((cutL (s.data.toList.drop i)).headD []).length else C) (cells ++ ⟨(cutL (s.data.toList.drop i)).flatten.toArray⟩)) := by
    refine down s.size ?_ ?_
    · intro i h hi R C cells h1 h2 h3 h4 h5
      apply ev_succ
      simp only [spec_ParseGrid.l0]
      have e : s.data.toList.drop i = [] := List.drop_eq_nil_of_le (by omega)
      rw [e]
      have e1 : (R + (((cutL []).length : Int) - 1)) = R := by
        show R + ((1 : Int) - 1) = R
        omega
      have e2 : (if R = 1 then (i : Int) + (((cutL []).headD []).length : Int) else C) = C := by
        split
        · rename_i hR
          rw [h3 hR]
          show (i : Int) + 0 = i
          omega
        · rfl
      have e3 : cells ++ (⟨(cutL []).flatten.toArray⟩ : ByteArray) = cells := by
        apply ByteArray.ext
        apply Array.ext'
        rw [ByteArray.data_append, Array.toList_append]
        simp [cutL]
      rw [e1, e2, e3]
      refine ev_neg (by omega) (ev_bind (spec_GridText_ev R C cells (by omega)) ?_)
      unfold finM zeroG
      by_cases ht : (textM R C cells).toList = s.toList
      · rw [if_pos ht]
        refine ev_pos ht (ev_bind (spec_IsGrid_ev R C cells (by omega)) ?_)
        by_cases hg : gridM R C cells = true
        · exact ev_pos hg (ev_now (by rw [if_pos hg]))
        · exact ev_neg hg (ev_now (by rw [if_neg hg]))
      · rw [if_neg ht]
        exact ev_neg ht (ev_now rfl)
    · intro i h ih hi R C cells h1 h2 h3 h4 h5
      have hl : i < s.data.toList.length := by omega
      have hb := bt_lt hl
      have hlen := (cutL_length (s.data.toList.drop (i + 1))).1
      have hdr := List.drop_eq_getElem_cons hl
      apply ev_succ
      simp only [spec_ParseGrid.l0]
      rw [hb, wrap64_id (n := (i : Int) + 1) (by omega) (by omega), wrap64_id (n := R + 1) (by omega) (by omega), succ_cast, Int.toNat_natCast, Int.toNat_natCast, hdr]
      generalize hu : s.data.toList[i] = u at hdr
      refine ev_pos (by omega) (ev_pos (by omega) ?_)
      by_cases h47 : u = 47
      · have e1 : R + (((cutL (u :: s.data.toList.drop (i + 1))).length : Int) - 1) = (R + 1) + (((cutL (s.data.toList.drop (i + 1))).length : Int) - 1) := by
          rw [cutL_cons, if_pos h47, List.length_cons]
          omega
        have e2 : (if R = 1 then (i : Int) + (((cutL (u :: s.data.toList.drop (i + 1))).headD []).length : Int) else C) = (if R + 1 = 1 then ((i + 1 : Nat) : Int) + (((cutL (s.data.toList.drop (i + 1))).headD []).length : Int) else C) := by
          rw [if_neg (show ¬ R + 1 = 1 by omega), cutL_cons, if_pos h47]
          split
          · rename_i hR
            rw [h3 hR]
            show (i : Int) + 0 = i
            omega
          · rfl
        have e3 : (cutL (u :: s.data.toList.drop (i + 1))).flatten = (cutL (s.data.toList.drop (i + 1))).flatten := by
          rw [cutL_cons, if_pos h47]
          simp
        rw [e1, e2, e3]
        refine ev_pos (by rw [h47]; rfl) (ev_neg (by omega) (ih (by omega) (R + 1) C cells (by omega) (by omega) (by omega) (fun _ => ?_) (by omega)))
        by_cases hR : R = 1
        · rw [h3 hR]; omega
        · have := h4 hR; omega
      · have hne : ¬ ((u.toNat : Int) = 47) := fun e => h47 (UInt8.toNat_inj.1 (by show u.toNat = 47; omega))
        have e1 : ((cutL (u :: s.data.toList.drop (i + 1))).length : Int) = ((cutL (s.data.toList.drop (i + 1))).length : Int) := by
          rw [cutL_cons, if_neg h47, List.length_cons, List.length_tail]
          omega
        have e2 : (if R = 1 then (i : Int) + (((cutL (u :: s.data.toList.drop (i + 1))).headD []).length : Int) else C) = (if R = 1 then ((i + 1 : Nat) : Int) + (((cutL (s.data.toList.drop (i + 1))).headD []).length : Int) else C) := by
          rw [cutL_cons, if_neg h47, List.headD_cons, List.length_cons]
          split <;> omega
        have e3 : cells ++ (⟨(cutL (u :: s.data.toList.drop (i + 1))).flatten.toArray⟩ : ByteArray) = (cells ++ s.extract i (i + 1)) ++ ⟨(cutL (s.data.toList.drop (i + 1))).flatten.toArray⟩ := by
          rw [cutL_flat_cons h47]
          apply ByteArray.ext
          apply Array.ext'
          rw [ByteArray.data_append, ByteArray.data_append, ByteArray.data_append, Array.toList_append, Array.toList_append, Array.toList_append, ByteArray.data_extract, Array.toList_extract]
          simp only [List.extract]
          rw [show i + 1 - i = 1 by omega, hdr]
          simp
        have hsz : (cells ++ s.extract i (i + 1)).size ≤ i + 1 := by
          rw [ByteArray.size_append, ByteArray.size_extract]
          omega
        rw [e1, e2, e3]
        refine ev_neg hne (ev_pos (by omega) (ev_pos (by omega) (ev_pos (by rw [ByteArray.size_extract]; omega) ?_)))
        by_cases hR : R = 1
        · refine ev_pos hR ?_
          have := ih (by omega) R ((i + 1 : Nat) : Int) (cells ++ s.extract i (i + 1)) h1 (by omega) (fun _ => rfl) (fun h => absurd hR h) hsz
          rw [if_pos hR] at this ⊢
          exact this
        · refine ev_neg hR (ih (by omega) R C (cells ++ s.extract i (i + 1)) h1 (by omega) (fun h => absurd h hR) (fun _ => ?_) hsz)
          have := h4 hR
          omega
  have h0 := main 0 (by omega) 1 0 ⟨#[]⟩ (by omega) (by omega) (fun _ => rfl) (fun h => absurd rfl h) (by simp [ByteArray.size])
  unfold spec_ParseGrid.f parseM
  rw [List.drop_zero, if_pos rfl] at h0
  have e1 : (1 : Int) + (((cutL s.data.toList).length : Int) - 1) = ((cutL s.data.toList).length : Int) := by omega
  have e2 : ((0 : Nat) : Int) + (((cutL s.data.toList).headD []).length : Int) = (((cutL s.data.toList).headD []).length : Int) := by omega
  have e3 : (⟨#[]⟩ : ByteArray) ++ (⟨(cutL s.data.toList).flatten.toArray⟩ : ByteArray) = ⟨(cutL s.data.toList).flatten.toArray⟩ := by
    apply ByteArray.ext
    apply Array.ext'
    rw [ByteArray.data_append, Array.toList_append]
    rfl
  rw [e1, e2, e3] at h0
  exact h0

/-! ### drawgrid -/
theorem spec_l1Int_some (l : List Int) (i h : Int) (L : List Int) (h0 : 0 ≤ i ∧ i ≤ l.length) (hl : l.length ≤ 1048576) (hL : 0 < L.length) (hL2 : L.length ≤ 1000) : ∃ x i' h' : Int, spec_l1Int.f l i h L = some (x, i', h') ∧ x ∈ L ∧ (0 ≤ i' ∧ i' ≤ l.length) := by
  unfold spec_l1Int.f
  obtain ⟨x, i1, g1, e1, hx, hi1⟩ := spec_l1Below_some l i h (L.length : Int) h0 hl (by omega)
  obtain ⟨j, rfl⟩ := Int.eq_ofNat_of_zero_le hx.1
  have hj : j < L.length := by have := hx.2.1 (by omega); omega
  rw [e1, Option.bind_some, if_pos hx.1, if_pos (by show (j : Int) < _; omega)]
  refine ⟨_, _, _, rfl, ?_, hi1⟩
  show rd L (j : Int) ∈ L
  rw [rd_get hj]
  exact List.getElem_mem hj
/-- A text that says a grid. -/
def okText (x : ByteArray) : Bool := gridM ((cutL x.data.toList).length : Int) (((cutL x.data.toList).headD []).length : Int) ⟨(cutL x.data.toList).flatten.toArray⟩ && (decide (textM ((cutL x.data.toList).length : Int) (((cutL x.data.toList).headD []).length : Int) ⟨(cutL x.data.toList).flatten.toArray⟩ = x) && decide (1 ≤ (cutL x.data.toList).flatten.length ∧ (cutL x.data.toList).flatten.length ≤ 36 ∧ (cutL x.data.toList).length ≤ 6 ∧ ((cutL x.data.toList).headD []).length ≤ 6))
theorem okText_parse {x : ByteArray} (h : okText x = true) : ∃ (R C : Int) (s : ByteArray), parseM x = (R, C, s, true) ∧ (1 ≤ s.size ∧ s.size ≤ 36) ∧ (0 ≤ R ∧ R ≤ 6) ∧ (0 ≤ C ∧ C ≤ 6) := by
  unfold okText at h
  rw [Bool.and_eq_true, Bool.and_eq_true, decide_eq_true_eq, decide_eq_true_eq] at h
  obtain ⟨hg, ht, h1, h2, h3, h4⟩ := h
  refine ⟨((cutL x.data.toList).length : Int), (((cutL x.data.toList).headD []).length : Int), ⟨(cutL x.data.toList).flatten.toArray⟩, ?_, ?_, ⟨by omega, by omega⟩, ⟨by omega, by omega⟩⟩
  · unfold parseM finM
    rw [if_pos (by rw [ht]), if_pos hg]
  · show 1 ≤ (cutL x.data.toList).flatten.toArray.size ∧ (cutL x.data.toList).flatten.toArray.size ≤ 36
    rw [List.size_toArray]
    exact ⟨h1, h2⟩
theorem spec_l7Draw_ev (l : List Int) (i h : Int) (h0 : 0 ≤ i ∧ i ≤ l.length) (hl : l.length ≤ 1048576) : ∃ (r c : Int) (s : ByteArray) (i' h' : Int), Ev (fun k => spec_l7Draw.f k l i h) (r, c, s, i', h') ∧ (1 ≤ s.size ∧ s.size ≤ 36) ∧ (0 ≤ r ∧ r ≤ 6) ∧ (0 ≤ c ∧ c ≤ 6) ∧ (0 ≤ i' ∧ i' ≤ l.length) := by
  unfold spec_l7Draw.f spec_l7Texts.f
  have hall : ∀ x ∈ [(⟨#[46, 46, 46, 47, 46, 46, 46, 47, 46, 46, 46]⟩ : ByteArray), (⟨#[46, 46, 35, 47, 46, 46, 46, 47, 35, 46, 46]⟩ : ByteArray), (⟨#[46, 46, 46, 47, 46, 35, 46, 47, 46, 46, 46]⟩ : ByteArray), (⟨#[46, 46, 46, 46, 47, 46, 46, 46, 46, 47, 46, 46, 46, 46]⟩ : ByteArray), (⟨#[46, 46, 46, 46, 35, 47, 46, 35, 46, 46, 46, 47, 46, 46, 46, 46, 46]⟩ : ByteArray), (⟨#[46, 46, 46, 46, 47, 46, 35, 35, 46, 47, 46, 46, 46, 46]⟩ : ByteArray), (⟨#[46, 46, 46, 46, 46, 35, 47, 46, 35, 46, 35, 46, 46, 47, 46, 46, 46, 46, 46, 46]⟩ : ByteArray), (⟨#[46, 46, 47, 46, 46]⟩ : ByteArray), (⟨#[35, 46, 46, 46, 47, 46, 46, 46, 46, 47, 46, 46, 46, 35]⟩ : ByteArray), (⟨#[46, 46, 46, 47, 35, 35, 35, 47, 46, 46, 46]⟩ : ByteArray)], okText x = true ∧ x.size ≤ 100 := by decide +kernel
  obtain ⟨x, i1, g1, e1, hx, hi1⟩ := spec_l1Str_some l i h (L := [(⟨#[46, 46, 46, 47, 46, 46, 46, 47, 46, 46, 46]⟩ : ByteArray), (⟨#[46, 46, 35, 47, 46, 46, 46, 47, 35, 46, 46]⟩ : ByteArray), (⟨#[46, 46, 46, 47, 46, 35, 46, 47, 46, 46, 46]⟩ : ByteArray), (⟨#[46, 46, 46, 46, 47, 46, 46, 46, 46, 47, 46, 46, 46, 46]⟩ : ByteArray), (⟨#[46, 46, 46, 46, 35, 47, 46, 35, 46, 46, 46, 47, 46, 46, 46, 46, 46]⟩ : ByteArray), (⟨#[46, 46, 46, 46, 47, 46, 35, 35, 46, 47, 46, 46, 46, 46]⟩ : ByteArray), (⟨#[46, 46, 46, 46, 46, 35, 47, 46, 35, 46, 35, 46, 46, 47, 46, 46, 46, 46, 46, 46]⟩ : ByteArray), (⟨#[46, 46, 47, 46, 46]⟩ : ByteArray), (⟨#[35, 46, 46, 46, 47, 46, 46, 46, 46, 47, 46, 46, 46, 35]⟩ : ByteArray), (⟨#[46, 46, 46, 47, 35, 35, 35, 47, 46, 46, 46]⟩ : ByteArray)]) h0 hl (by decide) (by decide)
  obtain ⟨hok, hxs⟩ := hall x hx
  obtain ⟨R, C, s, hp, hs, hR, hC⟩ := okText_parse hok
  have hpe := spec_ParseGrid_ev x (by omega)
  rw [hp] at hpe
  obtain ⟨z, i2, g2, e2, _, hi2⟩ := spec_l1Below_some l i1 g1 3 hi1 hl (by omega)
  have e3 : spec_l1Once.f l i1 g1 3 = some ((z == 0), i2, g2) := by
    unfold spec_l1Once.f
    rw [e2]
    rfl
  cases hz : (z == 0) with
  | false =>
    rw [hz] at e3
    exact ⟨R, C, s, i2, g2, ev_let rfl (ev_let e1 (ev_bind hpe (ev_let e3 (ev_neg (by simp) (ev_now rfl))))), hs, hR, hC, hi2⟩
  | true =>
    rw [hz] at e3
    obtain ⟨a, i3, g3, e4, ha, hi3⟩ := spec_l1Below_some l i2 g2 (s.size : Int) hi2 hl (by omega)
    have ha1 := ha.2.1 (by omega)
    obtain ⟨an, rfl⟩ := Int.eq_ofNat_of_zero_le ha.1
    obtain ⟨y, i4, g4, e5, hy, hi4⟩ := spec_l1Str_some l i3 g3 [(⟨#[35]⟩ : ByteArray), (⟨#[46]⟩ : ByteArray)] hi3 hl (by decide) (by decide)
    have hy1 : y.size = 1 := by
      simp only [List.mem_cons, List.not_mem_nil, or_false] at hy
      rcases hy with rfl | rfl <;> rfl
    have n1 : (s.extract 0 an).size = an := by rw [ByteArray.size_extract]; omega
    have n2 : (s.extract (an + 1) s.size).size = s.size - (an + 1) := by rw [ByteArray.size_extract]; omega
    have n3 : ((s.extract 0 an) ++ y).size = an + 1 := by rw [ByteArray.size_append]; omega
    refine ⟨R, C, (s.extract 0 an ++ y) ++ s.extract (an + 1) s.size, i4, g4, ?_, ?_, hR, hC, hi4⟩
    · refine ev_let rfl (ev_let e1 (ev_bind hpe (ev_let e3 (ev_pos rfl (ev_let e4 ?_)))))
      refine ev_pos (by show 0 ≤ (an : Int); omega) (ev_pos (by show (an : Int) ≤ (s.size : Int); omega) (ev_let e5 ?_))
      show Ev (fun n => if (s.extract 0 ((an : Int)).toNat).size + y.size ≤ 9223372036854775807 then (if 0 ≤ wrap64 ((an : Int) + 1) then (if wrap64 ((an : Int) + 1) ≤ (s.size : Int) then (if ((s.extract 0 ((an : Int)).toNat) ++ y).size + (s.extract (wrap64 ((an : Int) + 1)).toNat s.size).size ≤ 9223372036854775807 then some (R, C, ((s.extract 0 ((an : Int)).toNat) ++ y) ++ (s.extract (wrap64 ((an : Int) + 1)).toNat s.size), i4, g4) else none) else none) else none) else none) _
      rw [wrap64_id (n := (an : Int) + 1) (by omega) (by omega), succ_cast, Int.toNat_natCast, Int.toNat_natCast]
      exact ev_pos (by omega) (ev_pos (by omega) (ev_pos (by omega) (ev_pos (by omega) (ev_now rfl))))
    · rw [ByteArray.size_append]
      omega
theorem spec_l7Any_ev (l : List Int) (i h : Int) (h0 : 0 ≤ i ∧ i ≤ l.length) (hl : l.length ≤ 1048576) : ∃ (r c : Int) (s : ByteArray) (i' h' : Int), Ev (fun k => spec_l7Any.f k l i h) (r, c, s, i', h') ∧ (1 ≤ s.size ∧ s.size ≤ 100) ∧ (-9223372036854775808 ≤ r ∧ r ≤ 9223372036854775807) ∧ (0 ≤ c ∧ c ≤ 7) ∧ (0 ≤ i' ∧ i' ≤ l.length) := by
  unfold spec_l7Any.f
  obtain ⟨r, c, s, i1, g1, hd, hs, hr, hc, hi1⟩ := spec_l7Draw_ev l i h h0 hl
  obtain ⟨z, i2, g2, e2, hz, hi2⟩ := spec_l1Below_some l i1 g1 9 hi1 hl (by omega)
  by_cases h1 : z = 0
  · obtain ⟨q, i3, g3, e3, hq, hi3⟩ := spec_l1Int_some l i2 g2 [(-1), 0, 99, 100, 1000, 1001, 9223372036854775807, (-9223372036854775808)] hi2 hl (by decide) (by decide)
    have e4 : spec_l5Raw.f l i2 g2 = some (q, i3, g3) := by
      unfold spec_l5Raw.f
      rw [e3]
      rfl
    refine ⟨q, c, s, i3, g3, ev_bind hd (ev_let e2 (ev_pos h1 (ev_let e4 (ev_now rfl)))), by omega, ?_, by omega, hi3⟩
    simp only [List.mem_cons, List.not_mem_nil, or_false] at hq
    omega
  · by_cases h2 : z = 1
    · obtain ⟨q, i3, g3, e3, hq, hi3⟩ := spec_l1Int_some l i2 g2 [1, 7, 3] hi2 hl (by decide) (by decide)
      refine ⟨r, q, s, i3, g3, ev_bind hd (ev_let e2 (ev_neg h1 (ev_pos h2 (ev_let e3 (ev_now rfl))))), by omega, by omega, ?_, hi3⟩
      simp only [List.mem_cons, List.not_mem_nil, or_false] at hq
      omega
    · by_cases h3 : z = 2
      · have n1 : (s ++ (⟨#[46]⟩ : ByteArray)).size = s.size + 1 := by rw [ByteArray.size_append]; rfl
        exact ⟨r, c, s ++ (⟨#[46]⟩ : ByteArray), i2, g2, ev_bind hd (ev_let e2 (ev_neg h1 (ev_neg h2 (ev_pos h3 (ev_pos (by show s.size + 1 ≤ 9223372036854775807; omega) (ev_now rfl)))))), by omega, by omega, by omega, hi2⟩
      · by_cases h4 : z = 3
        · have n2 : (s.extract 1 s.size).size = s.size - 1 := by rw [ByteArray.size_extract]; omega
          have n1 : ((⟨#[120]⟩ : ByteArray) ++ s.extract 1 s.size).size = 1 + (s.size - 1) := by
            rw [ByteArray.size_append, n2]
            rfl
          exact ⟨r, c, (⟨#[120]⟩ : ByteArray) ++ s.extract 1 s.size, i2, g2, ev_bind hd (ev_let e2 (ev_neg h1 (ev_neg h2 (ev_neg h3 (ev_pos h4 (ev_pos (by show 1 ≤ (s.size : Int); omega) (ev_pos (by show 1 + (s.extract 1 s.size).size ≤ 9223372036854775807; omega) (ev_now rfl)))))))), by omega, by omega, by omega, hi2⟩
        · exact ⟨r, c, s, i2, g2, ev_bind hd (ev_let e2 (ev_neg h1 (ev_neg h2 (ev_neg h3 (ev_neg h4 (ev_now rfl)))))), by omega, by omega, by omega, hi2⟩

/-! ### fnparts_back -/
theorem dl_ext (s : ByteArray) (a b : Nat) : (s.extract a b).data.toList = (s.data.toList.drop a).take (b - a) := by
  rw [ByteArray.data_extract, Array.toList_extract]
theorem dl_app (s t : ByteArray) : (s ++ t).data.toList = s.data.toList ++ t.data.toList := by rw [ByteArray.data_append, Array.toList_append]
theorem dl_len (s : ByteArray) : s.data.toList.length = s.size := by simp
theorem ba_ext {s t : ByteArray} (h : s.data.toList = t.data.toList) : s = t := ByteArray.ext (Array.ext' h)
theorem part_join (w : ByteArray) (i : Nat) : w.extract 0 i ++ w.extract i w.size = w := by
  apply ba_ext
  rw [dl_app, dl_ext, dl_ext, List.drop_zero, Nat.sub_zero, List.take_of_length_le (l := w.data.toList.drop i) (by rw [List.length_drop, dl_len]; exact Nat.le_refl _), List.take_append_drop]
theorem bt_dl {s : ByteArray} {i : Nat} (h : i < s.data.toList.length) : bt s (i : Int) = ((s.data.toList[i]).toNat : Int) := by
  have h' : i < s.size := by rw [← dl_len]; exact h
  unfold bt
  rw [dif_pos (by simpa using h')]
  rfl
theorem back_dl {w : ByteArray} (h : w.size ≤ 100) : (backM w).data.toList = w.data.toList.reverse := by
  unfold backM
  rw [if_neg (by omega)]
  exact Array.toList_reverse ..
theorem back_size {w : ByteArray} (h : w.size ≤ 100) : (backM w).size = w.size := by
  rw [← dl_len, back_dl h, List.length_reverse, dl_len]

/-! ### fngrids -/
theorem gridM_dl {r c : Int} {s : ByteArray} : gridM r c s = true ↔ (2 ≤ r ∧ r ≤ 6) ∧ (2 ≤ c ∧ c ≤ 6) ∧ (s.size : Int) = r * c ∧ ∀ u ∈ s.data.toList, isC (u.toNat : Int) = true := by
  unfold gridM
  rw [Bool.and_eq_true, Bool.and_eq_true, Bool.and_eq_true, decide_eq_true_eq, decide_eq_true_eq, decide_eq_true_eq, List.all_eq_true]
  constructor
  · rintro ⟨⟨⟨h1, h2⟩, h3⟩, h4⟩
    refine ⟨h1, h2, h3, fun u hu => ?_⟩
    obtain ⟨i, hi, rfl⟩ := List.getElem_of_mem hu
    rw [← bt_dl hi]
    exact h4 i (by rw [List.mem_range']; exact ⟨i, by rw [dl_len] at hi; omega, by omega⟩)
  · rintro ⟨h1, h2, h3, h4⟩
    refine ⟨⟨⟨h1, h2⟩, h3⟩, fun j hj => ?_⟩
    rw [List.mem_range'] at hj
    obtain ⟨q, hq, rfl⟩ := hj
    have hl : 0 + 1 * q < s.data.toList.length := by rw [dl_len]; omega
    rw [bt_dl hl]
    exact h4 _ (List.getElem_mem hl)
theorem grid_size36 {r c : Int} {s : ByteArray} (h : gridM r c s = true) : s.size ≤ 36 := by
  obtain ⟨R, C, rfl, rfl, _, h2, _, h4, h5, h6⟩ := gridM_dims h
  omega
theorem back_grid {r c : Int} {s : ByteArray} (h : gridM r c s = true) : gridM r c (backM s) = true := by
  have hs := grid_size36 h
  obtain ⟨h1, h2, h3, h4⟩ := gridM_dl.1 h
  refine gridM_dl.2 ⟨h1, h2, by rw [back_size (by omega)]; exact h3, fun u hu => h4 u ?_⟩
  rw [back_dl (by omega)] at hu
  exact List.mem_reverse.1 hu
theorem back_back {s : ByteArray} (h : s.size ≤ 100) : backM (backM s) = s := by
  apply ba_ext
  rw [back_dl (by rw [back_size h]; exact h), back_dl h, List.reverse_reverse]
theorem back_bt {s : ByteArray} (h : s.size ≤ 100) {j : Nat} (hj : j < s.size) : bt (backM s) ((s.size - 1 - j : Nat) : Int) = bt s (j : Int) := by
  have hl := dl_len s
  have h1 : s.size - 1 - j < (backM s).data.toList.length := by rw [back_dl h, List.length_reverse]; omega
  have h2 : j < s.data.toList.length := by omega
  rw [bt_dl h1, bt_dl h2]
  congr 2
  simp only [back_dl h]
  rw [List.getElem_reverse]
  congr 1
  omega
theorem cutL_app : ∀ x : List UInt8, (∀ u ∈ x, u ≠ 47) → ∀ r, cutL (x ++ 47 :: r) = x :: cutL r
  | [], _, r => by
    rw [List.nil_append, cutL_cons, if_pos rfl]
  | b :: x, h, r => by
    rw [List.cons_append, cutL_cons, if_neg (h b (by simp)), cutL_app x (fun u hu => h u (by simp [hu])) r]
    rfl
theorem cutL_one : ∀ x : List UInt8, (∀ u ∈ x, u ≠ 47) → cutL x = [x]
  | [], _ => rfl
  | b :: x, h => by
    rw [cutL_cons, if_neg (h b (by simp)), cutL_one x (fun u hu => h u (by simp [hu]))]
    rfl
theorem cutL_join : ∀ (r : List (List UInt8)) (x : List UInt8), (∀ u ∈ x, u ≠ 47) → (∀ y ∈ r, ∀ u ∈ y, u ≠ 47) → cutL (Lib.join (x :: r) [47]) = x :: r
  | [], x, hx, _ => by
    rw [Lib.join_one]
    exact cutL_one x hx
  | y :: r, x, hx, hr => by
    have ih := cutL_join r y (fun u hu => hr y (by simp) u hu) (fun z hz => hr z (by simp [hz]))
    rw [Lib.join_cons] at ih ⊢
    have e : Lib.joinTail [47] (y :: r) = 47 :: (y ++ Lib.joinTail [47] r) := by
      unfold Lib.joinTail
      simp
    rw [e, cutL_app x hx, ih]
theorem rows_flat (s : ByteArray) (C : Nat) : ∀ n : Nat, n * C ≤ s.size → ((rowsM s C n).map (·.data.toList)).flatten = s.data.toList.take (n * C)
  | 0, _ => by simp [rowsM]
  | n + 1, h => by
    have h1 : (n + 1) * C = n * C + C := Nat.succ_mul n C
    rw [rowsM_succ, List.map_append, List.flatten_append, rows_flat s C n (by omega), h1, List.take_add]
    unfold rowM
    simp only [List.map_cons, List.map_nil, List.flatten_cons, List.flatten_nil, List.append_nil]
    rw [dl_ext, h1, Nat.add_sub_cancel_left]
theorem parse_text {r c : Int} {s : ByteArray} (h : gridM r c s = true) : parseM (textM r c s) = (r, c, s, true) := by
  obtain ⟨R, C, rfl, rfl, h1, h2, h3, h4, h5, h6⟩ := gridM_dims h
  have hdl := gridM_dl.1 h
  have hno : ∀ x ∈ (rowsM s C R).map (·.data.toList), ∀ u ∈ x, u ≠ 47 := by
    intro x hx u hu e
    obtain ⟨y, hy, rfl⟩ := List.mem_map.1 hx
    unfold rowsM at hy
    obtain ⟨i, _, rfl⟩ := List.mem_map.1 hy
    unfold rowM at hu
    rw [dl_ext] at hu
    have hm := hdl.2.2.2 u (List.mem_of_mem_drop (List.mem_of_mem_take hu))
    rw [e] at hm
    exact absurd hm (by decide)
  have htx : (textM R C s).data.toList = txtM s C R := by
    unfold textM
    rw [if_pos h, Int.toNat_natCast, Int.toNat_natCast]
  have hcut : cutL (textM R C s).data.toList = (rowsM s C R).map (·.data.toList) := by
    rw [htx, ← join_rows]
    cases hr : (rowsM s C R).map (·.data.toList) with
    | nil =>
      have := congrArg List.length hr
      rw [List.length_map, rowsM_length, List.length_nil] at this
      omega
    | cons x t =>
      rw [hr] at hno
      exact cutL_join t x (fun u hu => hno x (by simp) u hu) (fun y hy => hno y (by simp [hy]))
  have hlen : ((rowsM s C R).map (·.data.toList)).length = R := by rw [List.length_map, rowsM_length]
  have hhead : (((rowsM s C R).map (·.data.toList)).headD []).length = C := by
    obtain ⟨n, rfl⟩ : ∃ n, R = n + 1 := ⟨R - 1, by omega⟩
    have hC : C ≤ s.size := by rw [h5]; exact Nat.le_mul_of_pos_left C (by omega)
    unfold rowsM
    rw [List.range_succ_eq_map]
    simp only [List.map_cons, List.headD_cons]
    unfold rowM
    rw [dl_len, ByteArray.size_extract]
    omega
  have hflat : ((rowsM s C R).map (·.data.toList)).flatten = s.data.toList := by
    rw [rows_flat s C R (by omega), List.take_of_length_le (by rw [dl_len]; omega)]
  have hs : (⟨s.data.toList.toArray⟩ : ByteArray) = s := ba_ext rfl
  unfold parseM finM
  rw [hcut, hlen, hhead, hflat, hs, if_pos rfl, if_pos h]
theorem parse_none {r c : Int} {s : ByteArray} (h : ¬ gridM r c s = true) : parseM (textM r c s) = zeroG := by
  have e : textM r c s = ⟨#[]⟩ := by
    unfold textM
    rw [if_neg h]
  rw [e]
  unfold parseM finM
  have hg : ¬ gridM ((cutL (⟨#[]⟩ : ByteArray).data.toList).length : Int) (((cutL (⟨#[]⟩ : ByteArray).data.toList).headD []).length : Int) ⟨(cutL (⟨#[]⟩ : ByteArray).data.toList).flatten.toArray⟩ = true := by decide
  rw [if_neg hg]
  split <;> rfl
theorem parse_good {t : ByteArray} (h : (parseM t).2.2.2 = true) : textM (parseM t).1 (parseM t).2.1 (parseM t).2.2.1 = t ∧ (parseM t).2.2.1.size ≤ t.size := by
  have hz := cutL_flat t.data.toList
  rw [dl_len] at hz
  unfold parseM finM at h ⊢
  split at h
  · rename_i h1
    split at h
    · rename_i h2
      rw [if_pos h1, if_pos h2]
      exact ⟨toList_inj.1 h1, by show (cutL t.data.toList).flatten.toArray.size ≤ t.size; rw [List.size_toArray]; exact hz⟩
    · exact absurd h (by simp [zeroG])
  · exact absurd h (by simp [zeroG])
def whiteM (r c : Int) (s : ByteArray) (cell : Int) : Bool := gridM r c s && (decide (0 ≤ cell ∧ cell < (s.size : Int)) && (bt s cell == 46))
theorem spec_DrawIsGrid_ev (l : List Int) (hl : l.length ≤ 1048576) : ∃ (r c : Int) (s : ByteArray), Ev (fun k => spec_DrawIsGrid.f k l) (r, c, s) ∧ s.size ≤ 100 := by
  obtain ⟨h, hn⟩ := spec_l1New_ev l hl
  obtain ⟨r, c, s, i1, g1, e1, hs, _⟩ := spec_l7Any_ev l 0 h ⟨by omega, by omega⟩ hl
  refine ⟨r, c, s, ?_, hs.2⟩
  unfold spec_DrawIsGrid.f
  exact ev_bind hn (ev_bind e1 (ev_now rfl))

/-! ### crossings -/
abbrev ICross := S59
theorem rd_Cross_get {l : List ICross} {i : Nat} (h : i < l.length) : rd_T59 l (i : Int) = l[i] := by
  unfold rd_T59
  simp [h]
/-- The slots, from place i on, that hold a cell: each with its place and the cell's place in it. -/
def holdGo (C : Nat) (cell : Int) : List ISlot → Nat → List (Int × Int)
  | [], _ => []
  | x :: l, i => if cell ∈ cellsM C x then ((i : Int), placeM cell (cellsM C x) 0) :: holdGo C cell l (i + 1) else holdGo C cell l (i + 1)
theorem holdGo_at (C : Nat) (cell : Int) : ∀ (l : List ISlot) (i : Nat), atGo C cell l i = (holdGo C cell l i).map (·.1)
  | [], _ => rfl
  | x :: l, i => by
    unfold atGo holdGo
    by_cases h : cell ∈ cellsM C x
    · simp [h, holdGo_at C cell l (i + 1)]
    · simp [h, holdGo_at C cell l (i + 1)]
theorem holdGo_mem (C : Nat) (cell : Int) : ∀ (l : List ISlot) (i : Nat) (h : Int × Int), h ∈ holdGo C cell l i → ∃ j : Nat, ∃ hj : j < l.length, h.1 = ((i + j : Nat) : Int) ∧ cell ∈ cellsM C l[j] ∧ h.2 = placeM cell (cellsM C l[j]) 0
  | [], _, h, hm => by cases hm
  | x :: l, i, h, hm => by
    unfold holdGo at hm
    have rest : h ∈ holdGo C cell l (i + 1) → ∃ j : Nat, ∃ hj : j < (x :: l).length, h.1 = ((i + j : Nat) : Int) ∧ cell ∈ cellsM C (x :: l)[j] ∧ h.2 = placeM cell (cellsM C (x :: l)[j]) 0 := by
      intro hr
      obtain ⟨j, hj, h1, h2, h3⟩ := holdGo_mem C cell l (i + 1) h hr
      exact ⟨j + 1, by simpa using hj, by rw [h1]; omega, by simpa using h2, by simpa using h3⟩
    split at hm
    · rename_i hc
      rcases List.mem_cons.1 hm with rfl | hm
      · exact ⟨0, by simp, by simp, by simpa using hc, by simp⟩
      · exact rest hm
    · exact rest hm
def holdM (r c : Int) (s : ByteArray) (cell : Int) : List (Int × Int) := holdGo c.toNat cell (slotsM r c s) 0
theorem holdM_at (r c : Int) (s : ByteArray) (cell : Int) : slotsAtM r c s cell = (holdM r c s cell).map (·.1) := holdGo_at _ _ _ _
theorem holdM_two (r c : Int) (s : ByteArray) (cell : Int) : (holdM r c s cell).length ≤ 2 := by
  have := slotsAtM_two r c s cell
  rw [holdM_at, List.length_map] at this
  exact this
def crossOne (cell : Int) : List (Int × Int) → List ICross
  | [a, b] => [⟨a.1, b.1, a.2, b.2, cell⟩]
  | _ => []
def crossGo (r c : Int) (s : ByteArray) : List Nat → List ICross
  | [] => []
  | i :: l => crossOne i (holdM r c s i) ++ crossGo r c s l
/-- What CrossingsOf answers. -/
def crossM (r c : Int) (s : ByteArray) : List ICross := if gridM r c s then crossGo r c s (List.range' 0 (s.size - 0)) else []
theorem crossOne_length (cell : Int) (h : List (Int × Int)) : (crossOne cell h).length ≤ 1 := by
  unfold crossOne
  split <;> simp
theorem crossGo_length (r c : Int) (s : ByteArray) : ∀ l : List Nat, (crossGo r c s l).length ≤ l.length
  | [] => by simp [crossGo]
  | i :: l => by
    unfold crossGo
    have := crossOne_length i (holdM r c s i)
    have := crossGo_length r c s l
    simp only [List.length_append, List.length_cons]
    omega
theorem grid36 {r c : Int} {s : ByteArray} (h : gridM r c s = true) : s.size ≤ 36 := by
  obtain ⟨R, C, _, _, _, h2, _, h4, h5⟩ := gridM_nat h
  have := bounds36 h2 h4
  omega
theorem crossM_length (r c : Int) (s : ByteArray) : (crossM r c s).length ≤ 36 := by
  unfold crossM
  split
  · rename_i h
    have := grid36 h
    have := crossGo_length r c s (List.range' 0 (s.size - 0))
    rw [List.length_range'] at this
    omega
  · simp
def crossStep (cell : Int) : Int → Int → List ICross → List (Int × Int) → List ICross
  | _, _, acc, [] => acc
  | first, place, acc, h :: r => if first < 0 then crossStep cell h.1 h.2 acc r else crossStep cell first place (acc ++ [⟨first, h.1, place, h.2, cell⟩]) r
theorem crossStep_one (cell : Int) (acc : List ICross) (H : List (Int × Int)) (h2 : H.length ≤ 2) (h0 : ∀ h ∈ H, 0 ≤ h.1) : crossStep cell (-1) 0 acc H = acc ++ crossOne cell H := by
  match H, h2, h0 with
  | [], _, _ => simp [crossStep, crossOne]
  | [a], _, _ => simp [crossStep, crossOne]
  | [a, b], _, h0 =>
    have := h0 a (by simp)
    simp only [crossStep, crossOne]
    rw [if_pos (by omega), if_neg (by omega)]
theorem impl_CrossingsOf_l1_ev (r c : Int) (s : ByteArray) (cell : Nat) (m : Int) (ρ : List ICross) : ∀ i : Nat, i ≤ (slotsM r c s).length → ∀ (acc : List ICross) (first place : Int), acc.length ≤ 100000 + i → cell ≤ 1000 →
    Ev (fun k => impl_CrossingsOf.l0 k (layoutM r c s) (crossStep cell first place acc (holdGo c.toNat cell ((slotsM r c s).drop i) i)) m (cell + 1 : Nat)) ρ →
    Ev (fun k => impl_CrossingsOf.l1 k (layoutM r c s) acc cell first place m cell (layoutM r c s) (layoutM r c s).length i) ρ := by
  have hl := slotsM_length r c s
  have hL := layoutM_length r c s
  refine down (slotsM r c s).length ?_ ?_
  · intro i h hi acc first place ha hc hρ
    apply ev_succ
    simp only [impl_CrossingsOf.l1]
    rw [wrap64_id (n := (cell : Int) + 1) (by omega) (by omega), succ_cast]
    rw [List.drop_eq_nil_of_le h] at hρ
    exact ev_neg (by omega) hρ
  · intro i h ih hi acc first place ha hc hρ
    have h6 := cellsM_length_elem h
    apply ev_succ
    simp only [impl_CrossingsOf.l1]
    rw [rd_ints_get (show i < (layoutM r c s).length by omega), layoutM_get h, wrap64_id (n := (i : Int) + 1) (by omega) (by omega), succ_cast]
    rw [List.drop_eq_getElem_cons h] at hρ
    unfold holdGo at hρ
    refine ev_pos (by omega) (ev_pos (by omega) (ev_pos (by omega) (ev_bind (slices_Index_int_int_ev _ cell (by omega)) ?_)))
    have hn := placeM_nonneg (n := (cell : Int)) (l := cellsM c.toNat (slotsM r c s)[i]) (i := 0)
    by_cases hm : (cell : Int) ∈ cellsM c.toNat (slotsM r c s)[i]
    · rw [if_pos hm] at hρ
      unfold crossStep at hρ
      have := hn.2 hm
      refine ev_neg (by omega) ?_
      by_cases hf : first < 0
      · rw [if_pos hf] at hρ
        exact ev_pos hf (ih (by omega) acc _ _ (by omega) hc hρ)
      · rw [if_neg hf] at hρ
        exact ev_neg hf (ev_pos (by omega) (ih (by omega) _ _ _ (by simp; omega) hc hρ))
    · rw [if_neg hm] at hρ
      have : ¬ 0 ≤ placeM (cell : Int) (cellsM c.toNat (slotsM r c s)[i]) 0 := fun x => hm (hn.1 x)
      exact ev_pos (by omega) (ih (by omega) acc _ _ (by omega) hc hρ)
theorem impl_CrossingsOf_l0_ev (r c : Int) (s : ByteArray) (h36 : s.size ≤ 36) : ∀ i : Nat, i ≤ s.size → ∀ acc : List ICross, acc.length ≤ i →
    Ev (fun k => impl_CrossingsOf.l0 k (layoutM r c s) acc s.size i) (acc ++ crossGo r c s (List.range' i (s.size - i))) := by
  refine down s.size ?_ ?_
  · intro i h hi acc ha
    apply ev_succ
    simp only [impl_CrossingsOf.l0]
    rw [range_nil h]
    exact ev_neg (by omega) (ev_now (by simp [crossGo]))
  · intro i h ih hi acc ha
    apply ev_succ
    simp only [impl_CrossingsOf.l0]
    rw [range_cons h]
    unfold crossGo
    have h1 := crossOne_length i (holdM r c s i)
    have hmem := holdGo_mem c.toNat (i : Int) (slotsM r c s) 0
    refine ev_pos (by omega) (impl_CrossingsOf_l1_ev r c s i s.size _ 0 (by omega) acc (-1) 0 (by omega) (by omega) ?_)
    rw [List.drop_zero, show holdGo c.toNat (i : Int) (slotsM r c s) 0 = holdM r c s i from rfl, crossStep_one _ _ _ (holdM_two r c s i) (fun h hh => by obtain ⟨j, _, e, _⟩ := hmem h hh; omega)]
    exact ev_eq (ih (by omega) _ (by rw [List.length_append]; have : (crossOne (i : Int) (holdGo c.toNat (i : Int) (slotsM r c s) 0)).length ≤ 1 := h1; omega)) (by simp [holdM])
theorem impl_CrossingsOf_l0_no (r c : Int) (s : ByteArray) (hs : s.size ≤ 1048576) (hg : ¬ gridM r c s = true) : ∀ i : Nat, i ≤ s.size → Ev (fun k => impl_CrossingsOf.l0 k (layoutM r c s) [] s.size i) [] := by
  have hn : layoutM r c s = [] := by
    unfold layoutM
    rw [slotsM_nil hg]
    rfl
  rw [hn]
  refine down s.size ?_ ?_
  · intro i h hi
    apply ev_succ
    simp only [impl_CrossingsOf.l0]
    exact ev_neg (by omega) (ev_now rfl)
  · intro i h ih hi
    apply ev_succ
    simp only [impl_CrossingsOf.l0]
    refine ev_pos (by omega) (ev_succ ?_)
    simp only [impl_CrossingsOf.l1]
    rw [wrap64_id (n := (i : Int) + 1) (by omega) (by omega), succ_cast]
    exact ev_neg (by simp) (ih (by omega))
theorem impl_CrossingsOf_ev (r c : Int) (s : ByteArray) (hs : s.size ≤ 1048576) : Ev (fun k => impl_CrossingsOf.f k r c s) (crossM r c s) := by
  unfold impl_CrossingsOf.f crossM
  refine ev_bind (impl_layout_ev r c s hs) ?_
  by_cases hg : gridM r c s = true
  · rw [if_pos hg]
    exact ev_eq (impl_CrossingsOf_l0_ev r c s (grid36 hg) 0 (by omega) [] (by simp)) (by simp)
  · rw [if_neg hg]
    exact impl_CrossingsOf_l0_no r c s hs hg 0 (by omega)

/-! ### crossedby -/
/-- A number put into an ascending list. -/
def putM : List Int → Int → List Int
  | [], n => [n]
  | a :: l, n => if a < n then a :: putM l n else if a = n then a :: l else n :: a :: l
theorem putM_cons (a : Int) (l : List Int) (n : Int) : putM (a :: l) n = if a < n then a :: putM l n else if a = n then a :: l else n :: a :: l := rfl
theorem putM_mem : ∀ (l : List Int) (n x : Int), x ∈ putM l n ↔ x = n ∨ x ∈ l
  | [], n, x => by simp [putM]
  | a :: l, n, x => by
    unfold putM
    have ih := putM_mem l n x
    split
    · simp only [List.mem_cons, ih]
      constructor
      · rintro (h | h | h)
        · exact .inr (.inl h)
        · exact .inl h
        · exact .inr (.inr h)
      · rintro (h | h | h)
        · exact .inr (.inl h)
        · exact .inl h
        · exact .inr (.inr h)
    · split
      · rename_i _ h
        subst h
        simp
      · simp
theorem putM_pair : ∀ (l : List Int) (n : Int), l.Pairwise (· < ·) → (putM l n).Pairwise (· < ·)
  | [], n, _ => by simp [putM]
  | a :: l, n, h => by
    unfold putM
    rw [List.pairwise_cons] at h
    split
    · rename_i ha
      rw [List.pairwise_cons]
      refine ⟨fun x hx => ?_, putM_pair l n h.2⟩
      rcases (putM_mem l n x).1 hx with rfl | hx
      · exact ha
      · exact h.1 x hx
    · split
      · rw [List.pairwise_cons]
        exact h
      · rename_i h1 h2
        rw [List.pairwise_cons, List.pairwise_cons]
        refine ⟨fun x hx => ?_, h⟩
        rcases List.mem_cons.1 hx with rfl | hx
        · omega
        · have := h.1 x hx
          omega
theorem putM_length (l : List Int) (n : Int) : (putM l n).length ≤ l.length + 1 := by
  induction l with
  | nil => simp [putM]
  | cons a l ih =>
    unfold putM
    split
    · simp; omega
    · split <;> simp
theorem foldM_all : ∀ (L acc : List Int), acc.Pairwise (· < ·) → (L.foldl putM acc).Pairwise (· < ·) ∧ ∀ x, x ∈ L.foldl putM acc ↔ x ∈ L ∨ x ∈ acc
  | [], acc, h => ⟨h, fun x => by simp⟩
  | a :: L, acc, h => by
    obtain ⟨h1, h2⟩ := foldM_all L (putM acc a) (putM_pair acc a h)
    refine ⟨h1, fun x => ?_⟩
    rw [List.foldl_cons, h2, putM_mem, List.mem_cons]
    constructor
    · rintro (h | h | h)
      · exact .inl (.inr h)
      · exact .inl (.inl h)
      · exact .inr h
    · rintro ((h | h) | h)
      · exact .inr (.inl h)
      · exact .inl h
      · exact .inr (.inr h)
/-- Two ascending lists of the same numbers are one. -/
theorem asc_one : ∀ (a b : List Int), a.Pairwise (· < ·) → b.Pairwise (· < ·) → (∀ x, x ∈ a ↔ x ∈ b) → a = b
  | [], [], _, _, _ => rfl
  | [], y :: b, _, _, h => by have := (h y).2 (by simp); cases this
  | x :: a, [], _, _, h => by have := (h x).1 (by simp); cases this
  | x :: a, y :: b, ha, hb, h => by
    rw [List.pairwise_cons] at ha hb
    have e : x = y := by
      rcases List.mem_cons.1 ((h x).1 (by simp)) with e | h1
      · exact e
      · rcases List.mem_cons.1 ((h y).2 (by simp)) with e | h2
        · exact e.symm
        · have := hb.1 x h1
          have := ha.1 y h2
          omega
    subst e
    congr 1
    refine asc_one a b ha.2 hb.2 fun z => ⟨fun hz => ?_, fun hz => ?_⟩
    · rcases List.mem_cons.1 ((h z).1 (by simp [hz])) with rfl | h1
      · have := ha.1 z hz
        omega
      · exact h1
    · rcases List.mem_cons.1 ((h z).2 (by simp [hz])) with rfl | h1
      · have := hb.1 z hz
        omega
      · exact h1
theorem compact_pair (zs : List Int) (h : zs.Pairwise (· ≤ ·)) : (Go.Lib.compact zs).Pairwise (· < ·) := by
  unfold Go.Lib.compact Go.Lib.compactUpTo
  rw [List.pairwise_map]
  refine List.Pairwise.imp_of_mem ?_ ((List.pairwise_lt_range (n := zs.length)).filter _)
  intro a b ha hb hab
  rw [List.mem_filter, List.mem_range] at ha hb
  have hk := hb.2
  unfold Go.Lib.keeps at hk
  have hp := List.pairwise_iff_getElem.1 h
  have hb1 : b - 1 < zs.length := by omega
  have e1 : ∀ i (hi : i < zs.length), zs.toArray[i]! = zs[i] := fun i hi => by rw [getElem!_pos zs.toArray i (by simpa using hi)]; simp
  rw [e1 a ha.1, e1 b hb.1]
  rw [e1 b hb.1, e1 (b - 1) hb1] at hk
  have h1 : zs[b - 1] ≤ zs[b] := hp (b - 1) b hb1 hb.1 (by omega)
  have h2 : zs[a] ≤ zs[b - 1] := by
    by_cases e : a = b - 1
    · subst e
      omega
    · exact hp a (b - 1) ha.1 hb1 (by omega)
  have h3 : zs[b] ≠ zs[b - 1] := by
    have : b ≠ 0 := by omega
    simpa [this] using hk
  omega
theorem compact_mem (zs : List Int) (x : Int) : x ∈ Go.Lib.compact zs ↔ x ∈ zs := by
  unfold Go.Lib.compact Go.Lib.compactUpTo
  have e1 : ∀ i (hi : i < zs.length), zs.toArray[i]! = zs[i] := fun i hi => by rw [getElem!_pos zs.toArray i (by simpa using hi)]; simp
  constructor
  · intro h
    obtain ⟨i, hi, rfl⟩ := List.mem_map.1 h
    rw [List.mem_filter, List.mem_range] at hi
    rw [e1 i hi.1]
    exact List.getElem_mem hi.1
  · intro h
    obtain ⟨i, hi, rfl⟩ := List.getElem_of_mem h
    have key : ∀ i (hi : i < zs.length), ∃ j, j < zs.length ∧ Go.Lib.keeps zs.toArray j = true ∧ zs.toArray[j]! = zs[i] := by
      intro i
      induction i with
      | zero =>
        intro hi
        exact ⟨0, hi, by simp [Go.Lib.keeps], e1 0 hi⟩
      | succ i ih =>
        intro hi
        by_cases hk : Go.Lib.keeps zs.toArray (i + 1) = true
        · exact ⟨i + 1, hi, hk, e1 _ hi⟩
        · obtain ⟨j, h1, h2, h3⟩ := ih (by omega)
          refine ⟨j, h1, h2, h3.trans ?_⟩
          rw [← e1 i (by omega), ← e1 (i + 1) hi]
          simpa [Go.Lib.keeps] using (Eq.symm (by simpa [Go.Lib.keeps] using hk))
    obtain ⟨j, h1, h2, h3⟩ := key i hi
    exact List.mem_map.2 ⟨j, by rw [List.mem_filter, List.mem_range]; exact ⟨h1, h2⟩, h3⟩
theorem sorted_fold (L : List Int) : sortedM L = L.foldl putM [] := by
  obtain ⟨h1, h2⟩ := foldM_all L [] (by simp)
  refine asc_one _ _ ?_ h1 fun x => ?_
  · unfold sortedM
    refine compact_pair _ ?_
    have := List.pairwise_mergeSort (le := fun x y : Int => decide (x ≤ y)) (fun a b c hab hbc => by simp at *; omega) (fun a b => by simp; omega) L
    exact this.imp fun h => by simpa using h
  · unfold sortedM
    rw [compact_mem, h2]
    simp
/-- The other slots of the crossings of a slot. -/
def byOne (slot : Int) (x : ICross) : List Int := (if x.f0 = slot then [x.f1] else []) ++ (if x.f1 = slot then [x.f0] else [])
def byGo (slot : Int) (l : List ICross) : List Int := (l.map (byOne slot)).flatten
theorem byGo_cons (slot : Int) (x : ICross) (l : List ICross) : byGo slot (x :: l) = byOne slot x ++ byGo slot l := by simp [byGo]
theorem byOne_length (slot : Int) (x : ICross) : (byOne slot x).length ≤ 2 := by
  unfold byOne
  split <;> split <;> simp
theorem byGo_length (slot : Int) (l : List ICross) : (byGo slot l).length ≤ 2 * l.length := by
  induction l with
  | nil => simp [byGo]
  | cons x l ih =>
    have := byOne_length slot x
    rw [byGo_cons, List.length_append, List.length_cons]
    omega
def crossedM (r c : Int) (s : ByteArray) (slot : Int) : List Int := sortedM (byGo slot (crossM r c s))
theorem foldM_length (L acc : List Int) : (L.foldl putM acc).length ≤ acc.length + L.length := by
  induction L generalizing acc with
  | nil => simp
  | cons a L ih =>
    have := ih (putM acc a)
    have := putM_length acc a
    rw [List.foldl_cons, List.length_cons]
    omega
theorem crossedM_length (r c : Int) (s : ByteArray) (slot : Int) : (crossedM r c s slot).length ≤ 72 := by
  unfold crossedM
  rw [sorted_fold]
  have := foldM_length (byGo slot (crossM r c s)) []
  have := byGo_length slot (crossM r c s)
  have := crossM_length r c s
  simp at *
  omega
theorem impl_CrossedBy_l0_ev (slot : Int) (l : List ICross) (hl : l.length ≤ 36) : ∀ i : Nat, i ≤ l.length → ∀ acc : List Int, acc.length ≤ 2 * i → Ev (fun k => impl_CrossedBy.l0 k slot acc l l.length i) (sortedM (acc ++ byGo slot (l.drop i))) := by
  refine down l.length ?_ ?_
  · intro i h hi acc ha
    apply ev_succ
    simp only [impl_CrossedBy.l0]
    rw [List.drop_eq_nil_of_le h, show byGo slot [] = [] from rfl, List.append_nil]
    refine ev_neg (by omega) (ev_let (a := sortedM acc) ?_ (ev_now rfl))
    unfold impl_sortedInts.f
    rw [if_pos (by omega)]
  · intro i h ih hi acc ha
    apply ev_succ
    simp only [impl_CrossedBy.l0]
    rw [rd_Cross_get h, wrap64_id (n := (i : Int) + 1) (by omega) (by omega), succ_cast, List.drop_eq_getElem_cons h, byGo_cons]
    unfold byOne
    refine ev_pos (by omega) (ev_pos (by omega) (ev_pos (by omega) ?_))
    have nx := fun acc' (ha' : acc'.length ≤ 2 * (i + 1)) => ih (by omega) acc' ha'
    by_cases h0 : l[i].f0 = slot
    · by_cases h1 : l[i].f1 = slot
      · rw [if_pos h0, if_pos h1]
        exact ev_pos h0 (ev_pos (by omega) (ev_let rfl (ev_pos h1 (ev_pos (by simp; omega) (ev_eq (nx _ (by simp; omega)) (by simp))))))
      · rw [if_pos h0, if_neg h1]
        exact ev_pos h0 (ev_pos (by omega) (ev_let rfl (ev_neg h1 (ev_eq (nx _ (by simp; omega)) (by simp)))))
    · by_cases h1 : l[i].f1 = slot
      · rw [if_neg h0, if_pos h1]
        exact ev_neg h0 (ev_pos h1 (ev_pos (by omega) (ev_eq (nx _ (by simp; omega)) (by simp))))
      · rw [if_neg h0, if_neg h1]
        exact ev_neg h0 (ev_neg h1 (ev_eq (nx _ (by omega)) (by simp)))
theorem impl_CrossedBy_ev (r c : Int) (s : ByteArray) (slot : Int) (hs : s.size ≤ 1048576) : Ev (fun k => impl_CrossedBy.f k r c s slot) (crossedM r c s slot) := by
  have := crossM_length r c s
  unfold impl_CrossedBy.f crossedM
  exact ev_bind (impl_CrossingsOf_ev r c s hs) (ev_eq (impl_CrossedBy_l0_ev slot _ (by omega) 0 (by omega) [] (by simp)) (by simp))

/-! ### slotidx -/

/-! ### fncross -/
theorem place_at {n : Int} : ∀ {l : List Int} (i : Nat), n ∈ l → ∃ k : Nat, ∃ h : k < l.length, placeM n l i = ((i + k : Nat) : Int) ∧ l[k] = n
  | [], _, h => by cases h
  | a :: l, i, h => by
    unfold placeM
    by_cases e : a = n
    · rw [if_pos e]
      exact ⟨0, by simp, by rw [Nat.add_zero], e⟩
    · rw [if_neg e]
      have hm : n ∈ l := by
        rcases List.mem_cons.1 h with h2 | h2
        · exact absurd h2.symm e
        · exact h2
      obtain ⟨k, hk, h1, h2⟩ := place_at (i + 1) hm
      exact ⟨k + 1, by simpa using hk, by rw [h1]; omega, by simpa using h2⟩
theorem holdGo_asc (C : Nat) (cell : Int) : ∀ (l : List ISlot) (i : Nat), (holdGo C cell l i).Pairwise fun a b => a.1 < b.1
  | [], _ => by simp [holdGo]
  | x :: l, i => by
    unfold holdGo
    split
    · rw [List.pairwise_cons]
      refine ⟨fun h hm => ?_, holdGo_asc C cell l (i + 1)⟩
      obtain ⟨j, _, h1, _⟩ := holdGo_mem C cell l (i + 1) h hm
      show (i : Int) < h.1
      omega
    · exact holdGo_asc C cell l (i + 1)
theorem crossGo_mem {r c : Int} {s : ByteArray} {e : ICross} : ∀ {l : List Nat}, e ∈ crossGo r c s l → ∃ i ∈ l, ∃ h1 h2 : Int × Int, holdM r c s (i : Int) = [h1, h2] ∧ e = ⟨h1.1, h2.1, h1.2, h2.2, i⟩
  | [], h => by cases h
  | i :: l, h => by
    unfold crossGo at h
    rcases List.mem_append.1 h with h | h
    · unfold crossOne at h
      split at h
      · rename_i a b hab
        rw [List.mem_singleton] at h
        exact ⟨i, List.mem_cons_self, a, b, hab, h⟩
      · cases h
    · obtain ⟨j, hj, h1, h2, h3⟩ := crossGo_mem h
      exact ⟨j, List.mem_cons_of_mem _ hj, h1, h2, h3⟩
/-- What a crossing says: two slots, one ahead of the other, of two directions, that both hold the cell, where it says. -/
theorem cross_says {r c : Int} {s : ByteArray} {e : ICross} (h : e ∈ crossM r c s) : ∃ p p2 u v : Nat, ∃ hp : p < (slotsM r c s).length, ∃ hp2 : p2 < (slotsM r c s).length, e.f0 = p ∧ e.f1 = p2 ∧ e.f2 = u ∧ e.f3 = v ∧ p < p2 ∧ (slotsM r c s)[p].f1 ≠ (slotsM r c s)[p2].f1 ∧ (∃ hu : u < (cellsM c.toNat (slotsM r c s)[p]).length, (cellsM c.toNat (slotsM r c s)[p])[u] = e.f4) ∧ (∃ hv : v < (cellsM c.toNat (slotsM r c s)[p2]).length, (cellsM c.toNat (slotsM r c s)[p2])[v] = e.f4) ∧ checkedM r c s e.f4 = true := by
  unfold crossM at h
  split at h
  · obtain ⟨i, _, h1, h2, hh, rfl⟩ := crossGo_mem h
    have hl2 : (slotsAtM r c s (i : Int)).length = 2 := by rw [holdM_at, hh]; rfl
    have hasc := holdGo_asc c.toNat (i : Int) (slotsM r c s) 0
    have m1 := holdGo_mem c.toNat (i : Int) (slotsM r c s) 0 h1 (by show h1 ∈ holdM r c s (i : Int); rw [hh]; simp)
    have m2 := holdGo_mem c.toNat (i : Int) (slotsM r c s) 0 h2 (by show h2 ∈ holdM r c s (i : Int); rw [hh]; simp)
    have hh2 : holdGo c.toNat (i : Int) (slotsM r c s) 0 = [h1, h2] := hh
    rw [hh2] at hasc
    have hlt : h1.1 < h2.1 := (List.pairwise_cons.1 hasc).1 h2 (by simp)
    obtain ⟨p, hp, e1, c1, p1⟩ := m1
    obtain ⟨p2, hp2, e2, c2, q1⟩ := m2
    obtain ⟨u, hu, u1, u2⟩ := place_at 0 c1
    obtain ⟨v, hv, v1, v2⟩ := place_at 0 c2
    rw [Nat.zero_add] at e1 e2 u1 v1
    refine ⟨p, p2, u, v, hp, hp2, e1, e2, p1.trans u1, q1.trans v1, by omega, ?_, ⟨hu, u2⟩, ⟨hv, v2⟩, ?_⟩
    · intro hd
      have hpw := List.pairwise_iff_getElem.1 (slotsM_pairwise r c s) p p2 hp hp2 (by omega)
      obtain ⟨R, C, rfl, rfl, _, _, h3, _, _, _, hka⟩ := slotsM_ok (List.getElem_mem hp)
      obtain ⟨R', C', f1, f2, _, _, _, _, _, _, hkb⟩ := slotsM_ok (List.getElem_mem hp2)
      have e1' : R' = R := by omega
      have e2' : C' = C := by omega
      subst e1' e2'
      rw [Int.toNat_natCast] at c1 c2
      have := slot_one (by omega) hka hkb hd c1 c2
      rcases hpw with h5 | ⟨_, h5, h6⟩
      · omega
      · rw [h5, h6] at hd
        cases hd
    · unfold checkedM
      exact decide_eq_true hl2
  · cases h
theorem crossed_has {r c : Int} {s : ByteArray} {slot x : Int} (h : x ∈ byGo slot (crossM r c s)) : x ∈ crossedM r c s slot := by
  unfold crossedM
  rw [sorted_fold]
  exact ((foldM_all _ [] (by simp)).2 x).2 (.inl h)
theorem byGo_has {e : ICross} {l : List ICross} (h : e ∈ l) : e.f1 ∈ byGo e.f0 l ∧ e.f0 ∈ byGo e.f1 l := by
  unfold byGo
  refine ⟨List.mem_flatten.2 ⟨_, List.mem_map.2 ⟨e, h, rfl⟩, ?_⟩, List.mem_flatten.2 ⟨_, List.mem_map.2 ⟨e, h, rfl⟩, ?_⟩⟩
  · unfold byOne
    rw [if_pos rfl]
    simp
  · unfold byOne
    rw [if_pos (rfl : e.f1 = e.f1)]
    simp
/-! Counting. -/
def sumN (f : Nat → Nat) : List Nat → Nat
  | [] => 0
  | i :: l => f i + sumN f l
theorem sumN_ext {f g : Nat → Nat} {l : List Nat} (h : ∀ i ∈ l, f i = g i) : sumN f l = sumN g l := by
  induction l with
  | nil => rfl
  | cons a l ih =>
    unfold sumN
    rw [h a List.mem_cons_self, ih fun i hi => h i (List.mem_cons_of_mem _ hi)]
theorem sumN_add (f g : Nat → Nat) (l : List Nat) : sumN (fun i => f i + g i) l = sumN f l + sumN g l := by
  induction l with
  | nil => rfl
  | cons a l ih =>
    unfold sumN
    rw [ih]
    omega
theorem sumN_zero (l : List Nat) : sumN (fun _ => 0) l = 0 := by
  induction l with
  | nil => rfl
  | cons a l ih =>
    unfold sumN
    rw [ih]
theorem sumN_one (b : Nat) (m : Nat) : ∀ n s : Nat, sumN (fun i => if i = m then b else 0) (List.range' s n) = if s ≤ m ∧ m < s + n then b else 0
  | 0, s => by
    rw [if_neg (by omega)]
    rfl
  | n + 1, s => by
    rw [List.range'_succ]
    unfold sumN
    rw [sumN_one b m n (s + 1)]
    by_cases h : s = m
    · rw [if_pos h, if_neg (by omega), if_pos (by omega)]
      omega
    · rw [if_neg h]
      by_cases h2 : s + 1 ≤ m ∧ m < s + 1 + n
      · rw [if_pos h2, if_pos (by omega)]
        omega
      · rw [if_neg h2, if_neg (by omega)]
theorem cntC_sum (r c : Int) (s : ByteArray) : ∀ l : List Nat, cntC r c s l = sumN (fun i => if checkedM r c s (i : Int) = true then 1 else 0) l
  | [] => rfl
  | i :: l => by
    rw [cntC_cons, cntC_sum r c s l]
    rfl
/-- How many of a slot's cells are crossed. -/
def cntL (r c : Int) (s : ByteArray) : List Int → Nat
  | [] => 0
  | y :: l => (if checkedM r c s y = true then 1 else 0) + cntL r c s l
theorem cntL_U (r c : Int) (s : ByteArray) : ∀ l : List Int, cntL r c s l + countU r c s l = l.length
  | [] => rfl
  | y :: l => by
    have ih := cntL_U r c s l
    unfold cntL countU
    rw [List.length_cons]
    split <;> omega
theorem cntL_sum (r c : Int) (s : ByteArray) (n : Nat) : ∀ l : List Int, l.Nodup → (∀ y ∈ l, ∃ i : Nat, i < n ∧ y = i) → cntL r c s l = sumN (fun i => if checkedM r c s (i : Int) = true ∧ (i : Int) ∈ l then 1 else 0) (List.range' 0 n)
  | [], _, _ => by
    rw [sumN_ext (g := fun _ => 0) (fun i _ => by simp), sumN_zero]
    rfl
  | y :: l, hn, hy => by
    obtain ⟨h1, h2⟩ := List.nodup_cons.1 hn
    obtain ⟨m, hm, rfl⟩ := hy y List.mem_cons_self
    have ih := cntL_sum r c s n l h2 fun z hz => hy z (List.mem_cons_of_mem _ hz)
    have e1 := sumN_one (if checkedM r c s (m : Int) = true then 1 else 0) m n 0
    rw [if_pos (show 0 ≤ m ∧ m < 0 + n by omega)] at e1
    unfold cntL
    rw [ih, ← e1, ← sumN_add]
    refine sumN_ext fun i _ => ?_
    by_cases hi : i = m
    · subst hi
      rw [if_pos rfl]
      by_cases hc : checkedM r c s (i : Int) = true
      · simp [hc, h1]
      · simp [hc]
    · rw [if_neg hi]
      have : ¬ ((i : Int) = (m : Int)) := by omega
      simp [this]
/-- How many crossed cells the slots hold together. -/
def sumL (r c : Int) (s : ByteArray) : List ISlot → Nat
  | [] => 0
  | x :: l => cntL r c s (cellsM c.toNat x) + sumL r c s l
theorem sumL_sum (r c : Int) (s : ByteArray) (n : Nat) : ∀ l : List ISlot, (∀ x ∈ l, (cellsM c.toNat x).Nodup ∧ ∀ y ∈ cellsM c.toNat x, ∃ i : Nat, i < n ∧ y = i) → sumL r c s l = sumN (fun i => if checkedM r c s (i : Int) = true then (l.filter fun x => decide ((i : Int) ∈ cellsM c.toNat x)).length else 0) (List.range' 0 n)
  | [], _ => by
    rw [sumN_ext (g := fun _ => 0) (fun i _ => by simp), sumN_zero]
    rfl
  | x :: l, h => by
    obtain ⟨h1, h2⟩ := h x List.mem_cons_self
    have ih := sumL_sum r c s n l fun z hz => h z (List.mem_cons_of_mem _ hz)
    unfold sumL
    rw [ih, cntL_sum r c s n _ h1 h2, ← sumN_add]
    refine sumN_ext fun i _ => ?_
    rw [List.filter_cons]
    by_cases hc : checkedM r c s (i : Int) = true
    · by_cases hm : (i : Int) ∈ cellsM c.toNat x
      · rw [if_pos ⟨hc, hm⟩, if_pos hc, if_pos hc, if_pos (decide_eq_true hm), List.length_cons]
        omega
      · rw [if_neg (fun h => hm h.2), if_pos hc, if_pos hc, if_neg (by simpa using hm)]
        omega
    · rw [if_neg (fun h => hc h.1), if_neg hc, if_neg hc]
theorem cells_nodup {C : Nat} {x : ISlot} (h : 0 < stepM C x.f1) : (cellsM C x).Nodup := by
  unfold cellsM List.Nodup
  rw [List.pairwise_map]
  refine (List.nodup_range' (step := 1)).imp ?_
  intro a b hab he
  have h1 : (a : Int) * (stepM C x.f1 : Int) = (b : Int) * (stepM C x.f1 : Int) := by omega
  have h2 := Int.eq_of_mul_eq_mul_right (by omega) h1
  omega
theorem slot_cells {r c : Int} {s : ByteArray} {x : ISlot} (h : x ∈ slotsM r c s) : (cellsM c.toNat x).Nodup ∧ ∀ y ∈ cellsM c.toNat x, ∃ i : Nat, i < s.size ∧ y = i := by
  obtain ⟨R, C, rfl, rfl, _, _, h3, h4, h5, _, hk⟩ := slotsM_ok h
  rw [Int.toNat_natCast]
  have hst := stepM_le h4 (by omega) x.f1
  refine ⟨cells_nodup (by omega), fun y hy => ?_⟩
  obtain ⟨i, k, _, _, _, h6, _, _, h7, _⟩ := okSlot_cell (by omega) hk hy
  exact ⟨_, by rw [h5]; exact h7, h6⟩
/-- The slots hold each crossed cell twice. -/
theorem twice (r c : Int) (s : ByteArray) : sumL r c s (slotsM r c s) = 2 * cntC r c s (List.range' 0 s.size) := by
  rw [sumL_sum r c s s.size _ (fun x hx => slot_cells hx), cntC_sum]
  have e : ∀ i : Nat, (if checkedM r c s (i : Int) = true then ((slotsM r c s).filter fun x => decide ((i : Int) ∈ cellsM c.toNat x)).length else 0) = (if checkedM r c s (i : Int) = true then 1 else 0) + (if checkedM r c s (i : Int) = true then 1 else 0) := by
    intro i
    by_cases hc : checkedM r c s (i : Int) = true
    · rw [if_pos hc, if_pos hc, ← atGo_holders c.toNat (i : Int) (slotsM r c s) 0]
      unfold checkedM slotsAtM at hc
      rw [decide_eq_true_eq] at hc
      omega
    · rw [if_neg hc, if_neg hc]
  rw [sumN_ext (fun i _ => e i), sumN_add]
  omega
theorem crossGo_count (r c : Int) (s : ByteArray) : ∀ l : List Nat, (crossGo r c s l).length = cntC r c s l
  | [] => rfl
  | i :: l => by
    unfold crossGo
    rw [cntC_cons, List.length_append, crossGo_count r c s l]
    have hl : (holdM r c s (i : Int)).length = (slotsAtM r c s (i : Int)).length := by rw [holdM_at, List.length_map]
    have e : (crossOne (i : Int) (holdM r c s (i : Int))).length = if checkedM r c s (i : Int) = true then 1 else 0 := by
      unfold checkedM
      rw [← hl]
      match holdM r c s (i : Int) with
      | [] => simp [crossOne]
      | [_] => simp [crossOne]
      | [_, _] => simp [crossOne]
      | _ :: _ :: _ :: _ => simp [crossOne]
    rw [e]
theorem cntC_le (r c : Int) (s : ByteArray) : ∀ l : List Nat, cntC r c s l ≤ cntW s l
  | [] => Nat.le_refl _
  | i :: l => by
    have ih := cntC_le r c s l
    rw [cntC_cons, cntW_cons]
    by_cases h : checkedM r c s (i : Int) = true
    · have hw : bt s (i : Int) = 46 := by
        unfold checkedM at h
        rw [decide_eq_true_eq] at h
        exact slotsAtM_white (r := r) (c := c) (by omega)
      rw [if_pos h, if_pos hw]
      omega
    · rw [if_neg h]
      omega

/-! ### slotsback -/
/-- Is the cell ahead (in the direction) there, and white? -/
def nextB (R C : Nat) (s : ByteArray) (dn : Bool) (i : Nat) : Bool := decide (atM C dn i + 1 < mostM R C dn) && decide (bt s (i + stepM C dn : Nat) = 46)
def prevB (C : Nat) (s : ByteArray) (dn : Bool) (i : Nat) : Bool := decide (0 < atM C dn i) && decide (bt s (i - stepM C dn : Nat) = 46)
def whB (s : ByteArray) (i : Nat) : Bool := decide (bt s (i : Nat) = 46)
theorem two_run {R C : Nat} {s : ByteArray} {i : Nat} {dn : Bool} : 2 ≤ runM R C s i dn ↔ (whB s i && nextB R C s dn i && !prevB C s dn i) = true := by
  unfold runM whB nextB prevB
  rw [Bool.and_eq_true, Bool.and_eq_true, Bool.and_eq_true, Bool.not_eq_true', Bool.and_eq_false_iff]
  simp only [decide_eq_true_eq, decide_eq_false_iff_not]
  split
  · rename_i h
    have hn : ¬ 0 < atM C dn i ∨ ¬ bt s (i - stepM C dn : Nat) = 46 := by
      by_cases h0 : 0 < atM C dn i
      · exact .inr fun h1 => h.2 ⟨h0, h1⟩
      · exact .inl h0
    rcases hm : mostM R C dn - atM C dn i with _ | _ | m
    · simp only [runLen]
      omega
    · simp only [runLen]
      rw [if_pos h.1]
      omega
    · simp only [runLen]
      rw [if_pos h.1]
      by_cases h2 : bt s (i + stepM C dn : Nat) = 46
      · rw [if_pos h2]
        simp only [h.1, h2, hn, and_true, true_and]
        omega
      · rw [if_neg h2]
        constructor
        · intro h3
          omega
        · rintro ⟨⟨_, h3⟩, _⟩
          exact absurd h3.2 h2
  · rename_i h
    constructor
    · intro h2
      omega
    · rintro ⟨⟨h1, _⟩, h2⟩
      refine absurd ⟨h1, ?_⟩ h
      rintro ⟨h3, h4⟩
      rcases h2 with h2 | h2
      · exact h2 h3
      · exact h2 h4
theorem slotsGo_count (R C : Nat) (s : ByteArray) : ∀ (l : List Nat) (n : Int), (slotsGo R C s l n).length = l.countP (fun i => whB s i && nextB R C s false i && !prevB C s false i) + l.countP (fun i => whB s i && nextB R C s true i && !prevB C s true i)
  | [], _ => rfl
  | i :: l, n => by
    unfold slotsGo slotsOne
    rw [List.length_append, List.length_append, slotsGo_count R C s l, List.countP_cons, List.countP_cons]
    have h1 : (if 2 ≤ runM R C s i false then [(⟨numOne R C s i n, false, i, runM R C s i false⟩ : ISlot)] else []).length = if (whB s i && nextB R C s false i && !prevB C s false i) = true then 1 else 0 := by
      by_cases h : 2 ≤ runM R C s i false
      · rw [if_pos h, if_pos (two_run.1 h)]
        rfl
      · rw [if_neg h, if_neg (fun h2 => h (two_run.2 h2))]
        rfl
    have h2 : (if 2 ≤ runM R C s i true then [(⟨numOne R C s i n, true, i, runM R C s i true⟩ : ISlot)] else []).length = if (whB s i && nextB R C s true i && !prevB C s true i) = true then 1 else 0 := by
      by_cases h : 2 ≤ runM R C s i true
      · rw [if_pos h, if_pos (two_run.1 h)]
        rfl
      · rw [if_neg h, if_neg (fun h2 => h (two_run.2 h2))]
        rfl
    rw [h1, h2]
    omega
theorem countP_part (p q : Nat → Bool) (l : List Nat) : l.countP p = l.countP (fun i => p i && !q i) + l.countP (fun i => p i && q i) := by
  induction l with
  | nil => rfl
  | cons a l ih =>
    rw [List.countP_cons, List.countP_cons, List.countP_cons, ih]
    cases p a <;> cases q a <;> simp <;> omega
theorem countP_ext {p q : Nat → Bool} {l : List Nat} (h : ∀ i ∈ l, p i = q i) : l.countP p = l.countP q := by
  induction l with
  | nil => rfl
  | cons a l ih => rw [List.countP_cons, List.countP_cons, ih (fun i hi => h i (List.mem_cons_of_mem _ hi)), h a List.mem_cons_self]
/-- As many cells with f as cells with g, if f at i is g a step further. -/
theorem countP_shift (f g : Nat → Bool) (st : Nat) : ∀ n : Nat, (∀ i, i + st < n → f i = g (i + st)) → (∀ i, i < n → n ≤ i + st → f i = false) → (∀ j, j < n → j < st → g j = false) → (List.range n).countP f = (List.range n).countP g := by
  intro n h1 h2 h3
  by_cases hst : n ≤ st
  · rw [List.countP_eq_zero.2, List.countP_eq_zero.2]
    · intro j hj
      rw [List.mem_range] at hj
      rw [h3 j hj (by omega)]
      simp
    · intro i hi
      rw [List.mem_range] at hi
      rw [h2 i hi (by omega)]
      simp
  · obtain ⟨m, rfl⟩ : ∃ m, n = st + m := ⟨n - st, by omega⟩
    have eg : (List.range (st + m)).countP g = (List.range m).countP f := by
      rw [List.range_add, List.countP_append, List.countP_eq_zero.2, List.countP_map, Nat.zero_add]
      · refine countP_ext fun i hi => ?_
        rw [List.mem_range] at hi
        show g (st + i) = f i
        rw [Nat.add_comm, h1 i (by omega)]
      · intro j hj
        rw [List.mem_range] at hj
        rw [h3 j (by omega) hj]
        simp
    have ef : (List.range (st + m)).countP f = (List.range m).countP f := by
      rw [Nat.add_comm st m, List.range_add, List.countP_append, List.countP_map]
      have : (List.range st).countP (f ∘ fun x => m + x) = 0 := by
        refine List.countP_eq_zero.2 fun i hi => ?_
        rw [List.mem_range] at hi
        show ¬ f (m + i) = true
        rw [h2 (m + i) (by omega) (by omega)]
        simp
      omega
    rw [eg, ef]
theorem countP_back (f g : Nat → Bool) (n : Nat) (h : ∀ i, i < n → f i = g (n - 1 - i)) : (List.range n).countP f = (List.range n).countP g := by
  have e : (List.range n).reverse = (List.range n).map (n - 1 - ·) := by
    rw [List.range_eq_range', List.reverse_range', ← List.range_eq_range', Nat.zero_add]
  rw [← List.countP_reverse (l := List.range n) (p := g), e, List.countP_map]
  refine countP_ext fun i hi => ?_
  rw [List.mem_range] at hi
  exact h i hi
/-- The steps that a cell of the grid can take. -/
theorem at_step {R C : Nat} {dn : Bool} (h0 : 0 < C) {i : Nat} (hi : i < R * C) : (atM C dn i + 1 < mostM R C dn → i + stepM C dn < R * C ∧ atM C dn (i + stepM C dn) = atM C dn i + 1) ∧ (0 < atM C dn i → stepM C dn ≤ i ∧ atM C dn (i - stepM C dn) + 1 = atM C dn i) ∧ atM C dn i < mostM R C dn := by
  have hm : atM C dn i < mostM R C dn := by
    unfold atM mostM
    cases dn with
    | true => exact (Nat.div_lt_iff_lt_mul h0).2 hi
    | false => exact Nat.mod_lt _ h0
  refine ⟨fun h => ⟨?_, ?_⟩, fun h => ?_, hm⟩
  · have := cell_lt h0 hi h
    rw [Nat.one_mul] at this
    exact this
  · have := atM_add (d := 1) h0 h
    rw [Nat.one_mul] at this
    exact this
  · unfold atM stepM at *
    cases dn with
    | true =>
      simp only [if_true] at *
      have hc : C ≤ i := by
        rcases Nat.lt_or_ge i C with hlt | hge
        · rw [Nat.div_eq_of_lt hlt] at h
          omega
        · exact hge
      refine ⟨hc, ?_⟩
      have := Nat.div_eq_sub_div h0 hc
      omega
    | false =>
      simp only [Bool.false_eq_true, if_false] at *
      have h1 : 1 ≤ i := by
        rcases Nat.eq_zero_or_pos i with rfl | h1
        · simp at h
        · exact h1
      refine ⟨h1, ?_⟩
      have e := Nat.div_add_mod i C
      have hl := Nat.mod_lt i h0
      have e2 : i - 1 = i % C - 1 + C * (i / C) := by omega
      rw [e2, Nat.add_mul_mod_self_left, Nat.mod_eq_of_lt (by omega)]
      omega
/-- As many ends of runs as beginnings. -/
theorem heads_tails {R C : Nat} (s : ByteArray) (dn : Bool) (h0 : 0 < C) : (List.range (R * C)).countP (fun i => whB s i && nextB R C s dn i && !prevB C s dn i) = (List.range (R * C)).countP (fun i => whB s i && prevB C s dn i && !nextB R C s dn i) := by
  have a := countP_part (fun i => whB s i && nextB R C s dn i) (fun i => prevB C s dn i) (List.range (R * C))
  have b := countP_part (fun i => whB s i && prevB C s dn i) (fun i => nextB R C s dn i) (List.range (R * C))
  have c : (List.range (R * C)).countP (fun i => whB s i && nextB R C s dn i && prevB C s dn i) = (List.range (R * C)).countP (fun i => whB s i && prevB C s dn i && nextB R C s dn i) :=
    countP_ext fun i _ => by cases whB s i <;> cases nextB R C s dn i <;> cases prevB C s dn i <;> rfl
  have d : (List.range (R * C)).countP (fun i => whB s i && nextB R C s dn i) = (List.range (R * C)).countP (fun i => whB s i && prevB C s dn i) := by
    refine countP_shift _ _ (stepM C dn) _ ?_ ?_ ?_
    · intro i hi
      show (whB s i && nextB R C s dn i) = (whB s (i + stepM C dn) && prevB C s dn (i + stepM C dn))
      unfold nextB prevB whB
      have hs := at_step (R := R) (dn := dn) h0 (i := i) (by omega)
      have ht := at_step (dn := dn) h0 hi
      rw [Nat.add_sub_cancel]
      by_cases hn : atM C dn i + 1 < mostM R C dn
      · have := (hs.1 hn).2
        rw [decide_eq_true hn, decide_eq_true (show 0 < atM C dn (i + stepM C dn) by omega), Bool.true_and, Bool.true_and, Bool.and_comm]
      · have hz : ¬ 0 < atM C dn (i + stepM C dn) := by
          intro hp
          have h2 := (ht.2.1 hp).2
          rw [Nat.add_sub_cancel] at h2
          omega
        rw [decide_eq_false hn, decide_eq_false hz, Bool.false_and, Bool.false_and, Bool.and_false, Bool.and_false]
    · intro i hi hge
      unfold nextB
      have hn : ¬ atM C dn i + 1 < mostM R C dn := fun h => by
        have := (at_step h0 hi).1 h
        omega
      rw [decide_eq_false hn, Bool.false_and, Bool.and_false]
    · intro j hj hlt
      unfold prevB
      have hn : ¬ 0 < atM C dn j := fun h => by
        have := ((at_step h0 hj).2.1 h).1
        omega
      rw [decide_eq_false hn, Bool.false_and, Bool.and_false]
  omega
/-- A cell's place, told from the other end. -/
theorem at_back {R C : Nat} {dn : Bool} (h0 : 0 < C) {i : Nat} (hi : i < R * C) : atM C dn (R * C - 1 - i) + atM C dn i + 1 = mostM R C dn := by
  have e := Nat.div_add_mod i C
  have hl := Nat.mod_lt i h0
  have hd : i / C < R := (Nat.div_lt_iff_lt_mul h0).2 hi
  obtain ⟨d, rfl⟩ : ∃ d, R = i / C + 1 + d := ⟨R - (i / C + 1), by omega⟩
  have e2 : (i / C + 1 + d) * C - 1 - i = (C - 1 - i % C) + C * d := by
    rw [Nat.add_mul, Nat.add_mul, Nat.one_mul, Nat.mul_comm (i / C) C, Nat.mul_comm d C]
    omega
  unfold atM mostM
  cases dn with
  | true =>
    simp only [if_true]
    rw [e2, Nat.add_mul_div_left _ _ h0, Nat.div_eq_of_lt (by omega)]
    omega
  | false =>
    simp only [Bool.false_eq_true, if_false]
    rw [e2, Nat.add_mul_mod_self_left, Nat.mod_eq_of_lt (by omega)]
    omega
theorem back_heads {R C : Nat} {s t : ByteArray} (dn : Bool) (h0 : 0 < C) (ht : ∀ j, j < R * C → bt t ((R * C - 1 - j : Nat) : Int) = bt s (j : Int)) : (List.range (R * C)).countP (fun i => whB t i && nextB R C t dn i && !prevB C t dn i) = (List.range (R * C)).countP (fun i => whB s i && prevB C s dn i && !nextB R C s dn i) := by
  refine countP_back _ _ _ fun i hi => ?_
  have hb : ∀ j, j < R * C → bt t (j : Int) = bt s ((R * C - 1 - j : Nat) : Int) := fun j hj => by
    have := ht (R * C - 1 - j) (by omega)
    rw [show R * C - 1 - (R * C - 1 - j) = j by omega] at this
    exact this
  have hi2 : R * C - 1 - i < R * C := by omega
  have ha := at_back (dn := dn) h0 hi
  have h1 := at_step (dn := dn) h0 hi
  have h2 := at_step (dn := dn) h0 hi2
  have e1 : whB t i = whB s (R * C - 1 - i) := by
    unfold whB
    rw [hb i hi]
  have e2 : nextB R C t dn i = prevB C s dn (R * C - 1 - i) := by
    unfold nextB prevB
    by_cases hn : atM C dn i + 1 < mostM R C dn
    · have h3 := (h1.1 hn).1
      rw [decide_eq_true hn, decide_eq_true (show 0 < atM C dn (R * C - 1 - i) by omega), hb _ h3, show R * C - 1 - (i + stepM C dn) = R * C - 1 - i - stepM C dn by omega]
    · rw [decide_eq_false hn, decide_eq_false (show ¬ 0 < atM C dn (R * C - 1 - i) by omega), Bool.false_and, Bool.false_and]
  have e3 : prevB C t dn i = nextB R C s dn (R * C - 1 - i) := by
    unfold nextB prevB
    by_cases hn : 0 < atM C dn i
    · have h3 := (h1.2.1 hn).1
      rw [decide_eq_true hn, decide_eq_true (show atM C dn (R * C - 1 - i) + 1 < mostM R C dn by omega), hb _ (by omega), show R * C - 1 - (i - stepM C dn) = R * C - 1 - i + stepM C dn by omega]
    · rw [decide_eq_false hn, decide_eq_false (show ¬ atM C dn (R * C - 1 - i) + 1 < mostM R C dn by omega), Bool.false_and, Bool.false_and]
  simp only [e1, e2, e3]
/-- A grid and its mirror have as many slots. -/
theorem slots_back {R C : Nat} {s t : ByteArray} (h0 : 0 < C) (ht : ∀ j, j < R * C → bt t ((R * C - 1 - j : Nat) : Int) = bt s (j : Int)) (n m : Int) : (slotsGo R C t (List.range' 0 (R * C)) n).length = (slotsGo R C s (List.range' 0 (R * C)) m).length := by
  rw [slotsGo_count, slotsGo_count, ← List.range_eq_range', back_heads false h0 ht, back_heads true h0 ht, heads_tails s false h0, heads_tails s true h0]

/-! ### athas -/
theorem atGo_has {C : Nat} {cell : Int} : ∀ {l : List ISlot} {k : Nat} (i : Nat) (h : k < l.length), cell ∈ cellsM C l[k] → ((i + k : Nat) : Int) ∈ atGo C cell l i
  | [], _, _, h, _ => by simp at h
  | x :: l, 0, i, _, hc => by
    have hc : cell ∈ cellsM C x := hc
    unfold atGo
    rw [if_pos hc, Nat.add_zero]
    exact List.mem_cons_self
  | x :: l, k + 1, i, h, hc => by
    have := atGo_has (i + 1) (by simpa using h : k < l.length) hc
    rw [show i + (k + 1) = i + 1 + k by omega]
    unfold atGo
    split
    · exact List.mem_cons_of_mem _ this
    · exact this
theorem slotsAtM_has {r c : Int} {s : ByteArray} {cell : Int} {k : Nat} (h : k < (slotsM r c s).length) (hc : cell ∈ cellsM c.toNat (slotsM r c s)[k]) : (k : Int) ∈ slotsAtM r c s cell := by
  have := atGo_has 0 h hc
  rwa [Nat.zero_add] at this

/-! ### longest -/
def longM : Int → List ISlot → Int
  | n, [] => n
  | n, x :: l => longM (if n < x.f3 then x.f3 else n) l
theorem impl_LongestSlot_l0_ev (l : List ISlot) (hl : l.length ≤ 1048576) : ∀ i : Nat, i ≤ l.length → ∀ n : Int, Ev (fun k => impl_LongestSlot.l0 k n l l.length i) (longM n (l.drop i)) := by
  refine down l.length ?_ ?_
  · intro i h hi n
    apply ev_succ
    simp only [impl_LongestSlot.l0]
    exact ev_neg (by omega) (ev_now (by rw [List.drop_eq_nil_of_le h]; rfl))
  · intro i h ih hi n
    apply ev_succ
    simp only [impl_LongestSlot.l0, mx]
    rw [rd_Slot_get h, wrap64_id (n := (i : Int) + 1) (by omega) (by omega), succ_cast, List.drop_eq_getElem_cons h]
    exact ev_pos (by omega) (ev_pos (by omega) (ev_pos (by omega) (ih (by omega) _)))
theorem impl_LongestSlot_ev (r c : Int) (s : ByteArray) (hs : s.size ≤ 1048576) : Ev (fun k => impl_LongestSlot.f k r c s) (longM 0 (slotsM r c s)) := by
  unfold impl_LongestSlot.f
  have hl := slotsM_length r c s
  exact ev_bind (impl_SlotsOf_ev r c s hs) (by simpa using impl_LongestSlot_l0_ev (slotsM r c s) (by omega) 0 (by omega) 0)

/-! ### fnforms -/
/-! Parts are kept by a half turn. -/
theorem Con.left {R C : Nat} {s : ByteArray} {i j : Nat} (h : Con R C s i j) : i < R * C ∧ bt s i = 46 := by
  induction h with
  | here h1 h2 => exact ⟨h1, h2⟩
  | next _ _ _ _ ih => exact ih
theorem Con.right {R C : Nat} {s : ByteArray} {i j : Nat} (h : Con R C s i j) : j < R * C ∧ bt s j = 46 := by
  cases h with
  | here h1 h2 => exact ⟨h1, h2⟩
  | next _ _ h3 h4 => exact ⟨h3, h4⟩
theorem Con.trans {R C : Nat} {s : ByteArray} {i j k : Nat} (h1 : Con R C s i j) (h2 : Con R C s j k) : Con R C s i k := by
  induction h2 with
  | here _ _ => exact h1
  | next _ h3 h4 h5 ih => exact .next ih h3 h4 h5
theorem Con.symm {R C : Nat} {s : ByteArray} {i j : Nat} (h : Con R C s i j) : Con R C s j i := by
  induction h with
  | here h1 h2 => exact .here h1 h2
  | next _ h2 h3 h4 ih => exact Con.head h3 h4 h2.symm ih
/-- The first cell of its part; the last one below n. -/
noncomputable def headC (E : Nat → Nat → Prop) (i : Nat) : Bool := @decide (E i i ∧ ∀ j, j < i → ¬ E j i) (Classical.propDecidable _)
noncomputable def tailC (E : Nat → Nat → Prop) (n i : Nat) : Bool := @decide (E i i ∧ ∀ j, i < j → j < n → ¬ E j i) (Classical.propDecidable _)
theorem headC_iff {E : Nat → Nat → Prop} {i : Nat} : headC E i = true ↔ E i i ∧ ∀ j, j < i → ¬ E j i := by
  unfold headC
  exact @decide_eq_true_iff _ (Classical.propDecidable _)
theorem tailC_iff {E : Nat → Nat → Prop} {n i : Nat} : tailC E n i = true ↔ E i i ∧ ∀ j, i < j → j < n → ¬ E j i := by
  unfold tailC
  exact @decide_eq_true_iff _ (Classical.propDecidable _)
theorem bool_same {a b : Bool} (h : a = true ↔ b = true) : a = b := by
  cases a <;> cases b <;> simp at h <;> rfl
theorem countP_one {p q : Nat → Bool} {i0 : Nat} (hp : p i0 = true) (hq : q i0 = false) : ∀ n : Nat, i0 < n → (∀ i, i < n → i ≠ i0 → p i = q i) → (List.range n).countP p = (List.range n).countP q + 1
  | 0, h, _ => by omega
  | n + 1, h, he => by
    rw [List.range_succ, List.countP_append, List.countP_append, List.countP_singleton, List.countP_singleton]
    by_cases hn : i0 = n
    · subst hn
      rw [hp, hq, countP_ext (p := p) (q := q) fun i hi => he i (by rw [List.mem_range] at hi; omega) (by rw [List.mem_range] at hi; omega)]
      simp
    · rw [countP_one hp hq n (by omega) fun i hi hne => he i (by omega) hne, he n (by omega) (by omega)]
      omega
theorem last_of {P : Nat → Prop} : ∀ n : Nat, (∃ j, j < n ∧ P j) → ∃ i, i < n ∧ P i ∧ ∀ j, i < j → j < n → ¬ P j
  | 0, ⟨j, h, _⟩ => by omega
  | n + 1, ⟨j, h, hp⟩ => by
    by_cases hn : P n
    · exact ⟨n, by omega, hn, fun j h1 h2 => by omega⟩
    · have hj : j < n := by
        rcases Nat.lt_or_ge j n with h2 | h2
        · exact h2
        · have : j = n := by omega
          subst this
          exact absurd hp hn
      obtain ⟨i, h1, h2, h3⟩ := last_of n ⟨j, hj, hp⟩
      refine ⟨i, by omega, h2, fun k h4 h5 => ?_⟩
      by_cases hk : k = n
      · subst hk
        exact hn
      · exact h3 k h4 (by omega)
/-- As many first cells as last ones. -/
theorem heads_lasts {E : Nat → Nat → Prop} (hs : ∀ i j, E i j → E j i) (ht : ∀ i j k, E i j → E j k → E i k) : ∀ n : Nat, (List.range n).countP (headC E) = (List.range n).countP (tailC E n)
  | 0 => rfl
  | n + 1 => by
    have ih := heads_lasts hs ht n
    rw [List.range_succ, List.countP_append, List.countP_append, List.countP_singleton, List.countP_singleton, ih]
    by_cases hnn : E n n
    · have htl : tailC E (n + 1) n = true := tailC_iff.2 ⟨hnn, fun j h1 h2 => by omega⟩
      rw [htl]
      by_cases hex : ∃ j, j < n ∧ E j n
      · have hhd : headC E n = false := by
          rw [Bool.eq_false_iff]
          intro h
          obtain ⟨j, h1, h2⟩ := hex
          exact (headC_iff.1 h).2 j h1 h2
        obtain ⟨i0, h1, h2, h3⟩ := last_of n hex
        have e := countP_one (p := tailC E n) (q := tailC E (n + 1)) (i0 := i0) (tailC_iff.2 ⟨ht _ _ _ h2 (hs _ _ h2), fun j h4 h5 h6 => h3 j h4 h5 (ht _ _ _ h6 h2)⟩) (by
          rw [Bool.eq_false_iff]
          intro h
          exact (tailC_iff.1 h).2 n h1 (by omega) (hs _ _ h2)) n h1 (fun i hi hne => bool_same (by
            rw [tailC_iff, tailC_iff]
            constructor
            · rintro ⟨h4, h5⟩
              refine ⟨h4, fun j h6 h7 h8 => ?_⟩
              by_cases hj : j = n
              · subst hj
                rcases Nat.lt_or_gt_of_ne hne with h9 | h9
                · exact h5 i0 h9 h1 (ht _ _ _ h2 h8)
                · exact h3 i h9 hi (hs _ _ h8)
              · exact h5 j h6 (by omega) h8
            · rintro ⟨h4, h5⟩
              exact ⟨h4, fun j h6 h7 => h5 j h6 (by omega)⟩))
        rw [hhd, e]
        simp
      · have hhd : headC E n = true := headC_iff.2 ⟨hnn, fun j h1 h2 => hex ⟨j, h1, h2⟩⟩
        rw [hhd, countP_ext (p := tailC E n) (q := tailC E (n + 1)) fun i hi => bool_same (by
          rw [List.mem_range] at hi
          rw [tailC_iff, tailC_iff]
          constructor
          · rintro ⟨h4, h5⟩
            refine ⟨h4, fun j h6 h7 h8 => ?_⟩
            by_cases hj : j = n
            · subst hj
              exact hex ⟨i, hi, hs _ _ h8⟩
            · exact h5 j h6 (by omega) h8
          · rintro ⟨h4, h5⟩
            exact ⟨h4, fun j h6 h7 => h5 j h6 (by omega)⟩)]
    · have htl : tailC E (n + 1) n = false := by
        rw [Bool.eq_false_iff]
        intro h
        exact hnn (tailC_iff.1 h).1
      have hhd : headC E n = false := by
        rw [Bool.eq_false_iff]
        intro h
        exact hnn (headC_iff.1 h).1
      rw [htl, hhd, countP_ext (p := tailC E n) (q := tailC E (n + 1)) fun i hi => bool_same (by
        rw [List.mem_range] at hi
        rw [tailC_iff, tailC_iff]
        constructor
        · rintro ⟨h4, h5⟩
          refine ⟨h4, fun j h6 h7 h8 => ?_⟩
          by_cases hj : j = n
          · subst hj
            exact hnn (ht _ _ _ h8 (hs _ _ h8))
          · exact h5 j h6 (by omega) h8
        · rintro ⟨h4, h5⟩
          exact ⟨h4, fun j h6 h7 => h5 j h6 (by omega)⟩)]
theorem seen_heads {R C : Nat} {s : ByteArray} (h0 : 0 < C) (hs : s.size = R * C) : ∀ (d i : Nat) (m : List Bool) (k : Nat), i + d = s.size → m.length = s.size → (∀ x, mkd m x ↔ ∃ j, j < i ∧ Con R C s j x) →
    seenGo C s (List.range' i d) m k = k + (List.range' i d).countP (headC (Con R C s))
  | 0, _, _, _, _, _, _ => rfl
  | d + 1, i, m, k, hid, hm, hmk => by
    rw [List.range'_succ, List.countP_cons]
    unfold seenGo
    by_cases hc : bt s i = 46 ∧ m.getD i false = false
    · rw [if_pos hc]
      have ho : (oneM s i).count false < s.size + 1 := by
        have := List.count_le_length (a := false) (l := oneM s i)
        rw [oneM_length] at this
        omega
      obtain ⟨r1, r2⟩ := reach_con (R := R) h0 (by omega) hc.1 ((oneM_length s i).trans hs) (oneM_iff (by omega)) (s.size + 1) ho
      have hh : headC (Con R C s) i = true := by
        refine headC_iff.2 ⟨.here (by omega) hc.1, fun j hj hcon => ?_⟩
        have := (hmk i).2 ⟨j, hj, hcon⟩
        unfold mkd at this
        rw [hc.2] at this
        cases this
      rw [hh, seen_heads h0 hs d (i + 1) _ (k + 1) (by omega) (by unfold bothM; rw [List.length_zipWith, r1]; omega) (fun x => by
        rw [mkd_or (by omega), r2, hmk]
        constructor
        · rintro (⟨j, h1, h2⟩ | h)
          · exact ⟨j, by omega, h2⟩
          · exact ⟨i, by omega, h⟩
        · rintro ⟨j, h1, h2⟩
          by_cases hj : j = i
          · subst hj
            exact .inr h2
          · exact .inl ⟨j, by omega, h2⟩)]
      simp
      omega
    · rw [if_neg hc]
      have hh : headC (Con R C s) i = false := by
        rw [Bool.eq_false_iff]
        intro h
        obtain ⟨h1, h2⟩ := headC_iff.1 h
        refine hc ⟨h1.left.2, ?_⟩
        rw [Bool.eq_false_iff]
        intro h3
        obtain ⟨j, h4, h5⟩ := (hmk i).1 h3
        exact h2 j h4 h5
      rw [hh, seen_heads h0 hs d (i + 1) m k (by omega) hm (fun x => by
        rw [hmk]
        constructor
        · rintro ⟨j, h1, h2⟩
          exact ⟨j, by omega, h2⟩
        · rintro ⟨j, h1, h2⟩
          by_cases hj : j = i
          · subst hj
            rw [Bool.eq_false_iff] at hh
            have hne : ¬ ∀ q, q < j → ¬ Con R C s q j := fun hall => hh (headC_iff.2 ⟨.here h2.left.1 h2.left.2, hall⟩)
            by_cases hq : ∃ q, q < j ∧ Con R C s q j
            · obtain ⟨q, h3, h4⟩ := hq
              exact ⟨q, h3, h4.trans h2⟩
            · exact absurd (fun q h3 h4 => hq ⟨q, h3, h4⟩) hne
          · exact ⟨j, by omega, h2⟩)]
      simp
theorem parts_heads {R C : Nat} {s : ByteArray} (hg : gridM (R : Int) (C : Int) s = true) (h0 : 0 < C) (hs : s.size = R * C) : partsM (R : Int) (C : Int) s = (List.range (R * C)).countP (headC (Con R C s)) := by
  unfold partsM
  rw [if_pos hg, Int.toNat_natCast, seen_heads h0 hs s.size 0 _ 0 (by omega) (by simp) (fun x => ?_), Nat.zero_add, ← List.range_eq_range', hs]
  constructor
  · intro h
    unfold mkd at h
    simp only [List.getD_eq_getElem?_getD, List.getElem?_replicate] at h
    split at h <;> simp at h
  · rintro ⟨j, h, _⟩
    omega
theorem Nb_back {R C i j : Nat} (h0 : 0 < C) (hi : i < R * C) (hj : j < R * C) (h : Nb C i j) : Nb C (R * C - 1 - i) (R * C - 1 - j) := by
  have a1 := at_back (dn := true) h0 hi
  have a2 := at_back (dn := false) h0 hi
  have b1 := at_back (dn := true) h0 hj
  have b2 := at_back (dn := false) h0 hj
  simp only [atM, mostM, if_true, Bool.false_eq_true, if_false] at a1 a2 b1 b2
  unfold Nb at *
  omega
theorem con_back {R C : Nat} {s t : ByteArray} (h0 : 0 < C) (ht : ∀ j, j < R * C → bt t ((R * C - 1 - j : Nat) : Int) = bt s (j : Int)) {i j : Nat} (h : Con R C s i j) : Con R C t (R * C - 1 - i) (R * C - 1 - j) := by
  induction h with
  | here h1 h2 => exact .here (by omega) (by rw [ht _ h1]; exact h2)
  | next h1 h2 h3 h4 ih => exact .next ih (Nb_back h0 h1.right.1 h3 h2) (by omega) (by rw [ht _ h3]; exact h4)
theorem parts_back {r c : Int} {s : ByteArray} (hg : gridM r c s = true) : partsM r c (backM s) = partsM r c s := by
  have h36 := grid_size36 hg
  have hb := back_grid hg
  have hz := back_size (w := s) (by omega)
  obtain ⟨R, C, rfl, rfl, h1, h2, h3, h4, h5⟩ := gridM_nat hg
  have ht : ∀ j, j < R * C → bt (backM s) ((R * C - 1 - j : Nat) : Int) = bt s (j : Int) := fun j hj => by
    have := back_bt (s := s) (by omega) (j := j) (by omega)
    rw [h5] at this
    exact this
  have ht2 : ∀ j, j < R * C → bt s ((R * C - 1 - j : Nat) : Int) = bt (backM s) (j : Int) := fun j hj => by
    have := ht (R * C - 1 - j) (by omega)
    rw [show R * C - 1 - (R * C - 1 - j) = j by omega] at this
    exact this.symm
  rw [parts_heads hb (by omega) (hz.trans h5), parts_heads hg (by omega) h5, heads_lasts (E := Con R C s) (fun _ _ h => h.symm) (fun _ _ _ h1 h2 => h1.trans h2)]
  refine countP_back _ _ _ fun i hi => bool_same ?_
  rw [headC_iff, tailC_iff]
  constructor
  · rintro ⟨q1, q2⟩
    refine ⟨con_back (by omega) ht2 q1, fun j q3 q4 q5 => ?_⟩
    have := con_back (by omega) ht q5
    rw [show R * C - 1 - (R * C - 1 - i) = i by omega] at this
    exact q2 _ (by omega) this
  · rintro ⟨q1, q2⟩
    have := con_back (by omega) ht q1
    rw [show R * C - 1 - (R * C - 1 - i) = i by omega] at this
    exact ⟨this, fun j q3 q4 => q2 _ (by omega) (by omega) (con_back (by omega) ht2 q4)⟩
/-! The right form. -/
theorem looseGo_all {r c : Int} {s : ByteArray} : ∀ {l : List ISlot} {i : Nat}, looseGo r c s l i = false → ∀ j : Nat, ∀ h : j < l.length, 2 * uncheckedM r c s ((i + j : Nat) : Int) ≤ l[j].f3
  | [], _, _, j, h => by simp at h
  | x :: l, i, hl, 0, h => by
    unfold looseGo at hl
    rw [Bool.or_eq_false_iff, decide_eq_false_iff_not] at hl
    have := hl.1
    rw [Nat.add_zero]
    show 2 * uncheckedM r c s (i : Int) ≤ x.f3
    omega
  | x :: l, i, hl, j + 1, h => by
    unfold looseGo at hl
    rw [Bool.or_eq_false_iff] at hl
    have := looseGo_all hl.2 j (by simpa using h)
    rw [show i + (j + 1) = i + 1 + j by omega]
    exact this
theorem form_fine {r c : Int} {s : ByteArray} (h : formM r c s = 0) : gridM r c s = true ∧ symM r c s = true ∧ partsM r c s = 1 ∧ shortM r c s = false ∧ looseGo r c s (slotsM r c s) 0 = false ∧ lonelyM r c s = false := by
  unfold formM at h
  by_cases h1 : gridM r c s = true
  · rw [if_pos h1] at h
    by_cases h2 : symM r c s = true
    · rw [if_pos h2] at h
      by_cases h3 : partsM r c s = 1
      · rw [if_pos h3] at h
        by_cases h4 : shortM r c s = true
        · rw [if_pos h4] at h
          omega
        · rw [if_neg h4] at h
          by_cases h5 : looseGo r c s (slotsM r c s) 0 = true
          · rw [if_pos h5] at h
            omega
          · rw [if_neg h5] at h
            by_cases h6 : lonelyM r c s = true
            · rw [if_pos h6] at h
              omega
            · exact ⟨h1, h2, h3, by simpa using h4, by simpa using h5, by simpa using h6⟩
      · rw [if_neg h3] at h
        omega
    · rw [if_neg h2] at h
      omega
  · rw [if_neg h1] at h
    omega
theorem cntL_pos {r c : Int} {s : ByteArray} : ∀ {l : List Int}, 0 < cntL r c s l → ∃ y ∈ l, checkedM r c s y = true
  | [], h => by simp [cntL] at h
  | y :: l, h => by
    by_cases hc : checkedM r c s y = true
    · exact ⟨y, by simp, hc⟩
    · unfold cntL at h
      rw [if_neg hc, Nat.zero_add] at h
      obtain ⟨z, h1, h2⟩ := cntL_pos h
      exact ⟨z, List.mem_cons_of_mem _ h1, h2⟩
/-- In a grid of the right form each slot is long enough, holds a crossed cell, and not too many others. -/
theorem fine_slot {r c : Int} {s : ByteArray} (h : formM r c s = 0) {j : Nat} (hj : j < (slotsM r c s).length) : 3 ≤ (slotsM r c s)[j].f3 ∧ 2 * uncheckedM r c s (j : Int) ≤ (slotsM r c s)[j].f3 ∧ ∃ y ∈ cellsM c.toNat (slotsM r c s)[j], checkedM r c s y = true := by
  obtain ⟨hg, _, _, h4, h5, _⟩ := form_fine h
  have h3 : 3 ≤ (slotsM r c s)[j].f3 := by
    unfold shortM at h4
    rw [List.any_eq_false] at h4
    have := h4 _ (List.getElem_mem hj)
    rw [decide_eq_true_eq] at this
    omega
  have hl := looseGo_all h5 j hj
  rw [Nat.zero_add] at hl
  refine ⟨h3, hl, cntL_pos ?_⟩
  have hU := cntL_U r c s (cellsM c.toNat (slotsM r c s)[j])
  rw [cellsM_length] at hU
  have hu : uncheckedM r c s (j : Int) = (countU r c s (cellsM c.toNat (slotsM r c s)[j]) : Int) := by
    unfold uncheckedM
    rw [if_pos ⟨by omega, by omega⟩, Int.toNat_natCast]
    have : (slotsM r c s).getD j ⟨0, false, 0, 0⟩ = (slotsM r c s)[j] := by simp [hj]
    rw [this]
  omega
theorem crossGo_has {r c : Int} {s : ByteArray} {i : Nat} {h1 h2 : Int × Int} (hh : holdM r c s (i : Int) = [h1, h2]) : ∀ {l : List Nat}, i ∈ l → (⟨h1.1, h2.1, h1.2, h2.2, i⟩ : ICross) ∈ crossGo r c s l
  | [], h => by cases h
  | j :: l, h => by
    unfold crossGo
    rcases List.mem_cons.1 h with h | h
    · subst h
      rw [hh]
      exact List.mem_append_left _ (by simp [crossOne])
    · exact List.mem_append_right _ (crossGo_has hh h)
/-- A slot with a crossed cell is crossed by a slot. -/
theorem crossed_some {r c : Int} {s : ByteArray} (hg : gridM r c s = true) {j : Nat} (hj : j < (slotsM r c s).length) {y : Int} (hy : y ∈ cellsM c.toNat (slotsM r c s)[j]) (hc : checkedM r c s y = true) : (crossedM r c s (j : Int)).length ≠ 0 := by
  obtain ⟨i, hi, rfl⟩ := (slot_cells (List.getElem_mem hj)).2 y hy
  have hm := slotsAtM_has hj hy
  unfold checkedM at hc
  rw [decide_eq_true_eq] at hc
  have hl : (holdM r c s (i : Int)).length = 2 := by rw [holdM_at, List.length_map] at hc; exact hc
  rw [holdM_at] at hm
  match hh : holdM r c s (i : Int) with
  | [] => rw [hh] at hl; simp at hl
  | [_] => rw [hh] at hl; simp at hl
  | _ :: _ :: _ :: _ => rw [hh] at hl; simp at hl
  | [h1, h2] =>
    have he : (⟨h1.1, h2.1, h1.2, h2.2, i⟩ : ICross) ∈ crossM r c s := by
      unfold crossM
      rw [if_pos hg]
      exact crossGo_has hh (by rw [List.mem_range']; exact ⟨i, by omega, by omega⟩)
    obtain ⟨b1, b2⟩ := byGo_has he
    rw [hh] at hm
    have : ∃ z, z ∈ crossedM r c s (j : Int) := by
      simp only [List.map_cons, List.map_nil, List.mem_cons, List.not_mem_nil, or_false] at hm
      rcases hm with hm | hm
      · rw [hm]
        exact ⟨_, crossed_has b1⟩
      · rw [hm]
        exact ⟨_, crossed_has b2⟩
    obtain ⟨z, hz⟩ := this
    exact fun h0 => by rw [List.length_eq_zero_iff.1 h0] at hz; cases hz
theorem longM_ge : ∀ (l : List ISlot) (n : Int), n ≤ longM n l ∧ ∀ x ∈ l, x.f3 ≤ longM n l
  | [], n => ⟨Int.le_refl _, fun _ h => by cases h⟩
  | x :: l, n => by
    unfold longM
    obtain ⟨h1, h2⟩ := longM_ge l (if n < x.f3 then x.f3 else n)
    have h3 : n ≤ (if n < x.f3 then x.f3 else n) ∧ x.f3 ≤ (if n < x.f3 then x.f3 else n) := by split <;> omega
    refine ⟨by omega, fun y hy => ?_⟩
    rcases List.mem_cons.1 hy with h | h
    · subst h
      omega
    · exact h2 y h
/-- A grid of the right form has two slots or more. -/
theorem fine_two {r c : Int} {s : ByteArray} (h : formM r c s = 0) : 2 ≤ (slotsM r c s).length := by
  obtain ⟨hg, _, h3, _, _, h6⟩ := form_fine h
  obtain ⟨R, C, rfl, rfl, g1, g2, g3, g4, g5⟩ := gridM_nat hg
  rw [parts_heads hg (by omega) g5] at h3
  obtain ⟨i, hi, hh⟩ := List.countP_pos_iff.1 (show 0 < (List.range (R * C)).countP (headC (Con R C s)) by omega)
  rw [List.mem_range] at hi
  have hw := (headC_iff.1 hh).1.left.2
  unfold lonelyM at h6
  rw [List.any_eq_false] at h6
  have h7 := h6 i (by rw [List.mem_range']; exact ⟨i, by omega, by omega⟩)
  rw [decide_eq_true hw, Bool.true_and, decide_eq_true_eq] at h7
  have hle := atGo_length (C : Int).toNat (i : Int) (slotsM (R : Int) (C : Int) s) 0
  have h8 : 0 < (slotsM (R : Int) (C : Int) s).length := by
    unfold slotsAtM at h7
    omega
  obtain ⟨_, _, y, _, hy⟩ := fine_slot h h8
  have hle2 := atGo_length (C : Int).toNat y (slotsM (R : Int) (C : Int) s) 0
  unfold checkedM slotsAtM at hy
  rw [decide_eq_true_eq] at hy
  omega

/-! ### the law -/
theorem forms_loop {r c : Int} {s : ByteArray} (hs : s.size ≤ 100) (hf : formM r c s = 0) : ∀ (l : List ISlot) (i : Nat), (slotsM r c s).drop i = l → Ev (fun k => fgGo k r c s l i) true := by
  obtain ⟨hg, _⟩ := form_fine hf
  intro l
  induction l with
  | nil => intro i _; exact ev_now rfl
  | cons x l ih =>
    intro i hi
    have h : i < (slotsM r c s).length := by
      rcases Nat.lt_or_ge i (slotsM r c s).length with h2 | h2
      · exact h2
      · rw [List.drop_eq_nil_of_le h2] at hi
        cases hi
    obtain ⟨h3, h4, y, hy, hc⟩ := fine_slot hf h
    have hub := uncheckedM_bound r c s (i : Int)
    have hcr := crossed_some hg h hy hc
    have hlo := (longM_ge (slotsM r c s) 0).2 _ (List.getElem_mem h)
    obtain ⟨R, C, rfl, rfl, g1, g2, g3, g4, g5, _, hk⟩ := slotsM_ok (List.getElem_mem h)
    have hb := okSlot_bounds g2 g4 hk
    rw [List.drop_eq_getElem_cons h] at hi
    obtain ⟨hx, hl⟩ := List.cons.inj hi
    rw [hx] at h3 h4 hlo hb
    simp only [fgGo_cons]
    exact ev_bind (impl_UncheckedIn_ev _ _ s (i : Int) (by omega)) (ev_bind (impl_CrossedBy_ev _ _ s (i : Int) (by omega)) (ev_bind (impl_LongestSlot_ev _ _ s (by omega)) (ev_pos ⟨⟨h3, by omega⟩, ⟨hub.1, h4⟩, by omega, hlo⟩ (ih (i + 1) hl))))
theorem forms_h {r c : Int} {s : ByteArray} (hs : s.size ≤ 100) : Ev (fun k => laws_FnForms.h k r c s (formM r c s)) true := by
  unfold laws_FnForms.h
  by_cases hf : formM r c s = 0
  · have h72 := slotsM_length r c s
    have h2 := fine_two hf
    obtain ⟨hg, hsy, _⟩ := form_fine hf
    have hbk : backM s = s := by
      unfold symM at hsy
      rw [Bool.and_eq_true, decide_eq_true_eq] at hsy
      exact hsy.2
    have e1 := impl_TurnGrid_ev r c s (by omega)
    rw [show turnM r c s = (r, c, s) by unfold turnM; rw [if_pos hg, hbk]] at e1
    have e2 := impl_FormOf_ev r c s (by omega)
    rw [hf] at e2
    have e3 := impl_IsSymmetric_ev r c s (by omega)
    rw [hsy] at e3
    exact ev_pos hf (ev_bind (impl_SlotsOf_ev r c s (by omega)) (ev_bind (forms_loop hs hf _ 0 (List.drop_zero ..)) (ev_bind e3 (ev_bind e1 (ev_bind e2 (ev_pos ⟨rfl, rfl, rfl, h2, by omega⟩ (ev_now rfl)))))))
  · exact ev_neg hf (ev_now rfl)
theorem formM_bound (r c : Int) (s : ByteArray) : formM r c s = 0 ∨ formM r c s = 1 ∨ formM r c s = 2 ∨ formM r c s = 3 ∨ formM r c s = 4 ∨ formM r c s = 5 := by
  unfold formM
  repeat' split
  all_goals simp
theorem FnForms : laws_FnForms.Pure := by
  intro l _ _ _
  apply Ev.rounds
  unfold laws_FnForms.f
  refine ev_let (laws_big_eq l) ?_
  by_cases hb : (l.length : Int) > 1048576
  · exact ev_pos (decide_eq_true hb) (ev_now rfl)
  · have hl : l.length ≤ 1048576 := by omega
    obtain ⟨r, c, s, hd0, hs⟩ := spec_DrawIsGrid_ev l hl
    have hd : Ev (fun k => spec_DrawFormOf.f k l) (r, c, s) := by
      unfold spec_DrawFormOf.f
      first | exact hd0 | exact ev_bind hd0 (ev_now rfl)
    have hfn : ∃ nm : ByteArray, impl_FormName.f (formM r c s) = some nm ∧ ¬ nm = ⟨#[]⟩ := by
      have hx : ∀ nm : ByteArray, nm.data.toList ≠ [] → ¬ nm = ⟨#[]⟩ := fun nm h1 h2 => h1 (by rw [h2])
      rcases formM_bound r c s with h | h | h | h | h | h <;> rw [h] <;> exact ⟨_, rfl, hx _ (by decide)⟩
    obtain ⟨nm, hn1, hn2⟩ := hfn
    have hj := forms_h (r := r) (c := c) hs
    have hbs := back_size (w := s) hs
    have htu := impl_TurnGrid_ev r c s (by omega)
    have htz : (turnM r c s).2.2.size ≤ 1048576 := by
      unfold turnM
      split
      · show (backM s).size ≤ 1048576
        omega
      · show (0 : Nat) ≤ 1048576
        omega
    refine ev_neg (by simpa using hb) (ev_bind hd ?_)
    unfold laws_FnForms.g
    refine ev_bind (impl_FormOf_ev r c s (by omega)) (ev_let hn1 (ev_bind (impl_IsConnected_ev r c s (by omega)) (ev_bind (impl_PartsOf_ev r c s (by omega)) (ev_bind (impl_IsGrid_ev r c s (by omega)) (ev_bind htu (ev_bind (impl_PartsOf_ev _ _ _ htz) (ev_pos ⟨hn2, ?_, ?_⟩ hj)))))))
    · by_cases hp : partsM r c s = 1
      · rw [decide_eq_true hp, hp]
        rfl
      · rw [decide_eq_false hp, eq_comm, beq_eq_false_iff_ne]
        omega
    · intro hg
      unfold turnM
      rw [if_pos hg, parts_back hg]

end Go.Proofs.Ytodcckiphdnjeab.Pure
