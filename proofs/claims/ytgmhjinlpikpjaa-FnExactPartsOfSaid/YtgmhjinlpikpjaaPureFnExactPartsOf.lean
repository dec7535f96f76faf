/-
  The law FnExactPartsOf over numbers: the program and the reference count the parts of every grid alike.
  Conditions: none.
-/
import Derived.Test.YtgmhjinlpikpjaaQFnExactPartsOfx
namespace Go.Proofs.Ytgmhjinlpikpjaa.Pure
open Go.RowKit Go.Proofs.Ytgmhjinlpikpjaa.QFnExactPartsOf Go.Proofs.YtgmhjinlpikpjaaW.PrintWords Go.Proofs.YtgmhjinlpikpjaaW.PrintLast Go.Proofs.YtgmhjinlpikpjaaW.PrintMore
set_option linter.unusedVariables false
set_option linter.unusedSimpArgs false

/-! ### base -/
theorem wrap64_id {n : Int} (h : -9223372036854775808 ≤ n) (h' : n ≤ 9223372036854775807) : wrap64 n = n := by
  unfold wrap64
  omega
section
variable {α β : Type}
theorem ev_succ {g : Nat → Option α} {r : α} (h : Ev (fun k => g (k + 1)) r) : Ev g r := Ev.step (fun _ => rfl) h
theorem ev_pos {c : Prop} [Decidable c] {g f : Nat → Option α} {r : α} (h : c) (k : Ev g r) : Ev (fun n => if c then g n else f n) r := by
  simpa only [if_pos h] using k
theorem ev_neg {c : Prop} [Decidable c] {g f : Nat → Option α} {r : α} (h : ¬ c) (k : Ev f r) : Ev (fun n => if c then g n else f n) r := by
  simpa only [if_neg h] using k
theorem ev_now {a r : α} (h : a = r) : Ev (fun _ => some a) r := h ▸ Ev.now a
theorem ev_let {o : Option β} {a : β} {f : Nat → β → Option α} {r : α} (h : o = some a) (k : Ev (fun n => f n a) r) : Ev (fun n => o.bind (f n)) r := by
  subst h
  exact k
theorem ev_bind {g : Nat → Option β} {f : Nat → β → Option α} {a : β} {r : α} (h : Ev g a) (k : Ev (fun n => f n a) r) : Ev (fun n => (g n).bind (f n)) r := Ev.bind h k
theorem ev_eq {g : Nat → Option α} {a r : α} (h : Ev g a) (e : a = r) : Ev g r := e ▸ h
end
/-- From the end of a loop back to a round: P holds from n on, and a round below n may use the next. -/
theorem down {P : Nat → Prop} (n : Nat) (hend : ∀ i, n ≤ i → P i) (hstep : ∀ i, i < n → P (i + 1) → P i) : ∀ i, P i := by
  intro i
  rcases Nat.lt_or_ge i n with h | h
  · obtain ⟨d, hd⟩ : ∃ d, n = i + d := ⟨n - i, by omega⟩
    induction d generalizing i with
    | zero => omega
    | succ d ih =>
      refine hstep i h ?_
      rcases Nat.lt_or_ge (i + 1) n with h1 | h1
      · exact ih (i + 1) h1 (by omega)
      · exact hend _ h1
  · exact hend i h
theorem range_cons {i n : Nat} (h : i < n) : List.range' i (n - i) = i :: List.range' (i + 1) (n - (i + 1)) := by
  obtain ⟨d, hd⟩ : ∃ d, n - i = d + 1 := ⟨n - i - 1, by omega⟩
  rw [hd, List.range'_succ, show n - (i + 1) = d by omega]
theorem range_nil {i n : Nat} (h : n ≤ i) : List.range' i (n - i) = [] := by
  rw [show n - i = 0 by omega]
  rfl
theorem succ_cast (i : Nat) : ((i : Int) + 1) = ((i + 1 : Nat) : Int) := by omega

/-! ### lists -/
theorem rdOf_get {α : Type} {d : α} {l : List α} {i : Nat} (h : i < l.length) : rdOf d l (i : Int) = l[i] := by
  unfold rdOf
  simp [h]
theorem rd_get {l : List Int} {i : Nat} (h : i < l.length) : rd l (i : Int) = l[i] := by
  unfold rd
  simp [h]
theorem toList_eq (s : ByteArray) : s.toList = s.data.toList := Go.ByteArray.toList_eq s
instance lawfulBA : LawfulBEq ByteArray where
  eq_of_beq {a b} h := ByteArray.ext (eq_of_beq (α := Array UInt8) h)
  rfl {a} := by
    show (a.data == a.data) = true
    simp
theorem toList_inj {a b : ByteArray} : a.toList = b.toList ↔ a = b := by
  constructor
  · intro h
    rw [toList_eq, toList_eq] at h
    cases a
    cases b
    simp only [ByteArray.mk.injEq]
    exact Array.toList_inj.1 h
  · intro h
    rw [h]
theorem set_known {α : Type} {l x : List α} {i : Nat} {a : α} (hi : i < l.length) (hx : x.length = l.length) (ha : a = l[i]) (h : ∀ j, j < i → x[j]? = l[j]?) : ∀ j, j < i + 1 → (x.set i a)[j]? = l[j]? := by
  intro j hj
  by_cases e : j = i
  · subst e
    rw [List.getElem?_set_self (by omega), ha, List.getElem?_eq_getElem hi]
  · rw [List.getElem?_set_ne (Ne.symm e)]
    exact h j (by omega)
theorem all_known {α : Type} {l x : List α} (hx : x.length = l.length) (h : ∀ j, j < l.length → x[j]? = l[j]?) : x = l := by
  apply List.ext_getElem?
  intro j
  by_cases hj : j < l.length
  · exact h j hj
  · rw [List.getElem?_eq_none (by omega), List.getElem?_eq_none (by omega)]

/-! ### word -/
/-- A byte is a small letter. -/
def isL (c : Int) : Bool := decide (97 ≤ c ∧ c ≤ 122)
/-- A word: one to eight small letters. -/
def wordM (s : ByteArray) : Bool := decide (1 ≤ s.size ∧ s.size ≤ 8) && (List.range' 0 (s.size - 0)).all fun j => isL (bt s j)
theorem spec_l1In_eq (a b c : Int) : spec_l1In.f a b c = some (decide (b ≤ a ∧ a ≤ c)) := by
  unfold spec_l1In.f
  by_cases h : b ≤ a
  · rw [if_pos h]; simp [h]
  · rw [if_neg h]; simp [h]
theorem impl_InRange_eq (a b c : Int) : impl_InRange.f a b c = some (decide (b ≤ a ∧ a ≤ c)) := by
  unfold impl_InRange.f
  by_cases h : b ≤ a
  · rw [if_pos h]; simp [h]
  · rw [if_neg h]; simp [h]
theorem wordM_size {s : ByteArray} (h : wordM s = true) : 1 ≤ s.size ∧ s.size ≤ 8 := by
  simp only [wordM, Bool.and_eq_true, decide_eq_true_eq] at h
  exact h.1

/-! ### grid -/
/-- A cell's sign. -/
def isC (c : Int) : Bool := decide (c = 35) || decide (c = 46)
/-- A grid: 2 to 6 rows and columns, its cells black or white. -/
def gridM (r c : Int) (s : ByteArray) : Bool := decide (2 ≤ r ∧ r ≤ 6) && decide (2 ≤ c ∧ c ≤ 6) && decide ((s.size : Int) = r * c) && (List.range' 0 (s.size - 0)).all fun j => isC (bt s j)
theorem gridM_nat {r c : Int} {s : ByteArray} (h : gridM r c s = true) : ∃ R C : Nat, r = R ∧ c = C ∧ 2 ≤ R ∧ R ≤ 6 ∧ 2 ≤ C ∧ C ≤ 6 ∧ s.size = R * C := by
  simp only [gridM, Bool.and_eq_true, decide_eq_true_eq] at h
  obtain ⟨⟨⟨hr, hc⟩, hs⟩, _⟩ := h
  obtain ⟨R, rfl⟩ := Int.eq_ofNat_of_zero_le (show 0 ≤ r by omega)
  obtain ⟨C, rfl⟩ := Int.eq_ofNat_of_zero_le (show 0 ≤ c by omega)
  exact ⟨R, C, rfl, rfl, by omega, by omega, by omega, by omega, by exact_mod_cast hs⟩
theorem bounds36 {R C : Nat} (hR : R ≤ 6) (hC : C ≤ 6) : R * C ≤ 36 := Nat.mul_le_mul hR hC
theorem spec_IsGrid_l0_ev (r c : Int) (s : ByteArray) (hs : s.size ≤ 140737488351232) : ∀ i : Nat, i ≤ s.size → Ev (fun k => spec_IsGrid.l0 k i r c s) ((List.range' i (s.size - i)).all fun j => isC (bt s j)) := by
  refine down s.size ?_ ?_
  · intro i h hi
    apply ev_succ
    simp only [spec_IsGrid.l0]
    refine ev_neg (by omega) (ev_now ?_)
    rw [range_nil h]; rfl
  · intro i h ih hi
    apply ev_succ
    simp only [spec_IsGrid.l0]
    rw [range_cons h, List.all_cons, wrap64_id (by omega) (by omega), succ_cast]
    refine ev_pos (by omega) (ev_pos (by omega) ?_)
    by_cases h1 : bt s i = 35
    · exact ev_pos h1 (ev_eq (ih (by omega)) (by simp [isC, h1]))
    · refine ev_neg h1 ?_
      by_cases h2 : bt s i = 46
      · exact ev_pos h2 (ev_eq (ih (by omega)) (by simp [isC, h2]))
      · exact ev_neg h2 (ev_now (by simp [isC, h1, h2]))
theorem impl_IsGrid_l0_ev (r c : Int) (s : ByteArray) (hs : s.size ≤ 140737488351232) : ∀ i : Nat, i ≤ s.size → Ev (fun k => impl_IsGrid.l0 k s.size i r c s) ((List.range' i (s.size - i)).all fun j => isC (bt s j)) := by
  refine down s.size ?_ ?_
  · intro i h hi
    apply ev_succ
    simp only [impl_IsGrid.l0]
    refine ev_neg (by omega) (ev_now ?_)
    rw [range_nil h]; rfl
  · intro i h ih hi
    apply ev_succ
    simp only [impl_IsGrid.l0]
    rw [range_cons h, List.all_cons, wrap64_id (by omega) (by omega), succ_cast]
    refine ev_pos (by omega) (ev_pos (by omega) (ev_pos (by omega) ?_))
    by_cases h1 : bt s i = 35
    · exact ev_pos h1 (ev_eq (ih (by omega)) (by simp [isC, h1]))
    · refine ev_neg h1 ?_
      by_cases h2 : bt s i = 46
      · exact ev_pos h2 (ev_eq (ih (by omega)) (by simp [isC, h2]))
      · exact ev_neg h2 (ev_now (by simp [isC, h1, h2]))
theorem wrap_mul {r c : Int} (hr : 2 ≤ r ∧ r ≤ 6) (hc : 2 ≤ c ∧ c ≤ 6) : wrap64 (r * c) = r * c := by
  have h1 : 0 ≤ r * c := Int.mul_nonneg (by omega) (by omega)
  have h2 : r * c ≤ 6 * 6 := Int.mul_le_mul hr.2 hc.2 (by omega) (by omega)
  exact wrap64_id (by omega) (by omega)
theorem spec_IsGrid_ev (r c : Int) (s : ByteArray) (hs : s.size ≤ 140737488351232) : Ev (fun k => spec_IsGrid.f k r c s) (gridM r c s) := by
  unfold spec_IsGrid.f
  refine ev_let (spec_l1In_eq _ _ _) ?_
  by_cases hr : 2 ≤ r ∧ r ≤ 6
  · refine ev_pos (by simpa using hr) (ev_let (spec_l1In_eq _ _ _) ?_)
    by_cases hc : 2 ≤ c ∧ c ≤ 6
    · refine ev_pos (by simpa using hc) ?_
      rw [wrap_mul hr hc]
      apply ev_succ
      simp only [spec_IsGrid.j0]
      by_cases hn : (s.size : Int) = r * c
      · refine ev_neg (by simp [hn]) (ev_eq (spec_IsGrid_l0_ev r c s hs 0 (by omega)) ?_)
        simp [gridM, hr, hc, hn]
      · exact ev_pos (by simp [hn]) (ev_now (by simp [gridM, hn]))
    · refine ev_neg (by simpa using hc) (ev_succ ?_)
      simp only [spec_IsGrid.j0]
      exact ev_pos (by simp) (ev_now (by simp [gridM, hc]))
  · refine ev_neg (by simpa using hr) (ev_succ ?_)
    simp only [spec_IsGrid.j0]
    exact ev_pos (by simp) (ev_now (by simp [gridM, hr]))
theorem impl_IsGrid_ev (r c : Int) (s : ByteArray) (hs : s.size ≤ 140737488351232) : Ev (fun k => impl_IsGrid.f k r c s) (gridM r c s) := by
  unfold impl_IsGrid.f
  refine ev_let (impl_InRange_eq _ _ _) ?_
  by_cases hr : 2 ≤ r ∧ r ≤ 6
  · refine ev_pos (by simpa using hr) (ev_let (impl_InRange_eq _ _ _) ?_)
    by_cases hc : 2 ≤ c ∧ c ≤ 6
    · refine ev_pos (by simpa using hc) ?_
      rw [wrap_mul hr hc]
      apply ev_succ
      simp only [impl_IsGrid.j0]
      by_cases hn : (s.size : Int) = r * c
      · refine ev_neg (by simp [hn]) (ev_eq (impl_IsGrid_l0_ev r c s hs 0 (by omega)) ?_)
        simp [gridM, hr, hc, hn]
      · exact ev_pos (by simp [hn]) (ev_now (by simp [gridM, hn]))
    · refine ev_neg (by simpa using hc) (ev_succ ?_)
      simp only [impl_IsGrid.j0]
      exact ev_pos (by simp) (ev_now (by simp [gridM, hc]))
  · refine ev_neg (by simpa using hr) (ev_succ ?_)
    simp only [impl_IsGrid.j0]
    exact ev_pos (by simp) (ev_now (by simp [gridM, hr]))

/-! ### conn -/
/-- Two cells side by side, or one above the other, in a grid of C columns. -/
def Nb (C i j : Nat) : Prop := (i / C = j / C ∧ (i % C + 1 = j % C ∨ j % C + 1 = i % C)) ∨ (i % C = j % C ∧ (i / C + 1 = j / C ∨ j / C + 1 = i / C))
theorem Nb.symm {C i j : Nat} (h : Nb C i j) : Nb C j i := by
  unfold Nb at *
  omega
/-- The white cells that are connected with a white cell. -/
inductive Con (R C : Nat) (s : ByteArray) (i : Nat) : Nat → Prop
  | here : i < R * C → bt s i = 46 → Con R C s i i
  | next {j k : Nat} : Con R C s i j → Nb C j k → k < R * C → bt s k = 46 → Con R C s i k
theorem Con.head {R C : Nat} {s : ByteArray} {i j k : Nat} (hi : i < R * C) (hw : bt s i = 46) (hn : Nb C i j) (h : Con R C s j k) : Con R C s i k := by
  induction h with
  | here h1 h2 => exact .next (.here hi hw) hn h1 h2
  | next _ h2 h3 h4 ih => exact .next ih h2 h3 h4
/-- Is a cell marked? -/
def mkd (m : List Bool) (i : Nat) : Prop := m.getD i false = true
theorem mk_set_self {m : List Bool} {i : Nat} (h : i < m.length) : mkd (m.set i true) i := by
  simp [mkd, List.getD_eq_getElem?_getD, h]
theorem mk_set_iff {m : List Bool} {i j : Nat} (h : i < m.length) : mkd (m.set i true) j ↔ i = j ∨ mkd m j := by
  unfold mkd
  simp only [List.getD_eq_getElem?_getD, List.getElem?_set]
  by_cases e : i = j
  · subst e
    simp [h]
  · simp [e]
theorem mk_ext {a b : List Bool} (hl : a.length = b.length) (h : ∀ i, i < a.length → (mkd a i ↔ mkd b i)) : a = b := by
  apply List.ext_getElem hl
  intro i h1 h2
  have := h i h1
  simp [mkd, h1, h2] at this
  exact this
/-- A cell of the grid, a white one, by its row and column. -/
def okRC (R C : Nat) (s : ByteArray) (r c : Int) : Prop := (0 ≤ r ∧ r < R) ∧ (0 ≤ c ∧ c < C) ∧ bt s (r * C + c) = 46
theorem rc_nat {R C : Nat} {r c : Int} (hr : 0 ≤ r ∧ r < R) (hc : 0 ≤ c ∧ c < C) : ∃ i : Nat, r * C + c = i ∧ i < R * C ∧ ((i / C : Nat) : Int) = r ∧ ((i % C : Nat) : Int) = c := by
  obtain ⟨a, rfl⟩ := Int.eq_ofNat_of_zero_le hr.1
  obtain ⟨b, rfl⟩ := Int.eq_ofNat_of_zero_le hc.1
  have h0 : 0 < C := by omega
  have hb : b < C := by omega
  have ha : a < R := by omega
  refine ⟨a * C + b, by simp, ?_, ?_, ?_⟩
  · have : (a + 1) * C ≤ R * C := Nat.mul_le_mul_right _ ha
    rw [Nat.add_mul, Nat.one_mul] at this
    omega
  · rw [Nat.mul_comm, Nat.mul_add_div h0, Nat.div_eq_of_lt hb, Nat.add_zero]
  · rw [Nat.mul_comm, Nat.mul_add_mod, Nat.mod_eq_of_lt hb]
/-- What a visit of a cell does to the marks. -/
structure Vis (R C : Nat) (s : ByteArray) (m : List Bool) (r c : Int) (m' : List Bool) : Prop where
  len : m'.length = m.length
  cnt : m'.count false ≤ m.count false
  mono : ∀ i, mkd m i → mkd m' i
  src : ∀ i, mkd m' i → mkd m i ∨ (okRC R C s r c ∧ Con R C s (r * C + c).toNat i)
  cl : ∀ i, mkd m' i → ¬ mkd m i → ∀ j, Nb C i j → j < R * C → bt s j = 46 → mkd m' j
  hit : okRC R C s r c → mkd m' (r * C + c).toNat
/-- On the way through a visit that has marked the cell i0. -/
structure Mid (R C : Nat) (s : ByteArray) (i0 : Nat) (m m' : List Bool) : Prop where
  len : m'.length = m.length
  cnt : m'.count false ≤ m.count false
  mono : ∀ i, mkd m i → mkd m' i
  src : ∀ i, mkd m' i → mkd m i ∨ Con R C s i0 i
  cl : ∀ i, mkd m' i → ¬ mkd m i → ∀ j, Nb C i j → j < R * C → bt s j = 46 → mkd m' j
theorem Mid.refl (R C : Nat) (s : ByteArray) (i0 : Nat) (m : List Bool) : Mid R C s i0 m m := ⟨rfl, Nat.le_refl _, fun _ h => h, fun _ h => .inl h, fun _ h h' => absurd h h'⟩
theorem Mid.step {R C : Nat} {s : ByteArray} {i0 : Nat} {m a b : List Bool} {r c : Int} (hi : i0 < R * C) (hw : bt s i0 = 46) (h : Mid R C s i0 m a) (hv : Vis R C s a r c b)
    (hn : ∀ i, r * C + c = (i : Nat) → ((i / C : Nat) : Int) = r → ((i % C : Nat) : Int) = c → Nb C i0 i) : Mid R C s i0 m b := by
  refine ⟨hv.len.trans h.len, Nat.le_trans hv.cnt h.cnt, fun i hm => hv.mono i (h.mono i hm), fun i hm => ?_, fun i hm hno j hj hlt hwj => ?_⟩
  · rcases hv.src i hm with h1 | ⟨hok, hcon⟩
    · exact h.src i h1
    · obtain ⟨q, e1, e2, e3, e4⟩ := rc_nat hok.1 hok.2.1
      rw [e1, Int.toNat_natCast] at hcon
      exact .inr (Con.head hi hw (hn q e1 e3 e4) hcon)
  · by_cases ha : mkd a i
    · exact hv.mono j (h.cl i ha hno j hj hlt hwj)
    · exact hv.cl i hm ha j hj hlt hwj
theorem visF_spec (R C : Nat) (s : ByteArray) (h0 : 0 < C) : ∀ (k : Nat) (m : List Bool) (r c : Int), m.length = R * C → m.count false < k → Vis R C s m r c (visF R C s k m r c)
  | 0, _, _, _, _, h => by omega
  | k + 1, m, r, c, hl, hk => by
    unfold visF
    by_cases hc : (0 ≤ r ∧ r < R) ∧ (0 ≤ c ∧ c < C) ∧ (m.getD (r * C + c).toNat false = false ∧ bt s (r * C + c) = 46)
    · rw [if_pos hc]
      obtain ⟨hr, hcc, hno, hw⟩ := hc
      obtain ⟨i0, e1, e2, e3, e4⟩ := rc_nat hr hcc
      rw [e1, Int.toNat_natCast] at hno ⊢
      rw [e1] at hw
      have hil : i0 < m.length := by omega
      have hno' : m[i0] = false := by simpa [List.getD_eq_getElem?_getD, hil] using hno
      have hcnt : (m.set i0 true).count false + 1 = m.count false := by
        have hpos : 0 < m.count false := List.count_pos_iff.mpr (hno' ▸ List.getElem_mem hil)
        rw [List.count_set hil]
        simp [hno']
        omega
      have hlen1 : (m.set i0 true).length = R * C := by simpa using hl
      have ih := fun (m : List Bool) (r c : Int) hl hk => visF_spec R C s h0 k m r c hl hk
      have m1 := Mid.refl R C s i0 (m.set i0 true)
      have v1 := ih (m.set i0 true) (r - 1) c hlen1 (by omega)
      have m2 := m1.step e2 hw v1 (fun i a1 a2 a3 => by unfold Nb; omega)
      have v2 := ih _ (r + 1) c (m2.len.trans hlen1) (by have := m2.cnt; omega)
      have m3 := m2.step e2 hw v2 (fun i a1 a2 a3 => by unfold Nb; omega)
      have v3 := ih _ r (c - 1) (m3.len.trans hlen1) (by have := m3.cnt; omega)
      have m4 := m3.step e2 hw v3 (fun i a1 a2 a3 => by unfold Nb; omega)
      have v4 := ih _ r (c + 1) (m4.len.trans hlen1) (by have := m4.cnt; omega)
      have m5 := m4.step e2 hw v4 (fun i a1 a2 a3 => by unfold Nb; omega)
      have hok : okRC R C s r c := ⟨hr, hcc, by rw [e1]; exact hw⟩
      have hit0 := m5.mono i0 (mk_set_self hil)
      refine ⟨by have := m5.len; simpa using this, by have := m5.cnt; omega, fun i hm => m5.mono i ((mk_set_iff hil).2 (.inr hm)), fun i hm => ?_, fun i hm hno2 j hj hlt hwj => ?_, fun _ => by rw [e1, Int.toNat_natCast]; exact hit0⟩
      · rcases m5.src i hm with h1 | h1
        · rcases (mk_set_iff hil).1 h1 with rfl | h2
          · exact .inr ⟨hok, by rw [e1, Int.toNat_natCast]; exact .here e2 hw⟩
          · exact .inl h2
        · exact .inr ⟨hok, by rw [e1, Int.toNat_natCast]; exact h1⟩
      · by_cases hm1 : mkd (m.set i0 true) i
        · rcases (mk_set_iff hil).1 hm1 with rfl | h2
          · have hj' : ((j / C : Nat) : Int) < R := by
              have : j / C < R := (Nat.div_lt_iff_lt_mul h0).2 hlt
              omega
            have hjm := Nat.mod_lt j h0
            have hjd := Nat.div_add_mod j C
            have key : ∀ (r' c' : Int), ((j / C : Nat) : Int) = r' → ((j % C : Nat) : Int) = c' → r' * C + c' = (j : Nat) := by
              rintro _ _ rfl rfl
              rw [← Int.natCast_mul, ← Int.natCast_add, Nat.mul_comm, hjd]
            have okj : ∀ (r' c' : Int), ((j / C : Nat) : Int) = r' → ((j % C : Nat) : Int) = c' → okRC R C s r' c' := by
              intro r' c' h1 h2
              subst h1 h2
              refine ⟨⟨Int.natCast_nonneg _, hj'⟩, ⟨Int.natCast_nonneg _, by exact_mod_cast hjm⟩, ?_⟩
              rw [key _ _ rfl rfl]
              exact hwj
            rcases hj with ⟨g1, g2 | g2⟩ | ⟨g1, g2 | g2⟩
            · have := v4.hit (okj r (c + 1) (by omega) (by omega))
              rwa [key r (c + 1) (by omega) (by omega), Int.toNat_natCast] at this
            · have := v3.hit (okj r (c - 1) (by omega) (by omega))
              rw [key r (c - 1) (by omega) (by omega), Int.toNat_natCast] at this
              exact v4.mono _ this
            · have := v2.hit (okj (r + 1) c (by omega) (by omega))
              rw [key (r + 1) c (by omega) (by omega), Int.toNat_natCast] at this
              exact v4.mono _ (v3.mono _ this)
            · have := v1.hit (okj (r - 1) c (by omega) (by omega))
              rw [key (r - 1) c (by omega) (by omega), Int.toNat_natCast] at this
              exact v4.mono _ (v3.mono _ (v2.mono _ this))
          · exact absurd h2 hno2
        · exact m5.cl i hm hm1 j hj hlt hwj
    · rw [if_neg hc]
      refine ⟨rfl, Nat.le_refl _, fun _ h => h, fun _ h => .inl h, fun _ h h' => absurd h h', fun hok => ?_⟩
      unfold mkd
      cases hb : m.getD (r * C + c).toNat false with
      | true => rfl
      | false => exact absurd ⟨hok.1, hok.2.1, hb, hok.2.2⟩ hc
/-- Marks that hold whole parts. -/
def closedM (R C : Nat) (s : ByteArray) (m : List Bool) : Prop := ∀ i j, mkd m i → Nb C i j → j < R * C → bt s j = 46 → mkd m j
theorem vis_closed {R C : Nat} {s : ByteArray} {m m' : List Bool} {r c : Int} {i0 : Nat} (hm : closedM R C s m) (hv : Vis R C s m r c m') (hok : okRC R C s r c) (e : r * C + c = i0) :
    (∀ i, mkd m' i ↔ mkd m i ∨ Con R C s i0 i) ∧ closedM R C s m' := by
  have hcl : closedM R C s m' := by
    intro i j hi hn hj hw
    by_cases h : mkd m i
    · exact hv.mono j (hm i j h hn hj hw)
    · exact hv.cl i hi h j hn hj hw
  have hhit := hv.hit hok
  rw [e, Int.toNat_natCast] at hhit
  refine ⟨fun i => ⟨fun h => ?_, fun h => ?_⟩, hcl⟩
  · rcases hv.src i h with h1 | ⟨_, h1⟩
    · exact .inl h1
    · rw [e, Int.toNat_natCast] at h1
      exact .inr h1
  · rcases h with h | h
    · exact hv.mono i h
    · induction h with
      | here => exact hhit
      | next _ h2 h3 h4 ih => exact hcl _ _ ih h2 h3 h4
theorem dm {C q t : Nat} (h : t < C) : (C * q + t) / C = q ∧ (C * q + t) % C = t :=
  ⟨by rw [Nat.mul_add_div (by omega), Nat.div_eq_of_lt h, Nat.add_zero], by rw [Nat.mul_add_mod, Nat.mod_eq_of_lt h]⟩
theorem dm_of {C i q t : Nat} (h : t < C) (e : i = C * q + t) : i / C = q ∧ i % C = t := e ▸ dm h
theorem dm_ex {C : Nat} (h0 : 0 < C) (i : Nat) : ∃ q t, t < C ∧ i = C * q + t := ⟨i / C, i % C, Nat.mod_lt i h0, (Nat.div_add_mod i C).symm⟩
/-- Has a cell a marked neighbour? (as the reference asks) -/
def nearB (C : Nat) (m : List Bool) (i : Nat) : Bool :=
  (decide (0 < i % C) && m.getD (i - 1) false) || ((decide (i % C + 1 < C) && m.getD (i + 1) false) || ((decide (C ≤ i) && m.getD (i - C) false) || (decide (i + C < m.length) && m.getD (i + C) false)))
theorem nearB_iff {C : Nat} (h0 : 0 < C) {m : List Bool} {i : Nat} : nearB C m i = true ↔ ∃ j, mkd m j ∧ Nb C j i := by
  obtain ⟨q, t, ht, rfl⟩ := dm_ex h0 i
  obtain ⟨e1, e2⟩ := dm (q := q) ht
  have hm : ∀ j, mkd m j → j < m.length := by
    intro j hj
    by_cases h : j < m.length
    · exact h
    · simp [mkd, List.getD_eq_getElem?_getD, List.getElem?_eq_none (Nat.le_of_not_lt h)] at hj
  unfold nearB
  rw [e2]
  simp only [Bool.or_eq_true, Bool.and_eq_true, decide_eq_true_eq]
  unfold Nb
  constructor
  · rintro (⟨h1, h2⟩ | ⟨h1, h2⟩ | ⟨h1, h2⟩ | ⟨h1, h2⟩)
    · obtain ⟨f1, f2⟩ := dm_of (C := C) (i := C * q + t - 1) (q := q) (t := t - 1) (by omega) (by omega)
      exact ⟨_, h2, by rw [e1, e2, f1, f2]; omega⟩
    · obtain ⟨f1, f2⟩ := dm_of (C := C) (i := C * q + t + 1) (q := q) (t := t + 1) (by omega) (by omega)
      exact ⟨_, h2, by rw [e1, e2, f1, f2]; omega⟩
    · have hq : 0 < q := by
        rcases Nat.eq_zero_or_pos q with rfl | h
        · omega
        · exact h
      obtain ⟨p, rfl⟩ : ∃ p, q = p + 1 := ⟨q - 1, by omega⟩
      obtain ⟨f1, f2⟩ := dm_of (i := C * (p + 1) + t - C) (q := p) (t := t) ht (by rw [Nat.mul_add]; omega)
      exact ⟨_, h2, by rw [e1, e2, f1, f2]; omega⟩
    · obtain ⟨f1, f2⟩ := dm_of (i := C * q + t + C) (q := q + 1) (t := t) ht (by rw [Nat.mul_add]; omega)
      exact ⟨_, h2, by rw [e1, e2, f1, f2]; omega⟩
  · rintro ⟨j, hj, hn⟩
    have hjl := hm j hj
    obtain ⟨q', t', ht', rfl⟩ := dm_ex h0 j
    obtain ⟨f1, f2⟩ := dm (q := q') ht'
    rw [e1, e2, f1, f2] at hn
    rcases hn with ⟨rfl, h | h⟩ | ⟨rfl, h | h⟩
    · refine .inl ⟨by omega, ?_⟩
      rw [show C * q' + t - 1 = C * q' + t' by omega]
      exact hj
    · refine .inr (.inl ⟨by omega, ?_⟩)
      rw [show C * q' + t + 1 = C * q' + t' by omega]
      exact hj
    · subst h
      have e : C * (q' + 1) + t' = C * q' + t' + C := by rw [Nat.mul_add]; omega
      refine .inr (.inr (.inl ⟨by omega, ?_⟩))
      rw [e, Nat.add_sub_cancel]
      exact hj
    · subst h
      have e : C * (q + 1) + t' = C * q + t' + C := by rw [Nat.mul_add]; omega
      refine .inr (.inr (.inr ⟨by omega, ?_⟩))
      rw [← e]
      exact hj
/-- One pass of the reference over the cells from i on. -/
def passM (C : Nat) (s : ByteArray) : List Nat → Bool → List Bool → Bool × List Bool
  | [], a, m => (a, m)
  | i :: l, a, m => if m.getD i false = false ∧ bt s i = 46 ∧ nearB C m i = true then passM C s l true (m.set i true) else passM C s l a m
def reachM (C : Nat) (s : ByteArray) : Nat → List Bool → List Bool
  | 0, m => m
  | k + 1, m => if (passM C s (List.range' 0 m.length) false m).1 = true then reachM C s k (passM C s (List.range' 0 m.length) false m).2 else (passM C s (List.range' 0 m.length) false m).2
theorem pass_spec (R C : Nat) (s : ByteArray) (h0 : 0 < C) (i0 : Nat) : ∀ (l : List Nat) (a : Bool) (m : List Bool), (∀ i ∈ l, i < m.length) → m.length = R * C → (∀ i, mkd m i → Con R C s i0 i) →
    (passM C s l a m).2.length = m.length ∧ (∀ i, mkd m i → mkd (passM C s l a m).2 i) ∧ (∀ i, mkd (passM C s l a m).2 i → Con R C s i0 i) ∧
    (a = true → (passM C s l a m).1 = true) ∧ (passM C s l a m).2.count false ≤ m.count false ∧ (a = false → (passM C s l a m).1 = true → (passM C s l a m).2.count false < m.count false) ∧
    ((passM C s l a m).1 = false → (passM C s l a m).2 = m ∧ ∀ i ∈ l, bt s i = 46 → nearB C m i = true → mkd m i)
  | [], a, m, _, _, hs => ⟨rfl, fun _ h => h, hs, id, Nat.le_refl _, fun h1 h2 => by simp [passM, h1] at h2, fun _ => ⟨rfl, fun _ h => by cases h⟩⟩
  | i :: l, a, m, hl, hn, hs => by
    unfold passM
    have hi := hl i (by simp)
    by_cases hc : m.getD i false = false ∧ bt s i = 46 ∧ nearB C m i = true
    · rw [if_pos hc]
      obtain ⟨hc1, hc2, hc3⟩ := hc
      obtain ⟨j, hj, hnb⟩ := (nearB_iff h0).1 hc3
      have hno' : m[i] = false := by simpa [List.getD_eq_getElem?_getD, hi] using hc1
      have hcnt : (m.set i true).count false + 1 = m.count false := by
        have hpos : 0 < m.count false := List.count_pos_iff.mpr (hno' ▸ List.getElem_mem hi)
        rw [List.count_set hi]
        simp [hno']
        omega
      have hs' : ∀ k, mkd (m.set i true) k → Con R C s i0 k := by
        intro k hk
        rcases (mk_set_iff hi).1 hk with rfl | h
        · exact .next (hs j hj) hnb (by omega) hc2
        · exact hs k h
      obtain ⟨p1, p2, p3, p4, p5, p6, p7⟩ := pass_spec R C s h0 i0 l true (m.set i true) (fun k hk => by have := hl k (by simp [hk]); simpa using this) (by simpa using hn) hs'
      have pt := p4 rfl
      refine ⟨by simpa using p1, fun k hk => p2 k ((mk_set_iff hi).2 (.inr hk)), p3, fun _ => pt, by omega, fun _ _ => by omega, fun h => ?_⟩
      rw [pt] at h
      cases h
    · rw [if_neg hc]
      obtain ⟨p1, p2, p3, p4, p5, p6, p7⟩ := pass_spec R C s h0 i0 l a m (fun k hk => hl k (by simp [hk])) hn hs
      refine ⟨p1, p2, p3, p4, p5, p6, fun h => ⟨(p7 h).1, fun k hk hw hnr => ?_⟩⟩
      rcases List.mem_cons.1 hk with rfl | hk
      · unfold mkd
        cases hb : m.getD k false with
        | true => rfl
        | false => exact absurd ⟨hb, hw, hnr⟩ hc
      · exact (p7 h).2 k hk hw hnr
theorem reach_spec (R C : Nat) (s : ByteArray) (h0 : 0 < C) (i0 : Nat) : ∀ (k : Nat) (m : List Bool), m.count false < k → m.length = R * C → (∀ i, mkd m i → Con R C s i0 i) →
    (reachM C s k m).length = m.length ∧ (∀ i, mkd m i → mkd (reachM C s k m) i) ∧ (∀ i, mkd (reachM C s k m) i → Con R C s i0 i) ∧ closedM R C s (reachM C s k m)
  | 0, _, h, _, _ => by omega
  | k + 1, m, hk, hn, hs => by
    unfold reachM
    obtain ⟨p1, p2, p3, p4, p5, p6, p7⟩ := pass_spec R C s h0 i0 (List.range' 0 m.length) false m (fun k hk => by rw [List.mem_range'] at hk; omega) hn hs
    by_cases hb : (passM C s (List.range' 0 m.length) false m).1 = true
    · rw [if_pos hb]
      have := p6 rfl hb
      obtain ⟨q1, q2, q3, q4⟩ := reach_spec R C s h0 i0 k _ (by omega) (p1.trans hn) p3
      exact ⟨q1.trans p1, fun i hi => q2 i (p2 i hi), q3, q4⟩
    · rw [if_neg hb]
      refine ⟨p1, p2, p3, fun i j hi hnb hj hw => ?_⟩
      obtain ⟨e, hall⟩ := p7 (by simpa using hb)
      rw [e] at hi ⊢
      exact hall j (by rw [List.mem_range']; exact ⟨j, by omega, by omega⟩) hw ((nearB_iff h0).2 ⟨i, hi, hnb⟩)
theorem reach_con {R C : Nat} {s : ByteArray} (h0 : 0 < C) {i0 : Nat} {m : List Bool} (hi : i0 < R * C) (hw : bt s i0 = 46) (hn : m.length = R * C) (hm : ∀ i, mkd m i ↔ i = i0) (k : Nat) (hk : m.count false < k) :
    (reachM C s k m).length = R * C ∧ ∀ i, mkd (reachM C s k m) i ↔ Con R C s i0 i := by
  obtain ⟨q1, q2, q3, q4⟩ := reach_spec R C s h0 i0 k m hk hn (fun i h => by rw [(hm i).1 h]; exact .here hi hw)
  refine ⟨q1.trans hn, fun i => ⟨q3 i, fun h => ?_⟩⟩
  induction h with
  | here => exact q2 _ ((hm _).2 rfl)
  | next _ h2 h3 h4 ih => exact q4 _ _ ih h2 h3 h4
def bothM (a b : List Bool) : List Bool := List.zipWith (fun x y => x || y) a b
theorem mkd_or {a b : List Bool} (h : a.length = b.length) (i : Nat) : mkd (bothM a b) i ↔ mkd a i ∨ mkd b i := by
  unfold mkd bothM
  simp only [List.getD_eq_getElem?_getD, List.getElem?_zipWith]
  by_cases hi : i < a.length
  · rw [List.getElem?_eq_getElem hi, List.getElem?_eq_getElem (by omega)]
    simp
  · rw [List.getElem?_eq_none (by omega), List.getElem?_eq_none (by omega)]
    simp
def oneM (s : ByteArray) (i : Nat) : List Bool := (List.replicate s.size false).set i true
def seenGo (C : Nat) (s : ByteArray) : List Nat → List Bool → Nat → Nat
  | [], _, n => n
  | i :: l, m, n => if bt s i = 46 ∧ m.getD i false = false then seenGo C s l (bothM m (reachM C s (s.size + 1) (oneM s i))) (n + 1) else seenGo C s l m n
theorem oneM_iff {s : ByteArray} {i : Nat} (h : i < s.size) (j : Nat) : mkd (oneM s i) j ↔ j = i := by
  unfold oneM
  rw [mk_set_iff (by simpa using h)]
  constructor
  · rintro (rfl | h)
    · rfl
    · unfold mkd at h
      simp only [List.getD_eq_getElem?_getD, List.getElem?_replicate] at h
      split at h <;> simp at h
  · rintro rfl
    exact .inl rfl
theorem oneM_length (s : ByteArray) (i : Nat) : (oneM s i).length = s.size := by simp [oneM]
theorem parts_same (R C : Nat) (s : ByteArray) (h0 : 0 < C) (hs : s.size = R * C) : ∀ (l : List Nat) (m : List Bool) (n : Nat), (∀ i ∈ l, i < s.size) → m.length = s.size → closedM R C s m → partsGo R C s l m n = seenGo C s l m n
  | [], _, _, _, _, _ => rfl
  | i :: l, m, n, hl, hm, hcl => by
    unfold partsGo seenGo
    have hi := hl i (by simp)
    by_cases hc : bt s i = 46 ∧ m.getD i false = false
    · rw [if_pos hc, if_pos hc]
      have hcn : m.count false < s.size + 1 := by
        have := List.count_le_length (a := false) (l := m)
        omega
      have hv := visF_spec R C s h0 (s.size + 1) m ((i / C : Nat) : Int) ((i % C : Nat) : Int) (by omega) hcn
      have hdm := Nat.div_add_mod i C
      have hml := Nat.mod_lt i h0
      have e : ((i / C : Nat) : Int) * C + ((i % C : Nat) : Int) = i := by
        rw [← Int.natCast_mul, ← Int.natCast_add, Nat.mul_comm, hdm]
      have hdl : i / C < R := (Nat.div_lt_iff_lt_mul h0).2 (by omega)
      have hok : okRC R C s ((i / C : Nat) : Int) ((i % C : Nat) : Int) := ⟨⟨Int.natCast_nonneg _, by exact_mod_cast hdl⟩, ⟨Int.natCast_nonneg _, by exact_mod_cast hml⟩, by rw [e]; exact hc.1⟩
      obtain ⟨k1, k2⟩ := vis_closed hcl hv hok e
      have ho : (oneM s i).count false < s.size + 1 := by
        have := List.count_le_length (a := false) (l := oneM s i)
        rw [oneM_length] at this
        omega
      obtain ⟨r1, r2⟩ := reach_con h0 (by omega) hc.1 ((oneM_length s i).trans hs) (oneM_iff hi) (s.size + 1) ho
      have heq : visF R C s (s.size + 1) m ((i / C : Nat) : Int) ((i % C : Nat) : Int) = bothM m (reachM C s (s.size + 1) (oneM s i)) := by
        refine mk_ext ?_ fun j _ => ?_
        · have := hv.len
          unfold bothM
          rw [List.length_zipWith, r1]
          omega
        · rw [k1, mkd_or (by omega), r2]
      rw [← heq]
      exact parts_same R C s h0 hs l _ _ (fun j hj => hl j (by simp [hj])) (hv.len.trans hm) k2
    · rw [if_neg hc, if_neg hc]
      exact parts_same R C s h0 hs l m n (fun j hj => hl j (by simp [hj])) hm hcl
theorem parts_same0 (R C : Nat) (s : ByteArray) (h0 : 0 < C) (hs : s.size = R * C) : partsGo R C s (List.range' 0 s.size) (List.replicate s.size false) 0 = seenGo C s (List.range' 0 s.size) (List.replicate s.size false) 0 := by
  refine parts_same R C s h0 hs _ _ _ (fun i hi => by rw [List.mem_range'] at hi; omega) (by simp) (fun i j hi => ?_)
  unfold mkd at hi
  simp only [List.getD_eq_getElem?_getD, List.getElem?_replicate] at hi
  split at hi <;> simp at hi

/-! ### connspec -/
theorem rdOf_bool (m : List Bool) (j : Nat) : rdOf false m (j : Int) = m.getD j false := by
  unfold rdOf
  rw [Int.toNat_natCast]
theorem next_lt {R C i : Nat} (h0 : 0 < C) (hi : i < R * C) (h : i % C + 1 < C) : i + 1 < R * C := by
  have h1 := Nat.div_add_mod i C
  have h2 : i / C < R := (Nat.div_lt_iff_lt_mul h0).2 hi
  have h3 : C * (i / C + 1) ≤ C * R := Nat.mul_le_mul_left _ h2
  rw [Nat.mul_add, Nat.mul_one, Nat.mul_comm C R] at h3
  omega
def rSet (C : Nat) (s : ByteArray) (m : List Bool) (i : Nat) (r : Int) (k : Nat) : Option (List Bool) := if (0 : Int) ≤ (i : Int) then (if (i : Int) < (m.length : Int) then (spec_l10Reach.l1 k (m.set (i : Int).toNat true) true ((i + 1 : Nat) : Int) r C s) else none) else none
def rD4 (C : Nat) (s : ByteArray) (m : List Bool) (a : Bool) (i : Nat) (r : Int) (k : Nat) : Option (List Bool) := if ((i + C : Nat) : Int) < (m.length : Int) then (if (0 : Int) ≤ ((i + C : Nat) : Int) then (if rdOf false m ((i + C : Nat) : Int) = true then rSet C s m i r k else (spec_l10Reach.l1 k m a ((i + 1 : Nat) : Int) r C s)) else none) else (spec_l10Reach.l1 k m a ((i + 1 : Nat) : Int) r C s)
def rD3 (C : Nat) (s : ByteArray) (m : List Bool) (a : Bool) (i : Nat) (r : Int) (k : Nat) : Option (List Bool) := if (i : Int) ≥ (C : Int) then (if (0 : Int) ≤ wrap64 ((i : Int) - (C : Int)) then (if wrap64 ((i : Int) - (C : Int)) < (m.length : Int) then (if rdOf false m (wrap64 ((i : Int) - (C : Int))) = true then rSet C s m i r k else rD4 C s m a i r k) else none) else none) else rD4 C s m a i r k
def rD2 (C : Nat) (s : ByteArray) (m : List Bool) (a : Bool) (i : Nat) (r : Int) (k : Nat) : Option (List Bool) := if ((i % C + 1 : Nat) : Int) < (C : Int) then (if (0 : Int) ≤ ((i + 1 : Nat) : Int) then (if ((i + 1 : Nat) : Int) < (m.length : Int) then (if rdOf false m ((i + 1 : Nat) : Int) = true then rSet C s m i r k else rD3 C s m a i r k) else none) else none) else rD3 C s m a i r k
theorem reach_j2 (R C : Nat) (s : ByteArray) (m : List Bool) (a : Bool) (i : Nat) (r : Int) (ρ : List Bool) (h0 : 0 < C) (hC : C ≤ 6) (hi : i < m.length) (hm : m.length ≤ 36) (hl : m.length = R * C)
    (hset : nearB C m i = true → Ev (fun k => spec_l10Reach.l1 k (m.set i true) true (i + 1 : Nat) r C s) ρ) (hnext : nearB C m i = false → Ev (fun k => spec_l10Reach.l1 k m a (i + 1 : Nat) r C s) ρ) :
    Ev (fun k => spec_l10Reach.j2 k m a i false r C s) ρ := by
  have hmod := Nat.mod_lt i h0
  have e1 : Int.tmod (i : Int) (C : Int) = ((i % C : Nat) : Int) := Int.ofNat_tmod i C |>.symm
  have e2 : wrap64 ((i : Int) + 1) = ((i + 1 : Nat) : Int) := by rw [wrap64_id (by omega) (by omega)]; omega
  have e3 : wrap64 ((i : Int) + (C : Int)) = ((i + C : Nat) : Int) := by rw [wrap64_id (by omega) (by omega)]; omega
  have e4 : wrap64 (((i % C : Nat) : Int) + 1) = ((i % C + 1 : Nat) : Int) := by rw [wrap64_id (by omega) (by omega)]; omega
  have e5 : C ≤ i → wrap64 ((i : Int) - (C : Int)) = ((i - C : Nat) : Int) := fun h => by rw [wrap64_id (by omega) (by omega)]; omega
  have e6 : 0 < i % C → wrap64 ((i : Int) - 1) = ((i - 1 : Nat) : Int) := fun h => by
    have := Nat.mod_le i C
    rw [wrap64_id (by omega) (by omega)]; omega
  unfold nearB at hset hnext
  have set_ : nearB C m i = true → Ev (rSet C s m i r) ρ := fun h => by
    unfold rSet
    rw [Int.toNat_natCast]
    exact ev_pos (by omega) (ev_pos (by omega) (hset h))
  unfold nearB at set_
  have d4 : (decide (0 < i % C) && m.getD (i - 1) false) = false → (decide (i % C + 1 < C) && m.getD (i + 1) false) = false → (decide (C ≤ i) && m.getD (i - C) false) = false → Ev (rD4 C s m a i r) ρ := by
    intro b1 b2 b3
    rw [b1, b2, b3] at hset hnext set_
    unfold rD4
    by_cases p : i + C < m.length
    · refine ev_pos (by omega) (ev_pos (by omega) ?_)
      rw [rdOf_bool]
      by_cases v : m.getD (i + C) false = true
      · exact ev_pos v (set_ (by simp only [p, v]; rfl))
      · exact ev_neg v (hnext (by simp only [p, Bool.not_eq_true] at v ⊢; rw [v]; rfl))
    · exact ev_neg (by omega) (hnext (by simp [p]))
  have d3 : (decide (0 < i % C) && m.getD (i - 1) false) = false → (decide (i % C + 1 < C) && m.getD (i + 1) false) = false → Ev (rD3 C s m a i r) ρ := by
    intro b1 b2
    unfold rD3
    by_cases p : C ≤ i
    · refine ev_pos (by omega) ?_
      rw [e5 p]
      refine ev_pos (by omega) (ev_pos (by omega) ?_)
      rw [rdOf_bool]
      by_cases v : m.getD (i - C) false = true
      · exact ev_pos v (set_ (by simp only [b1, b2, p, v]; rfl))
      · exact ev_neg v (d4 b1 b2 (by simp only [Bool.not_eq_true] at v; rw [v]; simp))
    · exact ev_neg (by omega) (d4 b1 b2 (by simp [p]))
  have d2 : (decide (0 < i % C) && m.getD (i - 1) false) = false → Ev (rD2 C s m a i r) ρ := by
    intro b1
    unfold rD2
    by_cases p : i % C + 1 < C
    · have q : i + 1 < m.length := by rw [hl]; exact next_lt h0 (by omega) p
      refine ev_pos (by omega) (ev_pos (by omega) (ev_pos (by omega) ?_))
      rw [rdOf_bool]
      by_cases v : m.getD (i + 1) false = true
      · exact ev_pos v (set_ (by simp only [b1, p, v]; rfl))
      · exact ev_neg v (d3 b1 (by simp only [Bool.not_eq_true] at v; rw [v]; simp))
    · exact ev_neg (by omega) (d3 b1 (by simp [p]))
  apply ev_succ
  simp only [spec_l10Reach.j2]
  rw [e1, e2, e3, e4]
  refine ev_neg (by simp) (ev_neg (by omega) ?_)
  by_cases p : 0 < i % C
  · have := Nat.mod_le i C
    refine ev_pos (by omega) ?_
    rw [e6 p]
    refine ev_pos (by omega) (ev_pos (by omega) ?_)
    rw [rdOf_bool]
    by_cases v : m.getD (i - 1) false = true
    · exact ev_pos v (set_ (by simp only [p, v]; rfl))
    · exact ev_neg v (d2 (by simp only [Bool.not_eq_true] at v; rw [v]; simp))
  · exact ev_neg (by omega) (d2 (by simp [p]))
theorem spec_l10Reach_l1_ev (R C : Nat) (s : ByteArray) (r : Int) (h0 : 0 < C) (hC : C ≤ 6) (hs : s.size = R * C) (h36 : s.size ≤ 36) (ρ : List Bool) : ∀ i : Nat, i ≤ s.size → ∀ (m : List Bool) (a : Bool), m.length = s.size →
    Ev (fun k => spec_l10Reach.l0 k (passM C s (List.range' i (s.size - i)) a m).2 (passM C s (List.range' i (s.size - i)) a m).1 r C s) ρ → Ev (fun k => spec_l10Reach.l1 k m a i r C s) ρ := by
  refine down s.size ?_ ?_
  · intro i h hi m a hm hρ
    apply ev_succ
    simp only [spec_l10Reach.l1]
    rw [range_nil h] at hρ
    exact ev_neg (by omega) hρ
  · intro i h ih hi m a hm hρ
    rw [range_cons h] at hρ
    unfold passM at hρ
    apply ev_succ
    simp only [spec_l10Reach.l1]
    refine ev_pos (by omega) (ev_pos (by omega) ?_)
    rw [rdOf_bool]
    have skip : ∀ hc : ¬ (m.getD i false = false ∧ bt s i = 46 ∧ nearB C m i = true), Ev (fun k => spec_l10Reach.l1 k m a (i + 1 : Nat) r C s) ρ := fun hc => by
      rw [if_neg hc] at hρ
      exact ih (by omega) m a hm hρ
    have j2t : ¬ (m.getD i false = false ∧ bt s i = 46 ∧ nearB C m i = true) → Ev (fun k => spec_l10Reach.j2 k m a i true r C s) ρ := fun hc => by
      apply ev_succ
      simp only [spec_l10Reach.j2]
      rw [wrap64_id (n := (i : Int) + 1) (by omega) (by omega), succ_cast]
      exact ev_pos (by trivial) (skip hc)
    by_cases hk : m.getD i false = true
    · exact ev_pos hk (j2t (by rw [hk]; simp))
    · refine ev_neg hk (ev_pos (by omega) ?_)
      rw [Bool.not_eq_true] at hk
      by_cases hw : bt s i = 46
      · rw [show (bt s (i : Int) != 46) = false by simp [hw]]
        refine reach_j2 R C s m a i r ρ h0 hC (by omega) (by omega) (by omega) (fun hn => ?_) (fun hn => skip (by rw [hn]; simp))
        rw [if_pos ⟨hk, hw, hn⟩] at hρ
        exact ih (by omega) _ true (by simpa using hm) hρ
      · rw [show (bt s (i : Int) != 46) = true by simp [hw]]
        exact j2t (fun h => hw h.2.1)
theorem pass_cnt (C : Nat) (s : ByteArray) : ∀ (l : List Nat) (a : Bool) (m : List Bool), (∀ i ∈ l, i < m.length) → (passM C s l a m).2.length = m.length ∧ (passM C s l a m).2.count false ≤ m.count false ∧ (a = false → (passM C s l a m).1 = true → (passM C s l a m).2.count false < m.count false)
  | [], a, m, _ => ⟨rfl, Nat.le_refl _, fun h1 h2 => by simp [passM, h1] at h2⟩
  | i :: l, a, m, hl => by
    unfold passM
    have hi := hl i (by simp)
    split
    · rename_i hc
      have hno' : m[i] = false := by simpa [List.getD_eq_getElem?_getD, hi] using hc.1
      have hcnt : (m.set i true).count false + 1 = m.count false := by
        have hpos : 0 < m.count false := List.count_pos_iff.mpr (hno' ▸ List.getElem_mem hi)
        rw [List.count_set hi]
        simp [hno']
        omega
      obtain ⟨p1, p2, _⟩ := pass_cnt C s l true (m.set i true) (fun k hk => by have := hl k (by simp [hk]); simpa using this)
      exact ⟨by simpa using p1, by omega, fun _ _ => by omega⟩
    · exact pass_cnt C s l a m (fun k hk => hl k (by simp [hk]))
theorem spec_l10Reach_l0_ev (R C : Nat) (s : ByteArray) (r : Int) (h0 : 0 < C) (hC : C ≤ 6) (hs : s.size = R * C) (h36 : s.size ≤ 36) : ∀ (k : Nat) (m : List Bool), m.length = s.size → m.count false < k →
    Ev (fun K => spec_l10Reach.l0 K m true r C s) (reachM C s k m)
  | 0, _, _, h => by omega
  | k + 1, m, hm, hk => by
    apply ev_succ
    simp only [spec_l10Reach.l0]
    refine ev_pos (by trivial) (spec_l10Reach_l1_ev R C s r h0 hC hs h36 _ 0 (by omega) m false hm ?_)
    rw [Nat.sub_zero, ← hm]
    unfold reachM
    have hp : (passM C s (List.range' 0 m.length) false m).2.length = m.length ∧ ((passM C s (List.range' 0 m.length) false m).1 = true → (passM C s (List.range' 0 m.length) false m).2.count false < m.count false) := pass_cnt C s _ false m (fun i hi => by rw [List.mem_range'] at hi; omega) |>.imp id (fun h => h.2 rfl)
    by_cases hb : (passM C s (List.range' 0 m.length) false m).1 = true
    · rw [if_pos hb, hb]
      exact spec_l10Reach_l0_ev R C s r h0 hC hs h36 k _ (hp.1.trans hm) (by have := hp.2 hb; omega)
    · rw [if_neg hb]
      rw [Bool.not_eq_true] at hb
      rw [hb]
      apply ev_succ
      simp only [spec_l10Reach.l0]
      exact ev_neg (by simp) (ev_now rfl)
theorem spec_PartsOf_l3_ev (R C : Nat) (s : ByteArray) (n : Int) (r c : Int) (j : Int) (m one : List Bool) (ρ : Int) (h36 : s.size ≤ 36) (hm : m.length = s.size) (ho : one.length = s.size)
    (hρ : Ev (fun k => spec_PartsOf.l1 k n (bothM m one) (wrap64 (j + 1)) r c s) ρ) : ∀ i : Nat, i ≤ s.size → ∀ x : List Bool, x.length = s.size → (∀ q, q < i → x[q]? = (bothM m one)[q]?) → (∀ q, i ≤ q → x[q]? = m[q]?) →
    Ev (fun k => spec_PartsOf.l3 k n x j one i r c s) ρ := by
  have hb : (bothM m one).length = s.size := by
    unfold bothM
    rw [List.length_zipWith]
    omega
  refine down s.size ?_ ?_
  · intro i h hi x hx h1 h2
    have e : x = bothM m one := by
      apply List.ext_getElem?
      intro q
      by_cases hq : q < i
      · exact h1 q hq
      · rw [List.getElem?_eq_none (by omega), List.getElem?_eq_none (by omega)]
    apply ev_succ
    simp only [spec_PartsOf.l3]
    rw [e]
    exact ev_neg (by omega) hρ
  · intro i h ih hi x hx h1 h2
    apply ev_succ
    simp only [spec_PartsOf.l3]
    rw [rdOf_bool, wrap64_id (n := (i : Int) + 1) (by omega) (by omega), succ_cast, Int.toNat_natCast]
    have hxi : x.getD i false = m.getD i false := by
      rw [List.getD_eq_getElem?_getD, List.getD_eq_getElem?_getD, h2 i (Nat.le_refl _)]
    have hbi : (bothM m one)[i]'(by omega) = (m.getD i false || one.getD i false) := by
      unfold bothM
      simp [hm, ho, h]
    have next : ∀ v : Bool, v = (m.getD i false || one.getD i false) → Ev (fun k => spec_PartsOf.l3 k n (x.set i v) j one (i + 1 : Nat) r c s) ρ := by
      intro v hv
      refine ih (by omega) _ (by simpa using hx) (set_known (l := bothM m one) (by omega) (by omega) (hv.trans hbi.symm) h1) (fun q hq => ?_)
      rw [List.getElem?_set_ne (by omega)]
      exact h2 q (by omega)
    refine ev_pos (by omega) (ev_pos (by omega) ?_)
    rw [hxi]
    by_cases hv : m.getD i false = true
    · exact ev_pos hv (next true (by rw [hv]; rfl))
    · refine ev_neg hv (ev_pos (by omega) ?_)
      rw [Bool.not_eq_true] at hv
      rw [rdOf_bool]
      exact next _ (by rw [hv]; rfl)
theorem rep_snoc (i : Nat) : List.replicate i false ++ [false] = List.replicate (i + 1) false := by
  rw [List.replicate_succ']
theorem spec_PartsOf_l2_ev (R C : Nat) (s : ByteArray) (n : Int) (r : Int) (j : Nat) (m : List Bool) (ρ : Int) (h0 : 0 < C) (hC : C ≤ 6) (hs : s.size = R * C) (h36 : s.size ≤ 36) (hm : m.length = s.size) (hj : j < s.size)
    (hρ : Ev (fun k => spec_PartsOf.l1 k n (bothM m (reachM C s (s.size + 1) (oneM s j))) (j + 1 : Nat) r C s) ρ) : ∀ i : Nat, i ≤ s.size →
    Ev (fun k => spec_PartsOf.l2 k n m j (List.replicate i false) i r C s) ρ := by
  refine down s.size ?_ ?_
  · intro i h hi
    obtain rfl : i = s.size := by omega
    have hone := oneM_length s j
    have hcnt : (oneM s j).count false < s.size + 1 := by
      have := List.count_le_length (a := false) (l := oneM s j)
      omega
    have hr := spec_l10Reach_l0_ev R C s r h0 hC hs h36 (s.size + 1) (oneM s j) hone hcnt
    have hrl : ∀ (k : Nat) (x : List Bool), x.length = s.size → (reachM C s k x).length = s.size := by
      intro k
      induction k with
      | zero => intro x hx; exact hx
      | succ k ihk =>
        intro x hx
        unfold reachM
        have hp := (pass_cnt C s (List.range' 0 x.length) false x (fun i hi => by rw [List.mem_range'] at hi; omega)).1
        split
        · exact ihk _ (hp.trans hx)
        · exact hp.trans hx
    apply ev_succ
    simp only [spec_PartsOf.l2]
    refine ev_neg (by omega) (ev_bind (a := reachM C s (s.size + 1) (oneM s j)) ?_ (spec_PartsOf_l3_ev R C s n r C j m _ ρ h36 hm (hrl _ _ hone) ?_ 0 (by omega) m hm (fun q hq => by omega) (fun _ _ => rfl)))
    · unfold spec_l10Reach.f
      rw [Int.toNat_natCast]
      exact ev_pos (by omega) (ev_pos (by simp; omega) hr)
    · rw [wrap64_id (n := (j : Int) + 1) (by omega) (by omega), succ_cast]
      exact hρ
  · intro i h ih hi
    apply ev_succ
    simp only [spec_PartsOf.l2]
    rw [wrap64_id (n := (i : Int) + 1) (by omega) (by omega), succ_cast, rep_snoc]
    exact ev_pos (by omega) (ev_pos (by simp; omega) (ih (by omega)))
theorem spec_PartsOf_l1_ev (R C : Nat) (s : ByteArray) (h0 : 0 < C) (hC : C ≤ 6) (hs : s.size = R * C) (h36 : s.size ≤ 36) (hg : gridM R C s = true) : ∀ i : Nat, i ≤ s.size → ∀ (m : List Bool) (n : Nat), m.length = s.size → n ≤ i →
    Ev (fun k => spec_PartsOf.l1 k n m i R C s) ((seenGo C s (List.range' i (s.size - i)) m n : Nat) : Int) := by
  refine down s.size ?_ ?_
  · intro i h hi m n hm hn
    apply ev_succ
    simp only [spec_PartsOf.l1]
    rw [range_nil h]
    refine ev_neg (by omega) (ev_succ ?_)
    simp only [spec_PartsOf.j2]
    exact ev_neg (by simp) (ev_now rfl)
  · intro i h ih hi m n hm hn
    apply ev_succ
    simp only [spec_PartsOf.l1]
    rw [range_cons h]
    unfold seenGo
    refine ev_pos (by omega) (ev_bind (spec_IsGrid_ev R C s (by omega)) (ev_succ ?_))
    simp only [spec_PartsOf.j2]
    refine ev_pos hg (ev_pos (by omega) (ev_pos (by omega) ?_))
    have j3f : ¬ (bt s i = 46 ∧ m.getD i false = false) → Ev (fun k => spec_PartsOf.j3 k n m i false R C s) ((if bt s i = 46 ∧ m.getD i false = false then seenGo C s (List.range' (i + 1) (s.size - (i + 1))) (bothM m (reachM C s (s.size + 1) (oneM s i))) (n + 1) else seenGo C s (List.range' (i + 1) (s.size - (i + 1))) m n : Nat) : Int) := fun hc => by
      rw [if_neg hc]
      apply ev_succ
      simp only [spec_PartsOf.j3]
      rw [wrap64_id (n := (i : Int) + 1) (by omega) (by omega), succ_cast]
      exact ev_neg (by simp) (ih (by omega) m n hm (by omega))
    by_cases hw : bt s i = 46
    · refine ev_pos hw (ev_pos (by omega) ?_)
      rw [rdOf_bool]
      by_cases hk : m.getD i false = true
      · rw [hk]
        have := j3f (by rw [hk]; simp)
        rw [hk] at this
        exact this
      · rw [Bool.not_eq_true] at hk
        rw [hk, if_pos ⟨hw, rfl⟩]
        apply ev_succ
        simp only [spec_PartsOf.j3]
        rw [wrap64_id (n := (n : Int) + 1) (by omega) (by omega), show ((n : Int) + 1) = ((n + 1 : Nat) : Int) by omega]
        refine ev_pos (by trivial) (spec_PartsOf_l2_ev R C s _ R i m _ h0 hC hs h36 hm h ?_ 0 (by omega))
        have hrl : (bothM m (reachM C s (s.size + 1) (oneM s i))).length = s.size := by
          have hone := oneM_length s i
          have hcnt : (oneM s i).count false < s.size + 1 := by
            have := List.count_le_length (a := false) (l := oneM s i)
            omega
          have := (reach_con h0 (by omega) hw (hone.trans hs) (oneM_iff h) (s.size + 1) hcnt).1
          unfold bothM
          rw [List.length_zipWith]
          omega
        exact ih (by omega) _ (n + 1) hrl (by omega)
    · exact ev_neg hw (j3f (fun x => hw x.1))
theorem spec_PartsOf_l0_ev (s : ByteArray) (r c : Int) (hs : s.size ≤ 1048576) (ρ : Int) (hρ : Ev (fun k => spec_PartsOf.l1 k 0 (List.replicate s.size false) 0 r c s) ρ) : ∀ i : Nat, i ≤ s.size →
    Ev (fun k => spec_PartsOf.l0 k 0 (List.replicate i false) i r c s) ρ := by
  refine down s.size ?_ ?_
  · intro i h hi
    obtain rfl : i = s.size := by omega
    apply ev_succ
    simp only [spec_PartsOf.l0]
    exact ev_neg (by omega) hρ
  · intro i h ih hi
    apply ev_succ
    simp only [spec_PartsOf.l0]
    rw [wrap64_id (n := (i : Int) + 1) (by omega) (by omega), succ_cast, rep_snoc]
    exact ev_pos (by omega) (ev_pos (by simp; omega) (ih (by omega)))
/-- How many parts of white cells a grid has. -/
def partsM (r c : Int) (s : ByteArray) : Nat := if gridM r c s then seenGo c.toNat s (List.range' 0 s.size) (List.replicate s.size false) 0 else 0
theorem spec_PartsOf_ev (r c : Int) (s : ByteArray) (hs : s.size ≤ 1048576) : Ev (fun k => spec_PartsOf.f k r c s) (partsM r c s : Nat) := by
  unfold spec_PartsOf.f partsM
  refine spec_PartsOf_l0_ev s r c hs _ ?_ 0 (by omega)
  by_cases hg : gridM r c s = true
  · rw [if_pos hg]
    obtain ⟨R, C, rfl, rfl, h1, h2, h3, h4, h5⟩ := gridM_nat hg
    have h36 : R * C ≤ 36 := Nat.mul_le_mul h2 h4
    have := spec_PartsOf_l1_ev R C s (by omega) h4 h5 (by omega) hg 0 (by omega) (List.replicate s.size false) 0 (by simp) (by omega)
    simpa using this
  · rw [if_neg hg]
    rw [Bool.not_eq_true] at hg
    have hj : Ev (fun k => spec_PartsOf.j2 k 0 (List.replicate s.size false) 0 false r c s) ((0 : Nat) : Int) := by
      apply ev_succ
      simp only [spec_PartsOf.j2]
      exact ev_neg (by simp) (ev_now rfl)
    apply ev_succ
    simp only [spec_PartsOf.l1]
    by_cases h : (0 : Int) < (s.size : Int)
    · refine ev_pos h (ev_bind (spec_IsGrid_ev r c s (by omega)) ?_)
      rw [hg]
      exact hj
    · exact ev_neg h hj
theorem impl_PartsOf_ev (r c : Int) (s : ByteArray) (hs : s.size ≤ 1048576) : Ev (fun k => impl_PartsOf.f k r c s) (partsM r c s : Nat) := by
  unfold impl_PartsOf.f partsM
  refine ev_bind (impl_IsGrid_ev r c s (by omega)) ?_
  by_cases hg : gridM r c s = true
  · rw [if_pos hg]
    obtain ⟨R, C, rfl, rfl, h1, h2, h3, h4, h5⟩ := gridM_nat hg
    refine ev_pos ⟨by omega, by omega, by rw [h5, Int.natCast_mul]⟩ (ev_now ?_)
    rw [Int.toNat_natCast, parts_same0 R C s (by omega) h5, if_pos hg]
  · rw [if_neg hg]
    exact ev_now (by rw [if_neg hg]; rfl)

/-! ### sz -/
def szM (s : ByteArray) : Int := if s.size ≤ 1048576 then 1048576 - s.size else -1
theorem laws_szGrid_eq (r c : Int) (s : ByteArray) (hs : s.size ≤ 9223372036854775807) : laws_szGrid.f r c s 1048576 = some (szM s) := by
  unfold laws_szGrid.f szM
  rw [wrap64_id (by omega) (by omega)]
  by_cases h : s.size ≤ 1048576
  · rw [if_neg (by omega), if_pos h]
  · rw [if_pos (by omega), if_neg h]

/-! ### the law -/
theorem FnExactPartsOf (r c : Int) (s : ByteArray) (_ : -9223372036854775808 ≤ r ∧ r ≤ 9223372036854775807) (_ : -9223372036854775808 ≤ c ∧ c ≤ 9223372036854775807) (hs : s.size ≤ 9223372036854775807) : ∃ k, laws_FnExactPartsOf.f k r c s = some true := by
  apply Ev.rounds
  unfold laws_FnExactPartsOf.f
  refine ev_let (laws_szGrid_eq r c s hs) ?_
  by_cases hc : s.size ≤ 1048576
  · exact ev_neg (by simp [szM, hc]; omega) (ev_let rfl (ev_bind (spec_PartsOf_ev r c s hc) (ev_let rfl (ev_bind (impl_PartsOf_ev r c s hc) (ev_pos rfl (ev_now rfl))))))
  · exact ev_pos (by simp [szM, hc]) (ev_now rfl)

end Go.Proofs.Ytgmhjinlpikpjaa.Pure
