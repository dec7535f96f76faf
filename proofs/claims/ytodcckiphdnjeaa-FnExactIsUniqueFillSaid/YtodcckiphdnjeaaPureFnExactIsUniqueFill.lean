/-
  The law FnExactIsUniqueFill over numbers and lists: the program's IsUniqueFill and the reference's answer alike for every grid, fill and list of words.
  Conditions: none.
-/
import Derived.Test.YtodcckiphdnjeaaQFnExactIsUniqueFillx
namespace Go.Proofs.Ytodcckiphdnjeaa.Pure
open Go.RowKit Go.Proofs.Ytodcckiphdnjeaa.QFnExactIsUniqueFill Go.Proofs.YtodcckiphdnjeaaW.PrintWords Go.Proofs.YtodcckiphdnjeaaW.PrintLast Go.Proofs.YtodcckiphdnjeaaW.PrintMore
set_option linter.unusedVariables false
set_option linter.unusedSimpArgs false

/-! ### base -/
theorem wrap64_id {n : Int} (h : -9223372036854775808 ≤ n) (h' : n ≤ 9223372036854775807) : wrap64 n = n := by
  unfold wrap64
  omega
section
variable {α β : Type}
theorem ev_succ {g : Nat → Option α} {r : α} (h : Ev (fun k => g (k + 1)) r) : Ev g r := Ev.step (fun _ => rfl) h
theorem ev_pos {c : Prop} [Decidable c] {g f : Nat → Option α} {r : α} (h : c) (k : Ev g r) : Ev (fun n => if c then g n else f n) r := by
  simpa only [if_pos h] using k
theorem ev_neg {c : Prop} [Decidable c] {g f : Nat → Option α} {r : α} (h : ¬ c) (k : Ev f r) : Ev (fun n => if c then g n else f n) r := by
  simpa only [if_neg h] using k
theorem ev_now {a r : α} (h : a = r) : Ev (fun _ => some a) r := h ▸ Ev.now a
theorem ev_let {o : Option β} {a : β} {f : Nat → β → Option α} {r : α} (h : o = some a) (k : Ev (fun n => f n a) r) : Ev (fun n => o.bind (f n)) r := by
  subst h
  exact k
theorem ev_bind {g : Nat → Option β} {f : Nat → β → Option α} {a : β} {r : α} (h : Ev g a) (k : Ev (fun n => f n a) r) : Ev (fun n => (g n).bind (f n)) r := Ev.bind h k
theorem ev_eq {g : Nat → Option α} {a r : α} (h : Ev g a) (e : a = r) : Ev g r := e ▸ h
end
/-- From the end of a loop back to a round: P holds from n on, and a round below n may use the next. -/
theorem down {P : Nat → Prop} (n : Nat) (hend : ∀ i, n ≤ i → P i) (hstep : ∀ i, i < n → P (i + 1) → P i) : ∀ i, P i := by
  intro i
  rcases Nat.lt_or_ge i n with h | h
  · obtain ⟨d, hd⟩ : ∃ d, n = i + d := ⟨n - i, by omega⟩
    induction d generalizing i with
    | zero => omega
    | succ d ih =>
      refine hstep i h ?_
      rcases Nat.lt_or_ge (i + 1) n with h1 | h1
      · exact ih (i + 1) h1 (by omega)
      · exact hend _ h1
  · exact hend i h
theorem range_cons {i n : Nat} (h : i < n) : List.range' i (n - i) = i :: List.range' (i + 1) (n - (i + 1)) := by
  obtain ⟨d, hd⟩ : ∃ d, n - i = d + 1 := ⟨n - i - 1, by omega⟩
  rw [hd, List.range'_succ, show n - (i + 1) = d by omega]
theorem range_nil {i n : Nat} (h : n ≤ i) : List.range' i (n - i) = [] := by
  rw [show n - i = 0 by omega]
  rfl
theorem succ_cast (i : Nat) : ((i : Int) + 1) = ((i + 1 : Nat) : Int) := by omega

/-! ### search -/
section
variable {F W : Type}
/-- Each slot from k on (d of them) has a word that fits. -/
def openM (fit : Nat → F → W → Bool) (D : List W) (d k : Nat) (f : F) : Bool := (List.range' k d).all fun j => D.any fun w => fit j f w
theorem openM_mem (fit : Nat → F → W → Bool) (A B : List W) (h : ∀ w, w ∈ A ↔ w ∈ B) (d k : Nat) (f : F) : openM fit A d k f = openM fit B d k f := by
  unfold openM
  congr 1
  funext j
  rw [Bool.eq_iff_iff, List.any_eq_true, List.any_eq_true]
  constructor
  · rintro ⟨w, hw, h1⟩; exact ⟨w, (h w).1 hw, h1⟩
  · rintro ⟨w, hw, h1⟩; exact ⟨w, (h w).2 hw, h1⟩
variable [DecidableEq W]
def srchI (fit : Nat → F → W → Bool) (wr : Nat → F → W → F) (D : List W) (most : Nat) : Nat → Nat → F → List W → List F → List F
  | 0, _, f, _, out => out ++ [f]
  | d + 1, k, f, used, out => if openM fit D (d + 1) k f = true then D.foldl (fun o w => if o.length = most then o else if fit k f w = true ∧ w ∉ used then srchI fit wr D most d (k + 1) (wr k f w) (used ++ [w]) o else o) out else out
def loopS (g : W → List F → List F) (c : W → Bool) (most : Nat) : List W → List W → List F → List F
  | _, [], o => o
  | pre, w :: r, o => if o.length < most then loopS g c most (pre ++ [w]) r (if w ∉ pre ∧ c w = true then g w o else o) else o
def srchS (fit : Nat → F → W → Bool) (wr : Nat → F → W → F) (ws : List W) (most : Nat) : Nat → Nat → F → List W → List F → List F
  | 0, _, f, _, out => if most ≤ out.length then out else out ++ [f]
  | d + 1, k, f, used, out => if most ≤ out.length then out else loopS (fun w o => srchS fit wr ws most d (k + 1) (wr k f w) (used ++ [w]) o) (fun w => (fit k f w && decide (w ∉ used)) && openM fit ws d (k + 1) (wr k f w)) most [] ws out
theorem srchI_length (fit : Nat → F → W → Bool) (wr : Nat → F → W → F) (D : List W) (most : Nat) : ∀ (d k : Nat) (f : F) (used : List W) (out : List F), out.length < most → (srchI fit wr D most d k f used out).length ≤ most
  | 0, k, f, used, out, h => by simp [srchI]; omega
  | d + 1, k, f, used, out, h => by
    unfold srchI
    split
    · have aux : ∀ (l : List W) (o : List F), o.length ≤ most → (l.foldl (fun o w => if o.length = most then o else if fit k f w = true ∧ w ∉ used then srchI fit wr D most d (k + 1) (wr k f w) (used ++ [w]) o else o) o).length ≤ most := by
        intro l
        induction l with
        | nil => intro o ho; exact ho
        | cons w l ih =>
          intro o ho
          rw [List.foldl_cons]
          refine ih _ ?_
          split
          · exact ho
          · split
            · exact srchI_length fit wr D most d (k + 1) _ _ o (by omega)
            · exact ho
      exact aux D out (by omega)
    · omega
/-- A fold over each word once is a loop that skips what has been. -/
theorem loopS_once (g : W → List F → List F) (c : W → Bool) (most : Nat) (hg : ∀ w o, o.length < most → (g w o).length ≤ most) (ws : List W) (D : List W) (sel : List W → List W → List W)
    (h0 : ∀ acc, sel acc [] = acc) (h1 : ∀ acc w r, sel acc (w :: r) = if w ∈ acc then sel acc r else sel (acc ++ [w]) r) :
    ∀ (r pre acc : List W) (o : List F), (∀ w, w ∈ acc ↔ w ∈ pre) → o.length ≤ most →
      loopS g c most pre r o = ((sel acc r).drop acc.length).foldl (fun o w => if o.length = most then o else if c w = true then g w o else o) o
  | [], pre, acc, o, _, _ => by simp [loopS, h0]
  | w :: r, pre, acc, o, hm, ho => by
    have hpre : ∀ acc r, ∃ t, sel acc r = acc ++ t := by
      intro acc r
      induction r generalizing acc with
      | nil => exact ⟨[], by simp [h0]⟩
      | cons x r ih =>
        rw [h1]
        split
        · exact ih acc
        · obtain ⟨t, ht⟩ := ih (acc ++ [x])
          exact ⟨x :: t, by rw [ht]; simp⟩
    have hstop : ∀ (l : List W) (o : List F), o.length = most → l.foldl (fun o w => if o.length = most then o else if c w = true then g w o else o) o = o := by
      intro l
      induction l with
      | nil => intro o _; rfl
      | cons x l ih => intro o h; rw [List.foldl_cons, if_pos h]; exact ih o h
    unfold loopS
    rw [h1]
    by_cases hlt : o.length < most
    · rw [if_pos hlt]
      by_cases hw : w ∈ acc
      · have hwp : w ∈ pre := (hm w).1 hw
        rw [if_pos hw, if_neg (by intro hh; exact hh.1 hwp)]
        refine loopS_once g c most hg ws D sel h0 h1 r (pre ++ [w]) acc o (fun x => ?_) ho
        rw [hm x]
        constructor
        · intro hx; simp [hx]
        · intro hx
          rcases List.mem_append.1 hx with hx | hx
          · exact hx
          · rw [List.mem_singleton.1 hx]; exact hwp
      · have hwp : ¬ w ∈ pre := fun hx => hw ((hm w).2 hx)
        rw [if_neg hw]
        have hd : (sel (acc ++ [w]) r).drop acc.length = w :: (sel (acc ++ [w]) r).drop (acc ++ [w]).length := by
          obtain ⟨t, ht⟩ := hpre (acc ++ [w]) r
          rw [ht]
          simp
        rw [hd, List.foldl_cons, if_neg (show ¬ o.length = most by omega)]
        by_cases hc : c w = true
        · rw [if_pos ⟨hwp, hc⟩, if_pos hc]
          exact loopS_once g c most hg ws D sel h0 h1 r (pre ++ [w]) (acc ++ [w]) _ (fun x => by simp [hm x]) (hg w o hlt)
        · rw [if_neg (fun hh => hc hh.2), if_neg hc]
          exact loopS_once g c most hg ws D sel h0 h1 r (pre ++ [w]) (acc ++ [w]) _ (fun x => by simp [hm x]) ho
    · rw [if_neg hlt]
      rw [hstop _ o (by omega)]
theorem loopS_none (g : W → List F → List F) (c : W → Bool) (most : Nat) : ∀ (r pre : List W) (o : List F), (∀ w ∈ r, c w = false) → loopS g c most pre r o = o
  | [], pre, o, _ => rfl
  | w :: r, pre, o, h => by
    unfold loopS
    have hw := h w (by simp)
    rw [if_neg (show ¬ (w ∉ pre ∧ c w = true) by rw [hw]; simp), loopS_none g c most r (pre ++ [w]) o (fun x hx => h x (by simp [hx]))]
    split <;> rfl
theorem loopS_congr {g g' : W → List F → List F} {c c' : W → Bool} {most : Nat} (hc : ∀ w, c w = c' w) : ∀ (r pre : List W) (o : List F), o.length ≤ most → (∀ w ∈ r, ∀ o : List F, o.length < most → c w = true → g w o = g' w o ∧ (g' w o).length ≤ most) → loopS g c most pre r o = loopS g' c' most pre r o
  | [], _, _, _, _ => rfl
  | w :: r, pre, o, ho, h => by
    unfold loopS
    by_cases hlt : o.length < most
    · rw [if_pos hlt, if_pos hlt]
      by_cases hw : w ∉ pre ∧ c w = true
      · obtain ⟨e, hl⟩ := h w (by simp) o hlt hw.2
        rw [if_pos hw, if_pos (show w ∉ pre ∧ c' w = true from ⟨hw.1, (hc w) ▸ hw.2⟩), e]
        exact loopS_congr hc r _ _ hl (fun x hx => h x (by simp [hx]))
      · rw [if_neg hw, if_neg (show ¬ (w ∉ pre ∧ c' w = true) from fun hh => hw ⟨hh.1, (hc w).trans hh.2⟩)]
        exact loopS_congr hc r _ _ ho (fun x hx => h x (by simp [hx]))
    · rw [if_neg hlt, if_neg hlt]
/-- Both searches answer alike. -/
theorem srch_one (fit : Nat → F → W → Bool) (wr : Nat → F → W → F) (ws : List W) (most : Nat) (V : F → Prop) (n : Nat)
    (hV : ∀ k f w, k < n → V f → fit k f w = true → V (wr k f w))
    (hfit : ∀ k f w j x, k < j → j < n → V f → fit k f w = true → fit j (wr k f w) x = true → fit j f x = true)
    (sel : List W → List W → List W) (h0 : ∀ acc, sel acc [] = acc) (h1 : ∀ acc w r, sel acc (w :: r) = if w ∈ acc then sel acc r else sel (acc ++ [w]) r) (hsel : ∀ w, w ∈ sel [] ws ↔ w ∈ ws) :
    ∀ (d k : Nat) (f : F) (used : List W) (out : List F), k + d = n → V f → out.length < most → openM fit ws d k f = true →
      srchS fit wr ws most d k f used out = srchI fit wr (sel [] ws) most d k f used out
  | 0, k, f, used, out, _, _, ho, _ => by
    unfold srchS srchI
    rw [if_neg (by omega)]
  | d + 1, k, f, used, out, hk, hv, ho, hop => by
    unfold srchS srchI
    rw [if_neg (by omega), if_pos (by rw [openM_mem fit (sel [] ws) ws hsel]; exact hop)]
    have hstep : ∀ w (o : List F), o.length < most → fit k f w = true → srchI fit wr (sel [] ws) most d (k + 1) (wr k f w) (used ++ [w]) o = (if openM fit ws d (k + 1) (wr k f w) = true then srchS fit wr ws most d (k + 1) (wr k f w) (used ++ [w]) o else o) := by
      intro w o hlt hf
      split
      · rename_i h
        exact (srch_one fit wr ws most V n hV hfit sel h0 h1 hsel d (k + 1) _ _ o (by omega) (hV k f w (by omega) hv hf) hlt h).symm
      · rename_i h
        cases d with
        | zero => exact absurd (by simp [openM]) h
        | succ d =>
          unfold srchI
          rw [if_neg (by rw [openM_mem fit (sel [] ws) ws hsel]; exact h)]
    have e1 : loopS (fun w o => srchS fit wr ws most d (k + 1) (wr k f w) (used ++ [w]) o) (fun w => (fit k f w && decide (w ∉ used)) && openM fit ws d (k + 1) (wr k f w)) most [] ws out
        = loopS (fun w o => if openM fit ws d (k + 1) (wr k f w) = true then srchI fit wr (sel [] ws) most d (k + 1) (wr k f w) (used ++ [w]) o else o) (fun w => (fit k f w && decide (w ∉ used)) && openM fit ws d (k + 1) (wr k f w)) most [] ws out := by
      refine loopS_congr (fun _ => rfl) ws [] out (by omega) (fun w _ o hlt hc => ?_)
      simp only [Bool.and_eq_true, decide_eq_true_eq] at hc
      rw [if_pos hc.2, hstep w o hlt hc.1.1, if_pos hc.2]
      refine ⟨rfl, ?_⟩
      rw [srch_one fit wr ws most V n hV hfit sel h0 h1 hsel d (k + 1) _ _ o (by omega) (hV k f w (by omega) hv hc.1.1) hlt hc.2]
      exact srchI_length _ _ _ _ _ _ _ _ _ hlt
    rw [e1, loopS_once _ _ most ?_ ws [] sel h0 h1 ws [] [] out (by simp) (by omega)]
    · simp only [List.length_nil, List.drop_zero]
      have aux : ∀ (l : List W) (o : List F), o.length ≤ most →
          l.foldl (fun o w => if o.length = most then o else if ((fit k f w && decide (w ∉ used)) && openM fit ws d (k + 1) (wr k f w)) = true then (if openM fit ws d (k + 1) (wr k f w) = true then srchI fit wr (sel [] ws) most d (k + 1) (wr k f w) (used ++ [w]) o else o) else o) o
          = l.foldl (fun o w => if o.length = most then o else if fit k f w = true ∧ w ∉ used then srchI fit wr (sel [] ws) most d (k + 1) (wr k f w) (used ++ [w]) o else o) o := by
        intro l
        induction l with
        | nil => intro o _; rfl
        | cons w l ih =>
          intro o hl
          rw [List.foldl_cons, List.foldl_cons]
          have e2 : (if o.length = most then o else if ((fit k f w && decide (w ∉ used)) && openM fit ws d (k + 1) (wr k f w)) = true then (if openM fit ws d (k + 1) (wr k f w) = true then srchI fit wr (sel [] ws) most d (k + 1) (wr k f w) (used ++ [w]) o else o) else o)
              = (if o.length = most then o else if fit k f w = true ∧ w ∉ used then srchI fit wr (sel [] ws) most d (k + 1) (wr k f w) (used ++ [w]) o else o) := by
            by_cases hm : o.length = most
            · rw [if_pos hm, if_pos hm]
            · rw [if_neg hm, if_neg hm]
              by_cases hc : fit k f w = true ∧ w ∉ used
              · rw [if_pos hc]
                by_cases hp : openM fit ws d (k + 1) (wr k f w) = true
                · rw [if_pos (by simp [hc, hp]), if_pos hp]
                · rw [if_neg (by simp [hp]), hstep w o (by omega) hc.1, if_neg hp]
              · rw [if_neg hc, if_neg (fun hh => by simp only [Bool.and_eq_true, decide_eq_true_eq] at hh; exact hc hh.1)]
          rw [e2]
          refine ih _ ?_
          split
          · exact hl
          · split
            · exact srchI_length _ _ _ _ _ _ _ _ _ (by omega)
            · exact hl
      exact aux _ out (by omega)
    · intro w o hlt
      split
      · exact srchI_length _ _ _ _ _ _ _ _ _ hlt
      · omega
/-- Where a slot has no word, the reference's search finds nothing. -/
theorem srchS_closed (fit : Nat → F → W → Bool) (wr : Nat → F → W → F) (ws : List W) (most : Nat) (V : F → Prop) (n : Nat)
    (hfit : ∀ k f w j x, k < j → j < n → V f → fit k f w = true → fit j (wr k f w) x = true → fit j f x = true)
    (d k : Nat) (f : F) (used : List W) (out : List F) (hk : k + d = n) (hv : V f) (h : openM fit ws d k f = false) : srchS fit wr ws most d k f used out = out := by
  cases d with
  | zero => simp [openM] at h
  | succ d =>
    unfold srchS
    split
    · rfl
    · refine loopS_none _ _ most ws [] out (fun w hw => ?_)
      by_cases hf : fit k f w = true
      · simp only [Bool.and_eq_false_iff]
        right
        unfold openM at h ⊢
        rw [List.range'_succ, List.all_cons, Bool.and_eq_false_iff] at h
        rcases h with h | h
        · rw [List.any_eq_false] at h
          exact absurd hf (h w hw)
        · rw [List.all_eq_false] at h ⊢
          obtain ⟨j, hj, hn⟩ := h
          refine ⟨j, hj, fun hh => hn ?_⟩
          rw [List.any_eq_true] at hh ⊢
          obtain ⟨x, hx, hfx⟩ := hh
          rw [List.mem_range'] at hj
          obtain ⟨q, hq, rfl⟩ := hj
          exact ⟨x, hx, hfit k f w _ x (by omega) (by omega) hv hf hfx⟩
      · rw [Bool.not_eq_true] at hf
        rw [hf]
        rfl
end

/-! ### lists -/
theorem rdOf_get {α : Type} {d : α} {l : List α} {i : Nat} (h : i < l.length) : rdOf d l (i : Int) = l[i] := by
  unfold rdOf
  simp [h]
theorem rd_get {l : List Int} {i : Nat} (h : i < l.length) : rd l (i : Int) = l[i] := by
  unfold rd
  simp [h]
theorem toList_eq (s : ByteArray) : s.toList = s.data.toList := Go.ByteArray.toList_eq s
instance lawfulBA : LawfulBEq ByteArray where
  eq_of_beq {a b} h := ByteArray.ext (eq_of_beq (α := Array UInt8) h)
  rfl {a} := by
    show (a.data == a.data) = true
    simp
theorem toList_inj {a b : ByteArray} : a.toList = b.toList ↔ a = b := by
  constructor
  · intro h
    rw [toList_eq, toList_eq] at h
    cases a
    cases b
    simp only [ByteArray.mk.injEq]
    exact Array.toList_inj.1 h
  · intro h
    rw [h]
theorem set_known {α : Type} {l x : List α} {i : Nat} {a : α} (hi : i < l.length) (hx : x.length = l.length) (ha : a = l[i]) (h : ∀ j, j < i → x[j]? = l[j]?) : ∀ j, j < i + 1 → (x.set i a)[j]? = l[j]? := by
  intro j hj
  by_cases e : j = i
  · subst e
    rw [List.getElem?_set_self (by omega), ha, List.getElem?_eq_getElem hi]
  · rw [List.getElem?_set_ne (Ne.symm e)]
    exact h j (by omega)
theorem all_known {α : Type} {l x : List α} (hx : x.length = l.length) (h : ∀ j, j < l.length → x[j]? = l[j]?) : x = l := by
  apply List.ext_getElem?
  intro j
  by_cases hj : j < l.length
  · exact h j hj
  · rw [List.getElem?_eq_none (by omega), List.getElem?_eq_none (by omega)]

/-! ### word -/
/-- A byte is a small letter. -/
def isL (c : Int) : Bool := decide (97 ≤ c ∧ c ≤ 122)
/-- A word: one to eight small letters. -/
def wordM (s : ByteArray) : Bool := decide (1 ≤ s.size ∧ s.size ≤ 8) && (List.range' 0 (s.size - 0)).all fun j => isL (bt s j)
theorem spec_l1In_eq (a b c : Int) : spec_l1In.f a b c = some (decide (b ≤ a ∧ a ≤ c)) := by
  unfold spec_l1In.f
  by_cases h : b ≤ a
  · rw [if_pos h]; simp [h]
  · rw [if_neg h]; simp [h]
theorem impl_InRange_eq (a b c : Int) : impl_InRange.f a b c = some (decide (b ≤ a ∧ a ≤ c)) := by
  unfold impl_InRange.f
  by_cases h : b ≤ a
  · rw [if_pos h]; simp [h]
  · rw [if_neg h]; simp [h]
theorem impl_isLetter_eq (c : Int) : impl_isLetter.f c = some (isL c) := by
  unfold impl_isLetter.f isL
  by_cases h : c ≥ 97
  · rw [if_pos h]; congr 1; simp; omega
  · rw [if_neg h]; congr 1; simp; omega
theorem spec_IsWord_l0_ev (s : ByteArray) (hs : s.size ≤ 140737488351232) : ∀ i : Nat, i ≤ s.size → Ev (fun k => spec_IsWord.l0 k s i) ((List.range' i (s.size - i)).all fun j => isL (bt s j)) := by
  refine down s.size ?_ ?_
  · intro i h hi
    apply ev_succ
    simp only [spec_IsWord.l0]
    refine ev_neg (by omega) (ev_now ?_)
    rw [range_nil h]; rfl
  · intro i h ih hi
    apply ev_succ
    simp only [spec_IsWord.l0]
    rw [range_cons h, List.all_cons, wrap64_id (by omega) (by omega), succ_cast]
    refine ev_pos (by omega) (ev_pos (by omega) ?_)
    by_cases h1 : bt s i < 97
    · exact ev_pos h1 (ev_now (by simp [isL]; omega))
    · refine ev_neg h1 ?_
      by_cases h2 : bt s i > 122
      · exact ev_pos h2 (ev_now (by simp [isL]; omega))
      · refine ev_neg h2 (ev_eq (ih (by omega)) ?_)
        rw [show isL (bt s i) = true by simp [isL]; omega, Bool.true_and]
theorem impl_IsWord_l0_ev (s : ByteArray) (hs : s.size ≤ 140737488351232) : ∀ i : Nat, i ≤ s.size → Ev (fun k => impl_IsWord.l0 k s s.size i) ((List.range' i (s.size - i)).all fun j => isL (bt s j)) := by
  refine down s.size ?_ ?_
  · intro i h hi
    apply ev_succ
    simp only [impl_IsWord.l0]
    refine ev_neg (by omega) (ev_now ?_)
    rw [range_nil h]; rfl
  · intro i h ih hi
    apply ev_succ
    simp only [impl_IsWord.l0]
    rw [range_cons h, List.all_cons, wrap64_id (by omega) (by omega), succ_cast]
    refine ev_pos (by omega) (ev_pos (by omega) (ev_pos (by omega) (ev_let (impl_isLetter_eq _) ?_)))
    cases isL (bt s i)
    · exact ev_neg (by simp) (ev_now (by simp))
    · exact ev_pos rfl (ev_eq (ih (by omega)) (by simp))
theorem spec_IsWord_ev (s : ByteArray) (hs : s.size ≤ 140737488351232) : Ev (fun k => spec_IsWord.f k s) (wordM s) := by
  simp only [spec_IsWord.f]
  refine ev_let (spec_l1In_eq _ _ _) ?_
  by_cases h : 1 ≤ s.size ∧ s.size ≤ 8
  · refine ev_pos (by simp; omega) (ev_eq (spec_IsWord_l0_ev s hs 0 (by omega)) ?_)
    simp [wordM, h]
  · refine ev_neg (by simp; omega) (ev_now ?_)
    simp [wordM, h]
theorem impl_IsWord_ev (s : ByteArray) (hs : s.size ≤ 140737488351232) : Ev (fun k => impl_IsWord.f k s) (wordM s) := by
  simp only [impl_IsWord.f]
  refine ev_let (impl_InRange_eq _ _ _) ?_
  by_cases h : 1 ≤ s.size ∧ s.size ≤ 8
  · refine ev_pos (by simp; omega) (ev_eq (impl_IsWord_l0_ev s hs 0 (by omega)) ?_)
    simp [wordM, h]
  · refine ev_neg (by simp; omega) (ev_now ?_)
    simp [wordM, h]
theorem wordM_size {s : ByteArray} (h : wordM s = true) : 1 ≤ s.size ∧ s.size ≤ 8 := by
  simp only [wordM, Bool.and_eq_true, decide_eq_true_eq] at h
  exact h.1

/-! ### grid -/
/-- A cell's sign. -/
def isC (c : Int) : Bool := decide (c = 35) || decide (c = 46)
/-- A grid: 2 to 6 rows and columns, its cells black or white. -/
def gridM (r c : Int) (s : ByteArray) : Bool := decide (2 ≤ r ∧ r ≤ 6) && decide (2 ≤ c ∧ c ≤ 6) && decide ((s.size : Int) = r * c) && (List.range' 0 (s.size - 0)).all fun j => isC (bt s j)
theorem gridM_nat {r c : Int} {s : ByteArray} (h : gridM r c s = true) : ∃ R C : Nat, r = R ∧ c = C ∧ 2 ≤ R ∧ R ≤ 6 ∧ 2 ≤ C ∧ C ≤ 6 ∧ s.size = R * C := by
  simp only [gridM, Bool.and_eq_true, decide_eq_true_eq] at h
  obtain ⟨⟨⟨hr, hc⟩, hs⟩, _⟩ := h
  obtain ⟨R, rfl⟩ := Int.eq_ofNat_of_zero_le (show 0 ≤ r by omega)
  obtain ⟨C, rfl⟩ := Int.eq_ofNat_of_zero_le (show 0 ≤ c by omega)
  exact ⟨R, C, rfl, rfl, by omega, by omega, by omega, by omega, by exact_mod_cast hs⟩
theorem bounds36 {R C : Nat} (hR : R ≤ 6) (hC : C ≤ 6) : R * C ≤ 36 := Nat.mul_le_mul hR hC
theorem spec_IsGrid_l0_ev (r c : Int) (s : ByteArray) (hs : s.size ≤ 140737488351232) : ∀ i : Nat, i ≤ s.size → Ev (fun k => spec_IsGrid.l0 k i r c s) ((List.range' i (s.size - i)).all fun j => isC (bt s j)) := by
  refine down s.size ?_ ?_
  · intro i h hi
    apply ev_succ
    simp only [spec_IsGrid.l0]
    refine ev_neg (by omega) (ev_now ?_)
    rw [range_nil h]; rfl
  · intro i h ih hi
    apply ev_succ
    simp only [spec_IsGrid.l0]
    rw [range_cons h, List.all_cons, wrap64_id (by omega) (by omega), succ_cast]
    refine ev_pos (by omega) (ev_pos (by omega) ?_)
    by_cases h1 : bt s i = 35
    · exact ev_pos h1 (ev_eq (ih (by omega)) (by simp [isC, h1]))
    · refine ev_neg h1 ?_
      by_cases h2 : bt s i = 46
      · exact ev_pos h2 (ev_eq (ih (by omega)) (by simp [isC, h2]))
      · exact ev_neg h2 (ev_now (by simp [isC, h1, h2]))
theorem impl_IsGrid_l0_ev (r c : Int) (s : ByteArray) (hs : s.size ≤ 140737488351232) : ∀ i : Nat, i ≤ s.size → Ev (fun k => impl_IsGrid.l0 k s.size i r c s) ((List.range' i (s.size - i)).all fun j => isC (bt s j)) := by
  refine down s.size ?_ ?_
  · intro i h hi
    apply ev_succ
    simp only [impl_IsGrid.l0]
    refine ev_neg (by omega) (ev_now ?_)
    rw [range_nil h]; rfl
  · intro i h ih hi
    apply ev_succ
    simp only [impl_IsGrid.l0]
    rw [range_cons h, List.all_cons, wrap64_id (by omega) (by omega), succ_cast]
    refine ev_pos (by omega) (ev_pos (by omega) (ev_pos (by omega) ?_))
    by_cases h1 : bt s i = 35
    · exact ev_pos h1 (ev_eq (ih (by omega)) (by simp [isC, h1]))
    · refine ev_neg h1 ?_
      by_cases h2 : bt s i = 46
      · exact ev_pos h2 (ev_eq (ih (by omega)) (by simp [isC, h2]))
      · exact ev_neg h2 (ev_now (by simp [isC, h1, h2]))
theorem wrap_mul {r c : Int} (hr : 2 ≤ r ∧ r ≤ 6) (hc : 2 ≤ c ∧ c ≤ 6) : wrap64 (r * c) = r * c := by
  have h1 : 0 ≤ r * c := Int.mul_nonneg (by omega) (by omega)
  have h2 : r * c ≤ 6 * 6 := Int.mul_le_mul hr.2 hc.2 (by omega) (by omega)
  exact wrap64_id (by omega) (by omega)
theorem spec_IsGrid_ev (r c : Int) (s : ByteArray) (hs : s.size ≤ 140737488351232) : Ev (fun k => spec_IsGrid.f k r c s) (gridM r c s) := by
  unfold spec_IsGrid.f
  refine ev_let (spec_l1In_eq _ _ _) ?_
  by_cases hr : 2 ≤ r ∧ r ≤ 6
  · refine ev_pos (by simpa using hr) (ev_let (spec_l1In_eq _ _ _) ?_)
    by_cases hc : 2 ≤ c ∧ c ≤ 6
    · refine ev_pos (by simpa using hc) ?_
      rw [wrap_mul hr hc]
      apply ev_succ
      simp only [spec_IsGrid.j0]
      by_cases hn : (s.size : Int) = r * c
      · refine ev_neg (by simp [hn]) (ev_eq (spec_IsGrid_l0_ev r c s hs 0 (by omega)) ?_)
        simp [gridM, hr, hc, hn]
      · exact ev_pos (by simp [hn]) (ev_now (by simp [gridM, hn]))
    · refine ev_neg (by simpa using hc) (ev_succ ?_)
      simp only [spec_IsGrid.j0]
      exact ev_pos (by simp) (ev_now (by simp [gridM, hc]))
  · refine ev_neg (by simpa using hr) (ev_succ ?_)
    simp only [spec_IsGrid.j0]
    exact ev_pos (by simp) (ev_now (by simp [gridM, hr]))
theorem impl_IsGrid_ev (r c : Int) (s : ByteArray) (hs : s.size ≤ 140737488351232) : Ev (fun k => impl_IsGrid.f k r c s) (gridM r c s) := by
  unfold impl_IsGrid.f
  refine ev_let (impl_InRange_eq _ _ _) ?_
  by_cases hr : 2 ≤ r ∧ r ≤ 6
  · refine ev_pos (by simpa using hr) (ev_let (impl_InRange_eq _ _ _) ?_)
    by_cases hc : 2 ≤ c ∧ c ≤ 6
    · refine ev_pos (by simpa using hc) ?_
      rw [wrap_mul hr hc]
      apply ev_succ
      simp only [impl_IsGrid.j0]
      by_cases hn : (s.size : Int) = r * c
      · refine ev_neg (by simp [hn]) (ev_eq (impl_IsGrid_l0_ev r c s hs 0 (by omega)) ?_)
        simp [gridM, hr, hc, hn]
      · exact ev_pos (by simp [hn]) (ev_now (by simp [gridM, hn]))
    · refine ev_neg (by simpa using hc) (ev_succ ?_)
      simp only [impl_IsGrid.j0]
      exact ev_pos (by simp) (ev_now (by simp [gridM, hc]))
  · refine ev_neg (by simpa using hr) (ev_succ ?_)
    simp only [impl_IsGrid.j0]
    exact ev_pos (by simp) (ev_now (by simp [gridM, hr]))

/-! ### slots -/
/-- How many cells follow one another from a cell on, white ones, at most m. -/
def runLen (s : ByteArray) (step : Nat) : Nat → Nat → Nat
  | _, 0 => 0
  | i, m + 1 => if bt s i = 46 then 1 + runLen s step (i + step) m else 0
def stepM (C : Nat) (dn : Bool) : Nat := if dn then C else 1
def atM (C : Nat) (dn : Bool) (i : Nat) : Nat := if dn then i / C else i % C
def mostM (R C : Nat) (dn : Bool) : Nat := if dn then R else C
/-- The length of the part of white cells that begins at a cell; 0 if none begins there. -/
def runM (R C : Nat) (s : ByteArray) (i : Nat) (dn : Bool) : Nat :=
  if bt s i = 46 ∧ ¬ (0 < atM C dn i ∧ bt s (i - stepM C dn : Nat) = 46) then runLen s (stepM C dn) i (mostM R C dn - atM C dn i) else 0
theorem runLen_le (s : ByteArray) (step : Nat) : ∀ m i, runLen s step i m ≤ m
  | 0, _ => Nat.le_refl _
  | m + 1, i => by
    unfold runLen
    split
    · have := runLen_le s step m (i + step)
      omega
    · omega
theorem cell_lt {R C : Nat} {i j : Nat} {dn : Bool} (hC : 0 < C) (hi : i < R * C) (hj : atM C dn i + j < mostM R C dn) : i + j * stepM C dn < R * C := by
  cases dn with
  | true =>
    simp only [atM, mostM, stepM, if_true] at hj ⊢
    have h1 := Nat.div_add_mod i C
    have h2 := Nat.mod_lt i hC
    have h3 : C * (i / C + j + 1) ≤ C * R := Nat.mul_le_mul_left _ (by omega)
    rw [Nat.mul_comm R C]
    rw [Nat.mul_add, Nat.mul_add, Nat.mul_one] at h3
    rw [Nat.mul_comm j C]
    omega
  | false =>
    simp only [atM, mostM, stepM, Bool.false_eq_true, if_false] at hj ⊢
    have h1 := Nat.div_add_mod i C
    have h4 : i / C < R := (Nat.div_lt_iff_lt_mul hC).2 hi
    have h3 : C * (i / C + 1) ≤ C * R := Nat.mul_le_mul_left _ h4
    rw [Nat.mul_comm R C]
    rw [Nat.mul_add, Nat.mul_one] at h3
    omega
theorem mul_bound {j C : Nat} (hj : j ≤ 6) (hC : C ≤ 6) : j * C ≤ 36 := Nat.mul_le_mul hj hC
theorem stepM_le {C : Nat} (hC : C ≤ 6) (h0 : 0 < C) (dn : Bool) : 1 ≤ stepM C dn ∧ stepM C dn ≤ 6 := by
  unfold stepM
  split <;> omega
theorem mostM_le {R C : Nat} (hR : R ≤ 6) (hC : C ≤ 6) (dn : Bool) : mostM R C dn ≤ 6 := by
  unfold mostM
  split <;> omega
theorem spec_l8From_l0_ev (R C : Nat) (s : ByteArray) (r c : Int) (hR : R ≤ 6) (hC : C ≤ 6) (h0 : 0 < C) (hs : s.size = R * C) (i : Nat) (dn : Bool) (hi : i < R * C) : ∀ n : Nat, atM C dn i + n ≤ mostM R C dn →
    Ev (fun k => spec_l8From.l0 k i (stepM C dn) (atM C dn i) (mostM R C dn) n r c s) (n + runLen s (stepM C dn) (i + n * stepM C dn) (mostM R C dn - atM C dn i - n) : Nat) := by
  have hm := mostM_le hR hC dn
  have hst := stepM_le hC h0 dn
  have h36 := bounds36 hR hC
  refine down (mostM R C dn - atM C dn i) ?_ ?_
  · intro n h hn
    apply ev_succ
    simp only [spec_l8From.l0]
    rw [wrap64_id (n := (atM C dn i : Int) + n) (by omega) (by omega)]
    refine ev_neg (by omega) (ev_now ?_)
    rw [show mostM R C dn - atM C dn i - n = 0 by omega]
    rfl
  · intro n h ih hn
    have hlt := cell_lt h0 hi (show atM C dn i + n < mostM R C dn by omega)
    have hb := mul_bound (show n ≤ 6 by omega) (show stepM C dn ≤ 6 by omega)
    have hcast : ((n : Int) * (stepM C dn : Int)) = ((n * stepM C dn : Nat) : Int) := by rw [Int.natCast_mul]
    apply ev_succ
    simp only [spec_l8From.l0]
    rw [wrap64_id (n := (atM C dn i : Int) + n) (by omega) (by omega), hcast, wrap64_id (n := ((n * stepM C dn : Nat) : Int)) (by omega) (by omega), wrap64_id (n := (i : Int) + _) (by omega) (by omega), wrap64_id (n := (n : Int) + 1) (by omega) (by omega), succ_cast]
    rw [show mostM R C dn - atM C dn i - n = (mostM R C dn - atM C dn i - (n + 1)) + 1 by omega]
    unfold runLen
    rw [show ((i : Int) + ((n * stepM C dn : Nat) : Int)) = ((i + n * stepM C dn : Nat) : Int) by omega]
    refine ev_pos (by omega) (ev_pos (by omega) (ev_pos (by omega) ?_))
    by_cases hw : bt s (i + n * stepM C dn : Nat) = 46
    · rw [if_pos hw]
      refine ev_pos hw (ev_eq (ih (by omega)) ?_)
      rw [show i + (n + 1) * stepM C dn = i + n * stepM C dn + stepM C dn by rw [Nat.add_mul, Nat.one_mul, Nat.add_assoc]]
      omega
    · rw [if_neg hw]
      exact ev_neg hw (ev_now (by simp))
theorem spec_l8From_ev (R C : Nat) (s : ByteArray) (hR : R ≤ 6) (hC : C ≤ 6) (h0 : 0 < C) (hs : s.size = R * C) (i : Nat) (dn : Bool) (hi : i < R * C) :
    Ev (fun k => spec_l8From.f k R C s i dn) (runM R C s i dn : Nat) := by
  have hst := stepM_le hC h0 dn
  have h36 := bounds36 hR hC
  have hl0 := spec_l8From_l0_ev R C s R C hR hC h0 hs i dn hi 0
  have key : Ev (fun k => spec_l8From.j0 k i (stepM C dn) (atM C dn i) (mostM R C dn) R C s) (runM R C s i dn : Nat) := by
    have hat : atM C dn i ≤ i ∧ (0 < atM C dn i → stepM C dn ≤ i) ∧ atM C dn i ≤ mostM R C dn := by
      cases dn with
      | true =>
        simp only [atM, stepM, mostM, if_true]
        refine ⟨Nat.div_le_self _ _, fun h => ?_, ?_⟩
        · exact (Nat.div_pos_iff.1 h).2
        · exact Nat.le_of_lt ((Nat.div_lt_iff_lt_mul h0).2 hi)
      | false =>
        simp only [atM, stepM, mostM, Bool.false_eq_true, if_false]
        have := Nat.mod_le i C
        have := Nat.mod_lt i h0
        omega
    have hj1 : ∀ b : Bool, (b = true → Ev (fun k => spec_l8From.j1 k i (stepM C dn) (atM C dn i) (mostM R C dn) b R C s) 0) ∧
        (b = false → Ev (fun k => spec_l8From.j1 k i (stepM C dn) (atM C dn i) (mostM R C dn) b R C s) (runLen s (stepM C dn) i (mostM R C dn - atM C dn i) : Nat)) := by
      intro b
      refine ⟨fun hb => ?_, fun hb => ?_⟩
      · apply ev_succ
        simp only [spec_l8From.j1]
        exact ev_pos hb (ev_now rfl)
      · apply ev_succ
        simp only [spec_l8From.j1]
        exact ev_neg (by simp [hb]) (by simpa using hl0 (by omega))
    apply ev_succ
    simp only [spec_l8From.j0]
    refine ev_pos (by omega) (ev_pos (by omega) ?_)
    unfold runM
    by_cases hw : bt s i = 46
    · refine ev_pos hw ?_
      by_cases ha : 0 < atM C dn i
      · have h2 := hat.2.1 ha
        rw [wrap64_id (n := (i : Int) - _) (by omega) (by omega), show ((i : Int) - (stepM C dn : Nat)) = ((i - stepM C dn : Nat) : Int) by omega]
        refine ev_pos (by omega) (ev_pos (by omega) (ev_pos (by omega) ?_))
        by_cases hp : bt s (i - stepM C dn : Nat) = 46
        · rw [if_neg (by simp [ha, hp])]
          exact (hj1 _).1 (by simp [hp])
        · rw [if_pos ⟨hw, fun x => hp x.2⟩]
          exact (hj1 _).2 (by simp [hp])
      · rw [if_pos ⟨hw, fun x => ha x.1⟩]
        exact ev_neg (by omega) ((hj1 false).2 rfl)
    · rw [if_neg (fun x => hw x.1)]
      exact ev_neg hw ((hj1 true).1 rfl)
  unfold spec_l8From.f
  refine ev_neg (by omega) ?_
  cases dn with
  | true =>
    refine ev_pos rfl ?_
    have e : Int.tdiv (i : Int) (C : Int) = ((i / C : Nat) : Int) := Int.ofNat_tdiv i C |>.symm
    have hd := Nat.div_le_self i C
    have hq := Int.natCast_nonneg (i / C)
    rw [e, wrap64_id (by omega) (by omega)]
    simpa only [stepM, atM, mostM, if_true] using key
  | false =>
    refine ev_neg (by simp) ?_
    have e : Int.tmod (i : Int) (C : Int) = ((i % C : Nat) : Int) := Int.ofNat_tmod i C |>.symm
    rw [e]
    simpa [stepM, atM, mostM] using key

theorem impl_run_l0_ev (R C : Nat) (s : ByteArray) (r c : Int) (hR : R ≤ 6) (hC : C ≤ 6) (h0 : 0 < C) (hs : s.size = R * C) (i : Nat) (dn : Bool) (hi : i < R * C) : ∀ n : Nat, atM C dn i + n ≤ mostM R C dn →
    Ev (fun k => impl_run.l0 k i (stepM C dn) (atM C dn i) (mostM R C dn) n r c s) (n + runLen s (stepM C dn) (i + n * stepM C dn) (mostM R C dn - atM C dn i - n) : Nat) := by
  have hm := mostM_le hR hC dn
  have hst := stepM_le hC h0 dn
  have h36 := bounds36 hR hC
  refine down (mostM R C dn - atM C dn i) ?_ ?_
  · intro n h hn
    apply ev_succ
    simp only [impl_run.l0]
    rw [wrap64_id (n := (atM C dn i : Int) + n) (by omega) (by omega)]
    refine ev_neg (by omega) (ev_now ?_)
    rw [show mostM R C dn - atM C dn i - n = 0 by omega]
    rfl
  · intro n h ih hn
    have hlt := cell_lt h0 hi (show atM C dn i + n < mostM R C dn by omega)
    have hb := mul_bound (show n ≤ 6 by omega) (show stepM C dn ≤ 6 by omega)
    have hcast : ((n : Int) * (stepM C dn : Int)) = ((n * stepM C dn : Nat) : Int) := by rw [Int.natCast_mul]
    apply ev_succ
    simp only [impl_run.l0]
    rw [wrap64_id (n := (atM C dn i : Int) + n) (by omega) (by omega), hcast, wrap64_id (n := ((n * stepM C dn : Nat) : Int)) (by omega) (by omega), wrap64_id (n := (i : Int) + _) (by omega) (by omega), wrap64_id (n := (n : Int) + 1) (by omega) (by omega), succ_cast]
    rw [show mostM R C dn - atM C dn i - n = (mostM R C dn - atM C dn i - (n + 1)) + 1 by omega]
    unfold runLen
    rw [show ((i : Int) + ((n * stepM C dn : Nat) : Int)) = ((i + n * stepM C dn : Nat) : Int) by omega]
    refine ev_pos (by omega) (ev_pos (by omega) (ev_pos (by omega) ?_))
    by_cases hw : bt s (i + n * stepM C dn : Nat) = 46
    · rw [if_pos hw]
      refine ev_pos hw (ev_eq (ih (by omega)) ?_)
      rw [show i + (n + 1) * stepM C dn = i + n * stepM C dn + stepM C dn by rw [Nat.add_mul, Nat.one_mul, Nat.add_assoc]]
      omega
    · rw [if_neg hw]
      exact ev_neg hw (ev_now (by simp))
theorem impl_run_ev (R C : Nat) (s : ByteArray) (hR : R ≤ 6) (hC : C ≤ 6) (h0 : 0 < C) (hs : s.size = R * C) (i : Nat) (dn : Bool) (hi : i < R * C) :
    Ev (fun k => impl_run.f k R C s i dn) (runM R C s i dn : Nat) := by
  have hst := stepM_le hC h0 dn
  have h36 := bounds36 hR hC
  have hl0 := impl_run_l0_ev R C s R C hR hC h0 hs i dn hi 0
  have key : Ev (fun k => impl_run.j0 k i (stepM C dn) (atM C dn i) (mostM R C dn) R C s) (runM R C s i dn : Nat) := by
    have hat : atM C dn i ≤ i ∧ (0 < atM C dn i → stepM C dn ≤ i) ∧ atM C dn i ≤ mostM R C dn := by
      cases dn with
      | true =>
        simp only [atM, stepM, mostM, if_true]
        refine ⟨Nat.div_le_self _ _, fun h => ?_, ?_⟩
        · exact (Nat.div_pos_iff.1 h).2
        · exact Nat.le_of_lt ((Nat.div_lt_iff_lt_mul h0).2 hi)
      | false =>
        simp only [atM, stepM, mostM, Bool.false_eq_true, if_false]
        have := Nat.mod_le i C
        have := Nat.mod_lt i h0
        omega
    have hj1 : ∀ b : Bool, (b = true → Ev (fun k => impl_run.j1 k i (stepM C dn) (atM C dn i) (mostM R C dn) b R C s) 0) ∧
        (b = false → Ev (fun k => impl_run.j1 k i (stepM C dn) (atM C dn i) (mostM R C dn) b R C s) (runLen s (stepM C dn) i (mostM R C dn - atM C dn i) : Nat)) := by
      intro b
      refine ⟨fun hb => ?_, fun hb => ?_⟩
      · apply ev_succ
        simp only [impl_run.j1]
        exact ev_pos hb (ev_now rfl)
      · apply ev_succ
        simp only [impl_run.j1]
        exact ev_neg (by simp [hb]) (by simpa using hl0 (by omega))
    apply ev_succ
    simp only [impl_run.j0]
    refine ev_pos (by omega) (ev_pos (by omega) ?_)
    unfold runM
    by_cases hw : bt s i = 46
    · refine ev_pos hw ?_
      by_cases ha : 0 < atM C dn i
      · have h2 := hat.2.1 ha
        rw [wrap64_id (n := (i : Int) - _) (by omega) (by omega), show ((i : Int) - (stepM C dn : Nat)) = ((i - stepM C dn : Nat) : Int) by omega]
        refine ev_pos (by omega) (ev_pos (by omega) (ev_pos (by omega) ?_))
        by_cases hp : bt s (i - stepM C dn : Nat) = 46
        · rw [if_neg (by simp [ha, hp])]
          exact (hj1 _).1 (by simp [hp])
        · rw [if_pos ⟨hw, fun x => hp x.2⟩]
          exact (hj1 _).2 (by simp [hp])
      · rw [if_pos ⟨hw, fun x => ha x.1⟩]
        exact ev_neg (by omega) ((hj1 false).2 rfl)
    · rw [if_neg (fun x => hw x.1)]
      exact ev_neg hw ((hj1 true).1 rfl)
  unfold impl_run.f
  refine ev_neg (by omega) ?_
  cases dn with
  | true =>
    refine ev_pos rfl ?_
    have e : Int.tdiv (i : Int) (C : Int) = ((i / C : Nat) : Int) := Int.ofNat_tdiv i C |>.symm
    have hd := Nat.div_le_self i C
    have hq := Int.natCast_nonneg (i / C)
    rw [e, wrap64_id (by omega) (by omega)]
    simpa only [stepM, atM, mostM, if_true] using key
  | false =>
    refine ev_neg (by simp) ?_
    have e : Int.tmod (i : Int) (C : Int) = ((i % C : Nat) : Int) := Int.ofNat_tmod i C |>.symm
    rw [e]
    simpa [stepM, atM, mostM] using key

/-! ### slotsof -/
abbrev ISlot := S65
theorem rd_Slot_get {l : List ISlot} {i : Nat} (h : i < l.length) : rd_T65 l (i : Int) = l[i] := by
  unfold rd_T65
  simp [h]
/-- The slots that begin at a cell, under a number. -/
def slotsOne (R C : Nat) (s : ByteArray) (i : Nat) (n : Int) : List ISlot :=
  (if 2 ≤ runM R C s i false then [⟨n, false, i, runM R C s i false⟩] else []) ++ (if 2 ≤ runM R C s i true then [⟨n, true, i, runM R C s i true⟩] else [])
def numOne (R C : Nat) (s : ByteArray) (i : Nat) (n : Int) : Int := if 2 ≤ runM R C s i false ∨ 2 ≤ runM R C s i true then n + 1 else n
def slotsGo (R C : Nat) (s : ByteArray) : List Nat → Int → List ISlot
  | [], _ => []
  | i :: l, n => slotsOne R C s i (numOne R C s i n) ++ slotsGo R C s l (numOne R C s i n)
/-- The slots of a grid; none of what is no grid. -/
def slotsM (r c : Int) (s : ByteArray) : List ISlot := if gridM r c s then slotsGo r.toNat c.toNat s (List.range' 0 (s.size - 0)) 0 else []
theorem slotsOne_length (R C : Nat) (s : ByteArray) (i : Nat) (n : Int) : (slotsOne R C s i n).length ≤ 2 := by
  unfold slotsOne
  split <;> split <;> simp
theorem slotsGo_length (R C : Nat) (s : ByteArray) : ∀ (l : List Nat) (n : Int), (slotsGo R C s l n).length ≤ 2 * l.length
  | [], _ => by simp [slotsGo]
  | i :: l, n => by
    unfold slotsGo
    have h1 := slotsOne_length R C s i (numOne R C s i n)
    have h2 := slotsGo_length R C s l (numOne R C s i n)
    simp only [List.length_append, List.length_cons]
    omega
theorem slotsM_length (r c : Int) (s : ByteArray) : (slotsM r c s).length ≤ 72 := by
  unfold slotsM
  split
  · rename_i h
    obtain ⟨R, C, rfl, rfl, _, hR, _, hC, hs⟩ := gridM_nat h
    have := slotsGo_length R C s (List.range' 0 (s.size - 0)) 0
    have h36 := bounds36 hR hC
    rw [List.length_range'] at this
    simp only [Int.toNat_natCast]
    omega
  · simp
theorem spec_SlotsOf_j3_ev {acc : List ISlot} {n : Int} {i a d : Nat} {r c : Int} {s : ByteArray} {ρ : List ISlot} (ha : acc.length ≤ 72) (hi : i ≤ 100)
    (h : Ev (fun k => spec_SlotsOf.l0 k (acc ++ ((if 2 ≤ a then [⟨n, false, i, a⟩] else []) ++ (if 2 ≤ d then [⟨n, true, i, d⟩] else []))) n (i + 1 : Nat) r c s) ρ) : Ev (fun k => spec_SlotsOf.j3 k acc n i a d r c s) ρ := by
  apply ev_succ
  simp only [spec_SlotsOf.j3]
  rw [wrap64_id (n := (i : Int) + 1) (by omega) (by omega), succ_cast]
  by_cases h1 : 2 ≤ a
  · rw [if_pos h1] at h
    refine ev_pos (by omega) (ev_pos (by omega) (ev_let rfl ?_))
    by_cases h2 : 2 ≤ d
    · rw [if_pos h2] at h
      exact ev_pos (by omega) (ev_pos (by simp; omega) (by simpa using h))
    · rw [if_neg h2] at h
      exact ev_neg (by omega) (by simpa using h)
  · rw [if_neg h1] at h
    refine ev_neg (by omega) ?_
    by_cases h2 : 2 ≤ d
    · rw [if_pos h2] at h
      exact ev_pos (by omega) (ev_pos (by omega) (by simpa using h))
    · rw [if_neg h2] at h
      exact ev_neg (by omega) (by simpa using h)
theorem spec_SlotsOf_l0_ev (R C : Nat) (s : ByteArray) (hR : 2 ≤ R ∧ R ≤ 6) (hC : 2 ≤ C ∧ C ≤ 6) (hg : gridM R C s = true) (hs : s.size = R * C) : ∀ i : Nat, i ≤ s.size → ∀ (acc : List ISlot) (n : Int), acc.length ≤ 2 * i → 0 ≤ n → n ≤ i →
    Ev (fun k => spec_SlotsOf.l0 k acc n i R C s) (acc ++ slotsGo R C s (List.range' i (s.size - i)) n) := by
  have h36 := bounds36 hR.2 hC.2
  refine down s.size ?_ ?_
  · intro i h hi acc n ha h0 hn
    apply ev_succ
    simp only [spec_SlotsOf.l0]
    refine ev_neg (by omega) (ev_succ ?_)
    simp only [spec_SlotsOf.j1]
    rw [range_nil h]
    exact ev_neg (by simp) (ev_now (by simp [slotsGo]))
  · intro i h ih hi acc n ha h0 hn
    apply ev_succ
    simp only [spec_SlotsOf.l0]
    refine ev_pos (by omega) (ev_bind (spec_IsGrid_ev R C s (by omega)) (ev_succ ?_))
    simp only [spec_SlotsOf.j1]
    refine ev_pos hg (ev_bind (spec_l8From_ev R C s hR.2 hC.2 (by omega) hs i false (by omega)) (ev_bind (spec_l8From_ev R C s hR.2 hC.2 (by omega) hs i true (by omega)) ?_))
    rw [range_cons h]
    unfold slotsGo
    have hnum : numOne R C s i n ≤ i + 1 ∧ 0 ≤ numOne R C s i n := by
      unfold numOne
      split <;> omega
    have hl := slotsOne_length R C s i (numOne R C s i n)
    have hnext := ih (by omega) (acc ++ slotsOne R C s i (numOne R C s i n)) (numOne R C s i n) (by simp; omega) hnum.2 (by omega)
    rw [List.append_assoc] at hnext
    have key : ∀ b : Bool, b = decide (2 ≤ runM R C s i false ∨ 2 ≤ runM R C s i true) → Ev (fun k => spec_SlotsOf.j2 k acc n i (runM R C s i false : Nat) (runM R C s i true : Nat) b R C s) (acc ++ (slotsOne R C s i (numOne R C s i n) ++ slotsGo R C s (List.range' (i + 1) (s.size - (i + 1))) (numOne R C s i n))) := by
      intro b hb
      apply ev_succ
      simp only [spec_SlotsOf.j2]
      rw [wrap64_id (n := n + 1) (by omega) (by omega)]
      by_cases hc : 2 ≤ runM R C s i false ∨ 2 ≤ runM R C s i true
      · have e : numOne R C s i n = n + 1 := if_pos hc
        rw [e] at hnext ⊢
        exact ev_pos (by rw [hb]; simpa using hc) (spec_SlotsOf_j3_ev (by omega) (by omega) hnext)
      · have e : numOne R C s i n = n := if_neg hc
        rw [e] at hnext ⊢
        exact ev_neg (by rw [hb]; simpa using hc) (spec_SlotsOf_j3_ev (by omega) (by omega) hnext)
    by_cases h1 : 2 ≤ runM R C s i false
    · exact ev_pos (by omega) (key true (decide_eq_true (.inl h1)).symm)
    · exact ev_neg (by omega) (key _ (decide_eq_decide.2 (by omega)))
theorem spec_SlotsOf_ev (r c : Int) (s : ByteArray) (hs : s.size ≤ 1048576) : Ev (fun k => spec_SlotsOf.f k r c s) (slotsM r c s) := by
  unfold spec_SlotsOf.f slotsM
  by_cases hg : gridM r c s = true
  · rw [if_pos hg]
    obtain ⟨R, C, rfl, rfl, h1, h2, h3, h4, h5⟩ := gridM_nat hg
    simpa using spec_SlotsOf_l0_ev R C s ⟨h1, h2⟩ ⟨h3, h4⟩ hg h5 0 (by omega) [] 0 (by simp) (by omega) (by omega)
  · rw [if_neg hg]
    have hj : Ev (fun k => spec_SlotsOf.j1 k [] 0 0 false r c s) [] := by
      apply ev_succ
      simp only [spec_SlotsOf.j1]
      exact ev_neg (by simp) (ev_now rfl)
    apply ev_succ
    simp only [spec_SlotsOf.l0]
    by_cases h : (0 : Int) < (s.size : Int)
    · refine ev_pos h (ev_bind (spec_IsGrid_ev r c s (by omega)) ?_)
      rw [Bool.not_eq_true] at hg
      rw [hg]
      exact hj
    · exact ev_neg h hj
theorem impl_SlotsOf_j2_ev {acc : List ISlot} {n : Int} {i a d m : Nat} {r c : Int} {s : ByteArray} {ρ : List ISlot} (ha : acc.length ≤ 72) (hi : i ≤ 100)
    (h : Ev (fun k => impl_SlotsOf.l0 k (acc ++ ((if 2 ≤ a then [⟨n, false, i, a⟩] else []) ++ (if 2 ≤ d then [⟨n, true, i, d⟩] else []))) n m (i + 1 : Nat) r c s) ρ) : Ev (fun k => impl_SlotsOf.j2 k acc n i a d m i r c s) ρ := by
  apply ev_succ
  simp only [impl_SlotsOf.j2]
  rw [wrap64_id (n := (i : Int) + 1) (by omega) (by omega), succ_cast]
  by_cases h1 : 2 ≤ a
  · rw [if_pos h1] at h
    refine ev_pos (by omega) (ev_pos (by omega) (ev_let rfl ?_))
    by_cases h2 : 2 ≤ d
    · rw [if_pos h2] at h
      exact ev_pos (by omega) (ev_pos (by simp; omega) (by simpa using h))
    · rw [if_neg h2] at h
      exact ev_neg (by omega) (by simpa using h)
  · rw [if_neg h1] at h
    refine ev_neg (by omega) ?_
    by_cases h2 : 2 ≤ d
    · rw [if_pos h2] at h
      exact ev_pos (by omega) (ev_pos (by omega) (by simpa using h))
    · rw [if_neg h2] at h
      exact ev_neg (by omega) (by simpa using h)
theorem impl_SlotsOf_l0_ev (R C : Nat) (s : ByteArray) (hR : 2 ≤ R ∧ R ≤ 6) (hC : 2 ≤ C ∧ C ≤ 6) (hs : s.size = R * C) : ∀ i : Nat, i ≤ s.size → ∀ (acc : List ISlot) (n : Int), acc.length ≤ 2 * i → 0 ≤ n → n ≤ i →
    Ev (fun k => impl_SlotsOf.l0 k acc n s.size i R C s) (acc ++ slotsGo R C s (List.range' i (s.size - i)) n) := by
  have h36 := bounds36 hR.2 hC.2
  refine down s.size ?_ ?_
  · intro i h hi acc n ha h0 hn
    apply ev_succ
    simp only [impl_SlotsOf.l0]
    rw [range_nil h]
    exact ev_neg (by omega) (ev_now (by simp [slotsGo]))
  · intro i h ih hi acc n ha h0 hn
    apply ev_succ
    simp only [impl_SlotsOf.l0]
    refine ev_pos (by omega) (ev_bind (impl_run_ev R C s hR.2 hC.2 (by omega) hs i false (by omega)) (ev_bind (impl_run_ev R C s hR.2 hC.2 (by omega) hs i true (by omega)) ?_))
    rw [range_cons h]
    unfold slotsGo
    have hnum : numOne R C s i n ≤ i + 1 ∧ 0 ≤ numOne R C s i n := by
      unfold numOne
      split <;> omega
    have hl := slotsOne_length R C s i (numOne R C s i n)
    have hnext := ih (by omega) (acc ++ slotsOne R C s i (numOne R C s i n)) (numOne R C s i n) (by simp; omega) hnum.2 (by omega)
    rw [List.append_assoc] at hnext
    have key : ∀ b : Bool, b = decide (2 ≤ runM R C s i false ∨ 2 ≤ runM R C s i true) → Ev (fun k => impl_SlotsOf.j1 k acc n i (runM R C s i false : Nat) (runM R C s i true : Nat) s.size i b R C s) (acc ++ (slotsOne R C s i (numOne R C s i n) ++ slotsGo R C s (List.range' (i + 1) (s.size - (i + 1))) (numOne R C s i n))) := by
      intro b hb
      apply ev_succ
      simp only [impl_SlotsOf.j1]
      rw [wrap64_id (n := n + 1) (by omega) (by omega)]
      by_cases hc : 2 ≤ runM R C s i false ∨ 2 ≤ runM R C s i true
      · have e : numOne R C s i n = n + 1 := if_pos hc
        rw [e] at hnext ⊢
        exact ev_pos (by rw [hb]; simpa using hc) (impl_SlotsOf_j2_ev (by omega) (by omega) hnext)
      · have e : numOne R C s i n = n := if_neg hc
        rw [e] at hnext ⊢
        exact ev_neg (by rw [hb]; simpa using hc) (impl_SlotsOf_j2_ev (by omega) (by omega) hnext)
    by_cases h1 : 2 ≤ runM R C s i false
    · exact ev_pos (by omega) (key true (decide_eq_true (.inl h1)).symm)
    · exact ev_neg (by omega) (key _ (decide_eq_decide.2 (by omega)))
theorem impl_SlotsOf_ev (r c : Int) (s : ByteArray) (hs : s.size ≤ 1048576) : Ev (fun k => impl_SlotsOf.f k r c s) (slotsM r c s) := by
  unfold impl_SlotsOf.f slotsM
  refine ev_bind (impl_IsGrid_ev r c s (by omega)) ?_
  by_cases hg : gridM r c s = true
  · rw [if_pos hg]
    obtain ⟨R, C, rfl, rfl, h1, h2, h3, h4, h5⟩ := gridM_nat hg
    exact ev_pos hg (by simpa using impl_SlotsOf_l0_ev R C s ⟨h1, h2⟩ ⟨h3, h4⟩ h5 0 (by omega) [] 0 (by simp) (by omega) (by omega))
  · rw [if_neg hg]
    exact ev_neg hg (ev_now rfl)

/-! ### cells -/
theorem slot_ext_iff {a b : ISlot} : (a.f0 = b.f0 ∧ a.f1 = b.f1 ∧ a.f2 = b.f2 ∧ a.f3 = b.f3) ↔ a = b := by
  cases a
  cases b
  simp
instance decSlot : DecidableEq ISlot := fun a b => decidable_of_iff _ slot_ext_iff
/-- The cells of a slot. -/
def cellsM (C : Nat) (x : ISlot) : List Int := (List.range' 0 (x.f3.toNat - 0)).map fun k : Nat => x.f2 + (k : Int) * (stepM C x.f1 : Int)
def okSlot (R C : Nat) (s : ByteArray) (x : ISlot) : Prop := ∃ i : Nat, i < R * C ∧ x.f2 = i ∧ x.f3 = runM R C s i x.f1 ∧ 2 ≤ runM R C s i x.f1
theorem slotsOne_mem {R C : Nat} {s : ByteArray} {i : Nat} {n : Int} {x : ISlot} (h : x ∈ slotsOne R C s i n) : x.f0 = n ∧ x.f2 = i ∧ x.f3 = runM R C s i x.f1 ∧ 2 ≤ runM R C s i x.f1 := by
  unfold slotsOne at h
  rcases List.mem_append.1 h with h | h
  · split at h
    · rename_i h2
      rw [List.mem_singleton] at h
      subst h
      exact ⟨rfl, rfl, rfl, h2⟩
    · cases h
  · split at h
    · rename_i h2
      rw [List.mem_singleton] at h
      subst h
      exact ⟨rfl, rfl, rfl, h2⟩
    · cases h
theorem slotsGo_mem {R C : Nat} {s : ByteArray} {x : ISlot} : ∀ {l : List Nat} {n : Int}, x ∈ slotsGo R C s l n → ∃ i ∈ l, x.f2 = i ∧ x.f3 = runM R C s i x.f1 ∧ 2 ≤ runM R C s i x.f1
  | [], _, h => by cases h
  | i :: l, n, h => by
    unfold slotsGo at h
    rcases List.mem_append.1 h with h | h
    · exact ⟨i, List.mem_cons_self, (slotsOne_mem h).2⟩
    · obtain ⟨j, hj, h2⟩ := slotsGo_mem h
      exact ⟨j, List.mem_cons_of_mem _ hj, h2⟩
theorem slotsM_ok {r c : Int} {s : ByteArray} {x : ISlot} (h : x ∈ slotsM r c s) : ∃ R C : Nat, r = R ∧ c = C ∧ 2 ≤ R ∧ R ≤ 6 ∧ 2 ≤ C ∧ C ≤ 6 ∧ s.size = R * C ∧ gridM r c s = true ∧ okSlot R C s x := by
  unfold slotsM at h
  split at h
  · rename_i hg
    obtain ⟨R, C, rfl, rfl, h1, h2, h3, h4, h5⟩ := gridM_nat hg
    obtain ⟨i, hi, h6⟩ := slotsGo_mem h
    rw [List.mem_range'] at hi
    obtain ⟨j, hj, rfl⟩ := hi
    refine ⟨R, C, rfl, rfl, h1, h2, h3, h4, h5, hg, _, ?_, h6⟩
    omega
  · cases h
def slotLt (a b : ISlot) : Prop := a.f2 < b.f2 ∨ (a.f2 = b.f2 ∧ a.f1 = false ∧ b.f1 = true)
theorem slotLt_ne {a b : ISlot} (h : slotLt a b) : a ≠ b := by
  rintro rfl
  rcases h with h | ⟨_, h1, h2⟩
  · omega
  · rw [h1] at h2
    cases h2
theorem slotsGo_pairwise {R C : Nat} {s : ByteArray} : ∀ {l : List Nat} {n : Int}, l.Pairwise (· < ·) → (slotsGo R C s l n).Pairwise slotLt
  | [], _, _ => by simp [slotsGo]
  | i :: l, n, h => by
    unfold slotsGo
    rw [List.pairwise_append]
    refine ⟨?_, slotsGo_pairwise (List.pairwise_cons.1 h).2, ?_⟩
    · unfold slotsOne
      rw [List.pairwise_append]
      refine ⟨by split <;> simp, by split <;> simp, ?_⟩
      intro a ha b hb
      split at ha
      · split at hb
        · rw [List.mem_singleton] at ha hb
          subst ha hb
          exact .inr ⟨rfl, rfl, rfl⟩
        · cases hb
      · cases ha
    · intro a ha b hb
      have h1 := (slotsOne_mem ha).2.1
      obtain ⟨j, hj, h2, _⟩ := slotsGo_mem hb
      have := (List.pairwise_cons.1 h).1 j hj
      exact .inl (by omega)
theorem slotsM_pairwise (r c : Int) (s : ByteArray) : (slotsM r c s).Pairwise slotLt := by
  unfold slotsM
  split
  · exact slotsGo_pairwise (List.pairwise_lt_range' (step := 1) (by omega))
  · simp
theorem slotsM_nodup (r c : Int) (s : ByteArray) : (slotsM r c s).Nodup := (slotsM_pairwise r c s).imp slotLt_ne
theorem okSlot_bounds {R C : Nat} {s : ByteArray} {x : ISlot} (hR : R ≤ 6) (hC : C ≤ 6) (h : okSlot R C s x) : 0 ≤ x.f2 ∧ x.f2 < 36 ∧ 2 ≤ x.f3 ∧ x.f3 ≤ 6 ∧ x.f3.toNat ≤ 6 := by
  obtain ⟨i, hi, h2, h3, h4⟩ := h
  have h36 := bounds36 hR hC
  have h5 : runM R C s i x.f1 ≤ 6 := by
    unfold runM
    split
    · have := runLen_le s (stepM C x.f1) (mostM R C x.f1 - atM C x.f1 i) i
      have := mostM_le hR hC x.f1
      omega
    · omega
  omega
/-- What CellsOf answers. -/
def cellsOfM (r c : Int) (s : ByteArray) (x : ISlot) : List Int := if x ∈ slotsM r c s then cellsM c.toNat x else []
theorem cellsM_length (C : Nat) (x : ISlot) : (cellsM C x).length = x.f3.toNat := by simp [cellsM]
theorem cellsOfM_length (r c : Int) (s : ByteArray) (x : ISlot) : (cellsOfM r c s x).length ≤ 6 := by
  unfold cellsOfM
  split
  · rename_i h
    obtain ⟨R, C, rfl, rfl, _, h2, _, h4, _, _, hk⟩ := slotsM_ok h
    have := okSlot_bounds h2 h4 hk
    rw [cellsM_length]
    omega
  · simp
theorem cell_wrap {C : Nat} {x : ISlot} {k : Nat} (hC : C ≤ 6) (_ : 0 < C) (hk : k ≤ 6) (h1 : 0 ≤ x.f2) (h2 : x.f2 < 36) : wrap64 ((k : Int) * (C : Int)) = (k : Int) * (C : Int) ∧ wrap64 (x.f2 + (k : Int) * (C : Int)) = x.f2 + (k : Int) * (C : Int) := by
  have hb := mul_bound hk hC
  have hcast : ((k : Int) * (C : Int)) = ((k * C : Nat) : Int) := by rw [Int.natCast_mul]
  rw [hcast]
  exact ⟨wrap64_id (by omega) (by omega), wrap64_id (by omega) (by omega)⟩
theorem spec_CellsOf_l1_ev {l : List ISlot} {j : Nat} {R C : Nat} {s : ByteArray} {x : ISlot} {ρ : List Int} (hl : l.length ≤ 1048576) (hj : j < l.length) (hC : C ≤ 6) (h0 : 0 < C) (hx : 0 ≤ x.f2 ∧ x.f2 < 36 ∧ 0 ≤ x.f3 ∧ x.f3.toNat ≤ 6) : ∀ n : Nat, n ≤ x.f3.toNat → ∀ acc : List Int, acc.length ≤ 1000000 + n →
    Ev (fun k => spec_CellsOf.l0 k (acc ++ (List.range' n (x.f3.toNat - n)).map fun k : Nat => x.f2 + (k : Int) * (stepM C x.f1 : Int)) l (j + 1 : Nat) R C s x.f0 x.f1 x.f2 x.f3) ρ → Ev (fun k => spec_CellsOf.l1 k acc l j n R C s x.f0 x.f1 x.f2 x.f3) ρ := by
  refine down x.f3.toNat ?_ ?_
  · intro n h hn acc ha hρ
    apply ev_succ
    simp only [spec_CellsOf.l1]
    rw [wrap64_id (n := (j : Int) + 1) (by omega) (by omega), succ_cast]
    rw [range_nil h] at hρ
    exact ev_neg (by omega) (by simpa using hρ)
  · intro n h ih hn acc ha hρ
    apply ev_succ
    simp only [spec_CellsOf.l1]
    rw [wrap64_id (n := (n : Int) + 1) (by omega) (by omega), succ_cast]
    rw [range_cons h, List.map_cons] at hρ
    have hw := cell_wrap (x := x) hC h0 (show n ≤ 6 by omega) hx.1 hx.2.1
    refine ev_pos (by omega) ?_
    cases hd : x.f1 with
    | true =>
      refine ev_pos rfl (ev_pos (by omega) ?_)
      rw [hw.1, hw.2]
      have := ih (by omega) (acc ++ [x.f2 + (n : Int) * (C : Int)]) (by simp; omega)
      rw [hd] at this hρ
      exact this (by simpa [stepM] using hρ)
    | false =>
      refine ev_neg (by simp) (ev_pos (by omega) ?_)
      rw [wrap64_id (n := x.f2 + n) (by omega) (by omega)]
      have := ih (by omega) (acc ++ [x.f2 + (n : Int)]) (by simp; omega)
      rw [hd] at this hρ
      exact this (by simpa [stepM] using hρ)
theorem spec_CellsOf_l0_ev (R C : Nat) (s : ByteArray) (x : ISlot) (l : List ISlot) (hl : l.length ≤ 1000) (hC : C ≤ 6) (h0 : 0 < C) (hx : x ∈ l → 0 ≤ x.f2 ∧ x.f2 < 36 ∧ 0 ≤ x.f3 ∧ x.f3.toNat ≤ 6) : ∀ i : Nat, i ≤ l.length → ∀ acc : List Int, acc.length ≤ 6 * i →
    Ev (fun k => spec_CellsOf.l0 k acc l i R C s x.f0 x.f1 x.f2 x.f3) (acc ++ (l.drop i).flatMap fun y => if y = x then cellsM C x else []) := by
  refine down l.length ?_ ?_
  · intro i h hi acc ha
    apply ev_succ
    simp only [spec_CellsOf.l0]
    exact ev_neg (by omega) (ev_now (by rw [List.drop_eq_nil_of_le h]; simp))
  · intro i h ih hi acc ha
    apply ev_succ
    simp only [spec_CellsOf.l0]
    rw [rd_Slot_get h, wrap64_id (n := (i : Int) + 1) (by omega) (by omega), succ_cast, List.drop_eq_getElem_cons h, List.flatMap_cons]
    refine ev_pos (by omega) (ev_pos (by omega) ?_)
    by_cases he : l[i] = x
    · have hm : x ∈ l := he ▸ List.getElem_mem h
      have hb := hx hm
      rw [if_pos he]
      refine ev_neg (by rw [he]; simp) ?_
      have := ih (by omega) (acc ++ cellsM C x) (by rw [List.length_append, cellsM_length]; omega)
      exact spec_CellsOf_l1_ev (by omega) h hC h0 hb 0 (by omega) acc (by omega) (by simpa [cellsM] using this)
    · rw [if_neg he]
      refine ev_pos ?_ (by simpa using ih (by omega) acc (by omega))
      rw [← slot_ext_iff] at he
      simp only [Bool.or_eq_true, Bool.not_eq_true', beq_eq_false_iff_ne, ne_eq]
      by_cases a : l[i].f0 = x.f0 <;> by_cases b : l[i].f1 = x.f1 <;> by_cases c : l[i].f2 = x.f2 <;> simp_all
theorem flatMap_one {l : List ISlot} {x : ISlot} {v : List Int} (h : l.Nodup) : (l.flatMap fun y => if y = x then v else []) = if x ∈ l then v else [] := by
  induction l with
  | nil => simp
  | cons a l ih =>
    rw [List.nodup_cons] at h
    rw [List.flatMap_cons, ih h.2]
    by_cases e : a = x
    · subst e
      simp [h.1]
    · simp [e, show ¬ x = a from fun h => e h.symm]
theorem spec_CellsOf_ev (r c : Int) (s : ByteArray) (x : ISlot) (hs : s.size ≤ 1048576) : Ev (fun k => spec_CellsOf.f k r c s x.f0 x.f1 x.f2 x.f3) (cellsOfM r c s x) := by
  unfold spec_CellsOf.f
  refine ev_bind (spec_SlotsOf_ev r c s hs) ?_
  by_cases hg : gridM r c s = true
  · obtain ⟨R, C, rfl, rfl, h1, h2, h3, h4, h5⟩ := gridM_nat hg
    have hl := slotsM_length R C s
    refine ev_eq (spec_CellsOf_l0_ev R C s x (slotsM R C s) (by omega) h4 (by omega) ?_ 0 (by omega) [] (by simp)) ?_
    · intro hm
      obtain ⟨R', C', e1, e2, _, h7, _, h9, _, _, hk⟩ := slotsM_ok hm
      have := okSlot_bounds h7 h9 hk
      omega
    · rw [List.drop_zero, flatMap_one (slotsM_nodup _ _ _)]
      simp [cellsOfM]
  · have e : slotsM r c s = [] := by
      unfold slotsM
      rw [if_neg hg]
    unfold cellsOfM
    rw [e]
    apply ev_succ
    simp only [spec_CellsOf.l0]
    exact ev_neg (by simp) (ev_now (by simp))
theorem impl_cells_l0_ev (C : Nat) (x : ISlot) (hC : C ≤ 6) (h0 : 0 < C) (hx : 0 ≤ x.f2 ∧ x.f2 < 36 ∧ 0 ≤ x.f3 ∧ x.f3.toNat ≤ 6) : ∀ n : Nat, n ≤ x.f3.toNat → ∀ acc : List Int, acc.length ≤ n →
    Ev (fun k => impl_cells.l0 k (stepM C x.f1) acc x.f3 n x.f0 x.f1 x.f2 x.f3) (acc ++ (List.range' n (x.f3.toNat - n)).map fun k : Nat => x.f2 + (k : Int) * (stepM C x.f1 : Int)) := by
  refine down x.f3.toNat ?_ ?_
  · intro n h hn acc ha
    apply ev_succ
    simp only [impl_cells.l0]
    rw [range_nil h]
    exact ev_neg (by omega) (ev_now (by simp))
  · intro n h ih hn acc ha
    have hst := stepM_le hC h0 x.f1
    have hw := cell_wrap (C := stepM C x.f1) (x := x) hst.2 (by omega) (show n ≤ 6 by omega) hx.1 hx.2.1
    apply ev_succ
    simp only [impl_cells.l0]
    rw [wrap64_id (n := (n : Int) + 1) (by omega) (by omega), succ_cast, hw.1, hw.2, range_cons h, List.map_cons]
    exact ev_pos (by omega) (ev_pos (by omega) (ev_eq (ih (by omega) _ (by simp; omega)) (by simp)))
theorem impl_cells_ev (R : Int) (C : Nat) (s : ByteArray) (x : ISlot) (hC : C ≤ 6) (h0 : 0 < C) (hx : 0 ≤ x.f2 ∧ x.f2 < 36 ∧ 0 ≤ x.f3 ∧ x.f3.toNat ≤ 6) : Ev (fun k => impl_cells.f k R C s x.f0 x.f1 x.f2 x.f3) (cellsM C x) := by
  have key : Ev (fun k => impl_cells.j0 k (stepM C x.f1) x.f0 x.f1 x.f2 x.f3) (cellsM C x) := by
    apply ev_succ
    simp only [impl_cells.j0]
    simpa [cellsM] using impl_cells_l0_ev C x hC h0 hx 0 (by omega) [] (by simp)
  unfold impl_cells.f
  cases hd : x.f1 with
  | true =>
    rw [hd] at key
    exact ev_pos rfl (by simpa [stepM] using key)
  | false =>
    rw [hd] at key
    exact ev_neg (by simp) (by simpa [stepM] using key)

/-! ### ints -/
theorem spec_l8Has_l0_ev (l : List Int) (n : Int) (hl : l.length ≤ 9223372036854775806) : ∀ i : Nat, i ≤ l.length → Ev (fun k => spec_l8Has.l0 k l n i) (decide (n ∈ l.drop i)) := by
  refine down l.length ?_ ?_
  · intro i h hi
    apply ev_succ
    simp only [spec_l8Has.l0]
    exact ev_neg (by omega) (ev_now (by rw [List.drop_eq_nil_of_le h]; simp))
  · intro i h ih hi
    apply ev_succ
    simp only [spec_l8Has.l0]
    rw [rd_get h, wrap64_id (n := (i : Int) + 1) (by omega) (by omega), succ_cast, List.drop_eq_getElem_cons h]
    refine ev_pos (by omega) (ev_pos (by omega) ?_)
    by_cases he : l[i] = n
    · exact ev_pos he (ev_now (by simp [-List.getElem_cons_drop, he]))
    · exact ev_neg he (ev_eq (ih (by omega)) (by simp [-List.getElem_cons_drop, show ¬ n = l[i] from fun e => he e.symm]))
theorem spec_l8Has_ev (l : List Int) (n : Int) (hl : l.length ≤ 9223372036854775806) : Ev (fun k => spec_l8Has.f k l n) (decide (n ∈ l)) := by
  unfold spec_l8Has.f
  exact ev_eq (spec_l8Has_l0_ev l n hl 0 (by omega)) (by simp)

/-! ### slotsat -/
theorem rd_ints_get {l : List (List Int)} {i : Nat} (h : i < l.length) : rd_L4 l (i : Int) = l[i] := by
  unfold rd_L4
  simp [h]
/-- The places, from i on, of the slots that hold a cell. -/
def atGo (C : Nat) (cell : Int) : List ISlot → Nat → List Int
  | [], _ => []
  | x :: l, i => if cell ∈ cellsM C x then (i : Int) :: atGo C cell l (i + 1) else atGo C cell l (i + 1)
def slotsAtM (r c : Int) (s : ByteArray) (cell : Int) : List Int := atGo c.toNat cell (slotsM r c s) 0
def checkedM (r c : Int) (s : ByteArray) (cell : Int) : Bool := decide ((slotsAtM r c s cell).length = 2)
theorem atGo_length (C : Nat) (cell : Int) : ∀ (l : List ISlot) (i : Nat), (atGo C cell l i).length ≤ l.length
  | [], _ => by simp [atGo]
  | x :: l, i => by
    unfold atGo
    have := atGo_length C cell l (i + 1)
    split <;> simp only [List.length_cons] <;> omega
theorem slotsAtM_length (r c : Int) (s : ByteArray) (cell : Int) : (slotsAtM r c s cell).length ≤ 72 := by
  have := atGo_length c.toNat cell (slotsM r c s) 0
  have := slotsM_length r c s
  unfold slotsAtM
  omega
theorem slotsM_elem {r c : Int} {s : ByteArray} {i : Nat} (h : i < (slotsM r c s).length) : ∃ R C : Nat, r = R ∧ c = C ∧ C ≤ 6 ∧ 0 < C ∧ 0 ≤ (slotsM r c s)[i].f2 ∧ (slotsM r c s)[i].f2 < 36 ∧ 0 ≤ (slotsM r c s)[i].f3 ∧ (slotsM r c s)[i].f3.toNat ≤ 6 := by
  obtain ⟨R, C, h1, h2, h3, h4, h5, h6, _, _, hk⟩ := slotsM_ok (List.getElem_mem h)
  have := okSlot_bounds h4 h6 hk
  exact ⟨R, C, h1, h2, h6, by omega, by omega, by omega, by omega, by omega⟩
theorem cellsOfM_elem {r c : Int} {s : ByteArray} {i : Nat} (h : i < (slotsM r c s).length) : cellsOfM r c s (slotsM r c s)[i] = cellsM c.toNat (slotsM r c s)[i] := by
  unfold cellsOfM
  rw [if_pos (List.getElem_mem h)]
theorem cellsM_length_elem {r c : Int} {s : ByteArray} {i : Nat} (h : i < (slotsM r c s).length) : (cellsM c.toNat (slotsM r c s)[i]).length ≤ 6 := by
  rw [← cellsOfM_elem h]
  exact cellsOfM_length _ _ _ _
theorem spec_SlotsAt_l0_ev (r c : Int) (s : ByteArray) (cell : Int) (hs : s.size ≤ 1048576) : ∀ i : Nat, i ≤ (slotsM r c s).length → ∀ acc : List Int, acc.length ≤ i →
    Ev (fun k => spec_SlotsAt.l0 k cell acc (slotsM r c s) i r c s) (acc ++ atGo c.toNat cell ((slotsM r c s).drop i) i) := by
  have hl := slotsM_length r c s
  refine down (slotsM r c s).length ?_ ?_
  · intro i h hi acc ha
    apply ev_succ
    simp only [spec_SlotsAt.l0]
    exact ev_neg (by omega) (ev_now (by rw [List.drop_eq_nil_of_le h]; simp [atGo]))
  · intro i h ih hi acc ha
    have h6 := cellsM_length_elem h
    apply ev_succ
    simp only [spec_SlotsAt.l0]
    rw [rd_Slot_get h, wrap64_id (n := (i : Int) + 1) (by omega) (by omega), succ_cast, List.drop_eq_getElem_cons h]
    unfold atGo
    refine ev_pos (by omega) (ev_pos (by omega) (ev_bind (spec_CellsOf_ev r c s _ hs) ?_))
    rw [cellsOfM_elem h]
    refine ev_bind (spec_l8Has_ev _ cell (by omega)) ?_
    by_cases hm : cell ∈ cellsM c.toNat (slotsM r c s)[i]
    · rw [if_pos hm]
      exact ev_pos (by simpa using hm) (ev_pos (by omega) (ev_eq (ih (by omega) _ (by simp; omega)) (by simp)))
    · rw [if_neg hm]
      exact ev_neg (by simpa using hm) (ih (by omega) _ (by omega))
theorem spec_SlotsAt_ev (r c : Int) (s : ByteArray) (cell : Int) (hs : s.size ≤ 1048576) : Ev (fun k => spec_SlotsAt.f k r c s cell) (slotsAtM r c s cell) := by
  unfold spec_SlotsAt.f slotsAtM
  exact ev_bind (spec_SlotsOf_ev r c s hs) (ev_eq (spec_SlotsAt_l0_ev r c s cell hs 0 (by omega) [] (by simp)) (by simp))
theorem impl_layout_l0_ev (r c : Int) (s : ByteArray) : ∀ i : Nat, i ≤ (slotsM r c s).length → ∀ acc : List (List Int), acc.length ≤ i →
    Ev (fun k => impl_layout.l0 k acc (slotsM r c s) (slotsM r c s).length i r c s) (acc ++ ((slotsM r c s).drop i).map (cellsM c.toNat)) := by
  have hl := slotsM_length r c s
  refine down (slotsM r c s).length ?_ ?_
  · intro i h hi acc ha
    apply ev_succ
    simp only [impl_layout.l0]
    exact ev_neg (by omega) (ev_now (by rw [List.drop_eq_nil_of_le h]; simp))
  · intro i h ih hi acc ha
    obtain ⟨R, C, h1, h2, h3, h4, h5, h6, h7, h8⟩ := slotsM_elem h
    have e : c.toNat = C := by omega
    have hcells := impl_cells_ev r C s (slotsM r c s)[i] h3 h4 ⟨h5, h6, h7, h8⟩
    apply ev_succ
    simp only [impl_layout.l0]
    rw [rd_Slot_get h, wrap64_id (n := (i : Int) + 1) (by omega) (by omega), succ_cast, List.drop_eq_getElem_cons h, List.map_cons]
    refine ev_pos (by omega) (ev_pos (by omega) (ev_pos (by omega) (ev_bind (a := cellsM C (slotsM r c s)[i]) ?_ (ev_pos (by omega) ?_))))
    · rw [← h2] at hcells
      exact hcells
    · exact ev_eq (ih (by omega) _ (by simp; omega)) (by rw [e]; simp)
def layoutM (r c : Int) (s : ByteArray) : List (List Int) := (slotsM r c s).map (cellsM c.toNat)
theorem layoutM_length (r c : Int) (s : ByteArray) : (layoutM r c s).length = (slotsM r c s).length := by simp [layoutM]
theorem layoutM_get {r c : Int} {s : ByteArray} {i : Nat} (h : i < (slotsM r c s).length) : (layoutM r c s)[i]'(by rw [layoutM_length]; exact h) = cellsM c.toNat (slotsM r c s)[i] := by simp [layoutM]
theorem impl_layout_ev (r c : Int) (s : ByteArray) (hs : s.size ≤ 1048576) : Ev (fun k => impl_layout.f k r c s) (layoutM r c s) := by
  unfold impl_layout.f
  exact ev_bind (impl_SlotsOf_ev r c s hs) (ev_eq (impl_layout_l0_ev r c s 0 (by omega) [] (by simp)) (by simp [layoutM]))

/-! ### slotfacts -/
theorem runLen_white {s : ByteArray} {step : Nat} : ∀ {m i k : Nat}, k < runLen s step i m → bt s (i + k * step : Nat) = 46
  | 0, i, k, h => by simp [runLen] at h
  | m + 1, i, k, h => by
    unfold runLen at h
    split at h
    · rename_i hw
      cases k with
      | zero => simpa using hw
      | succ k =>
        have := runLen_white (s := s) (step := step) (m := m) (i := i + step) (k := k) (by omega)
        rw [show i + (k + 1) * step = i + step + k * step by rw [Nat.add_mul, Nat.one_mul]; omega]
        exact this
    · omega
theorem cellsM_mem {C : Nat} {x : ISlot} {c : Int} : c ∈ cellsM C x ↔ ∃ k : Nat, k < x.f3.toNat ∧ c = x.f2 + (k : Int) * (stepM C x.f1 : Int) := by
  unfold cellsM
  rw [List.mem_map]
  constructor
  · rintro ⟨k, hk, rfl⟩
    rw [List.mem_range'] at hk
    obtain ⟨j, hj, rfl⟩ := hk
    exact ⟨_, by omega, rfl⟩
  · rintro ⟨k, hk, rfl⟩
    exact ⟨k, by rw [List.mem_range']; exact ⟨k, by omega, by omega⟩, rfl⟩
/-- A slot's cell: its place, that it lies in the grid, that it is white. -/
theorem okSlot_cell {R C : Nat} {s : ByteArray} {x : ISlot} {c : Int} (h0 : 0 < C) (h : okSlot R C s x) (hc : c ∈ cellsM C x) :
    ∃ i k : Nat, x.f2 = i ∧ x.f3 = runM R C s i x.f1 ∧ i < R * C ∧ c = ((i + k * stepM C x.f1 : Nat) : Int) ∧ k < runM R C s i x.f1 ∧ atM C x.f1 i + k < mostM R C x.f1 ∧ i + k * stepM C x.f1 < R * C ∧ bt s c = 46 ∧ ¬ (0 < atM C x.f1 i ∧ bt s (i - stepM C x.f1 : Nat) = 46) := by
  obtain ⟨i, hi, h2, h3, h4⟩ := h
  obtain ⟨k, hk, rfl⟩ := cellsM_mem.1 hc
  have hk' : k < runM R C s i x.f1 := by omega
  have hk0 := hk'
  unfold runM at hk'
  split at hk'
  · rename_i hs
    have hle := runLen_le s (stepM C x.f1) (mostM R C x.f1 - atM C x.f1 i) i
    have hw := runLen_white hk'
    have hat : atM C x.f1 i + k < mostM R C x.f1 := by omega
    have hcast : x.f2 + (k : Int) * (stepM C x.f1 : Int) = ((i + k * stepM C x.f1 : Nat) : Int) := by
      rw [h2, Int.natCast_add, Int.natCast_mul]
    refine ⟨i, k, h2, h3, hi, hcast, hk0, hat, cell_lt h0 hi hat, ?_, hs.2⟩
    rw [hcast]
    exact hw
  · omega
theorem atM_add {C : Nat} {dn : Bool} {i d : Nat} {R : Nat} (h0 : 0 < C) (h : atM C dn i + d < mostM R C dn) : atM C dn (i + d * stepM C dn) = atM C dn i + d := by
  cases dn with
  | true =>
    simp only [atM, stepM, if_true]
    rw [Nat.add_mul_div_right _ _ h0]
  | false =>
    simp only [atM, stepM, mostM, Bool.false_eq_true, if_false, Nat.mul_one] at h ⊢
    rw [Nat.add_mod, Nat.mod_eq_of_lt (show d < C by omega), Nat.mod_eq_of_lt h]
/-- Two slots of one direction that share a cell begin at one cell. -/
theorem slot_one {R C : Nat} {s : ByteArray} {x y : ISlot} {c : Int} (h0 : 0 < C) (hx : okSlot R C s x) (hy : okSlot R C s y) (hd : x.f1 = y.f1) (h1 : c ∈ cellsM C x) (h2 : c ∈ cellsM C y) : x.f2 = y.f2 := by
  have aux : ∀ x y : ISlot, okSlot R C s x → okSlot R C s y → x.f1 = y.f1 → c ∈ cellsM C x → c ∈ cellsM C y → ¬ x.f2 < y.f2 := by
    intro x y hx hy hd h1 h2 hlt
    obtain ⟨i, a, e1, _, _, e2, ha, hat, _, _, _⟩ := okSlot_cell h0 hx h1
    obtain ⟨j, b, e3, _, _, e4, hb, hat2, _, _, hst⟩ := okSlot_cell h0 hy h2
    rw [← hd] at e4 hb hat2 hst
    have hij : i < j := by omega
    have hst' : 0 < stepM C x.f1 := by
      unfold stepM
      split <;> omega
    have e5 : i + a * stepM C x.f1 = j + b * stepM C x.f1 := by omega
    have hab : b < a := by
      apply Classical.byContradiction
      intro hn
      have := Nat.mul_le_mul_right (stepM C x.f1) (show a ≤ b by omega)
      omega
    obtain ⟨d, rfl⟩ : ∃ d, a = b + (d + 1) := ⟨a - b - 1, by omega⟩
    have e6 : j = i + (d + 1) * stepM C x.f1 := by
      rw [Nat.add_mul] at e5
      omega
    have e7 : atM C x.f1 j = atM C x.f1 i + (d + 1) := by
      rw [e6]
      exact atM_add (R := R) h0 (by omega)
    have hr : d < runM R C s i x.f1 := by omega
    have hw : bt s (i + d * stepM C x.f1 : Nat) = 46 := by
      unfold runM at hr
      split at hr
      · exact runLen_white hr
      · omega
    refine hst ⟨by omega, ?_⟩
    rw [show j - stepM C x.f1 = i + d * stepM C x.f1 by rw [e6, Nat.add_mul, Nat.one_mul]; omega]
    exact hw
  have := aux x y hx hy hd h1 h2
  have := aux y x hy hx hd.symm h2 h1
  omega
/-- The slots that hold a cell. -/
def holdersM (r c : Int) (s : ByteArray) (cell : Int) : List ISlot := (slotsM r c s).filter fun x => decide (cell ∈ cellsM c.toNat x)
theorem holders_dirs (r c : Int) (s : ByteArray) (cell : Int) : (holdersM r c s cell).Pairwise fun a b => a.f1 ≠ b.f1 := by
  unfold holdersM
  have hp := (slotsM_pairwise r c s).filter fun x => decide (cell ∈ cellsM c.toNat x)
  refine List.Pairwise.imp_of_mem ?_ hp
  intro a b ha hb hlt he
  rw [List.mem_filter, decide_eq_true_eq] at ha hb
  obtain ⟨R, C, rfl, rfl, _, _, h3, _, _, _, hka⟩ := slotsM_ok ha.1
  obtain ⟨R', C', e1, e2, _, _, _, _, _, _, hkb⟩ := slotsM_ok hb.1
  have e1' : R' = R := by omega
  have e2' : C' = C := by omega
  subst e1' e2'
  have := slot_one (by omega) hka hkb he ha.2 hb.2
  rcases hlt with h | ⟨_, h1, h2⟩
  · omega
  · rw [h1, h2] at he
    cases he
theorem holders_two (r c : Int) (s : ByteArray) (cell : Int) : (holdersM r c s cell).length ≤ 2 := by
  have h := holders_dirs r c s cell
  match holdersM r c s cell, h with
  | [], _ => simp
  | [_], _ => simp
  | [_, _], _ => simp
  | a :: b :: d :: l, h =>
    simp only [List.pairwise_cons] at h
    have h1 := h.1 b (by simp)
    have h2 := h.1 d (by simp)
    have h3 := h.2.1 d (by simp)
    cases ha : a.f1 <;> cases hb : b.f1 <;> cases hd : d.f1 <;> simp_all
theorem atGo_holders (C : Nat) (cell : Int) : ∀ (l : List ISlot) (i : Nat), (atGo C cell l i).length = (l.filter fun x => decide (cell ∈ cellsM C x)).length
  | [], _ => rfl
  | x :: l, i => by
    unfold atGo
    by_cases h : cell ∈ cellsM C x
    · simp [h, atGo_holders C cell l (i + 1)]
    · simp [h, atGo_holders C cell l (i + 1)]
theorem slotsAtM_two (r c : Int) (s : ByteArray) (cell : Int) : (slotsAtM r c s cell).length ≤ 2 := by
  have := holders_two r c s cell
  unfold slotsAtM
  rw [atGo_holders]
  exact this
theorem slotsAtM_white {r c : Int} {s : ByteArray} {cell : Int} (h : 0 < (slotsAtM r c s cell).length) : bt s cell = 46 := by
  unfold slotsAtM at h
  rw [atGo_holders] at h
  obtain ⟨x, hx⟩ := List.exists_mem_of_length_pos h
  rw [List.mem_filter, decide_eq_true_eq] at hx
  obtain ⟨R, C, rfl, rfl, _, _, h3, _, _, _, hk⟩ := slotsM_ok hx.1
  obtain ⟨_, _, _, _, _, _, _, _, _, hw, _⟩ := okSlot_cell (by omega) hk hx.2
  exact hw
theorem slotsM_nil {r c : Int} {s : ByteArray} (h : ¬ gridM r c s = true) : slotsM r c s = [] := by
  unfold slotsM
  rw [if_neg h]

/-! ### unchecked -/
def countU (r c : Int) (s : ByteArray) : List Int → Nat
  | [] => 0
  | x :: l => (if checkedM r c s x = true then 0 else 1) + countU r c s l
theorem countU_drop {r c : Int} {s : ByteArray} {l : List Int} {i : Nat} (h : i < l.length) : countU r c s (l.drop i) = (if checkedM r c s l[i] = true then 0 else 1) + countU r c s (l.drop (i + 1)) := by
  rw [List.drop_eq_getElem_cons h]
  rfl
def uncheckedM (r c : Int) (s : ByteArray) (slot : Int) : Int := if 0 ≤ slot ∧ slot < (slotsM r c s).length then countU r c s (cellsM c.toNat ((slotsM r c s).getD slot.toNat ⟨0, false, 0, 0⟩)) else -1

/-! ### alone -/
theorem grid_le36 {r c : Int} {s : ByteArray} (h : gridM r c s = true) : s.size ≤ 36 := by
  obtain ⟨R, C, _, _, _, h2, _, h4, h5⟩ := gridM_nat h
  have := bounds36 h2 h4
  omega
theorem layout_row {r c : Int} {s : ByteArray} {l : List Int} (h : l ∈ layoutM r c s) : l.length ≤ 6 ∧ ∀ x ∈ l, 0 ≤ x ∧ x < 36 ∧ x < s.size := by
  unfold layoutM at h
  obtain ⟨x, hx, rfl⟩ := List.mem_map.1 h
  obtain ⟨i, hi, rfl⟩ := List.getElem_of_mem hx
  refine ⟨cellsM_length_elem hi, fun y hy => ?_⟩
  obtain ⟨R, C, rfl, rfl, _, h2, h3, h4, h5, _, hk⟩ := slotsM_ok hx
  obtain ⟨i, k, _, _, _, e, _, _, h, _⟩ := okSlot_cell (by omega) hk hy
  have := bounds36 h2 h4
  omega
/-- Is there a white cell in no slot, without a letter? -/
def aloneAllM (r c : Int) (s f : ByteArray) : Bool := (List.range' 0 s.size).any (aloneAt (layoutM r c s).flatten s f)
theorem impl_alone_ev (r c : Int) (s f : ByteArray) (hs : s.size ≤ 1048576) (hf : s.size ≤ f.size) (hf2 : f.size ≤ 1000000) : Ev (fun k => impl_alone.f k r c s f) (aloneAllM r c s f) := by
  have hl := slotsM_length r c s
  have hL := layoutM_length r c s
  unfold impl_alone.f aloneAllM
  refine ev_bind (impl_layout_ev r c s hs) (ev_pos ⟨⟨by omega, fun l h => ?_⟩, hf, hf2⟩ (ev_now rfl))
  obtain ⟨h1, h2⟩ := layout_row h
  exact ⟨by omega, fun x hx => by have := h2 x hx; omega⟩
theorem in_layout {r c : Int} {s : ByteArray} {cell : Int} : cell ∈ (layoutM r c s).flatten ↔ 0 < (slotsAtM r c s cell).length := by
  unfold slotsAtM layoutM
  rw [atGo_holders, List.mem_flatten]
  constructor
  · rintro ⟨l, hl, hc⟩
    obtain ⟨x, hx, rfl⟩ := List.mem_map.1 hl
    exact List.length_pos_of_mem (List.mem_filter.2 ⟨hx, by simpa using hc⟩)
  · intro h
    obtain ⟨x, hx⟩ := List.exists_mem_of_length_pos h
    rw [List.mem_filter, decide_eq_true_eq] at hx
    exact ⟨_, List.mem_map.2 ⟨x, hx.1, rfl⟩, hx.2⟩

/-! ### fill -/
/-- May this sign stand in a fill over this cell of a grid? -/
def fillC (g f : Int) : Bool := (decide (g = 35) == decide (f = 35)) && (decide (f = 35) || decide (f = 63) || isL f)
def fillM (r c : Int) (s f : ByteArray) : Bool := gridM r c s && (decide (f.size = s.size) && (List.range' 0 (f.size - 0)).all fun j => fillC (bt s j) (bt f j))
theorem gridM_cell {r c : Int} {s : ByteArray} (h : gridM r c s = true) (i : Nat) (hi : i < s.size) : bt s i = 35 ∨ bt s i = 46 := by
  simp only [gridM, Bool.and_eq_true, List.all_eq_true] at h
  have := h.2 i (by rw [List.mem_range']; exact ⟨i, by omega, by omega⟩)
  simpa [isC] using this
theorem spec_IsFill_l0_ev (r c : Int) (s f : ByteArray) (hg : gridM r c s = true) (hf : f.size ≤ 140737488351232) (he : f.size = s.size) : ∀ i : Nat, i ≤ f.size → Ev (fun k => spec_IsFill.l0 k f i r c s) ((List.range' i (f.size - i)).all fun j => fillC (bt s j) (bt f j)) := by
  refine down f.size ?_ ?_
  · intro i h hi
    apply ev_succ
    simp only [spec_IsFill.l0]
    refine ev_neg (by omega) (ev_now ?_)
    rw [range_nil h]; rfl
  · intro i h ih hi
    have hc := gridM_cell hg i (by omega)
    apply ev_succ
    simp only [spec_IsFill.l0]
    rw [range_cons h, List.all_cons, wrap64_id (by omega) (by omega), succ_cast]
    refine ev_pos (by omega) (ev_pos (by omega) ?_)
    have ih' := ih (by omega)
    by_cases h1 : bt f i = 63
    · refine ev_pos h1 (ev_pos (by omega) ?_)
      rcases hc with hc | hc
      · exact ev_pos hc (ev_neg (by omega) (ev_now (by simp [fillC, hc, h1])))
      · exact ev_neg (by omega) (ev_pos hc (ev_eq ih' (by simp [fillC, hc, h1])))
    · refine ev_neg h1 ?_
      by_cases h2 : bt f i ≥ 97
      · refine ev_pos h2 (ev_pos (by omega) ?_)
        rcases hc with hc | hc
        · exact ev_pos hc (ev_neg (by omega) (ev_now (by simp [fillC, hc, show ¬ bt f i = 35 by omega])))
        · refine ev_neg (by omega) (ev_pos hc ?_)
          by_cases h3 : bt f i ≤ 122
          · exact ev_pos h3 (ev_eq ih' (by simp [fillC, isL, hc, show ¬ bt f i = 35 by omega, h1, h2, h3]))
          · exact ev_neg h3 (ev_now (by simp [fillC, isL, hc, show ¬ bt f i = 35 by omega, h1, h2, h3]))
      · refine ev_neg h2 (ev_pos (by omega) ?_)
        rcases hc with hc | hc
        · refine ev_pos hc ?_
          by_cases h3 : bt f i = 35
          · exact ev_pos h3 (ev_neg (by omega) (ev_eq ih' (by simp [fillC, hc, h3])))
          · exact ev_neg h3 (ev_now (by simp [fillC, hc, h3]))
        · refine ev_neg (by omega) (ev_pos hc (ev_now ?_))
          have : fillC (bt s i) (bt f i) = false := by
            unfold fillC isL
            rw [hc]
            by_cases h3 : bt f i = 35
            · simp [h3]
            · simp [h3, h1]; omega
          simp [this]
theorem impl_IsFill_l0_ev (r c : Int) (s f : ByteArray) (hg : gridM r c s = true) (hf : f.size ≤ 140737488351232) (he : f.size = s.size) : ∀ i : Nat, i ≤ f.size → Ev (fun k => impl_IsFill.l0 k f f.size i r c s) ((List.range' i (f.size - i)).all fun j => fillC (bt s j) (bt f j)) := by
  refine down f.size ?_ ?_
  · intro i h hi
    apply ev_succ
    simp only [impl_IsFill.l0]
    refine ev_neg (by omega) (ev_now ?_)
    rw [range_nil h]; rfl
  · intro i h ih hi
    have hc := gridM_cell hg i (by omega)
    apply ev_succ
    simp only [impl_IsFill.l0]
    rw [range_cons h, List.all_cons, wrap64_id (by omega) (by omega), succ_cast]
    refine ev_pos (by omega) (ev_pos (by omega) (ev_pos (by omega) (ev_pos (by omega) ?_)))
    have ih' := ih (by omega)
    rcases hc with hc | hc
    · refine ev_pos hc ?_
      by_cases h1 : bt f i = 35
      · exact ev_pos h1 (ev_eq ih' (by simp [fillC, hc, h1]))
      · exact ev_neg h1 (ev_now (by simp [fillC, hc, h1]))
    · refine ev_neg (by omega) ?_
      by_cases h1 : bt f i = 35
      · exact ev_pos h1 (ev_now (by simp [fillC, hc, h1]))
      · refine ev_neg h1 ?_
        by_cases h2 : bt f i = 63
        · exact ev_pos h2 (ev_eq ih' (by simp [fillC, hc, h2]))
        · refine ev_neg h2 (ev_let (impl_isLetter_eq _) ?_)
          cases hl : isL (bt f i)
          · exact ev_neg (by simp) (ev_now (by simp [fillC, hc, h1, h2, hl]))
          · exact ev_pos rfl (ev_eq ih' (by simp [fillC, hc, h1, h2, hl]))
theorem spec_IsFill_ev (r c : Int) (s f : ByteArray) (hs : s.size ≤ 140737488351232) (hf : f.size ≤ 140737488351232) : Ev (fun k => spec_IsFill.f k r c s f) (fillM r c s f) := by
  unfold spec_IsFill.f fillM
  refine ev_bind (spec_IsGrid_ev r c s hs) ?_
  cases hg : gridM r c s
  · refine ev_neg (by simp) (ev_succ ?_)
    simp only [spec_IsFill.j0]
    exact ev_pos (by simp) (ev_now rfl)
  · refine ev_pos rfl (ev_succ ?_)
    simp only [spec_IsFill.j0]
    by_cases he : f.size = s.size
    · exact ev_neg (by simp [he]) (ev_eq (spec_IsFill_l0_ev r c s f hg hf he 0 (by omega)) (by simp [he]))
    · exact ev_pos (by simp; omega) (ev_now (by simp [he]))
theorem impl_IsFill_ev (r c : Int) (s f : ByteArray) (hs : s.size ≤ 140737488351232) (hf : f.size ≤ 140737488351232) : Ev (fun k => impl_IsFill.f k r c s f) (fillM r c s f) := by
  unfold impl_IsFill.f fillM
  refine ev_bind (impl_IsGrid_ev r c s hs) ?_
  cases hg : gridM r c s
  · refine ev_neg (by simp) (ev_succ ?_)
    simp only [impl_IsFill.j0]
    exact ev_pos (by simp) (ev_now rfl)
  · refine ev_pos rfl (ev_succ ?_)
    simp only [impl_IsFill.j0]
    by_cases he : f.size = s.size
    · exact ev_neg (by simp [he]) (ev_eq (impl_IsFill_l0_ev r c s f hg hf he 0 (by omega)) (by simp [he]))
    · exact ev_pos (by simp; omega) (ev_now (by simp [he]))

/-! ### pattern -/
/-- The signs of a fill at some cells. -/
def patM (f : ByteArray) (l : List Int) : ByteArray := strOfNums (l.map fun x => bt f x)
theorem strOfNums_size (l : List Int) : (strOfNums l).size = l.length := by
  simp [strOfNums, ByteArray.size]
theorem strOfNums_snoc (l : List Int) (f : ByteArray) (j : Nat) (hj : j < f.size) : strOfNums l ++ f.extract j (j + 1) = strOfNums (l ++ [bt f j]) := by
  apply ByteArray.ext
  apply Array.ext'
  have h1 : (f.extract j (j + 1)).data.toList = [f[j]] := by
    rw [ByteArray.data_extract, Array.toList_extract, List.extract_eq_take_drop]
    have hl : j < f.data.toList.length := by rw [Array.length_toList]; exact hj
    rw [show j + 1 - j = 1 by omega, List.drop_eq_getElem_cons hl]
    simp [ByteArray.getElem_eq_getElem_data]
  rw [ByteArray.toList_data_append, h1]
  simp [strOfNums, bt, hj]
theorem slot_cells_in {r c : Int} {s : ByteArray} {x : ISlot} {cell : Int} (hx : x ∈ slotsM r c s) (hc : cell ∈ cellsM c.toNat x) : 0 ≤ cell ∧ cell < s.size := by
  obtain ⟨R, C, rfl, rfl, _, _, h3, _, h5, _, hk⟩ := slotsM_ok hx
  obtain ⟨i, k, _, _, _, e, _, _, h, _⟩ := okSlot_cell (by omega) hk hc
  omega
theorem impl_readCells_l0_ev (f : ByteArray) (l : List Int) (hl : l.length ≤ 1000) (hc : ∀ x ∈ l, 0 ≤ x ∧ x < f.size) : ∀ i : Nat, i ≤ l.length → ∀ acc : List Int, acc.length ≤ i → Ev (fun k => impl_readCells.l0 k f acc l l.length i) (strOfNums (acc ++ (l.drop i).map fun x => bt f x)) := by
  refine down l.length ?_ ?_
  · intro i h hi acc ha
    apply ev_succ
    simp only [impl_readCells.l0]
    exact ev_neg (by omega) (ev_now (by rw [List.drop_eq_nil_of_le h]; simp))
  · intro i h ih hi acc ha
    have hb := hc l[i] (List.getElem_mem h)
    apply ev_succ
    simp only [impl_readCells.l0]
    rw [rd_get h, wrap64_id (n := (i : Int) + 1) (by omega) (by omega), succ_cast, List.drop_eq_getElem_cons h, List.map_cons]
    exact ev_pos (by omega) (ev_pos (by omega) (ev_pos (by omega) (ev_pos hb.1 (ev_pos hb.2 (ev_pos (by omega) (ev_eq (ih (by omega) _ (by simp; omega)) (by simp)))))))
theorem impl_readCells_ev (f : ByteArray) (l : List Int) (hl : l.length ≤ 1000) (hc : ∀ x ∈ l, 0 ≤ x ∧ x < f.size) : Ev (fun k => impl_readCells.f k f l) (patM f l) := by
  unfold impl_readCells.f patM
  exact ev_eq (impl_readCells_l0_ev f l hl hc 0 (by omega) [] (by simp)) (by simp)
theorem fillM_size {r c : Int} {s f : ByteArray} (h : fillM r c s f = true) : gridM r c s = true ∧ f.size = s.size := by
  simp only [fillM, Bool.and_eq_true, decide_eq_true_eq] at h
  exact ⟨h.1, h.2.1⟩
def patternsM (r c : Int) (s f : ByteArray) : List ByteArray := if fillM r c s f then (layoutM r c s).map (patM f) else []
theorem patternsM_length (r c : Int) (s f : ByteArray) : (patternsM r c s f).length ≤ 72 := by
  have := slotsM_length r c s
  unfold patternsM
  split
  · rw [List.length_map, layoutM_length]
    omega
  · simp
/-- What SlotPattern answers. -/
def patternM (r c : Int) (s f : ByteArray) (slot : Int) : ByteArray := if 0 ≤ slot ∧ slot < (patternsM r c s f).length then (patternsM r c s f).getD slot.toNat ⟨#[]⟩ else ⟨#[]⟩

/-! ### fits -/
def isQ (c : Int) : Bool := decide (c = 63) || isL c
/-- A pattern: one to eight small letters and question marks. -/
def patOk (p : ByteArray) : Bool := decide (1 ≤ p.size ∧ p.size ≤ 8) && (List.range' 0 (p.size - 0)).all fun j => isQ (bt p j)
/-- A word fits a pattern. -/
def fitsM (p w : ByteArray) : Bool := patOk p && (wordM w && (decide (p.size = w.size) && (List.range' 0 (p.size - 0)).all fun j => decide (bt p j = 63 ∨ bt p j = bt w j)))
theorem spec_IsPattern_l0_ev (s : ByteArray) (hs : s.size ≤ 140737488351232) : ∀ i : Nat, i ≤ s.size → Ev (fun k => spec_IsPattern.l0 k s i) ((List.range' i (s.size - i)).all fun j => isQ (bt s j)) := by
  refine down s.size ?_ ?_
  · intro i h hi
    apply ev_succ
    simp only [spec_IsPattern.l0]
    refine ev_neg (by omega) (ev_now ?_)
    rw [range_nil h]; rfl
  · intro i h ih hi
    apply ev_succ
    simp only [spec_IsPattern.l0]
    rw [range_cons h, List.all_cons, wrap64_id (by omega) (by omega), succ_cast]
    refine ev_pos (by omega) (ev_pos (by omega) ?_)
    by_cases h0 : bt s i = 63
    · exact ev_pos h0 (ev_eq (ih (by omega)) (by simp [isQ, h0]))
    · refine ev_neg h0 ?_
      by_cases h1 : bt s i < 97
      · exact ev_pos h1 (ev_now (by simp [isQ, isL, h0]; omega))
      · refine ev_neg h1 ?_
        by_cases h2 : bt s i > 122
        · exact ev_pos h2 (ev_now (by simp [isQ, isL, h0]; omega))
        · refine ev_neg h2 (ev_eq (ih (by omega)) ?_)
          rw [show isQ (bt s i) = true by simp [isQ, isL]; omega, Bool.true_and]
theorem spec_IsPattern_ev (s : ByteArray) (hs : s.size ≤ 140737488351232) : Ev (fun k => spec_IsPattern.f k s) (patOk s) := by
  unfold spec_IsPattern.f patOk
  refine ev_let (spec_l1In_eq _ _ _) ?_
  by_cases h : 1 ≤ s.size ∧ s.size ≤ 8
  · rw [decide_eq_true h, Bool.true_and]
    exact ev_pos (by simp; omega) (spec_IsPattern_l0_ev s hs 0 (by omega))
  · rw [decide_eq_false h, Bool.false_and]
    exact ev_neg (by simp; omega) (ev_now rfl)
theorem impl_IsPattern_l0_ev (s : ByteArray) (hs : s.size ≤ 140737488351232) : ∀ i : Nat, i ≤ s.size → Ev (fun k => impl_IsPattern.l0 k s s.size i) ((List.range' i (s.size - i)).all fun j => isQ (bt s j)) := by
  refine down s.size ?_ ?_
  · intro i h hi
    apply ev_succ
    simp only [impl_IsPattern.l0]
    refine ev_neg (by omega) (ev_now ?_)
    rw [range_nil h]; rfl
  · intro i h ih hi
    apply ev_succ
    simp only [impl_IsPattern.l0]
    rw [range_cons h, List.all_cons, wrap64_id (by omega) (by omega), succ_cast]
    refine ev_pos (by omega) (ev_pos (by omega) (ev_pos (by omega) ?_))
    by_cases h0 : bt s i = 63
    · exact ev_pos h0 (ev_eq (ih (by omega)) (by simp [isQ, h0]))
    · refine ev_neg h0 (ev_let (impl_isLetter_eq _) ?_)
      by_cases h1 : isL (bt s i) = true
      · exact ev_pos h1 (ev_eq (ih (by omega)) (by simp [isQ, h1]))
      · exact ev_neg h1 (ev_now (by simp [isQ, h0, h1]))
theorem impl_IsPattern_ev (s : ByteArray) (hs : s.size ≤ 140737488351232) : Ev (fun k => impl_IsPattern.f k s) (patOk s) := by
  unfold impl_IsPattern.f patOk
  refine ev_let (impl_InRange_eq _ _ _) ?_
  by_cases h : 1 ≤ s.size ∧ s.size ≤ 8
  · rw [decide_eq_true h, Bool.true_and]
    exact ev_pos (by simp; omega) (impl_IsPattern_l0_ev s hs 0 (by omega))
  · rw [decide_eq_false h, Bool.false_and]
    exact ev_neg (by simp; omega) (ev_now rfl)
theorem spec_FitsPattern_l0_ev (p w : ByteArray) (he : p.size = w.size) (hs : p.size ≤ 1000) : ∀ i : Nat, i ≤ p.size → Ev (fun k => spec_FitsPattern.l0 k p w i) ((List.range' i (p.size - i)).all fun j => decide (bt p j = 63 ∨ bt p j = bt w j)) := by
  refine down p.size ?_ ?_
  · intro i h hi
    apply ev_succ
    simp only [spec_FitsPattern.l0]
    refine ev_neg (by omega) (ev_now ?_)
    rw [range_nil h]; rfl
  · intro i h ih hi
    apply ev_succ
    simp only [spec_FitsPattern.l0]
    rw [range_cons h, List.all_cons, wrap64_id (by omega) (by omega), succ_cast]
    refine ev_pos (by omega) (ev_pos (by omega) ?_)
    by_cases h0 : bt p i = 63
    · exact ev_pos h0 (ev_eq (ih (by omega)) (by simp [h0]))
    · refine ev_neg h0 (ev_pos (by omega) ?_)
      by_cases h1 : bt p i = bt w i
      · exact ev_pos h1 (ev_eq (ih (by omega)) (by simp [h1]))
      · exact ev_neg h1 (ev_now (by simp [h0, h1]))
theorem spec_FitsPattern_ev (p w : ByteArray) (hp : p.size ≤ 140737488351232) (hw : w.size ≤ 140737488351232) : Ev (fun k => spec_FitsPattern.f k p w) (fitsM p w) := by
  have hno : Ev (fun k => spec_FitsPattern.j0 k p w true) false := by
    apply ev_succ
    simp only [spec_FitsPattern.j0]
    exact ev_pos (by simp) (ev_now rfl)
  unfold spec_FitsPattern.f fitsM
  refine ev_bind (spec_IsPattern_ev p hp) ?_
  by_cases h1 : patOk p = true
  · have h8 : p.size ≤ 8 := by
      unfold patOk at h1
      simp only [Bool.and_eq_true, decide_eq_true_eq] at h1
      exact h1.1.2
    refine ev_pos h1 (ev_bind (spec_IsWord_ev w hw) ?_)
    rw [h1, Bool.true_and]
    by_cases h2 : wordM w = true
    · refine ev_pos h2 ?_
      rw [h2, Bool.true_and]
      by_cases h3 : p.size = w.size
      · rw [decide_eq_true h3, Bool.true_and]
        apply ev_succ
        simp only [spec_FitsPattern.j0]
        exact ev_neg (by simp [h3]) (spec_FitsPattern_l0_ev p w h3 (by omega) 0 (by omega))
      · rw [decide_eq_false h3, Bool.false_and]
        rw [show ((p.size : Int) != (w.size : Int)) = true by simp; omega]
        exact hno
    · refine ev_neg h2 (ev_eq hno ?_)
      rw [Bool.not_eq_true] at h2
      rw [h2, Bool.false_and]
  · refine ev_neg h1 (ev_eq hno ?_)
    rw [Bool.not_eq_true] at h1
    rw [h1, Bool.false_and]
theorem impl_FitsPattern_l0_ev (p w : ByteArray) (he : p.size = w.size) (hs : p.size ≤ 1000) : ∀ i : Nat, i ≤ p.size → Ev (fun k => impl_FitsPattern.l0 k p w p.size i) ((List.range' i (p.size - i)).all fun j => decide (bt p j = 63 ∨ bt p j = bt w j)) := by
  refine down p.size ?_ ?_
  · intro i h hi
    apply ev_succ
    simp only [impl_FitsPattern.l0]
    refine ev_neg (by omega) (ev_now ?_)
    rw [range_nil h]; rfl
  · intro i h ih hi
    apply ev_succ
    simp only [impl_FitsPattern.l0]
    rw [range_cons h, List.all_cons, wrap64_id (by omega) (by omega), succ_cast]
    refine ev_pos (by omega) (ev_pos (by omega) (ev_pos (by omega) ?_))
    by_cases h0 : bt p i = 63
    · exact ev_pos h0 (ev_eq (ih (by omega)) (by simp [h0]))
    · refine ev_neg h0 (ev_pos (by omega) ?_)
      by_cases h1 : bt p i = bt w i
      · exact ev_pos h1 (ev_eq (ih (by omega)) (by simp [h1]))
      · exact ev_neg h1 (ev_now (by simp [h0, h1]))
theorem impl_FitsPattern_ev (p w : ByteArray) (hp : p.size ≤ 140737488351232) (hw : w.size ≤ 140737488351232) : Ev (fun k => impl_FitsPattern.f k p w) (fitsM p w) := by
  have hno : Ev (fun k => impl_FitsPattern.j0 k p w true) false := by
    apply ev_succ
    simp only [impl_FitsPattern.j0]
    exact ev_pos (by simp) (ev_now rfl)
  unfold impl_FitsPattern.f fitsM
  refine ev_bind (impl_IsPattern_ev p hp) ?_
  by_cases h1 : patOk p = true
  · have h8 : p.size ≤ 8 := by
      unfold patOk at h1
      simp only [Bool.and_eq_true, decide_eq_true_eq] at h1
      exact h1.1.2
    refine ev_pos h1 (ev_bind (impl_IsWord_ev w hw) ?_)
    rw [h1, Bool.true_and]
    by_cases h2 : wordM w = true
    · refine ev_pos h2 ?_
      rw [h2, Bool.true_and]
      by_cases h3 : p.size = w.size
      · rw [decide_eq_true h3, Bool.true_and]
        apply ev_succ
        simp only [impl_FitsPattern.j0]
        exact ev_neg (by simp [h3]) (impl_FitsPattern_l0_ev p w h3 (by omega) 0 (by omega))
      · rw [decide_eq_false h3, Bool.false_and]
        rw [show ((p.size : Int) != (w.size : Int)) = true by simp; omega]
        exact hno
    · refine ev_neg h2 (ev_eq hno ?_)
      rw [Bool.not_eq_true] at h2
      rw [h2, Bool.false_and]
  · refine ev_neg h1 (ev_eq hno ?_)
    rw [Bool.not_eq_true] at h1
    rw [h1, Bool.false_and]

/-! ### putword -/
theorem splice (f w : ByteArray) (a i : Nat) (ha : a < f.size) (hi : i < w.size) : (f.extract 0 a ++ w.extract i (i + 1)) ++ f.extract (a + 1) f.size = ⟨f.data.setIfInBounds a (w.data.toList.getD i 0)⟩ := by
  have hl : i < w.data.toList.length := by simpa using hi
  have hf : a < f.data.toList.length := by simpa using ha
  apply ByteArray.ext
  apply Array.ext'
  rw [ByteArray.data_append, ByteArray.data_append, Array.toList_append, Array.toList_append, ByteArray.data_extract, ByteArray.data_extract, ByteArray.data_extract, Array.toList_extract, Array.toList_extract, Array.toList_extract, Array.toList_setIfInBounds, List.set_eq_take_append_cons_drop, if_pos hf]
  simp only [List.extract]
  rw [show i + 1 - i = 1 by omega, List.drop_eq_getElem_cons hl, List.getD_eq_getElem?_getD, List.getElem?_eq_getElem hl]
  have : (List.drop (a + 1) f.data.toList).take (f.size - (a + 1)) = List.drop (a + 1) f.data.toList := by
    apply List.take_of_length_le
    simp
    try exact Nat.le_refl _
  rw [this]
  simp
/-- A word put into a slot. -/
def putM (r c : Int) (s f : ByteArray) (slot : Int) (w : ByteArray) : ByteArray × Bool := if fitsM (patternM r c s f slot) w = true then (⟨writeGo w ((layoutM r c s).getD slot.toNat []) 0 f.data⟩, true) else (f, false)
theorem fitsM_facts {r c : Int} {s f : ByteArray} {slot : Int} {w : ByteArray} (h : fitsM (patternM r c s f slot) w = true) : ∃ j : Nat, slot = j ∧ ∃ hj : j < (slotsM r c s).length, fillM r c s f = true ∧ patternM r c s f slot = patM f (cellsM c.toNat (slotsM r c s)[j]) ∧ (cellsM c.toNat (slotsM r c s)[j]).length = w.size ∧ w.size ≤ 8 := by
  unfold fitsM at h
  simp only [Bool.and_eq_true, decide_eq_true_eq] at h
  obtain ⟨hp, hw, he, _⟩ := h
  unfold patOk at hp
  simp only [Bool.and_eq_true, decide_eq_true_eq] at hp
  have hsz := hp.1
  have hne : patternM r c s f slot ≠ ⟨#[]⟩ := by
    intro e
    rw [e] at hsz
    simp [ByteArray.size] at hsz
  by_cases hb : 0 ≤ slot ∧ slot < (patternsM r c s f).length
  · obtain ⟨j, hj⟩ := Int.eq_ofNat_of_zero_le hb.1
    have hfill : fillM r c s f = true := by
      by_cases hf : fillM r c s f = true
      · exact hf
      · have : patternsM r c s f = [] := if_neg hf
        rw [this] at hb
        simp at hb
        omega
    have e : patternsM r c s f = (layoutM r c s).map (patM f) := if_pos hfill
    have hlen : j < (slotsM r c s).length := by
      have := hb.2
      rw [e, List.length_map, layoutM_length] at this
      omega
    have hpm : patternM r c s f slot = patM f (cellsM c.toNat (slotsM r c s)[j]) := by
      unfold patternM
      rw [if_pos hb, e, hj]
      have h1 : j < (layoutM r c s).length := by rw [layoutM_length]; exact hlen
      simp only [Int.toNat_natCast]
      rw [List.getD_eq_getElem?_getD, List.getElem?_map, List.getElem?_eq_getElem h1, layoutM_get hlen]
      rfl
    refine ⟨j, hj, hlen, hfill, hpm, ?_, ?_⟩
    · rw [← he, hpm]
      unfold patM
      rw [strOfNums_size, List.length_map]
    · omega
  · exact absurd (by unfold patternM; rw [if_neg hb]) hne
theorem layout_in {r c : Int} {s : ByteArray} {j : Nat} (hj : j < (slotsM r c s).length) : ∀ x ∈ cellsM c.toNat (slotsM r c s)[j], 0 ≤ x ∧ x < s.size := fun _ hx => slot_cells_in (List.getElem_mem hj) hx
theorem layout_getD {r c : Int} {s : ByteArray} {j : Nat} (hj : j < (slotsM r c s).length) : (layoutM r c s).getD j [] = cellsM c.toNat (slotsM r c s)[j] := by
  have h1 : j < (layoutM r c s).length := by rw [layoutM_length]; exact hj
  rw [List.getD_eq_getElem?_getD, List.getElem?_eq_getElem h1, layoutM_get hj]
  rfl
theorem patternsM_size (r c : Int) (s f : ByteArray) : ∀ p ∈ patternsM r c s f, p.size ≤ 1000 := by
  intro p hm
  unfold patternsM at hm
  split at hm
  · obtain ⟨l, hl, rfl⟩ := List.mem_map.1 hm
    obtain ⟨x, hx, rfl⟩ := List.mem_map.1 hl
    obtain ⟨i, hi, rfl⟩ := List.getElem_of_mem hx
    have h6 := cellsM_length_elem hi
    unfold patM
    rw [strOfNums_size, List.length_map]
    omega
  · cases hm
theorem patternM_size (r c : Int) (s f : ByteArray) (slot : Int) (_ : s.size ≤ 1048576) : (patternM r c s f slot).size ≤ 1000 := by
  unfold patternM
  split
  · rename_i hb
    have hj : slot.toNat < (patternsM r c s f).length := by omega
    rw [List.getD_eq_getElem?_getD, List.getElem?_eq_getElem hj]
    exact patternsM_size r c s f _ (List.getElem_mem hj)
  · simp [ByteArray.size]

/-! ### strs -/
def total (l : List ByteArray) : Nat := (l.map ByteArray.size).sum
theorem mem_total {l : List ByteArray} {x : ByteArray} (h : x ∈ l) : x.size ≤ total l := by
  induction l with
  | nil => cases h
  | cons a r ih =>
    have e : total (a :: r) = a.size + total r := rfl
    rcases List.mem_cons.1 h with rfl | h
    · omega
    · have := ih h
      omega
theorem total_drop {l : List ByteArray} {i : Nat} (h : i < l.length) : total (l.drop i) = l[i].size + total (l.drop (i + 1)) := by
  rw [List.drop_eq_getElem_cons h]
  rfl
theorem laws_szStringS_l0_ev (l : List ByteArray) (hl : l.length ≤ 9223372036854775806) (hs : ∀ s ∈ l, s.size ≤ 9223372036854775807) : ∀ i : Nat, i ≤ l.length → ∀ n : Int, 0 ≤ n → n ≤ 1048576 →
    ∃ r : Int, Ev (fun k => laws_szStringS.l0 k l n i) r ∧ (r < 0 ∨ 0 ≤ r ∧ r + total (l.drop i) = n) := by
  refine down l.length ?_ ?_
  · intro i h hi n h0 hn
    refine ⟨n, ?_, .inr ⟨h0, ?_⟩⟩
    · apply ev_succ
      simp only [laws_szStringS.l0]
      exact ev_neg (by omega) (ev_now rfl)
    · rw [List.drop_eq_nil_of_le h]
      simp [total]
  · intro i h ih hi n h0 hn
    have hb := hs l[i] (List.getElem_mem h)
    have ht := total_drop h
    by_cases hneg : n - (l[i].size : Int) < 0
    · refine ⟨-1, ?_, .inl (by omega)⟩
      apply ev_succ
      simp only [laws_szStringS.l0]
      rw [rdOf_get h, wrap64_id (n := n - _) (by omega) (by omega)]
      exact ev_pos (by omega) (ev_pos (by omega) (ev_pos hneg (ev_now rfl)))
    · obtain ⟨r, hr, h1⟩ := ih (by omega) (n - (l[i].size : Int)) (by omega) (by omega)
      refine ⟨r, ?_, ?_⟩
      · apply ev_succ
        simp only [laws_szStringS.l0]
        rw [rdOf_get h, wrap64_id (n := n - _) (by omega) (by omega), wrap64_id (n := (i : Int) + 1) (by omega) (by omega), succ_cast]
        exact ev_pos (by omega) (ev_pos (by omega) (ev_neg hneg hr))
      · rcases h1 with h1 | h1
        · exact .inl h1
        · exact .inr ⟨h1.1, by omega⟩
theorem laws_szStringS_ev (l : List ByteArray) (hl : l.length ≤ 9223372036854775807) (hs : ∀ s ∈ l, s.size ≤ 9223372036854775807) (n : Int) (h0 : 0 ≤ n) (hn : n ≤ 1048576) :
    ∃ r : Int, Ev (fun k => laws_szStringS.f k l n) r ∧ (r < 0 ∨ 0 ≤ r ∧ r + l.length + total l = n) := by
  unfold laws_szStringS.f
  rw [wrap64_id (n := n - _) (by omega) (by omega)]
  by_cases hneg : n - (l.length : Int) < 0
  · exact ⟨-1, ev_pos hneg (ev_now rfl), .inl (by omega)⟩
  · obtain ⟨r, hr, h1⟩ := laws_szStringS_l0_ev l (by omega) hs 0 (by omega) (n - (l.length : Int)) (by omega) (by omega)
    refine ⟨r, ev_neg hneg hr, ?_⟩
    rcases h1 with h1 | h1
    · exact .inl h1
    · exact .inr ⟨h1.1, by have := h1.2; simp at this; omega⟩
theorem laws_toStringS_l0_ev (l : List ByteArray) (hl : l.length ≤ 1048576) : ∀ i : Nat, i ≤ l.length → ∀ x : List ByteArray, x.length = l.length → (∀ j, j < i → x[j]? = l[j]?) → Ev (fun k => laws_toStringS.l0 k l x i) l := by
  refine down l.length ?_ ?_
  · intro i h hi x hx hj
    apply ev_succ
    simp only [laws_toStringS.l0]
    exact ev_neg (by omega) (ev_now (all_known hx (fun j h' => hj j (by omega))))
  · intro i h ih hi x hx hj
    apply ev_succ
    simp only [laws_toStringS.l0]
    rw [rdOf_get h, wrap64_id (n := (i : Int) + 1) (by omega) (by omega), succ_cast, show (i : Int).toNat = i by omega]
    exact ev_pos (by omega) (ev_pos (by omega) (ev_pos (by omega) (ih (by omega) _ (by simpa using hx) (set_known h hx rfl hj))))
theorem laws_toStringS_ev (l : List ByteArray) (hl : l.length ≤ 1048576) : Ev (fun k => laws_toStringS.f k l) l := by
  unfold laws_toStringS.f
  exact ev_pos (by omega) (ev_pos (by omega) (laws_toStringS_l0_ev l hl 0 (by omega) _ (by simp) (by intro j hj; omega)))
theorem laws_eqStringS_l0_ev (a b : List ByteArray) (hl : a.length = b.length) (hb : a.length ≤ 9223372036854775806) : ∀ i : Nat, i ≤ a.length → Ev (fun k => laws_eqStringS.l0 k a b i) (decide (a.drop i = b.drop i)) := by
  refine down a.length ?_ ?_
  · intro i h hi
    apply ev_succ
    simp only [laws_eqStringS.l0]
    refine ev_neg (by omega) (ev_now ?_)
    rw [List.drop_eq_nil_of_le h, List.drop_eq_nil_of_le (by omega)]
    simp
  · intro i h ih hi
    have h' : i < b.length := by omega
    apply ev_succ
    simp only [laws_eqStringS.l0]
    rw [rdOf_get h, rdOf_get h', wrap64_id (n := (i : Int) + 1) (by omega) (by omega), succ_cast, List.drop_eq_getElem_cons h, List.drop_eq_getElem_cons h']
    refine ev_pos (by omega) (ev_pos (by omega) (ev_pos (by omega) ?_))
    by_cases he : a[i].toList = b[i].toList
    · refine ev_pos he (ev_eq (ih (by omega)) ?_)
      rw [toList_inj] at he
      rw [he]
      simp [-List.getElem_cons_drop]
    · refine ev_neg he (ev_now ?_)
      rw [toList_inj] at he
      symm
      simp only [decide_eq_false_iff_not, List.cons.injEq]
      exact fun h => he h.1
theorem laws_eqStringS_ev (a b : List ByteArray) (hb : a.length ≤ 9223372036854775806) : Ev (fun k => laws_eqStringS.f k a b) (decide (a = b)) := by
  unfold laws_eqStringS.f
  by_cases h : a.length = b.length
  · exact ev_pos (by omega) (ev_eq (laws_eqStringS_l0_ev a b h hb 0 (by omega)) (by simp))
  · exact ev_neg (by omega) (ev_now (by symm; simp; intro e; exact h (by rw [e])))

/-! ### once -/
/-- Each word once, in order. -/
def onceM : List ByteArray → List ByteArray → List ByteArray
  | acc, [] => acc
  | acc, s :: r => if s ∈ acc then onceM acc r else onceM (acc ++ [s]) r
theorem onceM_length : ∀ (l acc : List ByteArray), (onceM acc l).length ≤ acc.length + l.length
  | [], acc => by simp [onceM]
  | s :: r, acc => by
    unfold onceM
    split
    · have := onceM_length r acc
      simp only [List.length_cons]; omega
    · have := onceM_length r (acc ++ [s])
      simp only [List.length_cons, List.length_append, List.length_nil] at this ⊢; omega
theorem spec_HasWord_l0_ev (l : List ByteArray) (w : ByteArray) (hl : l.length ≤ 9223372036854775806) : ∀ i : Nat, i ≤ l.length → Ev (fun k => spec_HasWord.l0 k l w i) (decide (w ∈ l.drop i)) := by
  refine down l.length ?_ ?_
  · intro i h hi
    apply ev_succ
    simp only [spec_HasWord.l0]
    exact ev_neg (by omega) (ev_now (by rw [List.drop_eq_nil_of_le h]; simp))
  · intro i h ih hi
    apply ev_succ
    simp only [spec_HasWord.l0]
    rw [rdOf_get h, wrap64_id (n := (i : Int) + 1) (by omega) (by omega), succ_cast, List.drop_eq_getElem_cons h]
    refine ev_pos (by omega) (ev_pos (by omega) ?_)
    by_cases he : l[i].toList = w.toList
    · exact ev_pos he (ev_now (by simp [-List.getElem_cons_drop, toList_inj.1 he]))
    · refine ev_neg he (ev_eq (ih (by omega)) ?_)
      rw [toList_inj] at he
      simp [-List.getElem_cons_drop, show ¬ w = l[i] from fun e => he e.symm]
theorem spec_HasWord_ev (l : List ByteArray) (w : ByteArray) (hl : l.length ≤ 9223372036854775806) : Ev (fun k => spec_HasWord.f k l w) (decide (w ∈ l)) := by
  unfold spec_HasWord.f
  exact ev_eq (spec_HasWord_l0_ev l w hl 0 (by omega)) (by simp)
theorem slices_Index_string_string_l0_ev (l : List ByteArray) (w : ByteArray) (hl : l.length ≤ 9223372036854775806) : ∀ i : Nat, i ≤ l.length → ∃ r : Int, Ev (fun k => slices_Index_string_string.l0 k l w l.length i) r ∧ decide (r ≥ 0) = decide (w ∈ l.drop i) := by
  refine down l.length ?_ ?_
  · intro i h hi
    refine ⟨-1, ?_, by rw [List.drop_eq_nil_of_le h]; simp⟩
    apply ev_succ
    simp only [slices_Index_string_string.l0]
    exact ev_neg (by omega) (ev_now rfl)
  · intro i h ih hi
    by_cases he : w.toList = l[i].toList
    · refine ⟨i, ?_, by rw [List.drop_eq_getElem_cons h]; simp [-List.getElem_cons_drop, toList_inj.1 he]⟩
      apply ev_succ
      simp only [slices_Index_string_string.l0]
      rw [rdOf_get h]
      exact ev_pos (by omega) (ev_pos (by omega) (ev_pos (by omega) (ev_pos he (ev_now rfl))))
    · obtain ⟨r, hr, h1⟩ := ih (by omega)
      refine ⟨r, ?_, ?_⟩
      · apply ev_succ
        simp only [slices_Index_string_string.l0]
        rw [rdOf_get h, wrap64_id (n := (i : Int) + 1) (by omega) (by omega), succ_cast]
        exact ev_pos (by omega) (ev_pos (by omega) (ev_pos (by omega) (ev_neg he hr)))
      · rw [toList_inj] at he
        rw [h1, List.drop_eq_getElem_cons h]
        simp [-List.getElem_cons_drop, he]
theorem slices_Contains_string_string_ev (l : List ByteArray) (w : ByteArray) (hl : l.length ≤ 9223372036854775806) : Ev (fun k => slices_Contains_string_string.f k l w) (decide (w ∈ l)) := by
  unfold slices_Contains_string_string.f slices_Index_string_string.f
  obtain ⟨r, hr, h⟩ := slices_Index_string_string_l0_ev l w hl 0 (by omega)
  exact ev_bind hr (ev_now (by simpa using h))
theorem impl_once_l0_ev (l : List ByteArray) (hl : l.length ≤ 1048576) : ∀ i : Nat, i ≤ l.length → ∀ acc : List ByteArray, acc.length ≤ i → Ev (fun k => impl_once.l0 k acc l l.length i) (onceM acc (l.drop i)) := by
  refine down l.length ?_ ?_
  · intro i h hi acc ha
    apply ev_succ
    simp only [impl_once.l0]
    exact ev_neg (by omega) (ev_now (by rw [List.drop_eq_nil_of_le h]; rfl))
  · intro i h ih hi acc ha
    apply ev_succ
    simp only [impl_once.l0]
    rw [rdOf_get h, wrap64_id (n := (i : Int) + 1) (by omega) (by omega), succ_cast, List.drop_eq_getElem_cons h]
    unfold onceM
    refine ev_pos (by omega) (ev_pos (by omega) (ev_pos (by omega) (ev_bind (slices_Contains_string_string_ev acc l[i] (by omega)) ?_)))
    by_cases hm : l[i] ∈ acc
    · rw [if_pos hm]
      exact ev_pos (by simp [hm]) (ih (by omega) acc (by omega))
    · rw [if_neg hm]
      exact ev_neg (by simp [hm]) (ev_pos (by omega) (ih (by omega) (acc ++ [l[i]]) (by simp; omega)))
theorem impl_once_ev (l : List ByteArray) (hl : l.length ≤ 1048576) : Ev (fun k => impl_once.f k l) (onceM [] l) := by
  unfold impl_once.f
  exact ev_eq (impl_once_l0_ev l hl 0 (by omega) [] (by simp)) (by simp)

/-! ### domains -/
/-- The words that fit a pattern. -/
def fittingM (l : List ByteArray) (p : ByteArray) : List ByteArray := l.filter fun w => fitsM p w

/-! ### fillsof -/
/-! The letters that a word leaves in a fill. -/
theorem bt_set (d : Array UInt8) (a j : Nat) (u : UInt8) (ha : a < d.size) : bt ⟨d.setIfInBounds a u⟩ (j : Int) = if a = j then (u.toNat : Int) else bt ⟨d⟩ (j : Int) := by
  unfold bt
  simp only [Int.toNat_natCast]
  by_cases hj : j < d.size
  · rw [dif_pos (show j < (⟨d.setIfInBounds a u⟩ : ByteArray).size by show j < (d.setIfInBounds a u).size; rw [Array.size_setIfInBounds]; exact hj), dif_pos (show j < (⟨d⟩ : ByteArray).size from hj)]
    show (((d.setIfInBounds a u)[j]'(by rw [Array.size_setIfInBounds]; exact hj)).toNat : Int) = if a = j then (u.toNat : Int) else ((d[j]'hj).toNat : Int)
    rw [Array.getElem_setIfInBounds hj]
    split <;> rfl
  · rw [dif_neg (show ¬ j < (⟨d.setIfInBounds a u⟩ : ByteArray).size by show ¬ j < (d.setIfInBounds a u).size; rw [Array.size_setIfInBounds]; exact hj), dif_neg (show ¬ j < (⟨d⟩ : ByteArray).size from hj), if_neg (by omega)]
theorem bt_byte (w : ByteArray) (i : Nat) (h : i < w.size) : ((w.data.toList.getD i 0).toNat : Int) = bt w (i : Int) := by
  have hl : i < w.data.toList.length := by simpa using h
  rw [List.getD_eq_getElem?_getD, List.getElem?_eq_getElem hl]
  unfold bt
  rw [dif_pos (by simpa using h)]
  rfl
theorem writeGo_at (w : ByteArray) : ∀ (l : List Int) (i : Nat) (d : Array UInt8) (j : Nat), (∀ x ∈ l, 0 ≤ x ∧ x < (d.size : Int)) → i + l.length ≤ w.size → (bt ⟨writeGo w l i d⟩ (j : Int) = bt ⟨d⟩ (j : Int) ∧ (j : Int) ∉ l) ∨ ∃ q : Nat, ∃ h : q < l.length, l[q] = (j : Int) ∧ bt ⟨writeGo w l i d⟩ (j : Int) = bt w ((i + q : Nat) : Int)
  | [], i, d, j, _, _ => .inl ⟨rfl, by simp⟩
  | c :: l, i, d, j, hc, hw => by
    rw [List.length_cons] at hw
    obtain ⟨h0, h1⟩ := hc c (by simp)
    rw [writeGo_cons]
    rcases writeGo_at w l (i + 1) (d.setIfInBounds c.toNat (w.data.toList.getD i 0)) j (fun x hx => by rw [Array.size_setIfInBounds]; exact hc x (by simp [hx])) (by omega) with ⟨e, hn⟩ | ⟨q, hq, e1, e2⟩
    · rw [bt_set d c.toNat j _ (by omega)] at e
      by_cases hcj : c.toNat = j
      · rw [if_pos hcj, bt_byte w i (by omega)] at e
        exact .inr ⟨0, by simp, by show c = (j : Int); omega, e⟩
      · rw [if_neg hcj] at e
        refine .inl ⟨e, ?_⟩
        rw [List.mem_cons]
        rintro (h | h)
        · omega
        · exact hn h
    · refine .inr ⟨q + 1, by simp; exact hq, ?_, ?_⟩
      · rw [List.getElem_cons_succ]; exact e1
      · rw [e2, show i + 1 + q = i + (q + 1) by omega]
theorem bt_nums (l : List Int) (q : Nat) (h : q < l.length) (hb : 0 ≤ l[q] ∧ l[q] ≤ 255) : bt (strOfNums l) (q : Int) = l[q] := by
  have hs : q < (strOfNums l).size := by rw [strOfNums_size]; exact h
  rw [← bt_byte _ q hs]
  unfold strOfNums
  simp only [List.getD_eq_getElem?_getD, List.getElem?_map, List.getElem?_eq_getElem h, Option.map_some, Option.getD_some]
  rw [UInt8.toNat_ofNat']
  omega
theorem patM_size (f : ByteArray) (l : List Int) : (patM f l).size = l.length := by unfold patM; rw [strOfNums_size, List.length_map]
theorem patM_at (f : ByteArray) (l : List Int) (q : Nat) (h : q < l.length) : bt (patM f l) (q : Int) = bt f l[q] := by
  unfold patM
  rw [bt_nums _ q (by rw [List.length_map]; exact h) (by rw [List.getElem_map]; exact bt_range _ _), List.getElem_map]
theorem all_range {n : Nat} {p : Nat → Bool} : ((List.range' 0 (n - 0)).all p = true) ↔ ∀ j, j < n → p j = true := by
  rw [List.all_eq_true]
  constructor
  · intro h j hj
    exact h j (by rw [List.mem_range']; exact ⟨j, by omega, by omega⟩)
  · intro h j hj
    rw [List.mem_range'] at hj
    obtain ⟨q, hq, rfl⟩ := hj
    exact h _ (by omega)
theorem fillM_iff {r c : Int} {s f : ByteArray} : fillM r c s f = true ↔ gridM r c s = true ∧ f.size = s.size ∧ ∀ j, j < f.size → fillC (bt s (j : Int)) (bt f (j : Int)) = true := by
  unfold fillM
  rw [Bool.and_eq_true, Bool.and_eq_true, decide_eq_true_eq, all_range]
theorem wordM_iff {w : ByteArray} : wordM w = true ↔ (1 ≤ w.size ∧ w.size ≤ 8) ∧ ∀ j, j < w.size → isL (bt w (j : Int)) = true := by
  unfold wordM
  rw [Bool.and_eq_true, decide_eq_true_eq, all_range]
theorem patOk_iff {p : ByteArray} : patOk p = true ↔ (1 ≤ p.size ∧ p.size ≤ 8) ∧ ∀ j, j < p.size → isQ (bt p (j : Int)) = true := by
  unfold patOk
  rw [Bool.and_eq_true, decide_eq_true_eq, all_range]
theorem fitsM_iff {p w : ByteArray} : fitsM p w = true ↔ patOk p = true ∧ wordM w = true ∧ p.size = w.size ∧ ∀ j : Nat, j < p.size → bt p (j : Int) = 63 ∨ bt p (j : Int) = bt w (j : Int) := by
  unfold fitsM
  rw [Bool.and_eq_true, Bool.and_eq_true, Bool.and_eq_true, decide_eq_true_eq, all_range]
  simp only [decide_eq_true_eq]
/-- Does this word fit the slot k? -/
def fitK (L : List (List Int)) (k : Nat) (f w : ByteArray) : Bool := fitsM (patM f (L.getD k [])) w
def wrK (L : List (List Int)) (k : Nat) (f w : ByteArray) : ByteArray := ⟨writeGo w (L.getD k []) 0 f.data⟩
theorem fitK_iff {L : List (List Int)} {k : Nat} {f w : ByteArray} : fitK L k f w = true ↔ patOk (patM f (L.getD k [])) = true ∧ wordM w = true ∧ (L.getD k []).length = w.size ∧ ∀ j (h : j < (L.getD k []).length), bt f (L.getD k [])[j] = 63 ∨ bt f (L.getD k [])[j] = bt w (j : Int) := by
  unfold fitK
  rw [fitsM_iff, patM_size]
  constructor
  · rintro ⟨h1, h2, h3, h4⟩
    exact ⟨h1, h2, h3, fun j h => by rw [← patM_at f _ j h]; exact h4 j h⟩
  · rintro ⟨h1, h2, h3, h4⟩
    exact ⟨h1, h2, h3, fun j h => by rw [patM_at f _ j h]; exact h4 j h⟩
theorem row_mem {L : List (List Int)} {k : Nat} (h : k < L.length) : L.getD k [] ∈ L := by
  rw [List.getD_eq_getElem?_getD, List.getElem?_eq_getElem h, Option.getD_some]
  exact List.getElem_mem h
theorem row_white {r c : Int} {s : ByteArray} {k : Nat} (h : k < (layoutM r c s).length) {x : Int} (hx : x ∈ (layoutM r c s).getD k []) : bt s x = 46 := slotsAtM_white (in_layout.1 (List.mem_flatten.2 ⟨_, row_mem h, hx⟩))
theorem wrK_at {r c : Int} {s f w : ByteArray} {k : Nat} (hk : k < (layoutM r c s).length) (hv : fillM r c s f = true) (hf : fitK (layoutM r c s) k f w = true) (j : Nat) : (bt (wrK (layoutM r c s) k f w) (j : Int) = bt f (j : Int) ∧ (j : Int) ∉ (layoutM r c s).getD k []) ∨ ∃ q : Nat, ∃ h : q < ((layoutM r c s).getD k []).length, ((layoutM r c s).getD k [])[q] = (j : Int) ∧ bt (wrK (layoutM r c s) k f w) (j : Int) = bt w (q : Int) := by
  obtain ⟨_, _, hsz, _⟩ := fitK_iff.1 hf
  obtain ⟨_, hin⟩ := layout_row (row_mem hk)
  have he := (fillM_iff.1 hv).2.1
  have h := writeGo_at w ((layoutM r c s).getD k []) 0 f.data j (fun x hx => by
    have h1 := hin x hx
    have h2 : f.data.size = f.size := rfl
    omega) (by omega)
  simp only [Nat.zero_add] at h
  exact h
theorem wrK_size (L : List (List Int)) (k : Nat) (f w : ByteArray) : (wrK L k f w).size = f.size := by
  show (writeGo w (L.getD k []) 0 f.data).size = f.data.size
  have : ∀ (l : List Int) (i : Nat) (d : Array UInt8), (writeGo w l i d).size = d.size := by
    intro l
    induction l with
    | nil => intro i d; rfl
    | cons x l ih => intro i d; rw [writeGo_cons, ih, Array.size_setIfInBounds]
  exact this _ _ _
theorem wrK_fill {r c : Int} {s f w : ByteArray} {k : Nat} (hk : k < (layoutM r c s).length) (hv : fillM r c s f = true) (hf : fitK (layoutM r c s) k f w = true) : fillM r c s (wrK (layoutM r c s) k f w) = true := by
  obtain ⟨hg, hs, ha⟩ := fillM_iff.1 hv
  refine fillM_iff.2 ⟨hg, by rw [wrK_size]; exact hs, fun j hj => ?_⟩
  rw [wrK_size] at hj
  rcases wrK_at hk hv hf j with ⟨e, _⟩ | ⟨q, hq, e1, e2⟩
  · rw [e]; exact ha j hj
  · obtain ⟨_, hw, hsz, _⟩ := fitK_iff.1 hf
    have hl := (wordM_iff.1 hw).2 q (by omega)
    have hb := row_white hk (List.getElem_mem hq)
    rw [e1] at hb
    rw [e2, hb]
    unfold fillC
    unfold isL at hl
    rw [decide_eq_true_eq] at hl
    have h1 : ¬ bt w (q : Int) = 35 := by omega
    simp [isL, h1, hl]
theorem fillM_white {r c : Int} {s f : ByteArray} (hv : fillM r c s f = true) {x : Int} (h0 : 0 ≤ x ∧ x < s.size) (hb : bt s x = 46) : bt f x = 63 ∨ isL (bt f x) = true := by
  obtain ⟨_, hs, ha⟩ := fillM_iff.1 hv
  obtain ⟨j, rfl⟩ := Int.eq_ofNat_of_zero_le h0.1
  have h := ha j (by omega)
  rw [hb] at h
  unfold fillC at h
  by_cases h1 : bt f (j : Int) = 35
  · simp [h1] at h
  · simpa [h1] using h
theorem row_two {r c : Int} {s : ByteArray} {k : Nat} (h : k < (layoutM r c s).length) : 1 ≤ ((layoutM r c s).getD k []).length := by
  have h' : k < (slotsM r c s).length := by rw [← layoutM_length]; exact h
  obtain ⟨R, C, _, _, _, _, _, _, _, _, i, _, _, h3, h2⟩ := slotsM_ok (List.getElem_mem h')
  rw [layout_getD h']
  unfold cellsM
  rw [List.length_map, List.length_range']
  omega
theorem row_pat {r c : Int} {s f : ByteArray} {k : Nat} (hk : k < (layoutM r c s).length) (hv : fillM r c s f = true) : patOk (patM f ((layoutM r c s).getD k [])) = true := by
  obtain ⟨h6, hin⟩ := layout_row (row_mem hk)
  have h1 := row_two hk
  refine patOk_iff.2 ⟨by rw [patM_size]; omega, fun j hj => ?_⟩
  rw [patM_size] at hj
  rw [patM_at f _ j hj]
  have hx := List.getElem_mem hj
  have hi := hin _ hx
  unfold isQ
  rcases fillM_white hv ⟨hi.1, hi.2.2⟩ (row_white hk hx) with h | h
  · rw [h]; rfl
  · rw [h]; simp
theorem fitK_back {r c : Int} {s f w x : ByteArray} {k j : Nat} (hk : k < (layoutM r c s).length) (hj : j < (layoutM r c s).length) (hv : fillM r c s f = true) (hf : fitK (layoutM r c s) k f w = true) (h : fitK (layoutM r c s) j (wrK (layoutM r c s) k f w) x = true) : fitK (layoutM r c s) j f x = true := by
  obtain ⟨_, h2, h3, h4⟩ := fitK_iff.1 h
  refine fitK_iff.2 ⟨row_pat hj hv, h2, h3, fun q hq => ?_⟩
  have h5 := h4 q hq
  have hi := (layout_row (row_mem hj)).2 _ (List.getElem_mem hq)
  obtain ⟨a, ha⟩ := Int.eq_ofNat_of_zero_le hi.1
  rw [ha] at h5 ⊢
  rcases wrK_at hk hv hf a with ⟨e, _⟩ | ⟨p, hp, e1, e2⟩
  · rw [e] at h5; exact h5
  · rcases (fitK_iff.1 hf).2.2.2 p hp with h6 | h6
    · rw [e1] at h6; exact .inl h6
    · rw [e1] at h6
      rw [e2, ← h6] at h5
      exact h5
/-- All fills with these words, as many as most. -/
def fillsM (r c : Int) (s f : ByteArray) (ws : List ByteArray) (most : Int) : List ByteArray := if fillM r c s f = true ∧ aloneAllM r c s f = false ∧ (1 ≤ most ∧ most ≤ 30) then srchI (fitK (layoutM r c s)) (wrK (layoutM r c s)) (onceM [] ws) most.toNat (layoutM r c s).length 0 f [] [] else []
theorem onceM_mem : ∀ (l acc : List ByteArray) (w : ByteArray), w ∈ onceM acc l ↔ w ∈ acc ∨ w ∈ l
  | [], acc, w => by simp [onceM]
  | x :: l, acc, w => by
    unfold onceM
    split
    · rename_i h
      rw [onceM_mem l acc w, List.mem_cons]
      constructor
      · rintro (h1 | h1)
        · exact .inl h1
        · exact .inr (.inr h1)
      · rintro (h1 | rfl | h1)
        · exact .inl h1
        · exact .inl h
        · exact .inr h1
    · rw [onceM_mem l _ w, List.mem_append, List.mem_singleton, List.mem_cons, or_assoc]
theorem fillsM_length (r c : Int) (s f : ByteArray) (ws : List ByteArray) (most : Int) : (fillsM r c s f ws most).length ≤ most.toNat := by
  unfold fillsM
  split
  · rename_i h
    exact srchI_length _ _ _ _ _ _ _ _ _ (by rw [List.length_nil]; omega)
  · simp
/-! The program's search. -/
theorem flIdx_ev (p : ByteArray) (hp : p.size ≤ 1000) : ∀ (l : List ByteArray) (i : Nat), (∀ w ∈ l, w.size ≤ 140737488351232) → ∃ r : Int, Ev (fun k => flIdx k p l i) r ∧ decide (0 ≤ r) = l.any fun w => fitsM p w
  | [], i, _ => ⟨-1, ev_now rfl, rfl⟩
  | x :: l, i, h => by
    simp only [flIdx_cons, List.any_cons]
    obtain ⟨r, hr, he⟩ := flIdx_ev p hp l (i + 1) (fun w hw => h w (by simp [hw]))
    have hx := impl_FitsPattern_ev p x (by omega) (h x (by simp))
    cases hf : fitsM p x with
    | true => exact ⟨i, ev_bind (ev_eq hx hf) (ev_pos rfl (ev_now rfl)), by simp⟩
    | false => exact ⟨r, ev_bind (ev_eq hx hf) (ev_neg (by simp) hr), by simpa using he⟩
theorem flAny_ev (p : ByteArray) (hp : p.size ≤ 1000) (l : List ByteArray) (h : ∀ w ∈ l, w.size ≤ 140737488351232) : Ev (fun k => flAny k p l) (l.any fun w => fitsM p w) := by
  unfold flAny
  obtain ⟨r, hr, he⟩ := flIdx_ev p hp l 0 h
  exact ev_bind hr (ev_now he)
theorem replicate_getD {α : Type} (n i : Nat) (a d : α) (h : i < n) : (List.replicate n a).getD i d = a := by
  rw [List.getD_eq_getElem?_getD, List.getElem?_replicate, if_pos h, Option.getD_some]
theorem flHope_ev (r c : Int) (s f : ByteArray) (o : List ByteArray) (hv : fillM r c s f = true) (h : ∀ w ∈ o, w.size ≤ 140737488351232) : ∀ d i, i + d = (layoutM r c s).length → Ev (fun k => flHope k (layoutM r c s) (List.replicate (layoutM r c s).length o) f d i) (!openM (fitK (layoutM r c s)) o d i f)
  | 0, i, _ => ev_now (by simp [openM])
  | d + 1, i, hi => by
    have hl : i < (layoutM r c s).length := by omega
    obtain ⟨h6, hin⟩ := layout_row (row_mem hl)
    have he := (fillM_iff.1 hv).2.1
    simp only [flHope_succ]
    rw [replicate_getD _ _ _ _ hl]
    have h1 := impl_readCells_ev f ((layoutM r c s).getD i []) (by omega) (fun x hx => by have := hin x hx; omega)
    have h2 := flAny_ev (patM f ((layoutM r c s).getD i [])) (by rw [patM_size]; omega) o h
    refine ev_bind h1 (ev_bind h2 ?_)
    have e : openM (fitK (layoutM r c s)) o (d + 1) i f = ((o.any fun w => fitsM (patM f ((layoutM r c s).getD i [])) w) && openM (fitK (layoutM r c s)) o d (i + 1) f) := by
      unfold openM
      rw [List.range'_succ, List.all_cons]
      rfl
    rw [e]
    cases hA : (o.any fun w => fitsM (patM f ((layoutM r c s).getD i [])) w) with
    | true => exact ev_pos rfl (ev_eq (flHope_ev r c s f o hv h d (i + 1) (by omega)) (by simp))
    | false => exact ev_neg (by simp) (ev_now (by simp))
theorem flLoop_ev (most : Nat) (p : ByteArray) (hp : p.size ≤ 1000) (used : List ByteArray) (hu : used.length ≤ 1000) (g : Nat → ByteArray → List ByteArray → Option (List ByteArray)) (G : ByteArray → List ByteArray → List ByteArray) (cc : ByteArray → Prop) (inst : DecidablePred cc) (hcc : ∀ w, cc w ↔ fitsM p w = true ∧ w ∉ used) : ∀ l out, (∀ w ∈ l, w.size ≤ 140737488351232) → out.length ≤ most → (∀ x ∈ l, ∀ o : List ByteArray, o.length < most → fitsM p x = true → Ev (fun k => g k x o) (G x o) ∧ (G x o).length ≤ most) →
    Ev (fun k => flLoop k (most : Int) p used (g k) l out) (l.foldl (fun o w => if o.length = most then o else if cc w then G w o else o) out)
  | [], out, _, _, _ => ev_now rfl
  | x :: l, out, hw, ho, hg => by
    simp only [flLoop_cons, List.foldl_cons]
    by_cases hm : out.length = most
    · rw [if_pos hm]
      refine ev_pos (by omega) (ev_now ?_)
      have : ∀ (l : List ByteArray) (o : List ByteArray), o.length = most → l.foldl (fun o w => if o.length = most then o else if cc w then G w o else o) o = o := by
        intro l
        induction l with
        | nil => intro o _; rfl
        | cons x l ih => intro o h; rw [List.foldl_cons, if_pos h]; exact ih o h
      exact (this l out hm).symm
    · rw [if_neg hm]
      refine ev_neg (by omega) (ev_bind (impl_FitsPattern_ev p x (by omega) (hw x (by simp))) ?_)
      have IH := fun o ho => flLoop_ev most p hp used hu g G cc inst hcc l o (fun w h => hw w (by simp [h])) ho (fun y hy => hg y (by simp [hy]))
      by_cases hf : fitsM p x = true
      · refine ev_pos hf (ev_bind (slices_Contains_string_string_ev used x (by omega)) ?_)
        by_cases hc : x ∈ used
        · rw [if_neg (show ¬ cc x from fun h => ((hcc x).1 h).2 hc)]
          exact ev_pos (decide_eq_true hc) (IH out ho)
        · obtain ⟨h1, h2⟩ := hg x (by simp) out (by omega) hf
          rw [if_pos (show cc x from (hcc x).2 ⟨hf, hc⟩)]
          exact ev_neg (by simpa using hc) (ev_bind h1 (IH _ h2))
      · rw [if_neg (show ¬ cc x from fun h => hf ((hcc x).1 h).1)]
        exact ev_neg hf (IH out ho)
theorem flSrch_ev (r c : Int) (s : ByteArray) (o : List ByteArray) (most : Nat) (hm : most ≤ 30) (hn : (layoutM r c s).length ≤ 72) (hs : s.size ≤ 1048576) (h : ∀ w ∈ o, w.size ≤ 140737488351232) : ∀ d i (f : ByteArray) (used out : List ByteArray), i + d = (layoutM r c s).length → fillM r c s f = true → used.length = i → out.length < most → Ev (fun k => flSrch k (layoutM r c s) (List.replicate (layoutM r c s).length o) (most : Int) d i f used out) (srchI (fitK (layoutM r c s)) (wrK (layoutM r c s)) o most d i f used out)
  | 0, i, f, used, out, _, _, _, ho => by
    simp only [flSrch_zero]
    exact ev_pos (by omega) (ev_now rfl)
  | d + 1, i, f, used, out, hi, hv, hu, ho => by
    have hl : i < (layoutM r c s).length := by omega
    obtain ⟨h6, hin⟩ := layout_row (row_mem hl)
    have he := (fillM_iff.1 hv).2.1
    simp only [flSrch_succ]
    refine ev_bind (flHope_ev r c s f o hv h (d + 1) i hi) ?_
    unfold srchI
    by_cases hop : openM (fitK (layoutM r c s)) o (d + 1) i f = true
    · rw [if_pos hop, replicate_getD _ _ _ _ hl]
      refine ev_neg (by rw [hop]; simp) (ev_bind (impl_readCells_ev f ((layoutM r c s).getD i []) (by omega) (fun x hx => by have := hin x hx; omega)) ?_)
      refine flLoop_ev most (patM f ((layoutM r c s).getD i [])) (by rw [patM_size]; omega) used (by omega) (fun k x o_ => (impl_writeCells.f f ((layoutM r c s).getD i []) x).bind fun nf => if used.length < 1048576 then flSrch k (layoutM r c s) (List.replicate (layoutM r c s).length o) (most : Int) d (i + 1) nf (used ++ [x]) o_ else none) (fun x o_ => srchI (fitK (layoutM r c s)) (wrK (layoutM r c s)) o most d (i + 1) (wrK (layoutM r c s) i f x) (used ++ [x]) o_) _ _ (fun _ => Iff.rfl) o out h (by omega) (fun x hx o_ ho_ hf => ⟨?_, srchI_length _ _ _ _ _ _ _ _ _ ho_⟩)
      have hfk : fitK (layoutM r c s) i f x = true := hf
      have hsz := (fitK_iff.1 hfk).2.2.1
      refine ev_let (a := wrK (layoutM r c s) i f x) ?_ (ev_pos (by omega) (flSrch_ev r c s o most hm hn hs h d (i + 1) _ _ o_ (by omega) (wrK_fill hl hv hfk) (by simp [hu]) ho_))
      unfold impl_writeCells.f
      rw [if_pos ⟨fun x hx => by have := hin x hx; omega, by omega, by omega, by omega⟩]
      rfl
    · rw [if_neg hop]
      refine ev_pos ?_ (ev_now rfl)
      rw [Bool.not_eq_true] at hop
      rw [hop]
      rfl
theorem impl_FillsOf_ev (r c : Int) (s f : ByteArray) (ws : List ByteArray) (most : Int) (hs : s.size ≤ 1048576) (hf : f.size ≤ 1048576) (hl : ws.length ≤ 1048576) (h : ∀ w ∈ ws, w.size ≤ 140737488351232) : Ev (fun k => impl_FillsOf.f k r c s f ws most) (fillsM r c s f ws most) := by
  have hL := slotsM_length r c s
  have hL2 := layoutM_length r c s
  unfold impl_FillsOf.f fillsM
  refine ev_bind (impl_IsFill_ev r c s f (by omega) (by omega)) ?_
  by_cases h1 : fillM r c s f = true
  · have he := fillM_size h1
    have h36 := grid_le36 he.1
    refine ev_pos h1 (ev_bind (impl_alone_ev r c s f hs (by omega) (by omega)) ?_)
    by_cases h2 : aloneAllM r c s f = true
    · rw [if_neg (show ¬ (fillM r c s f = true ∧ aloneAllM r c s f = false ∧ (1 ≤ most ∧ most ≤ 30)) from fun h => by rw [h2] at h; exact absurd h.2.1 (by simp))]
      exact ev_pos h2 (ev_now rfl)
    · refine ev_neg h2 (ev_let (impl_InRange_eq _ _ _) ?_)
      by_cases h3 : 1 ≤ most ∧ most ≤ 30
      · rw [if_pos (show fillM r c s f = true ∧ aloneAllM r c s f = false ∧ (1 ≤ most ∧ most ≤ 30) from ⟨h1, by rw [Bool.not_eq_true] at h2; exact h2, h3⟩)]
        refine ev_pos (decide_eq_true h3) ?_
        unfold flStart
        have ho := onceM_length ws []
        rw [List.length_nil] at ho
        obtain ⟨m, hm⟩ := Int.eq_ofNat_of_zero_le (show 0 ≤ most by omega)
        subst hm
        exact ev_bind (impl_layout_ev r c s hs) (ev_bind (impl_once_ev ws hl) (ev_pos (by omega) (ev_pos (by omega) (flSrch_ev r c s (onceM [] ws) m (by omega) (by omega) hs (fun w hw => h w (((onceM_mem ws [] w).1 hw).resolve_left (by simp))) _ 0 f [] [] (by omega) h1 rfl (by rw [List.length_nil]; omega)))))
      · rw [if_neg (show ¬ (fillM r c s f = true ∧ aloneAllM r c s f = false ∧ (1 ≤ most ∧ most ≤ 30)) from fun h => h3 h.2.2)]
        exact ev_neg (by simpa using h3) (ev_now rfl)
  · rw [if_neg (show ¬ (fillM r c s f = true ∧ aloneAllM r c s f = false ∧ (1 ≤ most ∧ most ≤ 30)) from fun h => h1 h.1)]
    exact ev_neg h1 (ev_now rfl)
/-! The reference's search. -/
theorem writeGo_snoc (w : ByteArray) : ∀ (l : List Int) (c : Int) (i : Nat) (d : Array UInt8), writeGo w (l ++ [c]) i d = (writeGo w l i d).setIfInBounds c.toNat (w.data.toList.getD (i + l.length) 0)
  | [], c, i, d => by rw [List.nil_append, writeGo_cons, writeGo_nil, writeGo_nil]; rfl
  | x :: l, c, i, d => by
    rw [List.cons_append, writeGo_cons, writeGo_cons, writeGo_snoc w l c (i + 1), List.length_cons, show i + 1 + l.length = i + (l.length + 1) by omega]
theorem cellsM_nodup {C : Nat} (h : 1 ≤ C) (x : ISlot) : (cellsM C x).Nodup := by
  unfold cellsM
  have hs : 1 ≤ stepM C x.f1 := by unfold stepM; split <;> omega
  refine List.pairwise_map.2 ((List.pairwise_lt_range' (s := 0) (n := x.f3.toNat - 0)).imp ?_)
  intro a b hab e
  have h1 : (a : Int) * (stepM C x.f1 : Int) < (b : Int) * (stepM C x.f1 : Int) := Int.mul_lt_mul_of_pos_right (by omega) (by omega)
  omega
theorem row_nodup {r c : Int} {s : ByteArray} {k : Nat} (h : k < (layoutM r c s).length) : ((layoutM r c s).getD k []).Nodup := by
  have h' : k < (slotsM r c s).length := by rw [← layoutM_length]; exact h
  obtain ⟨R, C, _, rfl, _, _, h3, _⟩ := slotsM_ok (List.getElem_mem h')
  rw [layout_getD h']
  exact cellsM_nodup (by omega) _
theorem alone_fill {r c : Int} {s f : ByteArray} (hv : fillM r c s f = true) : aloneAllM r c s f = ((List.range' 0 f.size).any fun i => decide (bt f (i : Int) = 63) && decide ((slotsAtM r c s (i : Int)).length = 0)) := by
  obtain ⟨hg, hs, ha⟩ := fillM_iff.1 hv
  unfold aloneAllM
  rw [hs, Bool.eq_iff_iff, List.any_eq_true, List.any_eq_true]
  have key : ∀ i : Nat, i < s.size → (aloneAt (layoutM r c s).flatten s f i = (decide (bt f (i : Int) = 63) && decide ((slotsAtM r c s (i : Int)).length = 0))) := by
    intro i hi
    have hc := ha i (by omega)
    have hw := gridM_cell hg i hi
    have e : ((i : Int) ∉ (layoutM r c s).flatten) ↔ (slotsAtM r c s (i : Int)).length = 0 := by rw [in_layout]; omega
    unfold aloneAt
    have e2 : ∀ [inst : Decidable ((i : Int) ∉ (layoutM r c s).flatten)], @decide _ inst = decide ((slotsAtM r c s (i : Int)).length = 0) := by intro inst; exact decide_eq_decide.2 e
    rw [e2]
    unfold fillC at hc
    rcases hw with hw | hw
    · rw [hw] at hc
      have h1 : bt f (i : Int) = 35 := by
        by_cases h1 : bt f (i : Int) = 35
        · exact h1
        · simp [h1] at hc
      rw [decide_eq_false (show ¬ bt s (i : Int) = 46 by omega), decide_eq_false (show ¬ bt f (i : Int) = 63 by omega)]
      rfl
    · rw [hw] at hc
      rw [decide_eq_true hw, Bool.true_and]
      have h1 : ¬ bt f (i : Int) = 35 := by
        intro h1
        simp [h1] at hc
      by_cases h2 : bt f (i : Int) = 63
      · have h3 : aloneL (bt f (i : Int)) = false := by rw [h2]; rfl
        rw [h3, decide_eq_true h2]
        simp
      · have h3 : isL (bt f (i : Int)) = true := by simpa [h1, h2] using hc
        have h4 : aloneL (bt f (i : Int)) = true := h3
        rw [h4, decide_eq_false h2]
        simp
  constructor
  · rintro ⟨i, hi, h⟩
    refine ⟨i, hi, ?_⟩
    rw [List.mem_range'] at hi
    obtain ⟨q, hq, rfl⟩ := hi
    rw [← key _ (by omega)]
    exact h
  · rintro ⟨i, hi, h⟩
    refine ⟨i, hi, ?_⟩
    rw [List.mem_range'] at hi
    obtain ⟨q, hq, rfl⟩ := hi
    rw [key _ (by omega)]
    exact h
theorem spec_l13Lonely_ev (r c : Int) (s f : ByteArray) (hs : s.size ≤ 1048576) (hv : fillM r c s f = true) : Ev (fun k => spec_l13Lonely.f k r c s f) (aloneAllM r c s f) := by
  have he := (fillM_iff.1 hv).2.1
  have main : ∀ i : Nat, i ≤ f.size → Ev (fun k => spec_l13Lonely.l0 k f i r c s) ((List.range' i (f.size - i)).any fun i => decide (bt f (i : Int) = 63) && decide ((slotsAtM r c s (i : Int)).length = 0)) := by
    refine down f.size ?_ ?_
    · intro i h hi
      apply ev_succ
      simp only [spec_l13Lonely.l0]
      exact ev_neg (by omega) (ev_now (by rw [range_nil h]; rfl))
    · intro i h ih hi
      apply ev_succ
      simp only [spec_l13Lonely.l0]
      rw [wrap64_id (n := (i : Int) + 1) (by omega) (by omega), succ_cast, range_cons h, List.any_cons]
      refine ev_pos (by omega) (ev_pos (by omega) ?_)
      by_cases h1 : bt f (i : Int) = 63
      · refine ev_pos h1 (ev_bind (spec_SlotsAt_ev r c s i hs) ?_)
        by_cases h2 : (slotsAtM r c s i).length = 0
        · exact ev_pos (by omega) (ev_now (by rw [decide_eq_true h1, decide_eq_true h2]; rfl))
        · exact ev_neg (by omega) (ev_eq (ih (by omega)) (by rw [decide_eq_true h1, decide_eq_false h2]; rfl))
      · exact ev_neg h1 (ev_eq (ih (by omega)) (by rw [decide_eq_false h1]; rfl))
  unfold spec_l13Lonely.f
  rw [alone_fill hv]
  exact ev_eq (main 0 (by omega)) (by rw [Nat.sub_zero])
theorem openM_cons (fit : Nat → ByteArray → ByteArray → Bool) (D : List ByteArray) (d k : Nat) (f : ByteArray) : openM fit D (d + 1) k f = ((D.any fun w => fit k f w) && openM fit D d (k + 1) f) := by
  unfold openM
  rw [List.range'_succ, List.all_cons]
theorem spec_l13Open_ev (r c : Int) (s f : ByteArray) (ws : List ByteArray) (hs : s.size ≤ 1048576) (hv : fillM r c s f = true) (hl : ws.length ≤ 1048576) (h : ∀ w ∈ ws, w.size ≤ 140737488351232) (hn : (layoutM r c s).length ≤ 72) : ∀ d i : Nat, i + d = (layoutM r c s).length → Ev (fun k => spec_l13Open.f k (layoutM r c s) f ws i) (openM (fitK (layoutM r c s)) ws d i f)
  | 0, i, hi => by
    unfold spec_l13Open.f
    apply ev_succ
    simp only [spec_l13Open.l0]
    exact ev_neg (by omega) (ev_now (by simp [openM]))
  | d + 1, i, hi => by
    have hk : i < (layoutM r c s).length := by omega
    have IH := spec_l13Open_ev r c s f ws hs hv hl h hn d (i + 1) (by omega)
    unfold spec_l13Open.f at IH ⊢
    have he := (fillM_iff.1 hv).2.1
    obtain ⟨h6, hin⟩ := layout_row (row_mem hk)
    have hrd := rd_ints_get hk
    have hgd : (layoutM r c s).getD i [] = (layoutM r c s)[i] := by rw [List.getD_eq_getElem?_getD, List.getElem?_eq_getElem hk, Option.getD_some]
    rw [hgd] at h6 hin
    rw [openM_cons]
    have hrow : ∀ w, fitK (layoutM r c s) i f w = fitsM (patM f (layoutM r c s)[i]) w := by intro w; unfold fitK; rw [hgd]
    have hps := patM_size f (layoutM r c s)[i]
    have l2 : ∀ j : Nat, j ≤ ws.length → ∀ b : Bool, Ev (fun k => spec_l13Open.l2 k (layoutM r c s) f ws i (patM f (layoutM r c s)[i]) b j) ((b || (ws.drop j).any fun w => fitK (layoutM r c s) i f w) && openM (fitK (layoutM r c s)) ws d (i + 1) f) := by
      refine down ws.length ?_ ?_
      · intro j hj hj2 b
        apply ev_succ
        simp only [spec_l13Open.l2]
        rw [wrap64_id (n := (i : Int) + 1) (by omega) (by omega), succ_cast, List.drop_eq_nil_of_le hj]
        refine ev_neg (by omega) ?_
        cases b with
        | true => exact ev_pos rfl (ev_eq IH (by simp))
        | false => exact ev_neg (by simp) (ev_now (by simp))
      · intro j hj ih hj2 b
        apply ev_succ
        simp only [spec_l13Open.l2]
        rw [wrap64_id (n := (i : Int) + 1) (by omega) (by omega), wrap64_id (n := (j : Int) + 1) (by omega) (by omega), succ_cast, succ_cast, List.drop_eq_getElem_cons hj, List.any_cons]
        refine ev_pos (by omega) ?_
        cases b with
        | true => exact ev_pos rfl (ev_eq IH (by simp))
        | false =>
          refine ev_neg (by simp) (ev_pos (by omega) ?_)
          rw [rdOf_get hj]
          refine ev_bind (spec_FitsPattern_ev _ _ (by omega) (h _ (List.getElem_mem hj))) (ev_eq (ih (by omega) _) ?_)
          rw [hrow, Bool.false_or]
    have l1 : ∀ j : Nat, j ≤ (layoutM r c s)[i].length → Ev (fun k => spec_l13Open.l1 k (layoutM r c s) f ws i (patM f ((layoutM r c s)[i].take j)) j) ((ws.any fun w => fitK (layoutM r c s) i f w) && openM (fitK (layoutM r c s)) ws d (i + 1) f) := by
      refine down (layoutM r c s)[i].length ?_ ?_
      · intro j hj hj2
        apply ev_succ
        simp only [spec_l13Open.l1]
        rw [hrd, List.take_of_length_le hj]
        refine ev_pos (by omega) (ev_pos (by omega) (ev_neg (by omega) (ev_eq (l2 0 (by omega) false) ?_)))
        rw [List.drop_zero, Bool.false_or]
      · intro j hj ih hj2
        apply ev_succ
        simp only [spec_l13Open.l1]
        have hx := hin _ (List.getElem_mem hj)
        obtain ⟨a, ha⟩ := Int.eq_ofNat_of_zero_le hx.1
        rw [hrd, rd_get hj, ha, wrap64_id (n := (a : Int) + 1) (by omega) (by omega), wrap64_id (n := (j : Int) + 1) (by omega) (by omega), succ_cast, succ_cast, Int.toNat_natCast, Int.toNat_natCast]
        have hsn : patM f ((layoutM r c s)[i].take j) ++ f.extract a (a + 1) = patM f ((layoutM r c s)[i].take (j + 1)) := by
          unfold patM
          rw [strOfNums_snoc _ f a (by omega), List.take_succ_eq_append_getElem hj, List.map_append, ha]
          rfl
        rw [hsn]
        refine ev_pos (by omega) (ev_pos (by omega) (ev_pos (by omega) (ev_pos (by omega) (ev_pos (by omega) (ev_pos (by omega) (ev_pos (by omega) (ev_pos ?_ (ih (by omega)))))))))
        rw [patM_size, List.length_take, ByteArray.size_extract]
        omega
    apply ev_succ
    simp only [spec_l13Open.l0]
    exact ev_pos (by omega) (l1 0 (by omega))
theorem spec_l13Search_l1_ev (r c : Int) (s f w : ByteArray) (ws used out : List ByteArray) (most : Int) (p i : Nat) (ρ : List ByteArray) (hs : s.size ≤ 1048576) (hv : fillM r c s f = true) (hk : i < (layoutM r c s).length) (hw : (layoutM r c s)[i].length = w.size) (h6 : (layoutM r c s)[i].length ≤ 6) (hn : (layoutM r c s)[i].Nodup) (hin : ∀ x ∈ (layoutM r c s)[i], 0 ≤ x ∧ x < 36 ∧ x < s.size)
    (hyes : (∀ j (h : j < (layoutM r c s)[i].length), bt f (layoutM r c s)[i][j] = 63 ∨ bt f (layoutM r c s)[i][j] = bt w (j : Int)) → Ev (fun k => spec_l13Search.j4 k (layoutM r c s) f ws i used out most p w ⟨writeGo w (layoutM r c s)[i] 0 f.data⟩ true r c s) ρ)
    (hno : (¬ ∀ j (h : j < (layoutM r c s)[i].length), bt f (layoutM r c s)[i][j] = 63 ∨ bt f (layoutM r c s)[i][j] = bt w (j : Int)) → ∀ x, Ev (fun k => spec_l13Search.j4 k (layoutM r c s) f ws i used out most p w x false r c s) ρ) :
    ∀ q : Nat, q ≤ (layoutM r c s)[i].length → (∀ j (h : j < (layoutM r c s)[i].length), j < q → bt f (layoutM r c s)[i][j] = 63 ∨ bt f (layoutM r c s)[i][j] = bt w (j : Int)) → Ev (fun k => spec_l13Search.l1 k (layoutM r c s) f ws i used out most p w ⟨writeGo w ((layoutM r c s)[i].take q) 0 f.data⟩ true q r c s) ρ := by
  have he := (fillM_iff.1 hv).2.1
  have hrd := rd_ints_get hk
  have hsz : ∀ l : List Int, (⟨writeGo w l 0 f.data⟩ : ByteArray).size = f.size := by
    intro l
    have : ∀ (l : List Int) (i : Nat) (d : Array UInt8), (writeGo w l i d).size = d.size := by
      intro l
      induction l with
      | nil => intro i d; rfl
      | cons x l ih => intro i d; rw [writeGo_cons, ih, Array.size_setIfInBounds]
    exact this _ _ _
  have stop : (¬ ∀ j (h : j < (layoutM r c s)[i].length), bt f (layoutM r c s)[i][j] = 63 ∨ bt f (layoutM r c s)[i][j] = bt w (j : Int)) → ∀ (x : ByteArray) (q : Nat), Ev (fun k => spec_l13Search.l1 k (layoutM r c s) f ws i used out most p w x false q r c s) ρ := by
    intro hb x q
    apply ev_succ
    simp only [spec_l13Search.l1]
    by_cases hq : (q : Int) < (w.size : Int)
    · exact ev_pos hq (ev_neg (by simp) (hno hb x))
    · exact ev_neg hq (hno hb x)
  refine down (layoutM r c s)[i].length ?_ ?_
  · intro q hq hq2 hp
    apply ev_succ
    simp only [spec_l13Search.l1]
    rw [List.take_of_length_le hq]
    exact ev_neg (by omega) (hyes fun j h => hp j h (by omega))
  · intro q hq ih hq2 hp
    have hx := hin _ (List.getElem_mem hq)
    obtain ⟨a, ha⟩ := Int.eq_ofNat_of_zero_le hx.1
    have hXs := hsz ((layoutM r c s)[i].take q)
    have hsp := splice ⟨writeGo w ((layoutM r c s)[i].take q) 0 f.data⟩ w a q (by omega) (by omega)
    have hnx : (⟨writeGo w ((layoutM r c s)[i].take (q + 1)) 0 f.data⟩ : ByteArray) = ⟨(writeGo w ((layoutM r c s)[i].take q) 0 f.data).setIfInBounds a (w.data.toList.getD q 0)⟩ := by
      rw [List.take_succ_eq_append_getElem hq, writeGo_snoc, ha, Int.toNat_natCast, List.length_take, Nat.zero_add, Nat.min_eq_left (by omega)]
    have hat : bt ⟨writeGo w ((layoutM r c s)[i].take q) 0 f.data⟩ (a : Int) = bt f (a : Int) := by
      rcases writeGo_at w ((layoutM r c s)[i].take q) 0 f.data a (fun x hx => by
        have h1 := hin x (List.mem_of_mem_take hx)
        have h2 : f.data.size = f.size := rfl
        omega) (by rw [List.length_take]; omega) with ⟨e, _⟩ | ⟨j, hj, e1, _⟩
      · exact e
      · rw [List.length_take] at hj
        rw [List.getElem_take, ← ha] at e1
        exact absurd e1 ((List.pairwise_iff_getElem.1 hn) j q (by omega) hq (by omega))
    have hsp2 := hsp.trans hnx.symm
    generalize (⟨writeGo w ((layoutM r c s)[i].take q) 0 f.data⟩ : ByteArray) = X at *
    generalize hY : (⟨writeGo w ((layoutM r c s)[i].take (q + 1)) 0 f.data⟩ : ByteArray) = Y at *
    have h1 : (X.extract 0 a).size + (w.extract q (q + 1)).size ≤ 9223372036854775807 := by
      rw [ByteArray.size_extract, ByteArray.size_extract]
      omega
    have h2 : ((X.extract 0 a) ++ (w.extract q (q + 1))).size + (X.extract (a + 1) X.size).size ≤ 9223372036854775807 := by
      rw [ByteArray.size_append, ByteArray.size_extract, ByteArray.size_extract, ByteArray.size_extract]
      omega
    apply ev_succ
    simp only [spec_l13Search.l1]
    rw [hrd, rd_get hq, ha, wrap64_id (n := (a : Int) + 1) (by omega) (by omega), wrap64_id (n := (q : Int) + 1) (by omega) (by omega), succ_cast, succ_cast, Int.toNat_natCast, Int.toNat_natCast, Int.toNat_natCast, Int.toNat_natCast, hsp2, hat]
    refine ev_pos (by omega) (ev_pos trivial (ev_pos (by omega) (ev_pos (by omega) (ev_pos (by omega) (ev_pos (by omega) (ev_pos (by omega) (ev_pos (by omega) ?_)))))))
    by_cases h63 : bt f (a : Int) = 63
    · refine ev_pos h63 (ev_pos (by omega) (ev_pos (by omega) (ev_pos (by omega) (ev_pos h1 (ev_pos (by omega) (ev_pos (by omega) (ev_pos h2 (ih (by omega) ?_))))))))
      intro j h hjq
      by_cases hj : j < q
      · exact hp j h hj
      · obtain rfl : j = q := by omega
        rw [ha]
        exact .inl h63
    · refine ev_neg h63 (ev_pos (by omega) (ev_pos (by omega) (ev_pos (by omega) (ev_pos h1 (ev_pos (by omega) (ev_pos (by omega) (ev_pos h2 ?_)))))))
      by_cases hb : bt f (a : Int) = bt w (q : Int)
      · rw [beq_iff_eq.2 hb]
        refine ih (by omega) ?_
        intro j h hjq
        by_cases hj : j < q
        · exact hp j h hj
        · obtain rfl : j = q := by omega
          rw [ha]
          exact .inr hb
      · rw [beq_eq_false_iff_ne.2 hb]
        refine stop ?_ _ _
        intro hall
        have := hall q hq
        rw [ha] at this
        rcases this with h | h
        · exact h63 h
        · exact hb h
theorem spec_l13Search_ev (r c : Int) (s : ByteArray) (ws : List ByteArray) (most : Nat) (hm : most ≤ 30) (hn : (layoutM r c s).length ≤ 72) (hs : s.size ≤ 1048576) (hl : ws.length ≤ 1048576) (h : ∀ w ∈ ws, w.size ≤ 140737488351232) : ∀ (d i : Nat) (f : ByteArray) (used out : List ByteArray), i + d = (layoutM r c s).length → fillM r c s f = true → used.length = i → Ev (fun k => spec_l13Search.f k r c s (layoutM r c s) f ws i used out most) (srchS (fitK (layoutM r c s)) (wrK (layoutM r c s)) ws most d i f used out)
  | 0, i, f, used, out, hi, hv, hu => by
    unfold srchS
    apply ev_succ
    simp only [spec_l13Search.f]
    by_cases hb : most ≤ out.length
    · rw [if_pos hb]
      exact ev_pos (by omega) (ev_now rfl)
    · rw [if_neg hb]
      exact ev_neg (by omega) (ev_pos (by omega) (ev_let rfl (ev_pos (by rw [List.length_singleton]; omega) (ev_now rfl))))
  | d + 1, i, f, used, out, hi, hv, hu => by
    have hk : i < (layoutM r c s).length := by omega
    have he := (fillM_iff.1 hv).2.1
    obtain ⟨h6, hin⟩ := layout_row (row_mem hk)
    have hnd := row_nodup hk
    have hpo := row_pat hk hv
    have hrd := rd_ints_get hk
    have hgd : (layoutM r c s).getD i [] = (layoutM r c s)[i] := by rw [List.getD_eq_getElem?_getD, List.getElem?_eq_getElem hk, Option.getD_some]
    have hwr : ∀ w, wrK (layoutM r c s) i f w = ⟨writeGo w (layoutM r c s)[i] 0 f.data⟩ := by intro w; unfold wrK; rw [hgd]
    have hfi : ∀ w, fitK (layoutM r c s) i f w = true ↔ wordM w = true ∧ (layoutM r c s)[i].length = w.size ∧ ∀ j (h : j < (layoutM r c s)[i].length), bt f (layoutM r c s)[i][j] = 63 ∨ bt f (layoutM r c s)[i][j] = bt w (j : Int) := by
      intro w
      rw [fitK_iff]
      constructor
      · rintro ⟨_, h2, h3, h4⟩
        simp only [hgd] at h3 h4
        exact ⟨h2, h3, h4⟩
      · rintro ⟨h2, h3, h4⟩
        refine ⟨hpo, h2, ?_, ?_⟩
        · rw [hgd]; exact h3
        · simp only [hgd]; exact h4
    rw [hgd] at h6 hin hnd
    unfold srchS
    apply ev_succ
    simp only [spec_l13Search.f]
    by_cases hb : most ≤ out.length
    · rw [if_pos hb]
      exact ev_pos (by omega) (ev_now rfl)
    · rw [if_neg hb]
      refine ev_neg (by omega) (ev_neg (by omega) ?_)
      have IH := spec_l13Search_ev r c s ws most hm hn hs hl h d (i + 1)
      have main : ∀ cc : ByteArray → Bool, (∀ w, cc w = true ↔ fitK (layoutM r c s) i f w = true ∧ w ∉ used ∧ openM (fitK (layoutM r c s)) ws d (i + 1) (wrK (layoutM r c s) i f w) = true) → ∀ p : Nat, p ≤ ws.length → ∀ out : List ByteArray, Ev (fun k => spec_l13Search.l0 k (layoutM r c s) f ws i used out most p r c s) (loopS (fun w o => srchS (fitK (layoutM r c s)) (wrK (layoutM r c s)) ws most d (i + 1) (wrK (layoutM r c s) i f w) (used ++ [w]) o) cc most (ws.take p) (ws.drop p) out) := by
        intro cc hcc
        refine down ws.length ?_ ?_
        · intro p hp hp2 out
          apply ev_succ
          simp only [spec_l13Search.l0]
          rw [List.drop_eq_nil_of_le hp]
          refine ev_neg (by omega) (ev_succ ?_)
          simp only [spec_l13Search.j1]
          exact ev_neg (by simp) (ev_now rfl)
        · intro p hp ih hp2 out
          have hwz := h _ (List.getElem_mem hp)
          have hro := rdOf_get (d := ByteArray.empty) hp
          have htk : ws.take (p + 1) = ws.take p ++ [ws[p]] := List.take_succ_eq_append_getElem hp
          apply ev_succ
          simp only [spec_l13Search.l0]
          rw [List.drop_eq_getElem_cons hp]
          unfold loopS
          refine ev_pos (by omega) (ev_succ ?_)
          simp only [spec_l13Search.j1]
          rw [hrd, hro, Int.toNat_natCast]
          generalize ws[p] = w at *
          by_cases hlt : out.length < most
          · rw [if_pos hlt]
            refine ev_pos (decide_eq_true (by omega)) (ev_pos (by omega) (ev_pos (by omega) (ev_pos (by omega) (ev_pos (by omega) ?_))))
            have next : ∀ o, Ev (fun k => spec_l13Search.l0 k (layoutM r c s) f ws i used o most (wrap64 ((p : Int) + 1)) r c s) (loopS (fun w o => srchS (fitK (layoutM r c s)) (wrK (layoutM r c s)) ws most d (i + 1) (wrK (layoutM r c s) i f w) (used ++ [w]) o) cc most (ws.take p ++ [w]) (ws.drop (p + 1)) o) := by
              intro o
              rw [wrap64_id (n := (p : Int) + 1) (by omega) (by omega), succ_cast, ← htk]
              exact ih (by omega) o
            have skip : ∀ ρ, Ev (fun k => spec_l13Search.l0 k (layoutM r c s) f ws i used out most (wrap64 ((p : Int) + 1)) r c s) ρ → Ev (fun k => spec_l13Search.j2 k (layoutM r c s) f ws i used out most p w true r c s) ρ := by
              intro ρ hρ
              apply ev_succ
              simp only [spec_l13Search.j2]
              exact ev_pos trivial hρ
            by_cases hz : (w.size : Int) = ((layoutM r c s)[i].length : Int)
            · refine ev_pos hz (ev_bind (spec_IsWord_ev w (by omega)) ?_)
              by_cases hwo : wordM w = true
              · refine ev_pos hwo (ev_bind (spec_HasWord_ev used w (by omega)) ?_)
                by_cases hus : w ∈ used
                · refine ev_pos (decide_eq_true hus) (skip _ (ev_eq (next out) ?_))
                  rw [if_neg]
                  intro hh
                  exact ((hcc w).1 hh.2).2.1 hus
                · refine ev_neg (by simpa using hus) (ev_pos (by omega) (ev_bind (spec_HasWord_ev (ws.take p) w (by rw [List.length_take]; omega)) ?_))
                  by_cases hpr : w ∈ ws.take p
                  · rw [decide_eq_true hpr]
                    refine skip _ (ev_eq (next out) ?_)
                    rw [if_neg]
                    intro hh
                    exact hh.1 hpr
                  · rw [decide_eq_false hpr]
                    apply ev_succ
                    simp only [spec_l13Search.j2]
                    refine ev_neg (by simp) ?_
                    refine spec_l13Search_l1_ev r c s f w ws used out most p i _ hs hv hk (by omega) h6 hnd hin ?_ ?_ 0 (by omega) (fun j _ hj => absurd hj (by omega))
                    · intro hall
                      have hfk := (hfi w).2 ⟨hwo, by omega, hall⟩
                      have hv2 := wrK_fill hk hv hfk
                      have hop := spec_l13Open_ev r c s (wrK (layoutM r c s) i f w) ws hs hv2 hl h hn d (i + 1) (by omega)
                      have hse := IH (wrK (layoutM r c s) i f w) (used ++ [w]) out (by omega) hv2 (by simp [hu])
                      apply ev_succ
                      simp only [spec_l13Search.j4]
                      rw [← hwr, wrap64_id (n := (i : Int) + 1) (by omega) (by omega), succ_cast]
                      refine ev_pos trivial (ev_bind hop ?_)
                      by_cases hopn : openM (fitK (layoutM r c s)) ws d (i + 1) (wrK (layoutM r c s) i f w) = true
                      · rw [if_pos ⟨hpr, (hcc w).2 ⟨hfk, hus, hopn⟩⟩]
                        refine ev_pos hopn (ev_let rfl (ev_pos ?_ (ev_let rfl (ev_let rfl (ev_pos ?_ (ev_bind ?_ (next _)))))))
                        · rw [List.length_nil]; omega
                        · rw [List.nil_append, List.length_singleton]; omega
                        · rw [List.nil_append]; exact hse
                      · rw [if_neg (fun hh => hopn ((hcc w).1 hh.2).2.2)]
                        exact ev_neg hopn (next out)
                    · intro hall x
                      apply ev_succ
                      simp only [spec_l13Search.j4]
                      refine ev_neg (by simp) (ev_eq (next out) ?_)
                      rw [if_neg]
                      intro hh
                      have h2 := (hcc w).1 hh.2
                      exact hall ((hfi w).1 h2.1).2.2
              · refine ev_neg hwo (skip _ (ev_eq (next out) ?_))
                rw [if_neg]
                intro hh
                have h2 := (hcc w).1 hh.2
                exact hwo ((hfi w).1 h2.1).1
            · refine ev_neg hz (skip _ (ev_eq (next out) ?_))
              rw [if_neg]
              intro hh
              have h2 := (hcc w).1 hh.2
              have := ((hfi w).1 h2.1).2.1
              omega
          · rw [if_neg hlt]
            exact ev_neg (by simpa using hlt) (ev_now rfl)
      have hm := fun cc hcc => main cc hcc 0 (by omega) out
      simp only [List.take_zero, List.drop_zero] at hm
      exact hm _ (by intro w; simp only [Bool.and_eq_true, decide_eq_true_eq, and_assoc])
theorem srch_fills {r c : Int} {s f : ByteArray} (ws : List ByteArray) (most : Nat) (hm : 1 ≤ most) (hv : fillM r c s f = true) : srchS (fitK (layoutM r c s)) (wrK (layoutM r c s)) ws most (layoutM r c s).length 0 f [] [] = srchI (fitK (layoutM r c s)) (wrK (layoutM r c s)) (onceM [] ws) most (layoutM r c s).length 0 f [] [] := by
  have hmem : ∀ w, w ∈ onceM [] ws ↔ w ∈ ws := fun w => by rw [onceM_mem]; simp
  have hV : ∀ k f w, k < (layoutM r c s).length → fillM r c s f = true → fitK (layoutM r c s) k f w = true → fillM r c s (wrK (layoutM r c s) k f w) = true := fun k f w hk hv hf => wrK_fill hk hv hf
  have hF : ∀ k f w j x, k < j → j < (layoutM r c s).length → fillM r c s f = true → fitK (layoutM r c s) k f w = true → fitK (layoutM r c s) j (wrK (layoutM r c s) k f w) x = true → fitK (layoutM r c s) j f x = true := fun k f w j x hkj hj hv hf hx => fitK_back (by omega) hj hv hf hx
  by_cases ho : openM (fitK (layoutM r c s)) ws (layoutM r c s).length 0 f = true
  · exact srch_one (fitK (layoutM r c s)) (wrK (layoutM r c s)) ws most (fun f => fillM r c s f = true) (layoutM r c s).length hV hF onceM (fun _ => rfl) (fun acc w r => by rw [onceM]; by_cases h : w ∈ acc <;> simp [h]) hmem _ 0 f [] [] (by omega) hv (by rw [List.length_nil]; omega) ho
  · rw [srchS_closed (fitK (layoutM r c s)) (wrK (layoutM r c s)) ws most (fun f => fillM r c s f = true) (layoutM r c s).length hF _ 0 f [] [] (by omega) hv (by simpa using ho)]
    generalize (layoutM r c s).length = n at *
    cases n with
    | zero => exact absurd (by simp [openM]) ho
    | succ n =>
      unfold srchI
      rw [if_neg (by rw [openM_mem _ _ ws hmem]; exact ho)]
theorem spec_FillsOf_ev (r c : Int) (s f : ByteArray) (ws : List ByteArray) (most : Int) (hs : s.size ≤ 1048576) (hf : f.size ≤ 1048576) (hl : ws.length ≤ 1048576) (h : ∀ w ∈ ws, w.size ≤ 140737488351232) : Ev (fun k => spec_FillsOf.f k r c s f ws most) (fillsM r c s f ws most) := by
  have hL := slotsM_length r c s
  have hL2 := layoutM_length r c s
  have none_ : fillsM r c s f ws most = [] → Ev (fun k => spec_FillsOf.j0 k f ws most true r c s) (fillsM r c s f ws most) := by
    intro e
    rw [e]
    apply ev_succ
    simp only [spec_FillsOf.j0]
    exact ev_pos trivial (ev_now rfl)
  unfold spec_FillsOf.f
  refine ev_bind (spec_IsFill_ev r c s f (by omega) (by omega)) ?_
  by_cases h1 : fillM r c s f = true
  · refine ev_pos h1 (ev_bind (spec_l13Lonely_ev r c s f hs h1) ?_)
    by_cases h2 : aloneAllM r c s f = true
    · exact ev_pos h2 (none_ (by unfold fillsM; rw [if_neg (fun h => by rw [h2] at h; exact absurd h.2.1 (by simp))]))
    · refine ev_neg h2 (ev_let (spec_l1In_eq _ _ _) ?_)
      by_cases h3 : 1 ≤ most ∧ most ≤ 30
      · rw [decide_eq_true h3]
        obtain ⟨m, hm⟩ := Int.eq_ofNat_of_zero_le (show 0 ≤ most by omega)
        subst hm
        have e : fillsM r c s f ws (m : Int) = srchS (fitK (layoutM r c s)) (wrK (layoutM r c s)) ws m (layoutM r c s).length 0 f [] [] := by
          unfold fillsM
          rw [if_pos ⟨h1, by simpa using h2, h3⟩, srch_fills ws m (by omega) h1, Int.toNat_natCast]
        rw [e]
        apply ev_succ
        simp only [spec_FillsOf.j0]
        refine ev_neg (by simp) (ev_bind (spec_SlotsOf_ev r c s hs) ?_)
        have main : ∀ i : Nat, i ≤ (slotsM r c s).length → Ev (fun k => spec_FillsOf.l0 k f ws m ((layoutM r c s).take i) (slotsM r c s) i r c s) (srchS (fitK (layoutM r c s)) (wrK (layoutM r c s)) ws m (layoutM r c s).length 0 f [] []) := by
          refine down (slotsM r c s).length ?_ ?_
          · intro i hi hi2
            apply ev_succ
            simp only [spec_FillsOf.l0]
            rw [List.take_of_length_le (by omega)]
            exact ev_neg (by omega) (ev_bind (spec_l13Search_ev r c s ws m (by omega) (by omega) hs hl h _ 0 f [] [] (by omega) h1 rfl) (ev_now rfl))
          · intro i hi ih hi2
            apply ev_succ
            simp only [spec_FillsOf.l0]
            rw [rd_Slot_get hi, wrap64_id (n := (i : Int) + 1) (by omega) (by omega), succ_cast]
            refine ev_pos (by omega) (ev_pos (by omega) (ev_bind (spec_CellsOf_ev r c s _ hs) (ev_pos (by rw [List.length_take]; omega) ?_)))
            have ht : (layoutM r c s).take i ++ [cellsOfM r c s (slotsM r c s)[i]] = (layoutM r c s).take (i + 1) := by
              rw [cellsOfM_elem hi, List.take_succ_eq_append_getElem (by omega), layoutM_get hi]
            rw [ht]
            exact ih (by omega)
        exact main 0 (by omega)
      · rw [decide_eq_false h3]
        exact none_ (by unfold fillsM; rw [if_neg (fun h => h3 h.2.2)])
  · exact ev_neg h1 (none_ (by unfold fillsM; rw [if_neg (fun h => h1 h.1)]))

/-! ### sz -/
def szM (s : ByteArray) : Int := if s.size ≤ 1048576 then 1048576 - s.size else -1
theorem laws_szGrid_eq (r c : Int) (s : ByteArray) (hs : s.size ≤ 9223372036854775807) : laws_szGrid.f r c s 1048576 = some (szM s) := by
  unfold laws_szGrid.f szM
  rw [wrap64_id (by omega) (by omega)]
  by_cases h : s.size ≤ 1048576
  · rw [if_neg (by omega), if_pos h]
  · rw [if_pos (by omega), if_neg h]

/-! ### marks -/

/-! ### the law -/
theorem FnExactIsUniqueFill (r c : Int) (s f : ByteArray) (l : List ByteArray) (_ : -9223372036854775808 ≤ r ∧ r ≤ 9223372036854775807) (_ : -9223372036854775808 ≤ c ∧ c ≤ 9223372036854775807) (hs : s.size ≤ 9223372036854775807) (_ : f.size ≤ 140737488351232) (hl : l.length ≤ 9223372036854775807) (hw : ∀ x ∈ l, x.size ≤ maxLen) : ∃ k, laws_FnExactIsUniqueFill.f k r c s f l = some true := by
  unfold maxLen at hw
  apply Ev.rounds
  unfold laws_FnExactIsUniqueFill.f
  by_cases hb : (f.size : Int) > 1048576
  · exact ev_pos hb (ev_now rfl)
  · refine ev_neg hb (ev_let (laws_szGrid_eq r c s hs) ?_)
    by_cases hc : s.size ≤ 1048576
    · refine ev_neg (by simp [szM, hc]; omega) ?_
      obtain ⟨z, hz, h1⟩ := laws_szStringS_ev l hl hw (szM s) (by simp [szM, hc]; omega) (by simp [szM, hc]; omega)
      refine ev_bind hz ?_
      rcases h1 with h1 | h1
      · exact ev_pos h1 (ev_now rfl)
      · have hlen : l.length ≤ 1048576 := by have : szM s ≤ 1048576 := by simp [szM, hc]; omega
                                             omega
        have hx : ∀ x ∈ l, x.size ≤ 140737488351232 := fun x h => by
          have := mem_total h
          have : szM s ≤ 1048576 := by simp [szM, hc]; omega
          omega
        have ht := laws_toStringS_ev l hlen
        have hel : Ev (fun k => laws_eqStringS.f k l l) true := ev_eq (laws_eqStringS_ev _ _ (by omega)) (by simp)
        have hsp : Ev (fun k => spec_IsUniqueFill.f k r c s f l) (((fillsM r c s f l 2).length : Int) == 1) := by
          unfold spec_IsUniqueFill.f
          exact ev_bind (spec_FillsOf_ev r c s f l 2 hc (by omega) hlen hx) (ev_now rfl)
        have him : Ev (fun k => impl_IsUniqueFill.f k r c s f l) (((fillsM r c s f l 2).length : Int) == 1) := by
          unfold impl_IsUniqueFill.f
          exact ev_bind (impl_FillsOf_ev r c s f l 2 hc (by omega) hlen hx) (ev_now rfl)
        exact ev_neg (by omega) (ev_let rfl (ev_bind ht (ev_bind hsp (ev_bind ht (ev_let rfl (ev_bind him (ev_neg (by simp) (ev_bind ht (ev_bind hel (ev_pos rfl (ev_now rfl)))))))))))
    · exact ev_pos (by simp [szM, hc]) (ev_now rfl)

end Go.Proofs.Ytodcckiphdnjeaa.Pure
