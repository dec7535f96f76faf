-- Written by a changed copy of the kit's printer (wip/mp.py of this repo), for this claim; Lean checks it.
import Derived.Test.YtodcckiphdnjeabQFnFormsx0
import Derived.Test.YtodcckiphdnjeabQFnFormsx2
namespace Go.Proofs.Ytodcckiphdnjeab.QFnForms
open Go.RowKit Go.Proofs.YtodcckiphdnjeabW.PrintWords Go.Proofs.YtodcckiphdnjeabW.PrintLast Go.Proofs.YtodcckiphdnjeabW.PrintMore
attribute [local go_sem] max2_int min2_int max_two min_two max_three min_three max_four min_four   -- for this text's walks alone
set_option linter.unusedVariables false
set_option linter.unusedSimpArgs false

/-! ### impl_PartsOf: function 44 (given) -/
theorem po_info : (Try.prog.info? 4).map (fun i => (i.zero, i.size, i.bytes)) = some (some (.bool false), 1, 1) := by kernel_rfl
/-- One mark in memory. -/
def encBo (b : Bool) : Value := .bool b
def visF (R C : Int) (s : ByteArray) : Nat → List Bool → Int → Int → List Bool
  | 0, m, _, _ => m
  | k + 1, m, r, c => if (0 ≤ r ∧ r < R) ∧ (0 ≤ c ∧ c < C) ∧ (m.getD (r * C + c).toNat false = false ∧ bt s (r * C + c) = 46) then visF R C s k (visF R C s k (visF R C s k (visF R C s k (m.set (r * C + c).toNat true) (r - 1) c) (r + 1) c) r (c - 1)) r (c + 1) else m
def partsGo (R C : Int) (s : ByteArray) : List Nat → List Bool → Nat → Nat
  | [], _, n => n
  | i :: l, m, n => if bt s i = 46 ∧ m.getD i false = false then partsGo R C s l (visF R C s (s.size + 1) m ((i : Int) / C) ((i : Int) % C)) (n + 1) else partsGo R C s l m n
theorem visF_length (R C : Int) (s : ByteArray) : ∀ (k : Nat) (m : List Bool) (r c : Int), (visF R C s k m r c).length = m.length ∧ (visF R C s k m r c).count false ≤ m.count false
  | 0, _, _, _ => ⟨rfl, Nat.le_refl _⟩
  | k + 1, m, r, c => by
    have ih := visF_length R C s k
    unfold visF
    split
    · rename_i h
      have hc : (m.set (r * C + c).toNat true).count false ≤ m.count false := by
        by_cases hi : (r * C + c).toNat < m.length
        · rw [List.count_set hi]
          simp
        · rw [List.set_eq_of_length_le (by omega)]
          exact Nat.le_refl _
      refine ⟨by simp [ih], ?_⟩
      exact Nat.le_trans (ih _ _ _).2 (Nat.le_trans (ih _ _ _).2 (Nat.le_trans (ih _ _ _).2 (Nat.le_trans (ih _ _ _).2 hc)))
    · exact ⟨rfl, Nat.le_refl _⟩
theorem vis_idx {R C : Nat} {r c : Int} (hR : R ≤ 6) (hC : C ≤ 6) (hr : 0 ≤ r ∧ r < R) (hc : 0 ≤ c ∧ c < C) : ∃ i : Nat, r * C + c = i ∧ i < R * C ∧ wrap64 (r * (C : Int)) = r * (C : Int) ∧ wrap64 (r * (C : Int) + c) = (i : Int) := by
  obtain ⟨a, rfl⟩ := Int.eq_ofNat_of_zero_le hr.1
  obtain ⟨b, rfl⟩ := Int.eq_ofNat_of_zero_le hc.1
  have h1 : (a + 1) * C ≤ R * C := Nat.mul_le_mul_right _ (by omega)
  have h2 : R * C ≤ 36 := Nat.mul_le_mul hR hC
  rw [Nat.add_mul, Nat.one_mul] at h1
  refine ⟨a * C + b, by simp, by omega, ?_, ?_⟩
  · rw [← Int.natCast_mul]
    unfold wrap64
    omega
  · rw [← Int.natCast_mul]
    unfold wrap64
    omega
theorem at_yes {a b : Int} (w : World) (h0 : 0 ≤ a) (h1 : a < b) : Calls Try.prog 54 #[.int .i64 a, .int .i64 b] w fun e w' => e = .returned (.bool true) ∧ w = w' := by
  have c0 : decide (0 ≤ a) = true := decide_eq_true h0
  have c1 : decide (a < b) = true := decide_eq_true h1
  go_enter Try.func54, Try.ntmps54
  go_wp2
  go_ret
  exact ⟨rfl, rfl⟩
theorem at_no {a b : Int} (w : World) (h : ¬ (0 ≤ a ∧ a < b)) : Calls Try.prog 54 #[.int .i64 a, .int .i64 b] w fun e w' => e = .returned (.bool false) ∧ w = w' := by
  by_cases h0 : 0 ≤ a
  · have c0 : decide (0 ≤ a) = true := decide_eq_true h0
    have c1 : decide (a < b) = false := decide_eq_false (fun h1 => h ⟨h0, h1⟩)
    clear h
    go_enter Try.func54, Try.ntmps54
    go_wp2
    go_ret
    exact ⟨rfl, rfl⟩
  · have c0 : decide (0 ≤ a) = false := decide_eq_false h0
    clear h
    go_enter Try.func54, Try.ntmps54
    go_wp2
    go_ret
    exact ⟨rfl, rfl⟩
/-- What a visit reads and leaves alone: the grid, the marks' slice, the function itself. -/
structure VisAt (R C : Nat) (s : ByteArray) (Gb Mb Vb A cap n : Nat) (w : World) : Prop where
  g0 : w.cell? ⟨Gb, 0, none⟩ = some (.int .i64 R)
  g1 : w.cell? ⟨Gb, 1, none⟩ = some (.int .i64 C)
  g2 : w.cell? ⟨Gb, 2, none⟩ = some (.string s)
  m0 : w.cell? ⟨Mb, 0, none⟩ = some (.slice (some ⟨A, 0, none⟩) n cap)
  v0 : w.cell? ⟨Vb, 0, none⟩ = some (.func (.func 82) #[] #[.pointer (some ⟨Gb, 0, none⟩), .pointer (some ⟨Mb, 0, none⟩), .pointer (some ⟨Vb, 0, none⟩)])
theorem VisAt.step {R C : Nat} {s : ByteArray} {Gb Mb Vb A cap n : Nat} {W0 : World} (h : VisAt R C s Gb Mb Vb A cap n W0) (hg : Gb ≠ A) (hm : Mb ≠ A) (hv : Vb ≠ A) (q : Nat) (d : Array Bool) :
    VisAt R C s Gb Mb Vb A cap n (Go.Sort.putRow encBo (Go.Sort.ahead W0 q) A 0 d) :=
  ⟨by rw [Go.Sort.cell?_putRow_other _ _ _ _ _ _ (.inl hg)]; exact h.g0, by rw [Go.Sort.cell?_putRow_other _ _ _ _ _ _ (.inl hg)]; exact h.g1, by rw [Go.Sort.cell?_putRow_other _ _ _ _ _ _ (.inl hg)]; exact h.g2, by rw [Go.Sort.cell?_putRow_other _ _ _ _ _ _ (.inl hm)]; exact h.m0, by rw [Go.Sort.cell?_putRow_other _ _ _ _ _ _ (.inl hv)]; exact h.v0⟩
theorem bo_get {m : List Bool} {i : Nat} (h : i < m.length) : (m.toArray)[i]! = m[i] := by
  rw [getElem!_pos m.toArray i (by simpa using h)]
  simp
theorem bo_set (m : List Bool) (i : Nat) : m.toArray.setIfInBounds i true = (m.set i true).toArray := by simp
set_option maxHeartbeats 1000000 in
set_option maxRecDepth 100000 in
theorem visit_calls (R C : Nat) (s : ByteArray) (Gb Mb Vb A cap : Nat) (W0 : World) (d0 : Array Bool) (hR : R ≤ 6) (hC : C ≤ 6) (N : Nat) (hN : N = R * C) (hs : s.size = N) (hd : d0.size = N) (hF : VisAt R C s Gb Mb Vb A cap N W0) (hH : Go.Sort.Holds encBo W0 A 0 d0) (hg : Gb ≠ A) (hm : Mb ≠ A) (hv : Vb ≠ A) :
    ∀ (k : Nat) (r c : Int) (m : List Bool) (q : Nat) (w : World), m.length = N → m.count false < k → -1 ≤ r → r ≤ R → -1 ≤ c → c ≤ C → w = Go.Sort.putRow encBo (Go.Sort.ahead W0 q) A 0 m.toArray →
    Calls Try.prog 82 #[.int .i64 r, .int .i64 c, .pointer (some ⟨Gb, 0, none⟩), .pointer (some ⟨Mb, 0, none⟩), .pointer (some ⟨Vb, 0, none⟩)] w fun e w' => e = .returned (.tuple #[]) ∧ ∃ q', w' = Go.Sort.putRow encBo (Go.Sort.ahead W0 q') A 0 (visF R C s k m r c).toArray
  | 0, _, _, _, _, _, _, h, _, _, _, _, _ => by omega
  | k + 1, r, c, m, q, w, hl, hk, r0, r1, c0, c1, hw => by
    have hfix : VisAt R C s Gb Mb Vb A cap N w := hw ▸ hF.step hg hm hv q m.toArray
    obtain ⟨x0, x1, x2, x3, x4⟩ := hfix
    have HW := Aside0.mk hw
    have ih := visit_calls R C s Gb Mb Vb A cap W0 d0 hR hC N hN hs hd hF hH hg hm hv k
    by_cases hr : 0 ≤ r ∧ r < R
    · by_cases hc : 0 ≤ c ∧ c < C
      · obtain ⟨i, e1, e2, e3, e4⟩ := vis_idx hR hC hr hc
        rw [← hN] at e2
        have hil : i < m.length := by omega
        have hHw : Go.Sort.Holds encBo w A 0 m.toArray := by rw [hw]; exact Go.Sort.holds_putRow encBo _ A 0 d0 m.toArray hH (by simp; omega)
        obtain ⟨ci, fi⟩ := hHw i (by simpa using hil)
        rw [Nat.zero_add] at ci fi
        rw [bo_get hil] at ci
        unfold encBo at ci
        have p1 : (0 ≤ (i : Int)) = True := eq_true (by omega)
        have q1 : ((i : Int) < (N : Int)) = True := eq_true (by omega)
        have q2 : ((i : Int) < (s.size : Int)) = True := eq_true (by omega)
        have ky := at_yes (a := r) (b := (R : Int)) w hr.1 hr.2
        have ky2 := at_yes (a := c) (b := (C : Int)) w hc.1 hc.2
        by_cases hmk : m[i] = true
        · rw [hmk] at ci
          have hf : visF R C s (k + 1) m r c = m := by
            unfold visF
            rw [if_neg]
            rintro ⟨_, _, h3, _⟩
            rw [e1, Int.toNat_natCast, List.getD_eq_getElem?_getD, List.getElem?_eq_getElem hil] at h3
            simp [hmk] at h3
          rw [hf]
          clear hN ih hHw hw hf e1 e2 hmk hF hH hg hm hv hd hs hl hil
          go_enter Try.func82, Try.ntmps82
          go_wp2_with (first | (go_at_call 54; (with_reducible refine ky.mono ?_); rintro e w' ⟨rfl, rfl⟩) | (go_at_call 54; (with_reducible refine ky2.mono ?_); rintro e w' ⟨rfl, rfl⟩))
          exact bodyPost_ret (v := .tuple #[]) (by simp [results, Try.results82, go_sem]) rfl ⟨rfl, q, HW.out⟩
        · have hmf : m[i] = false := by simpa using hmk
          rw [hmf] at ci
          by_cases hb : bt s (i : Int) = 46
          · have zb : (bt s (i : Int) == 46) = true := beq_iff_eq.mpr hb
            have zb2 : (bt s (i : Int) != 46) = false := by simp [hb]
            have hx8 := bt_at s (i : Int)
            simp only [Int.toNat_natCast] at hx8
            have his : i < s.size := by clear ih; omega
            replace hx8 := hx8 his
            rw [← hx8] at zb zb2
            have hf : visF R C s (k + 1) m r c = visF R C s k (visF R C s k (visF R C s k (visF R C s k (m.set i true) (r - 1) c) (r + 1) c) r (c - 1)) r (c + 1) := by
              conv => lhs; unfold visF
              rw [e1, Int.toNat_natCast, if_pos ⟨hr, hc, by rw [List.getD_eq_getElem?_getD, List.getElem?_eq_getElem hil]; simp [hmf], hb⟩]
            rw [hf]
            have hcnt : (m.set i true).count false < k := by
              have hpos : 0 < m.count false := List.count_pos_iff.mpr (hmf ▸ List.getElem_mem hil)
              rw [List.count_set hil]
              simp [hmf]
              omega
            have hw1 : w.setCell ⟨A, i, none⟩ (.bool true) = Go.Sort.putRow encBo (Go.Sort.ahead W0 q) A 0 (m.set i true).toArray := by
              rw [hw, ← bo_set m i]
              have := Go.Sort.putRow_set encBo (Go.Sort.ahead W0 q) A 0 m.toArray i true (by simpa using hil)
              rw [Nat.zero_add] at this
              exact this
            obtain ⟨y0, y1, y2, y3, y4⟩ : VisAt R C s Gb Mb Vb A cap N (w.setCell ⟨A, i, none⟩ (.bool true)) := hw1 ▸ hF.step hg hm hv q (m.set i true).toArray
            have hl1 : (m.set i true).length = N := by simpa using hl
            have v1 := visF_length R C s k (m.set i true) (r - 1) c
            have v2 := visF_length R C s k (visF R C s k (m.set i true) (r - 1) c) (r + 1) c
            have v3 := visF_length R C s k (visF R C s k (visF R C s k (m.set i true) (r - 1) c) (r + 1) c) r (c - 1)
            have IH1 := Aside0.mk (ih (r - 1) c (m.set i true) q (w.setCell ⟨A, i, none⟩ (.bool true)) hl1 hcnt (by omega) (by omega) c0 c1 hw1)
            have IH2 := Aside0.mk (fun q' w' hw' => ih (r + 1) c _ q' w' (v1.1.trans hl1) (by omega) (by omega) (by omega) c0 c1 hw')
            have IH3 := Aside0.mk (fun q' w' hw' => ih r (c - 1) _ q' w' (v2.1.trans (v1.1.trans hl1)) (by omega) (by omega) (by omega) (by omega) (by omega) hw')
            have IH4 := Aside0.mk (fun q' w' hw' => ih r (c + 1) _ q' w' (v3.1.trans (v2.1.trans (v1.1.trans hl1))) (by omega) (by omega) (by omega) (by omega) (by omega) hw')
            have FX := Aside0.mk (fun q' (d : Array Bool) => hF.step hg hm hv q' d)
            clear hN ih hHw hw hf e1 e2 hmk hF hH hd hs hl hil hmf hb hw1 hl1 v1 v2 v3 hcnt hx8
            go_enter Try.func82, Try.ntmps82
            go_wp2_with (first | (go_at_call 54; (with_reducible refine ky.mono ?_); rintro e w' ⟨rfl, rfl⟩) | (go_at_call 54; (with_reducible refine ky2.mono ?_); rintro e w' ⟨rfl, rfl⟩))
            go_at_call 82
            refine IH1.out.mono ?_
            rintro e w1 ⟨rfl, q1', hw1⟩
            obtain ⟨_, _, _, _, z4⟩ : VisAt R C s Gb Mb Vb A cap N w1 := hw1 ▸ FX.out q1' _
            have HW1 := Aside0.mk hw1
            clear hw1 x0 x1 x2 x3 x4 y0 y1 y2 y3 y4
            go_wp2_with fail
            go_at_call 82
            refine (IH2.out q1' _ HW1.out).mono ?_
            rintro e w2 ⟨rfl, q2', hw2⟩
            obtain ⟨_, _, _, _, z5⟩ : VisAt R C s Gb Mb Vb A cap N w2 := hw2 ▸ FX.out q2' _
            have HW2 := Aside0.mk hw2
            clear hw2 z4
            go_wp2_with fail
            go_at_call 82
            refine (IH3.out q2' _ HW2.out).mono ?_
            rintro e w3 ⟨rfl, q3', hw3⟩
            obtain ⟨_, _, _, _, z6⟩ : VisAt R C s Gb Mb Vb A cap N w3 := hw3 ▸ FX.out q3' _
            have HW3 := Aside0.mk hw3
            clear hw3 z5
            go_wp2_with fail
            go_at_call 82
            refine (IH4.out q3' _ HW3.out).mono ?_
            rintro e w4 ⟨rfl, q4', hw4⟩
            have HW4 := Aside0.mk hw4
            clear hw4 z6
            go_wp2_with fail
            go_end0
            exact ⟨rfl, q4', HW4.out⟩
          · have zb : (bt s (i : Int) == 46) = false := beq_eq_false_iff_ne.mpr hb
            have zb2 : (bt s (i : Int) != 46) = true := by simp [hb]
            have hx8 := bt_at s (i : Int)
            simp only [Int.toNat_natCast] at hx8
            have his : i < s.size := by clear ih; omega
            replace hx8 := hx8 his
            rw [← hx8] at zb zb2
            have hf : visF R C s (k + 1) m r c = m := by
              unfold visF
              rw [if_neg]
              rintro ⟨_, _, _, h3⟩
              rw [e1] at h3
              exact hb h3
            rw [hf]
            clear hN ih hHw hw hf e1 e2 hmk hF hH hg hm hv hd hs hl hil hb hmf hx8
            go_enter Try.func82, Try.ntmps82
            go_wp2_with (first | (go_at_call 54; (with_reducible refine ky.mono ?_); rintro e w' ⟨rfl, rfl⟩) | (go_at_call 54; (with_reducible refine ky2.mono ?_); rintro e w' ⟨rfl, rfl⟩))
            exact bodyPost_ret (v := .tuple #[]) (by simp [results, Try.results82, go_sem]) rfl ⟨rfl, q, HW.out⟩
      · have ky := at_yes (a := r) (b := (R : Int)) w hr.1 hr.2
        have ky2 := at_no (a := c) (b := (C : Int)) w hc
        have hf : visF R C s (k + 1) m r c = m := by
          unfold visF
          rw [if_neg]
          rintro ⟨_, h3, _⟩
          exact hc h3
        rw [hf]
        clear hN ih hw hf hF hH hg hm hv hd hs hl hc
        go_enter Try.func82, Try.ntmps82
        go_wp2_with (first | (go_at_call 54; (with_reducible refine ky.mono ?_); rintro e w' ⟨rfl, rfl⟩) | (go_at_call 54; (with_reducible refine ky2.mono ?_); rintro e w' ⟨rfl, rfl⟩))
        exact bodyPost_ret (v := .tuple #[]) (by simp [results, Try.results82, go_sem]) rfl ⟨rfl, q, HW.out⟩
    · have ky := at_no (a := r) (b := (R : Int)) w hr
      have hf : visF R C s (k + 1) m r c = m := by
        unfold visF
        rw [if_neg]
        rintro ⟨h3, _⟩
        exact hr h3
      rw [hf]
      clear hN ih hw hf hF hH hg hm hv hd hs hl hr
      go_enter Try.func82, Try.ntmps82
      go_wp2_with (go_at_call 54; (with_reducible refine ky.mono ?_); rintro e w' ⟨rfl, rfl⟩)
      exact bodyPost_ret (v := .tuple #[]) (by simp [results, Try.results82, go_sem]) rfl ⟨rfl, q, HW.out⟩
theorem box_cell {w w1 : World} {cs : Array Value} {t : TypeId} (hb : Below (w.alloc (.cells cs t)).heap.size (w.alloc (.cells cs t)) w1) (j : Nat) (v : Value) (h : cs[j]? = some v) : w1.cell? ⟨w.heap.size, j, none⟩ = some v := by
  have h1 : (⟨w.heap.size, j, none⟩ : Addr).block < (w.alloc (.cells cs t)).heap.size := by simp [World.alloc, -World.alloc_eq]
  rw [hb.cell h1]
  simp [World.cell?, World.alloc, -World.alloc_eq, h]
def impl_PartsOf.f (k : Nat) (r c : Int) (s : ByteArray) : Option Int := (impl_IsGrid.f k r c s).bind fun b => if b = true then (if (2 ≤ r ∧ r ≤ 6) ∧ (2 ≤ c ∧ c ≤ 6) ∧ (s.size : Int) = r * c then some (partsGo r c s (List.range' 0 s.size) (List.replicate s.size false) 0 : Nat) else none) else some 0
theorem impl_PartsOf.mono : ∀ a0 a1 a2 k, LeO (impl_PartsOf.f k a0 a1 a2) (impl_PartsOf.f (k + 1) a0 a1 a2) := by
  intro a0 a1 a2 k
  unfold impl_PartsOf.f
  exact LeO.bind (impl_IsGrid.mono _ _ _ _) (fun _ => LeO.refl _)
theorem bo_holds {w : World} {base g cap : Nat} {ok : Nat → Prop} {n : Nat} {l : List Bool} (h : Kd.bool.R 4 w base ok (.slice (some ⟨g, 0, none⟩) n cap) l) : Go.Sort.Holds encBo w g 0 l.toArray := by
  intro j hj
  have hl : j < l.length := by simpa using hj
  have hn := (Kd.R_reads' h).1
  obtain ⟨h1, h2⟩ := Kd.R_celln false h (j : Int) (by omega) (by omega)
  rw [Int.toNat_natCast] at h1 h2
  rw [Nat.zero_add, bo_get hl]
  refine ⟨h1.trans ?_, h2⟩
  unfold rdOf encBo
  simp [hl]
theorem cell_on {w w1 : World} {a : Addr} {v : Value} (hx : w.cell? a = some v) (hb : Below w.heap.size w w1) : w1.cell? a = some v := (hb.cell (World.block_lt_of_cell? w _ hx)).trans hx
theorem pa_div {i C : Nat} (h0 : 0 < C) (h : i < 1000) (h6 : C ≤ 1000) : Int.tdiv (i : Int) (C : Int) = (i : Int) / C ∧ Int.tmod (i : Int) (C : Int) = (i : Int) % C ∧ wrap64 ((i : Int) / C) = (i : Int) / C ∧ 0 ≤ (i : Int) / C ∧ 0 ≤ (i : Int) % C ∧ (i : Int) % C < C ∧ wrap64 ((i : Int) % C) = (i : Int) % C := by
  have e1 : Int.tdiv (i : Int) (C : Int) = (i : Int) / C := Int.tdiv_eq_ediv_of_nonneg (by omega)
  have e2 : Int.tmod (i : Int) (C : Int) = (i : Int) % C := Int.tmod_eq_emod_of_nonneg (by omega)
  have h2 : (i : Int) / C = ((i / C : Nat) : Int) := by simp
  have h3 : (i : Int) % C = ((i % C : Nat) : Int) := by simp
  have h4 := Nat.div_le_self i C
  have h5 := Nat.mod_lt i h0
  rw [e1, e2, h2, h3]
  generalize i / C = a at h4 ⊢
  generalize i % C = b at h5 ⊢
  unfold wrap64
  refine ⟨rfl, rfl, ?_, ?_, ?_, ?_, ?_⟩ <;> omega
theorem vis_at {R C : Nat} {s : ByteArray} {Gb g cap n : Nat} {w3 : World} {t1 t2 : TypeId} (y0 : w3.cell? ⟨Gb, 0, none⟩ = some (.int .i64 R)) (y1 : w3.cell? ⟨Gb, 1, none⟩ = some (.int .i64 C)) (y2 : w3.cell? ⟨Gb, 2, none⟩ = some (.string s)) :
    VisAt R C s Gb w3.heap.size (w3.heap.size + 1) g cap n ((w3.alloc (.cells #[.slice (some ⟨g, 0, none⟩) n cap] t1)).alloc (.cells #[.func (.func 82) #[] #[.pointer (some ⟨Gb, 0, none⟩), .pointer (some ⟨w3.heap.size, 0, none⟩), .pointer (some ⟨w3.heap.size + 1, 0, none⟩)]] t2)) := by
  have hb := below_alloc (below_alloc (Below.refl w3.heap.size w3) (.cells #[.slice (some ⟨g, 0, none⟩) n cap] t1)) (.cells #[.func (.func 82) #[] #[.pointer (some ⟨Gb, 0, none⟩), .pointer (some ⟨w3.heap.size, 0, none⟩), .pointer (some ⟨w3.heap.size + 1, 0, none⟩)]] t2)
  refine ⟨cell_on y0 hb, cell_on y1 hb, cell_on y2 hb, ?_, ?_⟩
  · simp [World.cell?, World.alloc, -World.alloc_eq, Array.getElem?_push]
  · simp [World.cell?, World.alloc, -World.alloc_eq, Array.getElem_push]
theorem partsGo_cons (R C : Int) (s : ByteArray) (i : Nat) (l : List Nat) (m : List Bool) (n : Nat) : partsGo R C s (i :: l) m n = if bt s i = 46 ∧ m.getD i false = false then partsGo R C s l (visF R C s (s.size + 1) m ((i : Int) / C) ((i : Int) % C)) (n + 1) else partsGo R C s l m n := rfl
theorem wrap64_cnt {n : Nat} (h : n ≤ 1000) : wrap64 ((n : Int) + 1) = ((n + 1 : Nat) : Int) := by
  unfold wrap64
  omega
theorem vis_below {w : World} (B : Nat) {W4 : World} (g q : Nat) (d : Array Bool) (h : Below B w W4) (hg : B ≤ g) : Below B w (Go.Sort.putRow encBo (Go.Sort.ahead W4 q) g 0 d) := by
  refine h.trans ⟨rfl, rfl, rfl, ?_, fun i hi => ?_⟩
  · simp [Go.Sort.putRow, Go.Sort.mapBlock, Go.Sort.ahead]
  · have : g ≠ i := by omega
    simp [Go.Sort.putRow, Go.Sort.mapBlock, Go.Sort.ahead, Array.getElem?_modify, this]
theorem vis_store_func (P : Program) (w : World) (a : Addr) (m : Mode) (fn : Fn) (first captured : Array Value) : (store a (.func fn first captured) m).run P w = stored P w a (.func fn first captured) m := run_store P w a _ m rfl
attribute [local go_sem] vis_store_func
set_option maxHeartbeats 4000000 in
set_option maxRecDepth 100000 in
theorem impl_PartsOf.calls (k : Nat) (r c : Int) (s : ByteArray) (t : Int) (w : World) (h : impl_PartsOf.f k r c s = some t) :
    Calls Try.prog 44 #[.agg #[.int .i64 r, .int .i64 c, .string s]] w fun e w' => e = .returned (.int .i64 t) ∧ Below w.heap.size w w' := by
  unfold impl_PartsOf.f at h
  obtain ⟨b, hb, h⟩ := Option.bind_eq_some_iff.mp h
  have kg := fun W => impl_IsGrid.calls k r c s b W hb
  clear hb
  cases b with
  | false =>
    rw [if_neg (by simp)] at h
    injection h with h
    subst h
    go_enter Try.func44, Try.ntmps44
    go_wp2_with (go_at_call 45; refine (kg _).mono ?_; rintro e w1 ⟨rfl, hb1⟩)
    go_ret
    exact ⟨rfl, below_step (by repeat (first | exact Below.refl _ _ | apply below_alloc | apply pw_below_drewN | apply below_drew1)) hb1⟩
  | true =>
    rw [if_pos rfl] at h
    by_cases hc : (2 ≤ r ∧ r ≤ 6) ∧ (2 ≤ c ∧ c ≤ 6) ∧ (s.size : Int) = r * c
    · rw [if_pos hc] at h
      injection h with h
      obtain ⟨hr, hcc, hs⟩ := hc
      obtain ⟨R, rfl⟩ := Int.eq_ofNat_of_zero_le (show 0 ≤ r by omega)
      obtain ⟨C, rfl⟩ := Int.eq_ofNat_of_zero_le (show 0 ≤ c by omega)
      have hsN : s.size = R * C := by exact_mod_cast hs
      have hR6 : R ≤ 6 := by omega
      have hC6 : C ≤ 6 := by omega
      have h36 : R * C ≤ 36 := Nat.mul_le_mul (show R ≤ 6 by omega) (show C ≤ 6 by omega)
      have hpos : 4 ≤ R * C := Nat.mul_le_mul (show 2 ≤ R by omega) (show 2 ≤ C by omega)
      have HS := Aside0.mk hsN
      have HT := Aside0.mk h
      have hlo : 4 ≤ s.size := by omega
      have hhi : s.size ≤ 36 := by omega
      clear hsN hs h
      have l0 : (0 ≤ (s.size : Int)) = True := eq_true (by omega)
      go_enter Try.func44, Try.ntmps44
      go_wp2_with fail
      go_at_call 45
      refine (kg _).mono ?_
      rintro e w1 ⟨rfl, hb1⟩
      have x0 : w1.cell? ⟨w.heap.size, 0, none⟩ = some (.int .i64 (R : Int)) := box_cell hb1 0 _ rfl
      have x1 : w1.cell? ⟨w.heap.size, 1, none⟩ = some (.int .i64 (C : Int)) := box_cell hb1 1 _ rfl
      have x2 : w1.cell? ⟨w.heap.size, 2, none⟩ = some (.string s) := box_cell hb1 2 _ rfl
      have HB1 := Aside0.mk (below_step (w := w) (by repeat (first | exact Below.refl _ _ | apply below_alloc | apply pw_below_drewN | apply below_drew1)) hb1)
      have hB0 : w.heap.size < w1.heap.size := by have := hb1.size; simp at this; omega
      clear hb1 kg
      go_wp2_with (first | ((with_reducible refine gate_dst (N := 13) rfl ?_); refine Kd.R_make Kd.bool (w0 := w1) w1.heap.size 4 rfl (N := 13) rfl 95 _ _ rfl (s.size : Int) rfl rfl Try.underlying95 (.bool false) 1 po_info rfl (by decide) (by omega) false (ok := fun _ => True) (okp := fun _ => True) rfl (fun _ hk => hk) trivial (by omega) (by omega) (Below.refl _ _) (Nat.le_refl _) ?_; intro v1 w3 ho hb _ _; obtain ⟨g, cap, ev, hg1, hg2, _⟩ := Kd.R_form ho (by simp; omega); rw [List.length_replicate, Int.toNat_natCast] at ev; subst ev; rw [Int.toNat_natCast] at ho; have HO := Aside0.mk ho; have HB3 := Aside0.mk hb; have y0 := cell_on x0 hb; have y1 := cell_on x1 hb; have y2 := cell_on x2 hb; have hF := vis_at (g := g) (cap := cap) (n := s.size) (t1 := 95) (t2 := 96) y0 y1 y2; have z0 := hF.g0; have z1 := hF.g1; have z2 := hF.g2; have z3 := hF.m0; have z4 := hF.v0; have HF := Aside0.mk hF; clear x0 x1 x2 y0 y1 y2 ho hF))
      have hH3 := bo_holds HO.out
      have hb4 : Below w3.heap.size w3 ((w3.alloc (.cells #[.slice (some ⟨g, 0, none⟩) s.size cap] 95)).alloc (.cells #[.func (.func 82) #[] #[.pointer (some ⟨w.heap.size, 0, none⟩), .pointer (some ⟨w3.heap.size, 0, none⟩), .pointer (some ⟨w3.heap.size + 1, 0, none⟩)]] 96)) := below_alloc (below_alloc (Below.refl _ _) _) _
      have hH4 : Go.Sort.Holds encBo ((w3.alloc (.cells #[.slice (some ⟨g, 0, none⟩) s.size cap] 95)).alloc (.cells #[.func (.func 82) #[] #[.pointer (some ⟨w.heap.size, 0, none⟩), .pointer (some ⟨w3.heap.size, 0, none⟩), .pointer (some ⟨w3.heap.size + 1, 0, none⟩)]] 96)) g 0 (List.replicate s.size false).toArray := fun j hj => by
        obtain ⟨h1, h2⟩ := hH3 j hj
        exact ⟨(hb4.cell (p := ⟨g, 0 + j, none⟩) hg2).trans h1, (hb4.frozen (p := ⟨g, 0 + j, none⟩) hg2).trans h2⟩
      have HH := Aside0.mk hH4
      have HB4 := Aside0.mk (below_step HB1.out (below_step HB3.out hb4))
      have hgm : w3.heap.size ≠ g := by omega
      have hgv : w3.heap.size + 1 ≠ g := by omega
      have hgb : w.heap.size ≠ g := by omega
      have hwg : w.heap.size ≤ g := by omega
      clear hH3 hb4 hH4 z0 z1 z2 z3 z4
      generalize ((w3.alloc (.cells #[.slice (some ⟨g, 0, none⟩) s.size cap] 95)).alloc (.cells #[.func (.func 82) #[] #[.pointer (some ⟨w.heap.size, 0, none⟩), .pointer (some ⟨w3.heap.size, 0, none⟩), .pointer (some ⟨w3.heap.size + 1, 0, none⟩)]] 96)) = W4 at *
      go_loopg [5, 18] s.size (fun kq v5 v18 wr => ∃ (i cnt q : Nat) (m : List Bool), v5 = .int .i64 (cnt : Int) ∧ v18 = .int .i64 (i : Int) ∧ Aside0 (i ≤ s.size) ∧ Aside0 (s.size - i ≤ kq) ∧ Aside0 (cnt ≤ i) ∧ Aside0 (m.length = s.size) ∧ Aside0 (wr = Go.Sort.putRow encBo (Go.Sort.ahead W4 q) g 0 m.toArray) ∧ Aside0 (partsGo R C s (List.range' i (s.size - i)) m cnt = partsGo R C s (List.range' 0 s.size) (List.replicate s.size false) 0))
      case atStart => exact ⟨0, 0, 0, List.replicate s.size false, rfl, rfl, ⟨Nat.zero_le _⟩, ⟨by omega⟩, ⟨Nat.le_refl _⟩, ⟨by simp⟩, ⟨(Go.Sort.putRow_self encBo _ _ _ _ HH.out).symm⟩, ⟨by rw [Nat.sub_zero]⟩⟩
      case round =>
        obtain ⟨i, cnt, q, m, rfl, rfl, hi, hk, hn, hm, hwr, heq⟩ := hrel
        have hfix : VisAt R C s w.heap.size w3.heap.size (w3.heap.size + 1) g cap s.size wr := hwr.out ▸ HF.out.step hgb hgm hgv q m.toArray
        obtain ⟨x0, x1, x2, x3, x4⟩ := hfix
        by_cases hlt : i < s.size
        · have cb0 : decide ((i : Int) < (s.size : Int)) = true := by simp; exact hlt
          have hml : i < m.length := by rw [hm.out]; exact hlt
          have hHw : Go.Sort.Holds encBo wr g 0 m.toArray := by rw [hwr.out]; exact Go.Sort.holds_putRow encBo _ g 0 _ m.toArray HH.out (by simp; exact hm.out)
          obtain ⟨ci, fi⟩ := hHw i (by simpa using hml)
          rw [Nat.zero_add] at ci fi
          rw [bo_get hml] at ci
          unfold encBo at ci
          have p1 : (0 ≤ (i : Int)) = True := eq_true (by omega)
          have q1 : ((i : Int) < (s.size : Int)) = True := eq_true (by omega)
          have hx8 := bt_at s (i : Int)
          simp only [Int.toNat_natCast] at hx8
          replace hx8 := hx8 hlt
          have heq' := heq.out
          rw [show s.size - i = (s.size - (i + 1)) + 1 by omega, List.range'_succ] at heq'
          rw [partsGo_cons] at heq'
          have hgd : m.getD i false = m[i] := by rw [List.getD_eq_getElem?_getD, List.getElem?_eq_getElem hml]; rfl
          rw [hgd] at heq'
          by_cases hb : bt s (i : Int) = 46
          · have zb : (bt s (i : Int) == 46) = true := beq_iff_eq.mpr hb
            rw [← hx8] at zb
            by_cases hmk : m[i] = true
            · rw [if_neg (by rw [hmk]; simp)] at heq'
              rw [hmk] at ci
              have HE := Aside0.mk heq'
              clear heq heq' hx8 hb hmk hgd hHw
              go_wp2
              go_roundg (s.size - (i + 1))
              case measure => have := hk.out; omega
              case rel => exact ⟨i + 1, cnt, q, m, rfl, by simp, ⟨by omega⟩, ⟨Nat.le_refl _⟩, ⟨by have := hn.out; omega⟩, hm, hwr, HE⟩
            · have hmf : m[i] = false := by simpa using hmk
              rw [if_pos ⟨hb, hmf⟩] at heq'
              rw [hmf] at ci
              have hC0 : 0 < C := by omega
              obtain ⟨d1, d2, d3, d4, d5, d6, d7⟩ := pa_div (i := i) (C := C) hC0 (by omega) (by omega)
              have hdr : (i : Int) / (C : Int) ≤ (R : Int) := by
                have h1 : i / C < R := (Nat.div_lt_iff_lt_mul hC0).2 (HS.out ▸ hlt)
                have h2 : (i : Int) / (C : Int) = ((i / C : Nat) : Int) := by simp
                rw [h2]
                exact Int.ofNat_le.2 (Nat.le_of_lt h1)
              have hcl : m.count false < s.size + 1 := by
                have := List.count_le_length (a := false) (l := m)
                have := hm.out
                omega
              have hvl := (visF_length R C s (s.size + 1) m ((i : Int) / C) ((i : Int) % C)).1
              have HV := Aside0.mk (hvl.trans hm.out)
              have KV := Aside0.mk (fun q' W (hw : W = Go.Sort.putRow encBo (Go.Sort.ahead W4 q') g 0 m.toArray) => visit_calls R C s w.heap.size w3.heap.size (w3.heap.size + 1) g cap W4 (List.replicate s.size false).toArray hR6 hC6 s.size HS.out rfl (by simp) HF.out HH.out hgb hgm hgv (s.size + 1) ((i : Int) / C) ((i : Int) % C) m q' W hm.out hcl (Int.le_trans (by decide) d4) hdr (Int.le_trans (by decide) d5) (Int.le_of_lt d6) hw)
              have HE := Aside0.mk heq'
              have cz : (C = 0) = False := eq_false (by omega)
              have dq : IntKind.i64.wrap ((i : Int) / (C : Int)) = (i : Int) / (C : Int) := (IntWalk.i64_left _).trans d3
              have dr : IntKind.i64.wrap ((i : Int) % (C : Int)) = (i : Int) % (C : Int) := (IntWalk.i64_left _).trans d7
              clear heq heq' hx8 hb hmk hmf hgd hHw hvl hcl hdr d1 d2 d3 d4 d5 d6 d7
              have DQ := Aside0.mk dq
              have DR := Aside0.mk dr
              clear dq dr
              go_wp2
              refine wp_region_still_tail 9 (by kernel_rfl) (by kernel_rfl) ?_
              obtain ⟨W2, hW2⟩ : ∃ W2 : World, W2 = { wr with drawn := wr.drawn + 1 } := ⟨_, rfl⟩
              have hwr2 : W2 = Go.Sort.putRow encBo (Go.Sort.ahead W4 (q + 1)) g 0 m.toArray := by
                rw [hW2, hwr.out]
                rfl
              obtain ⟨y0, y1, y2, y3, y4⟩ : VisAt R C s w.heap.size w3.heap.size (w3.heap.size + 1) g cap s.size W2 := hwr2 ▸ HF.out.step hgb hgm hgv (q + 1) m.toArray
              rw [← hW2]
              have HW2 := Aside0.mk hwr2
              clear hW2 hwr2 x0 x1 x2 x3 x4 ci fi
              have dq := DQ.out
              have dr := DR.out
              simp only [List.take_succ_cons, List.take_zero, List.drop_succ_cons, List.drop_zero]
              still_step
              still_step
              still_step
              still_step
              still_step
              still_step
              still_step
              still_step
              still_step
              refine wpStill_nil ?_
              clear dq dr
              go_wp2_with fail
              go_at_call 82
              refine (KV.out (q + 1) W2 HW2.out).mono ?_
              rintro e W5 ⟨rfl, q5, hw5⟩
              have HW5 := Aside0.mk hw5
              clear hw5 y0 y1 y2 y3 y4
              go_wp2_with fail
              go_roundg (s.size - (i + 1))
              case measure => have := hk.out; omega
              case rel => exact ⟨i + 1, cnt + 1, q5, _, (by rw [wrap64_cnt (by have := hn.out; omega)]), by simp, ⟨by omega⟩, ⟨Nat.le_refl _⟩, ⟨by have := hn.out; omega⟩, HV, HW5, HE⟩
          · have zb : (bt s (i : Int) == 46) = false := beq_eq_false_iff_ne.mpr hb
            rw [← hx8] at zb
            rw [if_neg (fun h => hb h.1)] at heq'
            have HE := Aside0.mk heq'
            clear heq heq' hx8 hb hgd hHw
            go_wp2
            go_roundg (s.size - (i + 1))
            case measure => have := hk.out; omega
            case rel => exact ⟨i + 1, cnt, q, m, rfl, by simp, ⟨by omega⟩, ⟨Nat.le_refl _⟩, ⟨by have := hn.out; omega⟩, hm, hwr, HE⟩
        · have cb0 : decide ((i : Int) < (s.size : Int)) = false := by simp; omega
          have HE := heq.out
          rw [show s.size - i = 0 by omega] at HE
          have HE' := Aside0.mk (show (cnt : Int) = t by rw [← HT.out, ← HE]; rfl)
          clear HE heq
          go_wp2
          go_ret
          refine ⟨by rw [HE'.out] <;> rfl, ?_⟩
          rw [hwr.out]
          exact vis_below w.heap.size g q m.toArray HB4.out hwg
    · rw [if_neg hc] at h
      cases h


/-! ### impl_IsConnected: function 43 -/
def impl_IsConnected.f (k : Nat) (a0_0 : Int) (a0_1 : Int) (a0_2 : ByteArray) : Option (Bool) := (impl_PartsOf.f k a0_0 a0_1 a0_2).bind fun t288 => (some (t288 == 1))
theorem impl_IsConnected.mono : ∀ a0 a1 a2 k, LeO (impl_IsConnected.f k a0 a1 a2) (impl_IsConnected.f (k + 1) a0 a1 a2) := by
  intro a0 a1 a2 k
  unfold impl_IsConnected.f
  repeat' first
    | (with_reducible exact impl_PartsOf.mono _ _ _ _)
    | (with_reducible exact LeO.refl _)
    | (with_reducible exact LeO.none _)
    | (with_reducible refine LeO.ite ?_ ?_)
    | (with_reducible refine LeO.bind ?_ (fun _ => ?_))
    | exact impl_PartsOf.mono _ _ _ _
    | exact LeO.none _
    | refine LeO.ite ?_ ?_
    | refine LeO.bind ?_ (fun _ => ?_)
set_option maxHeartbeats 8000000 in
set_option maxRecDepth 100000 in
theorem impl_IsConnected.calls (k : Nat) (a0_0 : Int) (a0_1 : Int) (a0_2 : ByteArray) (r : Bool) (w : World) (h : impl_IsConnected.f k a0_0 a0_1 a0_2 = some r) :
   Calls Try.prog 43 #[.agg #[.int .i64 a0_0, .int .i64 a0_1, .string a0_2]] w fun e w' => e = .returned (.bool r) ∧ Below w.heap.size w w' := by
  have hu48 := Try.underlying48
  have HB := Aside0.mk (Below.refl w.heap.size w)
  have H : ((impl_PartsOf.f k a0_0 a0_1 a0_2).bind fun t288 => (some (t288 == 1))) = some r := h
  clear h
  replace H := Option.bind_eq_some_iff.mp H
  obtain ⟨t288, A20, H⟩ := H
  replace H : (some (t288 == 1)) = some r := H
  have A2 := Aside0.mk A20
  clear A20
  obtain rfl := Option.some.inj H
  go_enter Try.func43, Try.ntmps43
  go_wp2_with (first | ((with_reducible refine gate_dst (N := 1) rfl ?_); refine box_event ?hg (N := 1) ?hd (cs := #[.int .i64 a0_0, .int .i64 a0_1, .string a0_2]) (t := 48) ?hr ?_; (case hd => rfl); (case hg => rfl); (case hr => first | (go_simp; done) | (go_simp; rfl)); intro gb287 hg w3 hbox hb; have n0_ := Aside0.mk (below_step (by repeat (first | (with_reducible first | exact HB.out | apply below_alloc | apply pw_below_drewN | apply below_drew1) | exact HB.out)) hb); have n1_ := Aside0.mk (hbox); have n2_ := Aside0.mk ((by rw [hg]; exact (below_size (by repeat (first | (with_reducible first | exact HB.out | apply below_alloc | apply pw_below_drewN | apply below_drew1) | exact HB.out))) : w.heap.size ≤ gb287)); have n3_ := Aside0.mk ((by rw [hg]; exact (below_size (by repeat (first | (with_reducible first | exact HB.out | apply below_alloc | apply pw_below_drewN | apply below_drew1) | exact HB.out))) : w.heap.size ≤ gb287)); clear HB; have HB := n0_; have BK287 := n1_; have GW287 := n2_; have GE287 := n3_; clear n0_ n1_ n2_ n3_; clear hb hbox hg; have hcz4_0 : w3.cell? ⟨gb287, 0, none⟩ = some (.int .i64 a0_0) := (blk_cell BK287.out 0).trans rfl; have hcz4_1 : w3.cell? ⟨gb287, 1, none⟩ = some (.int .i64 a0_1) := (blk_cell BK287.out 1).trans rfl; have hcz4_2 : w3.cell? ⟨gb287, 2, none⟩ = some (.string a0_2) := (blk_cell BK287.out 2).trans rfl; have hfz4_0 := blk_frozen BK287.out 0; have hfz4_1 := blk_frozen BK287.out 1; have hfz4_2 := blk_frozen BK287.out 2) | ((with_reducible refine gate_callee (f := 44) rfl ?_); refine goesL_ (some 4) rfl rfl Try.func44 (by kernel_rfl) rfl #[.agg #[.int .i64 a0_0, .int .i64 a0_1, .string a0_2]] rfl (by (try simp only [List.map_toArray, List.map_cons, List.map_nil]); first | done | rfl | (simp only [List.length_drop, List.length_take]; rfl)) ?_; (with_reducible refine (impl_PartsOf.calls k a0_0 a0_1 a0_2 t288 _ A2.out).mono ?_); rintro e w5 ⟨rfl, hb⟩; refine ⟨_, rfl, ?_⟩; have n0_ := Aside0.mk (blk_below (g := gb287) (o := .cells #[.int .i64 a0_0, .int .i64 a0_1, .string a0_2] 48 (0, 0)) (by (with_reducible repeat (first | refine blk_drewN ?_ _ | refine blk_drew ?_ | refine blk_alloc ?_ _)); exact BK287.out) hb); have n1_ := Aside0.mk (below_step (by repeat (first | (with_reducible first | exact HB.out | apply below_alloc | apply pw_below_drewN | apply below_drew1 | refine below_set ?_ GE287.out) | exact HB.out)) hb); clear BK287; clear HB; have BK287 := n0_; have HB := n1_; clear n0_ n1_; (try clear hb); (try clear hb2); (try clear hk); (try clear hi)))
  go_ret
  exact ⟨by first | rfl | (simp [errW_none, errW_some] <;> rfl) | (simp [*, errW_none, errW_some] <;> rfl), by repeat (first | (with_reducible first | exact HB.out | apply below_alloc | apply pw_below_drewN | apply below_drew1 | refine below_set ?_ GE287.out) | exact HB.out)⟩

/-! ### slices_Reverse_byte_byte: function 60 -/
def slices_Reverse_byte_byte.l0 : Nat → List Int → Int → Int → Option (List Int)
  | 0, _, _, _ => none
  | k + 1, x0, x2, x3 => if x2 < x3 then (if 0 ≤ x3 then (if x3 < (x0.length : Int) then (if 0 ≤ x2 then (if x2 < (x0.length : Int) then (slices_Reverse_byte_byte.l0 k ((x0.set (x2 : Int).toNat (rd x0 x3)).set (x3 : Int).toNat (rd x0 x2)) (wrap64 (x2 + 1)) (wrap64 (x3 - 1))) else (none)) else (none)) else (none)) else (none)) else (some x0)
def slices_Reverse_byte_byte.f (k : Nat) (l0 : List Int) : Option (List Int) := slices_Reverse_byte_byte.l0 k l0 0 (wrap64 ((l0.length : Int) - 1))
theorem slices_Reverse_byte_byte.mono_l : ∀ k, (∀ y0 y1 y2, LeO (slices_Reverse_byte_byte.l0 k y0 y1 y2) (slices_Reverse_byte_byte.l0 (k + 1) y0 y1 y2))
  | 0 => fun _ _ _ r h => by simp [slices_Reverse_byte_byte.l0] at h
  | k + 1 => by
   have ih0 := slices_Reverse_byte_byte.mono_l k
   ·intro y0 y1 y2
    unfold slices_Reverse_byte_byte.l0
    repeat' first
    | (with_reducible exact ih0 _ _ _)
    | (with_reducible exact LeO.refl _)
    | (with_reducible exact LeO.none _)
    | (with_reducible refine LeO.ite ?_ ?_)
    | (with_reducible refine LeO.bind ?_ (fun _ => ?_))
    | exact ih0 _ _ _
    | exact LeO.none _
    | refine LeO.ite ?_ ?_
    | refine LeO.bind ?_ (fun _ => ?_)
theorem slices_Reverse_byte_byte.mono : ∀ a0 k, LeO (slices_Reverse_byte_byte.f k a0) (slices_Reverse_byte_byte.f (k + 1) a0) := by
  intro a0 k
  have ih0 := slices_Reverse_byte_byte.mono_l k
  unfold slices_Reverse_byte_byte.f
  repeat' first
    | (with_reducible exact ih0 _ _ _)
    | (with_reducible exact LeO.refl _)
    | (with_reducible exact LeO.none _)
    | (with_reducible refine LeO.ite ?_ ?_)
    | (with_reducible refine LeO.bind ?_ (fun _ => ?_))
    | exact ih0 _ _ _
    | exact LeO.none _
    | refine LeO.ite ?_ ?_
    | refine LeO.bind ?_ (fun _ => ?_)
def slices_Reverse_byte_byte.T3 : Bool × List (List Nat × List Nat) := (true, [([], []), ([], []), ([], []), ([], []), ([], []), ([], []), ([4, 5], [4, 5]), ([6], [6]), ([], []), ([], []), ([8, 9], [8, 9]), ([10], [10]), ([0, 1, 0, 1, 4, 5, 6, 7, 11], [0, 1]), ([12, 7, 0, 1, 4, 5, 6, 7, 11], [7, 12]), ([2, 3, 0, 1, 2, 3, 4, 5, 6, 7, 8, 9, 10, 11, 12, 13], [2, 3]), ([14, 11, 13, 0, 1, 2, 3, 4, 5, 6, 7, 8, 9, 10, 11, 12, 13], [11, 14])])
def slices_Reverse_byte_byte.B3 : List Nat := [0, 0, 0, 0, 0, 0, 48, 112, 0, 0, 768, 1792, 4083, 8179, 16383, 32767]
theorem slices_Reverse_byte_byte.tab3 : rtab .any (opsOf Try.f60 3) = slices_Reverse_byte_byte.T3 := by kernel_rfl
theorem slices_Reverse_byte_byte.bits3 : waitsOk slices_Reverse_byte_byte.T3.2 slices_Reverse_byte_byte.B3 = true := by kernel_rfl
set_option maxHeartbeats 8000000 in
set_option maxRecDepth 100000 in
theorem slices_Reverse_byte_byte.calls (k : Nat) (P0_ : Nat → Prop) (u9000_ : Value) (l0 : List Int) (r : List Int) (w0 w : World) (hB : Below w0.heap.size w0 w) (ho0 : Kd.R (Kd.int .u8) 5 w w0.heap.size P0_ u9000_ l0) (h : slices_Reverse_byte_byte.f k l0 = some r) :
   Calls Try.prog 60 #[u9000_] w fun e w' => e = .returned (.tuple #[]) ∧ Kd.R (Kd.int .u8) 5 w' w0.heap.size (fun k_ => (P0_ k_ ∨ w.heap.size ≤ k_)) u9000_ r ∧ Below w0.heap.size w0 w' ∧ Kept w w' (fun k_ => P0_ k_) := by
  have HO0 := Aside0.mk (show Kd.R (Kd.int .u8) 5 w w0.heap.size (fun k_ => (P0_ k_ ∨ w.heap.size ≤ k_)) u9000_ l0 from Kd.R_mono ho0 (fun k_ hk => (.inl hk)))
  have HK := Aside0.mk (Kept.refl w (fun k_ => P0_ k_))
  have HW0 := Aside0.mk hB.size
  have HB := Aside0.mk hB
  clear hB
  have H : (slices_Reverse_byte_byte.l0 k l0 0 (wrap64 ((l0.length : Int) - 1))) = some r := h
  clear h
  have H' := Aside0.mk H
  clear H
  obtain ⟨Ao2, co2, eo2⟩ := Kd.R_slice HO0.out
  subst eo2
  go_enter Try.func60, Try.ntmps60
  go_wp2
  go_loopg [2, 3] k (fun kq v2 v3 w' => ∃ (x0_1 : List Int) (x2_1 : Int) (x3_1 : Int), v2 = .int .i64 x2_1 ∧ v3 = .int .i64 x3_1 ∧ Aside0 (slices_Reverse_byte_byte.l0 kq x0_1 x2_1 x3_1 = some r) ∧ Aside0 (kq ≤ k) ∧ Aside0 (Kd.R (Kd.int .u8) 5 w' w0.heap.size (fun k_ => (P0_ k_ ∨ w.heap.size ≤ k_)) (.slice Ao2 l0.length co2) x0_1) ∧ Aside0 (Kept w w' (fun k_ => P0_ k_)) ∧ Aside0 (Below w0.heap.size w0 w'))
  case atStart => exact ⟨(l0), (0), (wrap64 ((l0.length : Int) - 1)), (by first | rfl | (simp; done) | (simp [*]; done)), (by first | rfl | (simp; done) | (simp [*]; done)), H', ⟨Nat.le_refl _⟩, ⟨by (with_reducible repeat (first | apply Kd.R_alloc | apply Kd.R_drewN | apply Kd.R_drew)); exact HO0.out⟩, ⟨by repeat (first | (with_reducible first | exact HK.out | apply Kept.alloc | apply Kept.drewN | apply Kept.drew) | exact HK.out)⟩, ⟨by repeat (first | (with_reducible first | exact HB.out | apply below_alloc | apply pw_below_drewN | apply below_drew1) | exact HB.out)⟩⟩
  case round =>
   clear H'
   try clear p2
   obtain ⟨x0_1, x2_1, x3_1, rfl, rfl, HA, HK1, HO_0, HK, HB⟩ := hrel
   have hl0_1 := (Kd.R_reads' HO_0.out).1
   rw [hl0_1] at HO_0
   (try simp only [hl0_1])
   cases gk with
   | zero => exact absurd HA.out (by simp [slices_Reverse_byte_byte.l0])
   | succ k1 =>
    have H := HA.out
    clear HA
    simp only [slices_Reverse_byte_byte.l0] at H
    by_cases c3 : x2_1 < x3_1
    ·rw [if_pos c3] at H
     have c3b0 : decide (x2_1 < x3_1) = true := decide_eq_true c3
     clear c3
     by_cases c4 : 0 ≤ x3_1
     ·rw [if_pos c4] at H
      have c4b0 : decide (0 ≤ x3_1) = true := decide_eq_true c4
      clear c4
      by_cases c5 : x3_1 < (x0_1.length : Int)
      ·rw [if_pos c5] at H
       have c5b0 : decide (x3_1 < (x0_1.length : Int)) = true := decide_eq_true c5
       clear c5
       by_cases c6 : 0 ≤ x2_1
       ·rw [if_pos c6] at H
        have c6b0 : decide (0 ≤ x2_1) = true := decide_eq_true c6
        clear c6
        by_cases c7 : x2_1 < (x0_1.length : Int)
        ·rw [if_pos c7] at H
         have c7b0 : decide (x2_1 < (x0_1.length : Int)) = true := decide_eq_true c7
         clear c7
         obtain ⟨y291, hy291⟩ : ∃ y_ : List Int, y_ = (x0_1.set (x2_1 : Int).toNat (rd x0_1 x3_1)) := ⟨_, rfl⟩
         replace H : (slices_Reverse_byte_byte.l0 k1 (y291.set (x3_1 : Int).toNat (rd x0_1 x2_1)) (wrap64 (x2_1 + 1)) (wrap64 (x3_1 - 1))) = some r := by first | (rw [hy291]; with_reducible exact H) | (have H2_ := (Option.bind_some _ _).symm.trans H; rw [hy291]; with_reducible exact H2_) | (have H2_ := (Option.bind_some _ _).symm.trans H; with_reducible exact H2_) | with_reducible exact H | (rw [hy291]; exact H) | exact H
         have Ny291 := Aside0.mk hy291
         clear hy291
         obtain ⟨y292, hy292⟩ : ∃ y_ : List Int, y_ = (y291.set (x3_1 : Int).toNat (rd x0_1 x2_1)) := ⟨_, rfl⟩
         replace H : (slices_Reverse_byte_byte.l0 k1 y292 (wrap64 (x2_1 + 1)) (wrap64 (x3_1 - 1))) = some r := by first | (rw [hy292]; with_reducible exact H) | (have H2_ := (Option.bind_some _ _).symm.trans H; rw [hy292]; with_reducible exact H2_) | (have H2_ := (Option.bind_some _ _).symm.trans H; with_reducible exact H2_) | with_reducible exact H | (rw [hy292]; exact H) | exact H
         have Ny292 := Aside0.mk hy292
         clear hy292
         have H' := Aside0.mk H
         clear H
         try go_wp2
         have n0_ := Aside0.mk (Kd.R_drew HO_0.out)
         have n1_ := Aside0.mk (Kept.drew HK.out)
         have n2_ := Aside0.mk (below_drew1 HB.out)
         clear HO_0
         clear HK
         clear HB
         have HO_0 := n0_
         have HK := n1_
         have HB := n2_
         clear n0_ n1_ n2_
         have p289 : 0 ≤ (x3_1 : Int) := of_decide_eq_true (by first | (with_reducible assumption) | assumption)
         have q289 : x3_1 < (x0_1.length : Int) := of_decide_eq_true (by first | (with_reducible assumption) | assumption)
         obtain ⟨ad289, e289, hx289_0⟩ := Kd.at_int (Kd.R_reads' HO_0.out).2.2 x3_1 p289 q289
         cases e289
         replace p289 := eq_true p289
         replace q289 := eq_true q289
         have p290 : 0 ≤ (x2_1 : Int) := of_decide_eq_true (by first | (with_reducible assumption) | assumption)
         have q290 : x2_1 < (x0_1.length : Int) := of_decide_eq_true (by first | (with_reducible assumption) | assumption)
         obtain ⟨ad290, e290, hx290_0⟩ := Kd.at_int (Kd.R_reads' HO_0.out).2.2 x2_1 p290 q290
         obtain rfl : ad289 = ad290 := (by injection e290)
         replace p290 := eq_true p290
         replace q290 := eq_true q290
         have p8 : 0 ≤ (x2_1 : Int) := of_decide_eq_true (by first | (with_reducible assumption) | assumption)
         have q8 : (x2_1 : Int) < ((x0_1.length : Int) : Int) := of_decide_eq_true (by first | (with_reducible assumption) | assumption)
         obtain ⟨go8, co8, eo8, gb8, gl8, cl8, HG8⟩ := Kd.R_form HO_0.out (by omega)
         (first | cases eo8 | (injection eo8 with ea_ en_ ec_; (first | subst ea_ | (injection ea_ with ea_; subst ea_)); subst ec_; clear en_))
         have GB8 := Aside0.mk gb8
         have GG8 := Aside0.mk HG8
         clear gb8 gl8 HG8
         have HMgo8 := Aside0.mk (show (P0_ go8 ∨ w.heap.size ≤ go8) from (HO_0.out.1 _ rfl))
         (first | simp only [add_plain] at hx289_0 | skip)
         (first | simp only [add_plain] at hx290_0 | skip)
         obtain ⟨hx8_0, hf8_0⟩ := Kd.R_celln 0 HO_0.out (x2_1 : Int) p8 q8
         replace p8 := eq_true p8
         replace q8 := eq_true q8
         have HP11 := Kd.R_putn HO_0.out (x2_1 : Int) (rd x0_1 x3_1)
         rw [← Ny291.out] at HP11
         have HQ11 := Aside0.mk HP11
         clear HP11
         have p9 : 0 ≤ (x3_1 : Int) := of_decide_eq_true (by first | (with_reducible assumption) | assumption)
         have q9 : (x3_1 : Int) < ((x0_1.length : Int) : Int) := of_decide_eq_true (by first | (with_reducible assumption) | assumption)
         obtain ⟨hx9_0, hf9_0⟩ := Kd.R_celln 0 HQ11.out (x3_1 : Int) p9 q9
         replace p9 := eq_true p9
         replace q9 := eq_true q9
         have HP12 := Kd.R_putn HQ11.out (x3_1 : Int) (rd x0_1 x2_1)
         rw [← Ny292.out] at HP12
         have HQ12 := Aside0.mk HP12
         clear HP12
         refine start_ (n := 16) (S := fun w' => w'.cell? ⟨go8, (x3_1).toNat, none⟩ = some (.int .u8 (rd x0_1 x3_1)) ∧ w'.cell? ⟨go8, (x2_1).toNat, none⟩ = some (.int .u8 (rd x0_1 x2_1))) (ds := [13, 15]) #[false, false, false, false, false, false, false, false, false, false, false, false, false, false, false, false] (by kernel_rfl) rfl rfl ⟨hx289_0, hx290_0⟩ (fun hHeld => ?_); refine with_tabW slices_Reverse_byte_byte.tab3 slices_Reverse_byte_byte.bits3 (fun HT_ HW_ => ?_)
         generalize wr.drew = w10 at HO_0 HK HB GG8 HQ11 HQ12 hf8_0 hf9_0 hx289_0 hx290_0 hx8_0 hx9_0 hHeld ⊢
         refine pure_ (i := 0) (N := some 14) (v := ?_) (a' := ?_) #[true, false, false, false, false, false, false, false, false, false, false, false, false, false, false, false] rfl rfl (any_of HT_.out (by kernel_rfl)) (fun _ _ _ h => h) (Or.inl ⟨by rfl, ?_⟩) ?_ ?_
         rotate_left
         ·intro w'
          go_simp
          with_reducible rfl
         rotate_left
         ·simp only [Act.put, List.setIfInBounds_toArray, List.set_cons_zero, List.set_cons_succ, i64_w, i32_w]
          rfl
         refine pure_ (i := 1) (N := some 15) (v := ?_) (a' := ?_) #[true, true, false, false, false, false, false, false, false, false, false, false, false, false, false, false] rfl rfl (any_of HT_.out (by kernel_rfl)) (fun _ _ _ h => h) (Or.inl ⟨by rfl, ?_⟩) ?_ ?_
         rotate_left
         ·intro w'
          go_simp
          with_reducible rfl
         rotate_left
         ·simp only [Act.put, List.setIfInBounds_toArray, List.set_cons_zero, List.set_cons_succ, i64_w, i32_w]
          rfl
         refine pure_ (i := 2) (N := some 16) (v := ?_) (a' := ?_) #[true, true, true, false, false, false, false, false, false, false, false, false, false, false, false, false] rfl rfl (any_of HT_.out (by kernel_rfl)) (fun _ _ _ h => h) (Or.inl ⟨by rfl, ?_⟩) ?_ ?_
         rotate_left
         ·intro w'
          go_simp
          with_reducible rfl
         rotate_left
         ·simp only [Act.put, List.setIfInBounds_toArray, List.set_cons_zero, List.set_cons_succ, i64_w, i32_w]
          rfl
         refine pure_ (i := 3) (N := some 17) (v := ?_) (a' := ?_) #[true, true, true, true, false, false, false, false, false, false, false, false, false, false, false, false] rfl rfl (any_of HT_.out (by kernel_rfl)) (fun _ _ _ h => h) (Or.inl ⟨by rfl, ?_⟩) ?_ ?_
         rotate_left
         ·intro w'
          go_simp
          with_reducible rfl
         rotate_left
         ·simp only [Act.put, List.setIfInBounds_toArray, List.set_cons_zero, List.set_cons_succ, i64_w, i32_w]
          rfl
         refine pure_ (i := 4) (N := some 18) (v := ?_) (a' := ?_) #[true, true, true, true, true, false, false, false, false, false, false, false, false, false, false, false] rfl rfl (any_of HT_.out (by kernel_rfl)) (fun _ _ _ h => h) (Or.inl ⟨by rfl, ?_⟩) ?_ ?_
         rotate_left
         ·intro w'
          go_simp
          with_reducible rfl
         rotate_left
         ·simp only [Act.put, List.setIfInBounds_toArray, List.set_cons_zero, List.set_cons_succ, i64_w, i32_w]
          rfl
         refine pure_ (i := 5) (N := some 19) (v := ?_) (a' := ?_) #[true, true, true, true, true, true, false, false, false, false, false, false, false, false, false, false] rfl rfl (any_of HT_.out (by kernel_rfl)) (fun _ _ _ h => h) (Or.inl ⟨by rfl, ?_⟩) ?_ ?_
         rotate_left
         ·intro w'
          go_simp
          with_reducible rfl
         rotate_left
         ·simp only [Act.put, List.setIfInBounds_toArray, List.set_cons_zero, List.set_cons_succ, i64_w, i32_w]
          rfl
         refine pure_ (i := 6) (N := some 20) (v := ?_) (a' := ?_) #[true, true, true, true, true, true, true, false, false, false, false, false, false, false, false, false] rfl rfl (any_of HT_.out (by kernel_rfl)) (fun _ _ _ h => h) (Or.inl ⟨by rfl, ?_⟩) ?_ ?_
         rotate_left
         ·intro w'
          go_simp
          with_reducible rfl
         rotate_left
         ·simp only [Act.put, List.setIfInBounds_toArray, List.set_cons_zero, List.set_cons_succ, i64_w, i32_w]
          rfl
         refine pure_ (i := 8) (N := some 22) (v := ?_) (a' := ?_) #[true, true, true, true, true, true, true, false, true, false, false, false, false, false, false, false] rfl rfl (any_of HT_.out (by kernel_rfl)) (fun _ _ _ h => h) (Or.inl ⟨by rfl, ?_⟩) ?_ ?_
         rotate_left
         ·intro w'
          go_simp
          with_reducible rfl
         rotate_left
         ·simp only [Act.put, List.setIfInBounds_toArray, List.set_cons_zero, List.set_cons_succ, i64_w, i32_w]
          rfl
         refine pure_ (i := 9) (N := some 23) (v := ?_) (a' := ?_) #[true, true, true, true, true, true, true, false, true, true, false, false, false, false, false, false] rfl rfl (any_of HT_.out (by kernel_rfl)) (fun _ _ _ h => h) (Or.inl ⟨by rfl, ?_⟩) ?_ ?_
         rotate_left
         ·intro w'
          go_simp
          with_reducible rfl
         rotate_left
         ·simp only [Act.put, List.setIfInBounds_toArray, List.set_cons_zero, List.set_cons_succ, i64_w, i32_w]
          rfl
         refine pure_ (i := 10) (N := some 24) (v := ?_) (a' := ?_) #[true, true, true, true, true, true, true, false, true, true, true, false, false, false, false, false] rfl rfl (any_of HT_.out (by kernel_rfl)) (fun _ _ _ h => h) (Or.inl ⟨by rfl, ?_⟩) ?_ ?_
         rotate_left
         ·intro w'
          go_simp
          with_reducible rfl
         rotate_left
         ·simp only [Act.put, List.setIfInBounds_toArray, List.set_cons_zero, List.set_cons_succ, i64_w, i32_w]
          rfl
         refine take_ (i := 7) (N := some 21) (v := ?_) (a' := ?_) #[true, true, true, true, true, true, true, true, true, true, true, false, false, false, false, false] rfl rfl (take_ofW HT_.out HW_.out (by kernel_rfl)) (fun _ _ _ h => h) (Or.inl ⟨by rfl, ?_⟩) hHeld ?_ ?_
         rotate_left
         ·rintro w' ⟨s0, s1⟩
          go_simp
          with_reducible rfl
         rotate_left
         ·simp only [Act.put, List.setIfInBounds_toArray, List.set_cons_zero, List.set_cons_succ, i64_w, i32_w]
          rfl
         refine take_ (i := 11) (N := some 25) (v := ?_) (a' := ?_) #[true, true, true, true, true, true, true, true, true, true, true, true, false, false, false, false] rfl rfl (take_ofW HT_.out HW_.out (by kernel_rfl)) (fun _ _ _ h => h) (Or.inl ⟨by rfl, ?_⟩) hHeld ?_ ?_
         rotate_left
         ·rintro w' ⟨s0, s1⟩
          go_simp
          with_reducible rfl
         rotate_left
         ·simp only [Act.put, List.setIfInBounds_toArray, List.set_cons_zero, List.set_cons_succ, i64_w, i32_w]
          rfl
         refine pure_ (i := 12) (N := some 26) (v := ?_) (a' := ?_) #[true, true, true, true, true, true, true, true, true, true, true, true, true, false, false, false] rfl rfl (any_of HT_.out (by kernel_rfl)) (fun _ _ _ h => h) (Or.inl ⟨by rfl, ?_⟩) ?_ ?_
         rotate_left
         ·intro w'
          go_simp
          with_reducible rfl
         rotate_left
         ·simp only [Act.put, List.setIfInBounds_toArray, List.set_cons_zero, List.set_cons_succ, i64_w, i32_w]
          rfl
         refine last_ (i := 13) (N := none) #[true, true, true, true, true, true, true, true, true, true, true, true, true, true, false, false] rfl rfl (one_of HT_.out (by kernel_rfl)) (by decide) (fun K hK => ?_)
         refine skip_ (w1 := ?_) (by rfl) rfl ?_ ?_
         rotate_left
         ·go_simp
          rfl
         refine hK.out _ _ ?_
         clear hK K
         refine pure_ (i := 14) (N := some 27) (v := ?_) (a' := ?_) #[true, true, true, true, true, true, true, true, true, true, true, true, true, true, true, false] rfl rfl (any_of HT_.out (by kernel_rfl)) (fun _ _ _ h => h) (Or.inl ⟨by rfl, ?_⟩) ?_ ?_
         rotate_left
         ·intro w'
          go_simp
          with_reducible rfl
         rotate_left
         ·simp only [Act.put, List.setIfInBounds_toArray, List.set_cons_zero, List.set_cons_succ, i64_w, i32_w]
          rfl
         refine last_ (i := 15) (N := none) #[true, true, true, true, true, true, true, true, true, true, true, true, true, true, true, true] rfl rfl (one_of HT_.out (by kernel_rfl)) (by decide) (fun K hK => ?_)
         refine skip_ (w1 := ?_) (by rfl) rfl ?_ ?_
         rotate_left
         ·go_simp
          rfl
         refine hK.out _ _ ?_
         clear hK K
         refine done_ (done_of HT_.out (by kernel_rfl)) ?_
         try go_wp2
         (try simp only [← hl0_1])
         go_roundg k1
         case measure => have := HK1.out; omega
         case rel => exact ⟨(y292), (wrap64 (x2_1 + 1)), (wrap64 (x3_1 - 1)), (by first | rfl | (simp; done) | (simp [*]; done)), (by first | rfl | (simp; done) | (simp [*]; done)), H', ⟨by have := HK1.out; omega⟩, ⟨by (try simp only [hl0_1]); (with_reducible repeat (first | apply Kd.R_alloc | apply Kd.R_drewN | apply Kd.R_drew)); exact HQ12.out⟩, ⟨by repeat (first | (with_reducible first | exact HK.out | apply Kept.alloc | apply Kept.drewN | apply Kept.drew | refine Kept.setCell ?_ HMgo8.out _ | refine Kept.setCell ?_ HMgo8.out _) | exact HK.out)⟩, ⟨by repeat (first | (with_reducible first | exact HB.out | apply below_alloc | apply pw_below_drewN | apply below_drew1 | refine below_set ?_ GB8.out | refine below_set ?_ GB8.out) | exact HB.out)⟩⟩
        ·rw [if_neg c7] at H
         exact absurd H (by simp)
       ·rw [if_neg c6] at H
        exact absurd H (by simp)
      ·rw [if_neg c5] at H
       exact absurd H (by simp)
     ·rw [if_neg c4] at H
      exact absurd H (by simp)
    ·rw [if_neg c3] at H
     have c3b0 : decide (x2_1 < x3_1) = false := decide_eq_false c3
     clear c3
     obtain rfl := Option.some.inj H
     go_wp2
     first | go_end0 | ((try simp only [Exit.inBlock, Exit.then]); refine bodyPost_ret (results_none rfl _ _ _) rfl ?_)
     exact ⟨by first | rfl | (simp [errW_none, errW_some] <;> rfl) | (simp [*, errW_none, errW_some] <;> rfl), (by first | exact (by (with_reducible repeat (first | apply Kd.R_alloc | apply Kd.R_drewN | apply Kd.R_drew)); exact HO_0.out) | (simp only [hl0_1]; exact (by (with_reducible repeat (first | apply Kd.R_alloc | apply Kd.R_drewN | apply Kd.R_drew)); exact HO_0.out))), by repeat (first | (with_reducible first | exact HB.out | apply below_alloc | apply pw_below_drewN | apply below_drew1) | exact HB.out), by repeat (first | (with_reducible first | exact HK.out | apply Kept.alloc | apply Kept.drewN | apply Kept.drew) | exact HK.out)⟩

/-! ### impl_Backwards: function 13 (given) -/
/-- One byte in memory. -/
def encB (b : UInt8) : Value := Value.int .u8 b.toNat
set_option maxHeartbeats 1600000 in
set_option maxRecDepth 1000000 in
/-- slices.Reverse at bytes: the loop from the two ends. (The walk's lines follow the kit's contract of slices.Reverse.) -/
theorem revBytes_calls (blk off cap : Nat) (d : Array UInt8) (w : World) (hH : Go.Sort.Holds encB w blk off d) (hsz : d.size ≤ 9223372036854775807) :
    Calls Try.prog 60 #[.slice (some ⟨blk, off, none⟩) d.size cap] w fun e w' => e = .returned (.tuple #[]) ∧ ∃ n, w' = Go.Sort.putRow encB (Go.Sort.ahead w n) blk off d.reverse := by
  have mixed : Try.prog.follows .mixedOrders = true := by kernel_rfl
  go_enter Try.func60, Try.ntmps60
  go_wp2
  go_loopg [2, 3] d.size (fun k s2 s3 wr => ∃ (i jn : Nat) (jz : Int) (dk : Array UInt8) (n : Nat), s2 = .int .i64 i ∧ s3 = .int .i64 jz ∧ ((i : Int) < jz → jz = jn ∧ jn < d.size) ∧ (¬ (i : Int) < jz → ¬ i < jn) ∧ jn - i ≤ k ∧
    dk.size = d.size ∧ wr = Go.Sort.putRow encB (Go.Sort.ahead w n) blk off dk ∧ Go.Sort.reverseLoop i jn dk = Go.Sort.reverseLoop 0 (d.size - 1) d)
  case atStart => exact ⟨0, d.size - 1, (d.size : Int) - 1, d, 0, rfl, rfl, fun h => ⟨by omega, by omega⟩, fun h => by omega, by omega, rfl, (Go.Sort.putRow_self encB w blk off d hH).symm, rfl⟩
  case round =>
    obtain ⟨i, jn, jz, dk, n, rfl, rfl, h1, h2, hk, hds, hwr, heq⟩ := hrel
    by_cases hlt : (i : Int) < jz
    · obtain ⟨rfl, hjn⟩ := h1 hlt
      have hij : i < jn := by omega
      have hHk : Go.Sort.Holds encB wr blk off dk := by rw [hwr]; exact Go.Sort.holds_putRow encB _ blk off d dk (Go.Sort.holds_ahead encB w n blk off d hH) hds
      obtain ⟨ci, fi⟩ := hHk i (by omega)
      obtain ⟨cj, fj⟩ := hHk jn (by omega)
      unfold encB at ci cj
      have A : Aside (wr = Go.Sort.putRow encB (Go.Sort.ahead w n) blk off dk) := hwr
      clear hwr hHk hH h1 h2
      go_wp2_with fail
      go_region_o
      go_wp2
      go_roundg (jn - 1 - (i + 1))
      case measure => omega
      case rel =>
        rw [Go.Sort.reverseLoop, if_pos hij] at heq
        exact ⟨i + 1, jn - 1, (jn : Int) - 1, Go.Sort.swp dk i jn, n + 1, by simp, rfl, fun h => ⟨by omega, by omega⟩, fun h => by omega, Nat.le_refl _, by rw [Go.Sort.size_swp]; exact hds,
          Go.Proofs.swap_world encB (by omega) (by omega) A.out (by first | rfl | simp [getElem!_pos, encB, show jn < dk.size by omega]) (by first | rfl | simp [getElem!_pos, encB, show i < dk.size by omega]), heq⟩
    · have hnot := h2 hlt
      go_wp2
      go_end0
      refine ⟨rfl, n, ?_⟩
      rw [Go.Sort.reverseLoop, if_neg hnot] at heq
      rw [← Lib.reverseLoop_reverse, ← heq]
def impl_Backwards.f (a0 : ByteArray) : Option ByteArray := some (if 100 < a0.size then ⟨#[]⟩ else ⟨a0.data.reverse⟩)
theorem strOfNums_bytes (l : List UInt8) : strOfNums (l.map fun b => (b.toNat : Int)) = ⟨l.toArray⟩ := by
  unfold strOfNums
  congr 1
  simp [List.map_map, Function.comp_def]
theorem holds_bytesWorld (w : World) (e : TypeId) (s : ByteArray) : Go.Sort.Holds encB (Lib.bytesWorld w e s) w.heap.size 0 s.data := by
  intro j hj
  have hj' : j < s.size := hj
  refine ⟨?_, ?_⟩
  · rw [Nat.zero_add, Lib.bytesWorld_cell w e s j hj']
    have : j < s.data.toList.length := by simpa using hj
    have hx : s.data[j]! = s.data[j] := getElem!_pos s.data j hj
    rw [hx]
    simp [encB, List.getD_eq_getElem?_getD, Array.getElem?_eq_getElem hj]
  · simp [World.frozen?, Lib.bytesWorld_at_new, Lib.bytesCells]
    try omega
theorem below_putRow {w W : World} (enc : UInt8 → Value) (blk off : Nat) (d : Array UInt8) (n : Nat) (h : Below w.heap.size w W) (hb : w.heap.size ≤ blk) : Below w.heap.size w (Go.Sort.putRow enc (Go.Sort.ahead W n) blk off d) := by
  refine h.trans ⟨rfl, rfl, rfl, ?_, fun i hi => ?_⟩
  · simp [Go.Sort.putRow, Go.Sort.mapBlock, Go.Sort.ahead]
    try exact h.size
  · have : blk ≠ i := by omega
    simp [Go.Sort.putRow, Go.Sort.mapBlock, Go.Sort.ahead, Array.getElem?_modify, this]
theorem revStr_calls (s : ByteArray) (hs : s.size ≤ 9223372036854775807) (cap : Nat) (W : World) :
    Calls Try.prog 60 #[.slice (some ⟨W.heap.size, 0, none⟩) s.size cap] (Lib.bytesWorld W 5 s) fun e w' => e = .returned (.tuple #[]) ∧ ∃ n, w' = Go.Sort.putRow encB (Go.Sort.ahead (Lib.bytesWorld W 5 s) n) W.heap.size 0 s.data.reverse :=
  revBytes_calls W.heap.size 0 cap s.data (Lib.bytesWorld W 5 s) (holds_bytesWorld W 5 s) hs
theorem reads_putRow (W : World) (s : ByteArray) (hs : s.size ≤ 9223372036854775807) (n : Nat) (e : TypeId) : ReadsInt (Go.Sort.putRow encB (Go.Sort.ahead (Lib.bytesWorld W e s) n) W.heap.size 0 s.data.reverse) .u8 (some ⟨W.heap.size, 0, none⟩) s.size (s.data.reverse.toList.map fun b => (b.toNat : Int)) := by
  refine ⟨by simp, hs, fun _ => ⟨_, rfl, fun j hj => ?_⟩⟩
  have hj' : j < s.data.reverse.size := by simpa using hj
  have hp := (Go.Sort.holds_putRow encB (Go.Sort.ahead (Lib.bytesWorld W e s) n) W.heap.size 0 s.data s.data.reverse (Go.Sort.holds_ahead encB _ n _ _ _ (holds_bytesWorld W e s)) (by simp) j hj').1
  rw [Nat.zero_add] at hp
  rw [add_plain, hp]
  have hx : s.data.reverse[j]! = s.data.reverse[j] := getElem!_pos s.data.reverse j hj'
  rw [hx]
  unfold encB
  have hl : j < s.data.reverse.toList.length := by simpa using hj'
  rw [List.getD_eq_getElem?_getD, List.getElem?_map, List.getElem?_eq_getElem hl]
  simp
theorem impl_Backwards.calls (a0 : ByteArray) (r : ByteArray) (w : World) (h : impl_Backwards.f a0 = some r) :
    Calls Try.prog 13 #[.string a0] w fun e w' => e = .returned (.string r) ∧ Below w.heap.size w w' := by
  unfold impl_Backwards.f at h
  injection h with h
  have kb := fun W => print_bytes (P := Try.prog) 9 22 5 Try.underlying9 Try.underlying22 Try.underlying5 a0 W
  by_cases hs : 100 < a0.size
  · rw [if_pos hs] at h
    subst h
    have hb : decide ((100 : Int) < (a0.size : Int)) = true := by simp; omega
    go_enter Try.func13, Try.ntmps13
    go_wp2
    go_ret
    exact ⟨rfl, Below.refl _ _⟩
  · rw [if_neg hs] at h
    subst h
    have hb : decide ((100 : Int) < (a0.size : Int)) = false := by simp; omega
    have hl : a0.size ≤ 9223372036854775807 := by omega
    have kc := fun (W : World) (n cap : Nat) => string_of_reads (P := Try.prog) (src := 22) (dst := 9) (e := 5) (c := cap) Try.underlying22 Try.underlying5 Try.underlying9 (reads_putRow W a0 hl n 5)
    simp only [strOfNums_bytes, Array.toArray_toList] at kc
    have kr := fun (W : World) (cap : Nat) => revStr_calls a0 hl cap W
    go_enter Try.func13, Try.ntmps13
    go_wp2_with (go_at_call 60; refine (kr _ _).mono ?_; rintro e w' ⟨rfl, n, rfl⟩)
    go_ret
    refine ⟨rfl, below_putRow encB _ _ _ _ ?_ (Nat.le_refl _)⟩
    exact bytes_below (Below.refl _ _) (Nat.le_refl _) _ _


end Go.Proofs.Ytodcckiphdnjeab.QFnForms
