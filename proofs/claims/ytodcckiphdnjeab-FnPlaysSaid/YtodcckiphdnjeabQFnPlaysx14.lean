-- Written by a changed copy of the kit's printer (wip/mp.py of this repo), for this claim; Lean checks it.
import Derived.Test.YtodcckiphdnjeabQFnPlaysx0
import Derived.Test.YtodcckiphdnjeabQFnPlaysx1
import Derived.Test.YtodcckiphdnjeabQFnPlaysx4
import Derived.Test.YtodcckiphdnjeabQFnPlaysx7
import Derived.Test.YtodcckiphdnjeabQFnPlaysx8
import Derived.Test.YtodcckiphdnjeabQFnPlaysx9
import Derived.Test.YtodcckiphdnjeabQFnPlaysx10
import Derived.Test.YtodcckiphdnjeabQFnPlaysx12
import Derived.Test.YtodcckiphdnjeabQFnPlaysx13
namespace Go.Proofs.Ytodcckiphdnjeab.QFnPlays
open Go.RowKit Go.Proofs.YtodcckiphdnjeabW.PrintWords Go.Proofs.YtodcckiphdnjeabW.PrintLast Go.Proofs.YtodcckiphdnjeabW.PrintMore
attribute [local go_sem] max2_int min2_int max_two min_two max_three min_three max_four min_four   -- for this text's walks alone
set_option linter.unusedVariables false
set_option linter.unusedSimpArgs false

/-! ### laws_FnPlays: function 3 (given) -/
/-- The loop over the splits: some cut of the word into what the two parts make. -/
def jnGo (k : Nat) (a b : List S31) : List (List ByteArray) → Bool → Option Bool
  | [], o => some o
  | y :: l, o => if y.length = 2 then (if o = true then jnGo k a b l true else (impl_Makes.f k a (rdOf ByteArray.empty y 0)).bind fun t => if t = true then (impl_Makes.f k b (rdOf ByteArray.empty y 1)).bind fun u => jnGo k a b l u else jnGo k a b l false) else none
theorem jnGo_cons (k : Nat) (a b : List S31) (y : List ByteArray) (l : List (List ByteArray)) (o : Bool) : jnGo k a b (y :: l) o = if y.length = 2 then (if o = true then jnGo k a b l true else (impl_Makes.f k a (rdOf ByteArray.empty y 0)).bind fun t => if t = true then (impl_Makes.f k b (rdOf ByteArray.empty y 1)).bind fun u => jnGo k a b l u else jnGo k a b l false) else none := rfl
/-- The loop over the words made. -/
def wmGo (k : Nat) (p : List S31) (ws : List ByteArray) : List ByteArray → Option Bool
  | [] => some true
  | y :: r => (impl_Makes.f k p y).bind fun t => (impl_HasWord.f k ws y).bind fun t2 => if t = true ∧ t2 = true then wmGo k p ws r else none
theorem wmGo_cons (k : Nat) (p : List S31) (ws : List ByteArray) (y : ByteArray) (r : List ByteArray) : wmGo k p ws (y :: r) = (impl_Makes.f k p y).bind fun t => (impl_HasWord.f k ws y).bind fun t2 => if t = true ∧ t2 = true then wmGo k p ws r else none := rfl
/-- The last step, by its kind. -/
def laws_FnPlays.sw (k : Nat) (l : List S31) (w : ByteArray) (m : Bool) (x : S31) : Option Bool :=
  if x.f0 = 1 then some true else if 0 ≤ x.f2 ∧ x.f2 + 1 ≤ (l.length : Int) then
    if x.f0 = 2 then (impl_Backwards.f w).bind fun bw => (impl_Makes.f k (l.take (x.f2 + 1).toNat) bw).bind fun r => some (m == r)
    else if x.f0 = 3 then (impl_IsRearranged.f k (rd_T31 l x.f2).f1 w).bind fun r => some (m == r)
    else if x.f0 = 4 then (if 0 ≤ x.f3 ∧ x.f3 + 1 ≤ (l.length : Int) then (impl_SplitsOf.f k w).bind fun s => if s.length ≤ 1000 then (jnGo k (l.take (x.f2 + 1).toNat) (l.take (x.f3 + 1).toNat) s false).bind fun r => some (m == r) else none else none)
    else if x.f0 = 9 then (impl_IsInside.f k w (rd_T31 l x.f2).f1).bind fun r => some (m == r)
    else some true
  else none
/-- The play with a step back more. -/
def laws_FnPlays.tw (k : Nat) (l : List S31) (w : ByteArray) (m : Bool) : Option Bool := if l.length + 1 ≤ 9 then (impl_Backwards.f w).bind fun bw => (impl_Makes.f k (l ++ [⟨2, ⟨#[]⟩, (l.length : Int) - 1, 0⟩]) bw).bind fun r => some (r == m) else some true
def laws_FnPlays.rest (k : Nat) (l0 : List Int) : Option Bool := (spec_DrawWordsMade.f k l0).bind fun d => (impl_WordsMade.f k d.1 d.2).bind fun w => (wmGo k d.1 d.2 w).bind fun g => (impl_UsedWords.f k d.1).bind fun u => (impl_IsPlay.f k d.1).bind fun ip => (laws_within.f k w d.2).bind fun wi => (impl_IsPlain.f k d.1).bind fun pl => if g = true ∧ (w.length ≤ 1000 ∧ d.2.length ≤ 1000 ∧ u.length ≤ 1000) ∧ (ip = true → 0 < u.length ∧ wi = true ∧ w.length ≤ d.2.length) then some true else none
def laws_FnPlays.f (k : Nat) (l0 : List Int) : Option Bool := (laws_big.f l0).bind fun b => if b = true then some true else (spec_DrawMakes.f k l0).bind fun d => (impl_Makes.f k d.1 d.2).bind fun m => (impl_IsPlay.f k d.1).bind fun p1 => (spec_IsPlay.f k d.1).bind fun p2 => (impl_IsWord.f k d.2).bind fun wd => if p2 = p1 ∧ (m = true → p1 = true ∧ wd = true) ∧ d.1.length ≤ 100 then (if p1 = true ∧ wd = true then (if 1 ≤ d.1.length then (laws_FnPlays.sw k d.1 d.2 m (rd_T31 d.1 ((d.1.length : Int) - 1))).bind fun g1 => (laws_FnPlays.tw k d.1 d.2 m).bind fun g2 => if g1 = true ∧ g2 = true then laws_FnPlays.rest k l0 else none else none) else laws_FnPlays.rest k l0) else none
/-- What stands while the law runs: the steps. -/
structure PwW (w : World) (A : Option Addr) (l : List S31) (w' : World) : Prop where
  hl : Kd.C k31 w' A l.length l
  bl : Below w.heap.size w w'
theorem PwW.below {w : World} {A : Option Addr} {l : List S31} {w' w2 : World} (h : PwW w A l w') (hb : Below w'.heap.size w' w2) : PwW w A l w2 := ⟨Kd.C_below h.hl hb, below_step h.bl hb⟩
/-- .. and the last step's box. -/
structure PxW (w : World) (A : Option Addr) (l : List S31) (G : Nat) (x : S31) (w' : World) : Prop where
  hl : Kd.C k31 w' A l.length l
  bx : w'.heap[G]? = some (.cells #[.int .i64 x.f0, .string x.f1, .int .i64 x.f2, .int .i64 x.f3] 31 (0, 0))
  bl : Below w.heap.size w w'
theorem PxW.below {w : World} {A : Option Addr} {l : List S31} {G : Nat} {x : S31} {w' w2 : World} (h : PxW w A l G x w') (hb : Below w'.heap.size w' w2) : PxW w A l G x w2 := ⟨Kd.C_below h.hl hb, blk_below h.bx hb, below_step h.bl hb⟩
theorem PxW.pw {w : World} {A : Option Addr} {l : List S31} {G : Nat} {x : S31} {w' : World} (h : PxW w A l G x w') : PwW w A l w' := ⟨h.hl, h.bl⟩
theorem pl_box {w : World} {A : Option Addr} {l : List S31} {W : World} (h : PwW w A l W) (x : S31) : PxW w A l W.heap.size x (W.alloc (.cells #[.int .i64 x.f0, .string x.f1, .int .i64 x.f2, .int .i64 x.f3] 31)) := ⟨Kd.C_below h.hl (below_alloc (Below.refl _ _) _), blk_new W (.cells #[.int .i64 x.f0, .string x.f1, .int .i64 x.f2, .int .i64 x.f3] 31), below_alloc h.bl _⟩
theorem pl_boxG {w : World} {A : Option Addr} {l : List S31} {W : World} (h : PwW w A l W) (x : S31) : ∃ G, G = W.heap.size ∧ PxW w A l G x (W.alloc (.cells #[.int .i64 x.f0, .string x.f1, .int .i64 x.f2, .int .i64 x.f3] 31)) := ⟨_, rfl, pl_box h x⟩
/-- What stands at the end: the second draw's steps and words, the words made. -/
structure PsW (w : World) (A2 : Option Addr) (p : List S31) (A3 : Option Addr) (ws : List ByteArray) (A4 : Option Addr) (wm : List ByteArray) (w' : World) : Prop where
  hp : Kd.C k31 w' A2 p.length p
  hw : Kd.C Kd.string w' A3 ws.length ws
  hm : Kd.C Kd.string w' A4 wm.length wm
  bl : Below w.heap.size w w'
theorem PsW.below {w : World} {A2 : Option Addr} {p : List S31} {A3 : Option Addr} {ws : List ByteArray} {A4 : Option Addr} {wm : List ByteArray} {w' w2 : World} (h : PsW w A2 p A3 ws A4 wm w') (hb : Below w'.heap.size w' w2) : PsW w A2 p A3 ws A4 wm w2 := ⟨Kd.C_below h.hp hb, Kd.C_below h.hw hb, Kd.C_below h.hm hb, below_step h.bl hb⟩
theorem pl_y {W : World} {A : Option Addr} {l : List ByteArray} (h : Kd.C Kd.string W A l.length l) {i : Nat} (hi : i < l.length) {ad : Addr} (hA : A = some ad) {y : ByteArray} (hy : rdOf ByteArray.empty l (i : Int) = y) : W.cell? (ad.add i) = some (.string y) := by
  obtain ⟨ad2, e1, h1⟩ := Kd.at_string h (i : Int) (by omega) (by omega)
  obtain rfl := Option.some.inj (hA.symm.trans e1)
  rw [hy] at h1
  simp only [Int.toNat_natCast] at h1
  exact h1
theorem pl_drewN {w w' : World} {n : Nat} (h : w' = w.drewN n) : Below w.heap.size w w' := h ▸ pw_below_drewN (Below.refl _ _) n
theorem pl_x {W : World} {A : Option Addr} {l : List S31} (h : Kd.C k31 W A l.length l) {i : Nat} (hi : i < l.length) {ad : Addr} (hA : A = some ad) {x : S31} (hx : rd_T31 l (i : Int) = x) : W.cell? (ad.add (i * 4)) = some (.int .i64 x.f0) ∧ W.cell? ⟨(ad.add (i * 4)).block, (ad.add (i * 4)).off + 1, none⟩ = some (.string x.f1) ∧ W.cell? ⟨(ad.add (i * 4)).block, (ad.add (i * 4)).off + 2, none⟩ = some (.int .i64 x.f2) ∧ W.cell? ⟨(ad.add (i * 4)).block, (ad.add (i * 4)).off + 3, none⟩ = some (.int .i64 x.f3) := by
  obtain ⟨ad2, e1, h1⟩ := at_T31 h (i : Int) (by omega) (by omega)
  obtain rfl := Option.some.inj (hA.symm.trans e1)
  rw [hx] at h1
  simp only [Int.toNat_natCast] at h1
  exact h1
theorem pl_parts {c1 c2 : Prop} [Decidable c1] [Decidable c2] {a b r : Option Bool} {r_ : Bool} (h : (if c1 then (if c2 then a.bind fun g1 => b.bind fun g2 => if g1 = true ∧ g2 = true then r else none else none) else r) = some r_) : r = some r_ ∧ (c1 → c2 ∧ a = some true ∧ b = some true) := by
  by_cases h1 : c1
  · rw [if_pos h1] at h
    by_cases h2 : c2
    · rw [if_pos h2] at h
      obtain ⟨g1, e1, h⟩ := Option.bind_eq_some_iff.mp h
      obtain ⟨g2, e2, h⟩ := Option.bind_eq_some_iff.mp h
      by_cases h3 : g1 = true ∧ g2 = true
      · rw [if_pos h3] at h
        rw [h3.1] at e1
        rw [h3.2] at e2
        exact ⟨h, fun _ => ⟨h2, e1, e2⟩⟩
      · rw [if_neg h3] at h
        cases h
    · rw [if_neg h2] at h
      cases h
  · rw [if_neg h1] at h
    exact ⟨h, fun h2 => absurd h2 h1⟩
theorem pl_eq {o : Option Bool} {m : Bool} (h : (o.bind fun r => some (m == r)) = some true) : o = some m := by
  obtain ⟨r, e, h⟩ := Option.bind_eq_some_iff.mp h
  have := beq_iff_eq.1 (Option.some.inj h)
  rw [e, this]
theorem pl_cells {W : World} {A : Option Addr} {y : List ByteArray} (h : Kd.C Kd.string W A y.length y) (h2 : y.length = 2) : ∃ bk o, A = some ⟨bk, o, none⟩ ∧ W.cell? ⟨bk, o, none⟩ = some (.string (rdOf ByteArray.empty y 0)) ∧ W.cell? ⟨bk, o + 1, none⟩ = some (.string (rdOf ByteArray.empty y 1)) := by
  obtain ⟨ad, e1, hx⟩ := Kd.at_string h 0 (by omega) (by omega)
  obtain ⟨ad2, e2, hy⟩ := Kd.at_string h 1 (by omega) (by omega)
  subst e1
  obtain rfl := Option.some.inj e2
  have hx0 : W.cell? ad = some (.string (rdOf ByteArray.empty y 0)) := hx
  have hs : ad.spot = none := by
    unfold World.cell? at hx0
    split at hx0
    · split at hx0
      · cases hx0
      · rename_i hn
        cases hsp : ad.spot with
        | none => rfl
        | some v => rw [hsp] at hn; simp at hn
    · cases hx0
  obtain ⟨bk, o, sp⟩ := ad
  simp only at hs
  subst hs
  exact ⟨bk, o, rfl, hx0, hy⟩
theorem pl_held {w : World} {A : Option Addr} {l : List S31} {G : Nat} {x0 a b : Int} {x1 : ByteArray} {W W5 : World} {r : Addr} {v : Value} {bk o5 : Nat} {s1 s2 : ByteArray} (h : PxW w A l G ⟨x0, x1, a, b⟩ W) (hb : Below W5.heap.size W5 W) (h0 : W5.cell? r = some v) (h1 : W5.cell? ⟨bk, o5, none⟩ = some (.string s1)) (h2 : W5.cell? ⟨bk, o5 + 1, none⟩ = some (.string s2)) : W.cell? ⟨G, 3, none⟩ = some (.int .i64 b) ∧ W.cell? r = some v ∧ W.cell? ⟨bk, o5, none⟩ = some (.string s1) ∧ W.cell? ⟨bk, o5 + 1, none⟩ = some (.string s2) := ⟨(blk_cell h.bx 3).trans rfl, pw_cell_below hb h0, pw_cell_below hb h1, pw_cell_below hb h2⟩
theorem pl_len {l : List S31} {x : S31} : (l ++ [x]).length = l.length + 1 := by simp
theorem pl_eq2 {o : Option Bool} {m : Bool} (h : (o.bind fun r => some (r == m)) = some true) : o = some m := by
  obtain ⟨r, e, h⟩ := Option.bind_eq_some_iff.mp h
  have := beq_iff_eq.1 (Option.some.inj h)
  rw [e, this]
theorem pl_more {k : Nat} {l : List S31} {x : S31} {s : ByteArray} {r : Bool} (A : Option Addr) (c : Nat) (W : World) (hC : Kd.C k31 W A (l ++ [x]).length (l ++ [x])) (hc : (l ++ [x]).length ≤ c) (h : impl_Makes.f k (l ++ [x]) s = some r) : Calls Try.prog 9 #[.slice A (l.length + 1) c, .string s] W fun e w' => e = .returned (.bool r) ∧ Below W.heap.size W w' := by
  have := impl_Makes.calls k A c (l ++ [x]) s r W hC hc h
  rw [pl_len] at this
  exact this
theorem pl_take {w : World} {k : Nat} {A : Option Addr} {c : Nat} {l : List S31} {a : Nat} (ha : a + 1 ≤ l.length) (hc : l.length ≤ c) {s : ByteArray} {r : Bool} (h : impl_Makes.f k (l.take (a + 1)) s = some r) : ∀ W : World, Kd.C k31 W A l.length l → Calls Try.prog 9 #[.slice A (a + 1) c, .string s] W fun e w' => e = .returned (.bool r) ∧ Below W.heap.size W w' := by
  intro W hC
  have hl : (l.take (a + 1)).length = a + 1 := by rw [List.length_take]; omega
  have := impl_Makes.calls k A c (l.take (a + 1)) s r W (Kd.C_take hC ha) (by omega) h
  rw [hl] at this
  exact this
set_option maxHeartbeats 40000000 in
set_option maxRecDepth 100000 in
theorem laws_FnPlays.calls (k : Nat) (A0 : Option Addr) (c0_ : Nat) (l0 : List Int) (r_ : Bool) (w : World) (hr0 : Kd.C (Kd.int .u8) w A0 l0.length l0) (hc0 : l0.length ≤ c0_) (h : laws_FnPlays.f k l0 = some r_) :
    Calls Try.prog 3 #[.slice A0 l0.length c0_] w fun e w' => e = .returned (.bool r_) ∧ Below w.heap.size w w' := by
  unfold laws_FnPlays.f at h
  obtain ⟨b, hb, hz_⟩ := Option.bind_eq_some_iff.mp h
  clear h; have h := hz_; clear hz_
  have KB := Aside0.mk (fun W hC => laws_big.calls A0 c0_ l0 b W hC hc0 hb)
  have HP := Aside0.mk hr0
  have HPC := Aside0.mk hc0
  clear hr0 hc0 hb
  cases b with
  | true =>
    rw [if_pos rfl] at h
    obtain rfl := Option.some.inj h
    clear h
    go_enter Try.func3, Try.ntmps3
    go_wp2_with fail
    go_at_call 7
    refine (KB.out _ HP.out).mono ?_
    rintro e w' ⟨rfl, nd, rfl⟩
    go_wp2
    go_ret
    exact ⟨rfl, pw_below_drewN (Below.refl _ _) _⟩
  | false =>
    rw [if_neg (by simp)] at h
    obtain ⟨⟨l, wd⟩, ha, hz_⟩ := Option.bind_eq_some_iff.mp h
    clear h; have h := hz_; clear hz_
    obtain ⟨m, hm, hz_⟩ := Option.bind_eq_some_iff.mp h
    clear h; have h := hz_; clear hz_
    obtain ⟨p1, hp1, hz_⟩ := Option.bind_eq_some_iff.mp h
    clear h; have h := hz_; clear hz_
    obtain ⟨p2, hp2, hz_⟩ := Option.bind_eq_some_iff.mp h
    clear h; have h := hz_; clear hz_
    obtain ⟨iw, hiw, hz_⟩ := Option.bind_eq_some_iff.mp h
    clear h; have h := hz_; clear hz_
    by_cases hcc : p2 = p1 ∧ (m = true → p1 = true ∧ iw = true) ∧ l.length ≤ 100
    · rw [if_pos hcc] at h
      obtain ⟨hrs, hsw⟩ := pl_parts h
      clear h
      obtain ⟨rfl, hmp, hl1⟩ := hcc
      have HRS := Aside0.mk hrs
      have HSW := Aside0.mk hsw
      have HMP := Aside0.mk hmp
      have HL1 := Aside0.mk hl1
      have KD := Aside0.mk (fun W hC => spec_DrawMakes.calls k A0 c0_ l0 l wd W hC HPC.out ha)
      have KM := Aside0.mk (fun A c W h1 h2 => impl_Makes.calls k A c l wd m W h1 h2 hm)
      have KP1 := Aside0.mk (fun A c W h1 h2 => impl_IsPlay.calls k A c l p2 W h1 h2 hp1)
      have KP2 := Aside0.mk (fun A c W h1 h2 => spec_IsPlay.calls k A c l p2 W h1 h2 hp2)
      have KW := Aside0.mk (fun W => impl_IsWord.calls k wd iw W hiw)
      clear hrs hsw hmp hl1 ha hm hp1 hp2 hiw
      go_enter Try.func3, Try.ntmps3
      go_wp2_with fail
      go_at_call 7
      refine (KB.out _ HP.out).mono ?_
      rintro e w' ⟨rfl, nd, rfl⟩
      have HB1 := Aside0.mk (pw_below_drewN (Below.refl w.heap.size w) nd)
      clear KB
      generalize w.drewN nd = w1_ at HB1 ⊢
      go_wp2_with fail
      go_at_call 8
      refine (KD.out _ (Kd.C_below HP.out HB1.out)).mono ?_
      rintro e w2 ⟨v0, rfl, hr, hb⟩
      obtain ⟨A, cA, rfl⟩ := Kd.R_slice hr
      have HCL := Aside0.mk (Kd.R_reads' hr).2.1
      have HF := Aside0.mk (show PwW w A l w2 from ⟨(Kd.R_reads' hr).2.2, below_step HB1.out hb⟩)
      clear hb hr KD HB1
      go_wp2_with fail
      go_at_call 9
      refine (KM.out _ _ _ HF.out.hl HCL.out).mono ?_
      rintro e wa ⟨rfl, hb9⟩
      have HG := Aside0.mk (HF.out.below hb9)
      clear HF hb9
      have HF := HG
      clear HG
      go_wp2_with fail
      go_at_call 10
      refine (KP1.out _ _ _ HF.out.hl HCL.out).mono ?_
      rintro e wa ⟨rfl, hb9⟩
      have HG := Aside0.mk (HF.out.below hb9)
      clear HF hb9
      have HF := HG
      clear HG
      go_wp2_with fail
      go_at_call 11
      refine (KP2.out _ _ _ HF.out.hl HCL.out).mono ?_
      rintro e wa ⟨rfl, hb9⟩
      have HG := Aside0.mk (HF.out.below hb9)
      clear HF hb9
      have HF := HG
      clear HG
      go_upto_region 7 with fail
      go_cut [42] (fun v42 w' => v42 = .bool false ∧ Aside0 (PwW w A l w'))
      case first => as_aux_lemma =>
        cases m with
        | false =>
          go_wp2_with fail
          go_meet
          (case rel => exact ⟨by simp, HF⟩)
        | true =>
          obtain ⟨rfl, rfl⟩ := HMP.out rfl
          go_wp2_with fail
          go_at_call 10
          refine (KP1.out _ _ _ HF.out.hl HCL.out).mono ?_
          rintro e wa ⟨rfl, hb9⟩
          have HG := Aside0.mk (HF.out.below hb9)
          clear HF hb9
          have HF := HG
          clear HG
          go_wp2_with fail
          go_at_call 12
          refine (KW.out _).mono ?_
          rintro e wa ⟨rfl, nd9, hdr⟩
          have hb9 := pl_drewN hdr
          clear hdr
          have HG := Aside0.mk (HF.out.below hb9)
          clear HF hb9
          have HF := HG
          clear HG
          go_wp2_with fail
          go_meet
          (case rel => exact ⟨by simp, HF⟩)
      case rest =>
        obtain ⟨rfl, HF2⟩ := hcut
        clear HF
        have HF := HF2
        clear HF2
        go_upto_region 9 with fail
        go_cut [48] (fun v48 w' => v48 = .bool (p2 && iw) ∧ Aside0 (PwW w A l w'))
        case first => as_aux_lemma =>
          cases p2 with
          | false =>
            go_wp2_with fail
            go_at_call 10
            refine (KP1.out _ _ _ HF.out.hl HCL.out).mono ?_
            rintro e wa ⟨rfl, hb9⟩
            have HG := Aside0.mk (HF.out.below hb9)
            clear HF hb9
            have HF := HG
            clear HG
            go_wp2_with fail
            go_meet
            (case rel => exact ⟨by simp, HF⟩)
          | true =>
            go_wp2_with fail
            go_at_call 10
            refine (KP1.out _ _ _ HF.out.hl HCL.out).mono ?_
            rintro e wa ⟨rfl, hb9⟩
            have HG := Aside0.mk (HF.out.below hb9)
            clear HF hb9
            have HF := HG
            clear HG
            go_wp2_with fail
            go_at_call 12
            refine (KW.out _).mono ?_
            rintro e wa ⟨rfl, nd9, hdr⟩
            have hb9 := pl_drewN hdr
            clear hdr
            have HG := Aside0.mk (HF.out.below hb9)
            clear HF hb9
            have HF := HG
            clear HG
            go_wp2_with fail
            go_meet
            (case rel => exact ⟨by simp, HF⟩)
        case rest =>
          obtain ⟨rfl, HF2⟩ := hcut
          clear HF KP1 KP2 KW KM HMP
          have HF := HF2
          clear HF2
          apply_assumption
          go_cut [] (fun w' => Aside0 (PwW w A l w'))
          case first => as_aux_lemma =>
            by_cases hpw : p2 = true ∧ iw = true
            · obtain ⟨rfl, rfl⟩ := hpw
              have HSWX := HSW.out ⟨rfl, rfl⟩
              clear HSW
              obtain ⟨hn1, hsw, htw⟩ := HSWX
              have HTX := Aside0.mk htw
              have HN1 := Aside0.mk hn1
              generalize hx : rd_T31 l ((l.length : Int) - 1) = x at hsw
              obtain ⟨x0, x1, x2, x3⟩ := x
              have HSX := Aside0.mk hsw
              obtain ⟨ad, eA, _⟩ := at_T31 HF.out.hl 0 (by omega) (by omega)
              cases eA
              rw [show (l.length : Int) - 1 = ((l.length - 1 : Nat) : Int) by omega] at hx
              obtain ⟨hx0, hx1, hx2, hx3⟩ := pl_x HF.out.hl (i := l.length - 1) (by omega) rfl hx
              simp only at hx0 hx1 hx2 hx3
              have hll := HL1.out
              have wl1 : IntKind.i64.wrap ((l.length : Int) - 1) = (l.length : Int) - 1 := IntWalk.i64_in _ (by omega)
              have pl1 : (0 ≤ (l.length : Int) - 1) = True := eq_true (by omega)
              have ql1 : ((l.length : Int) - 1 < (l.length : Int)) = True := eq_true (by omega)
              have tl1 : ((l.length : Int) - 1).toNat = l.length - 1 := by omega
              obtain ⟨G, hG, hX⟩ := pl_boxG HF.out ⟨x0, x1, x2, x3⟩
              have HX := Aside0.mk hX
              clear hX
              clear hx hsw htw
              go_upto_region 11 with fail
              clear HF hx0 hx1 hx2 hx3 wl1 pl1 ql1 tl1
              have HF := HX
              clear HX
              rw [← hG]
              clear hG
              have bc0 := (blk_cell HF.out.bx 0).trans rfl
              have bc1 := (blk_cell HF.out.bx 1).trans rfl
              have bc2 := (blk_cell HF.out.bx 2).trans rfl
              have bc3 := (blk_cell HF.out.bx 3).trans rfl
              go_cut [57] (fun v57 w' => v57 = .bool (x0 != 1) ∧ Aside0 (PxW w (some ad) l G ⟨x0, x1, x2, x3⟩ w'))
              case first => as_aux_lemma =>
                go_wp2_with fail
                go_meet
                (case rel => exact ⟨by simp, HF⟩)
              case rest =>
                obtain ⟨rfl, HF2⟩ := hcut
                clear HF bc0 bc1 bc2 bc3
                have HF := HF2
                clear HF2
                have bc0 := (blk_cell HF.out.bx 0).trans rfl
                have bc1 := (blk_cell HF.out.bx 1).trans rfl
                have bc2 := (blk_cell HF.out.bx 2).trans rfl
                have bc3 := (blk_cell HF.out.bx 3).trans rfl
                apply_assumption
                go_cut [] (fun w' => Aside0 (PxW w (some ad) l G ⟨x0, x1, x2, x3⟩ w'))
                case first => as_aux_lemma =>
                  by_cases c1 : x0 = 1
                  · subst c1
                    go_wp2_with fail
                    go_meet
                    (case rel => exact HF)
                  · have e1 : (x0 != 1) = true := bne_iff_ne.mpr c1
                    have e1b : (x0 == 1) = false := beq_eq_false_iff_ne.mpr c1
                    have hsw := HSX.out
                    clear HSX
                    unfold laws_FnPlays.sw at hsw
                    rw [if_neg c1] at hsw
                    by_cases cb : 0 ≤ x2 ∧ x2 + 1 ≤ (l.length : Int)
                    · rw [if_pos cb] at hsw
                      obtain ⟨a, rfl⟩ := Int.eq_ofNat_of_zero_le cb.1
                      have hal : a < l.length := by omega
                      simp only [show ((a : Int) + 1).toNat = a + 1 by omega] at hsw
                      generalize hxa : rd_T31 l (a : Int) = xa at hsw
                      have HXA := Aside0.mk hxa
                      obtain ⟨xa0, xa1, xa2, xa3⟩ := pl_x HF.out.hl hal rfl HXA.out
                      have hcc := HCL.out
                      have hll := HL1.out
                      have wp1 : IntKind.i64.wrap ((a : Int) + 1) = (a : Int) + 1 := IntWalk.i64_in _ (by omega)
                      have p1 : (0 ≤ (a : Int)) = True := eq_true (by omega)
                      have q1 : ((a : Int) < (l.length : Int)) = True := eq_true (by omega)
                      have p2 : (0 ≤ (a : Int) + 1) = True := eq_true (by omega)
                      have q2 : ((a : Int) + 1 ≤ (cA : Int)) = True := eq_true (by omega)
                      have q3 : (a + 1 ≤ cA) = True := eq_true (by omega)
                      have q4 : ((a : Int) + 1).toNat = a + 1 := by omega
                      clear hxa cb
                      by_cases c2 : x0 = 2
                      · as_aux_lemma =>
                        subst c2
                        rw [if_pos rfl] at hsw
                        obtain ⟨bw, hbw, hz_⟩ := Option.bind_eq_some_iff.mp hsw
                        clear hsw; have hsw := hz_; clear hz_
                        have KB2 := Aside0.mk (fun W => impl_Backwards.calls wd bw W hbw)
                        have KM2 := Aside0.mk (pl_take (A := some ad) (w := w) (by omega : a + 1 ≤ l.length) HCL.out (pl_eq hsw))
                        clear hsw hbw
                        go_wp2_with fail
                        go_at_call 13
                        refine (KB2.out _).mono ?_
                        rintro e wa ⟨rfl, hb9⟩
                        have HG := Aside0.mk (HF.out.below hb9)
                        clear HF hb9 xa0 xa1 xa2 xa3 bc0 bc1 bc2 bc3
                        have HF := HG
                        clear HG
                        have bc0 := (blk_cell HF.out.bx 0).trans rfl
                        have bc1 := (blk_cell HF.out.bx 1).trans rfl
                        have bc2 := (blk_cell HF.out.bx 2).trans rfl
                        have bc3 := (blk_cell HF.out.bx 3).trans rfl
                        obtain ⟨xa0, xa1, xa2, xa3⟩ := pl_x HF.out.hl hal rfl HXA.out
                        go_wp2_with fail
                        go_at_call 9
                        refine (KM2.out _ HF.out.hl).mono ?_
                        rintro e wa ⟨rfl, hb9⟩
                        have HG := Aside0.mk (HF.out.below hb9)
                        clear HF hb9 xa0 xa1 xa2 xa3 bc0 bc1 bc2 bc3
                        have HF := HG
                        clear HG
                        have bc0 := (blk_cell HF.out.bx 0).trans rfl
                        have bc1 := (blk_cell HF.out.bx 1).trans rfl
                        have bc2 := (blk_cell HF.out.bx 2).trans rfl
                        have bc3 := (blk_cell HF.out.bx 3).trans rfl
                        obtain ⟨xa0, xa1, xa2, xa3⟩ := pl_x HF.out.hl hal rfl HXA.out
                        go_wp2_with fail
                        go_meet
                        (case rel => exact HF)
                      · rw [if_neg c2] at hsw
                        have e2 : (x0 == 2) = false := beq_eq_false_iff_ne.mpr c2
                        by_cases c3 : x0 = 3
                        · as_aux_lemma =>
                          subst c3
                          rw [if_pos rfl] at hsw
                          have KR := Aside0.mk (fun W => impl_IsRearranged.calls k xa.f1 wd m W (pl_eq hsw))
                          clear hsw
                          go_wp2_with fail
                          go_at_call 14
                          refine (KR.out _).mono ?_
                          rintro e wa ⟨rfl, hb9⟩
                          have HG := Aside0.mk (HF.out.below hb9)
                          clear HF hb9 xa0 xa1 xa2 xa3 bc0 bc1 bc2 bc3
                          have HF := HG
                          clear HG
                          have bc0 := (blk_cell HF.out.bx 0).trans rfl
                          have bc1 := (blk_cell HF.out.bx 1).trans rfl
                          have bc2 := (blk_cell HF.out.bx 2).trans rfl
                          have bc3 := (blk_cell HF.out.bx 3).trans rfl
                          obtain ⟨xa0, xa1, xa2, xa3⟩ := pl_x HF.out.hl hal rfl HXA.out
                          go_wp2_with fail
                          go_meet
                          (case rel => exact HF)
                        · rw [if_neg c3] at hsw
                          have e3 : (x0 == 3) = false := beq_eq_false_iff_ne.mpr c3
                          by_cases c4 : x0 = 4
                          · as_aux_lemma =>
                            subst c4
                            rw [if_pos rfl] at hsw
                            by_cases cb3 : 0 ≤ x3 ∧ x3 + 1 ≤ (l.length : Int)
                            · rw [if_pos cb3] at hsw
                              obtain ⟨b, rfl⟩ := Int.eq_ofNat_of_zero_le cb3.1
                              have hbl : b < l.length := by omega
                              simp only [show ((b : Int) + 1).toNat = b + 1 by omega] at hsw
                              obtain ⟨sp, hsp, hz_⟩ := Option.bind_eq_some_iff.mp hsw
                              clear hsw; have hsw := hz_; clear hz_
                              by_cases hs1 : sp.length ≤ 1000
                              · rw [if_pos hs1] at hsw
                                have HJ := Aside0.mk (show jnGo k (l.take (a + 1)) (l.take (b + 1)) (sp.drop 0) false = some m from pl_eq hsw)
                                have KS := Aside0.mk (fun W => impl_SplitsOf.calls k wd sp W hsp)
                                have HS1 := Aside0.mk hs1
                                have wp2 : IntKind.i64.wrap ((b : Int) + 1) = (b : Int) + 1 := IntWalk.i64_in _ (by omega)
                                have p5 : (0 ≤ (b : Int) + 1) = True := eq_true (by omega)
                                have q5 : ((b : Int) + 1 ≤ (cA : Int)) = True := eq_true (by omega)
                                have q6 : (b + 1 ≤ cA) = True := eq_true (by omega)
                                have q7 : ((b : Int) + 1).toNat = b + 1 := by omega
                                clear hsw hsp hs1 cb3
                                go_wp2_with fail
                                go_at_call 15
                                refine (KS.out _).mono ?_
                                rintro e w5 ⟨v_, rfl, hs_, hb9⟩
                                obtain ⟨A5, c5, rfl⟩ := Kd.S_slice hs_
                                have HS := Aside0.mk (Kd.S_reads' hs_).2.2
                                have HG := Aside0.mk (HF.out.below hb9)
                                clear hs_ HF hb9 xa0 xa1 xa2 xa3 bc0 bc1 bc2 bc3
                                have HF := HG
                                clear HG
                                go_wp2
                                go_loopg [8, 10] sp.length (fun kq v8 v10 w' => ∃ (i : Nat) (o : Bool), v8 = .bool o ∧ v10 = .int .i64 (i : Int) ∧ Aside0 (i ≤ sp.length) ∧ Aside0 (sp.length - i ≤ kq) ∧ Aside0 (jnGo k (l.take (a + 1)) (l.take (b + 1)) (sp.drop i) o = some m) ∧ Aside0 (PxW w (some ad) l G ⟨4, x1, (a : Int), (b : Int)⟩ w') ∧ Aside0 (Below w5.heap.size w5 w'))
                                case atStart => exact ⟨0, false, rfl, rfl, ⟨Nat.zero_le _⟩, ⟨by omega⟩, HJ, HF, ⟨Below.refl _ _⟩⟩
                                case round =>
                                  clear HJ HF
                                  obtain ⟨i, o, rfl, rfl, hi, hk, heq, HF, HW⟩ := hrel
                                  have hsl := HS1.out
                                  by_cases hlt : i < sp.length
                                  · have cb0 : decide ((i : Int) < (sp.length : Int)) = true := by simp; exact hlt
                                    have cb1 : decide (i < sp.length) = true := decide_eq_true hlt
                                    have heq' := heq.out
                                    rw [List.drop_eq_getElem_cons hlt, jnGo_cons] at heq'
                                    obtain ⟨ad5, Ai, ci, eI, hx, hle, hC⟩ := at_L5 HS.out (i : Int) (by omega) (by omega)
                                    cases eI
                                    have hcr : rd_L5 sp (i : Int) = sp[i] := by
                                      unfold rd_L5
                                      simp [hlt]
                                    rw [hcr] at hx hC hle
                                    simp only [Int.toNat_natCast] at hx
                                    generalize sp[i] = y at hx hC hle heq' hcr
                                    by_cases hy2 : y.length = 2
                                    · rw [if_pos hy2] at heq'
                                      obtain ⟨bk, o5, rfl, hu, hv⟩ := pl_cells hC hy2
                                      rw [hy2] at hx
                                      generalize rdOf ByteArray.empty y 0 = s1 at heq' hu
                                      generalize rdOf ByteArray.empty y 1 = s2 at heq' hv
                                      have HR0 := Aside0.mk hx
                                      have HR1 := Aside0.mk hu
                                      have HR2 := Aside0.mk hv
                                      have HLT := Aside0.mk hlt
                                      have p6 : (0 ≤ (i : Int)) = True := eq_true (by omega)
                                      have q8 : ((i : Int) < (sp.length : Int)) = True := eq_true (by omega)
                                      clear heq hx hu hv hC hle hcr hy2
                                      cases o with
                                      | true => as_aux_lemma =>
                                        rw [if_pos rfl] at heq'
                                        have HE := Aside0.mk heq'
                                        clear heq'
                                        go_wp2
                                        go_quiet (fail)
                                        have HF9 := Aside0.mk (HF.out.below (pw_below_drewN (Below.refl _ _) nq))
                                        have HW9 := Aside0.mk (below_step HW.out (pw_below_drewN (Below.refl _ _) nq))
                                        clear HF HW
                                        go_wp2
                                        go_roundg (sp.length - (i + 1))
                                        case measure => have := hk.out; have := HLT.out; omega
                                        case rel => exact ⟨i + 1, true, rfl, by simp, ⟨by have := HLT.out; omega⟩, ⟨Nat.le_refl _⟩, HE, HF9, HW9⟩
                                      | false =>
                                        rw [if_neg (by simp)] at heq'
                                        obtain ⟨t, ht, hz_⟩ := Option.bind_eq_some_iff.mp heq'
                                        clear heq'; have heq' := hz_; clear hz_
                                        have KMa := Aside0.mk (pl_take (A := some ad) (w := w) (by omega : a + 1 ≤ l.length) HCL.out ht)
                                        cases t with
                                        | true => as_aux_lemma =>
                                          rw [if_pos rfl] at heq'
                                          obtain ⟨u2, hu2, hz_⟩ := Option.bind_eq_some_iff.mp heq'
                                          clear heq'; have heq' := hz_; clear hz_
                                          have KMb := Aside0.mk (pl_take (A := some ad) (w := w) (by omega : b + 1 ≤ l.length) HCL.out hu2)
                                          have HE := Aside0.mk heq'
                                          clear heq' ht hu2
                                          go_upto_region 26 with fail
                                          have HX0 := Aside0.mk (HF.out.below (below_drew (Below.refl _ _)))
                                          have HY0 := Aside0.mk (below_step HW.out (below_drew (Below.refl _ _)))
                                          clear HF HW
                                          refine wp_region_held_drew (S := fun w' => w'.cell? ⟨G, 3, none⟩ = some (.int .i64 (b : Int)) ∧ w'.cell? (ad5.add i) = some (.slice (some ⟨bk, o5, none⟩) 2 ci) ∧ w'.cell? ⟨bk, o5, none⟩ = some (.string s1) ∧ w'.cell? ⟨bk, o5 + 1, none⟩ = some (.string s2)) (by kernel_rfl) (pl_held HX0.out HY0.out HR0.out HR1.out HR2.out) (fun hHeld => ?_)
                                          refine wpAnyH_take (i := 0) (oi := ⟨some 95, _, _, _, _, _⟩) (v := ?_) rfl (by kernel_rfl) (by kernel_rfl) (by kernel_rfl) (fun _ _ _ h => h) (Or.inl ⟨by rfl, ?_⟩) (by assumption) ?_
                                          rotate_left
                                          · intro w_ hSw
                                            (try dsimp only at hSw)
                                            first | (go_simp; done) | (go_simp; with_reducible rfl)
                                          (try simp only [Act.put, List.setIfInBounds_toArray, List.set_cons_zero, List.set_cons_succ])
                                          refine wpAnyH_take (i := 1) (oi := ⟨some 96, _, _, _, _, _⟩) (v := ?_) rfl (by kernel_rfl) (by kernel_rfl) (by kernel_rfl) (fun _ _ _ h => h) (Or.inl ⟨by rfl, ?_⟩) (by assumption) ?_
                                          rotate_left
                                          · intro w_ hSw
                                            (try dsimp only at hSw)
                                            first | (go_simp; done) | (go_simp; with_reducible rfl)
                                          (try simp only [Act.put, List.setIfInBounds_toArray, List.set_cons_zero, List.set_cons_succ])
                                          refine wpAnyH_take (i := 2) (oi := ⟨some 97, _, _, _, _, _⟩) (v := ?_) rfl (by kernel_rfl) (by kernel_rfl) (by kernel_rfl) (fun _ _ _ h => h) (Or.inl ⟨by rfl, ?_⟩) (by assumption) ?_
                                          rotate_left
                                          · intro w_ hSw
                                            (try dsimp only at hSw)
                                            first | (go_simp; done) | (go_simp; with_reducible rfl)
                                          (try simp only [Act.put, List.setIfInBounds_toArray, List.set_cons_zero, List.set_cons_succ])
                                          refine wpAnyH_take (i := 3) (oi := ⟨some 98, _, _, _, _, _⟩) (v := ?_) rfl (by kernel_rfl) (by kernel_rfl) (by kernel_rfl) (fun _ _ _ h => h) (Or.inl ⟨by rfl, ?_⟩) (by assumption) ?_
                                          rotate_left
                                          · intro w_ hSw
                                            (try dsimp only at hSw)
                                            first | (go_simp; done) | (go_simp; with_reducible rfl)
                                          (try simp only [Act.put, List.setIfInBounds_toArray, List.set_cons_zero, List.set_cons_succ])
                                          refine wpAnyH_take (i := 4) (oi := ⟨some 99, _, _, _, _, _⟩) (v := ?_) rfl (by kernel_rfl) (by kernel_rfl) (by kernel_rfl) (fun _ _ _ h => h) (Or.inl ⟨by rfl, ?_⟩) (by assumption) ?_
                                          rotate_left
                                          · intro w_ hSw
                                            (try dsimp only at hSw)
                                            first | (go_simp; done) | (go_simp; with_reducible rfl)
                                          (try simp only [Act.put, List.setIfInBounds_toArray, List.set_cons_zero, List.set_cons_succ])
                                          refine wpAnyH_take (i := 5) (oi := ⟨some 100, _, _, _, _, _⟩) (v := ?_) rfl (by kernel_rfl) (by kernel_rfl) (by kernel_rfl) (fun _ _ _ h => h) (Or.inl ⟨by rfl, ?_⟩) (by assumption) ?_
                                          rotate_left
                                          · intro w_ hSw
                                            (try dsimp only at hSw)
                                            first | (go_simp; done) | (go_simp; with_reducible rfl)
                                          (try simp only [Act.put, List.setIfInBounds_toArray, List.set_cons_zero, List.set_cons_succ])
                                          refine wpAnyH_take (i := 6) (oi := ⟨some 101, _, _, _, _, _⟩) (v := ?_) rfl (by kernel_rfl) (by kernel_rfl) (by kernel_rfl) (fun _ _ _ h => h) (Or.inl ⟨by rfl, ?_⟩) (by assumption) ?_
                                          rotate_left
                                          · intro w_ hSw
                                            (try dsimp only at hSw)
                                            first | (go_simp; done) | (go_simp; with_reducible rfl)
                                          (try simp only [Act.put, List.setIfInBounds_toArray, List.set_cons_zero, List.set_cons_succ])
                                          refine wpAnyH_take (i := 7) (oi := ⟨some 102, _, _, _, _, _⟩) (v := ?_) rfl (by kernel_rfl) (by kernel_rfl) (by kernel_rfl) (fun _ _ _ h => h) (Or.inl ⟨by rfl, ?_⟩) (by assumption) ?_
                                          rotate_left
                                          · intro w_ hSw
                                            (try dsimp only at hSw)
                                            first | (go_simp; done) | (go_simp; with_reducible rfl)
                                          (try simp only [Act.put, List.setIfInBounds_toArray, List.set_cons_zero, List.set_cons_succ])
                                          refine wpAnyH_take (i := 8) (oi := ⟨some 103, _, _, _, _, _⟩) (v := ?_) rfl (by kernel_rfl) (by kernel_rfl) (by kernel_rfl) (fun _ _ _ h => h) (Or.inl ⟨by rfl, ?_⟩) (by assumption) ?_
                                          rotate_left
                                          · intro w_ hSw
                                            (try dsimp only at hSw)
                                            first | (go_simp; done) | (go_simp; with_reducible rfl)
                                          (try simp only [Act.put, List.setIfInBounds_toArray, List.set_cons_zero, List.set_cons_succ])
                                          refine wpAnyH_ready (rs := [9]) (by kernel_rfl) (by simp) ?_
                                          refine AllReadyH.cons (o := ⟨some 104, _, _, _, _, _⟩) rfl (fun K_ hK_ => ?_) AllReadyH.nil
                                          go_simp
                                          go_at_call 9
                                          refine (KMa.out _ (HX0.out.hl)).mono ?_
                                          rintro e wa1 ⟨rfl, hb9⟩
                                          have HX1 := Aside0.mk (HX0.out.below hb9)
                                          have HY1 := Aside0.mk (below_step HY0.out hb9)
                                          clear hb9
                                          refine hK_.out _ _ (pl_held HX1.out HY1.out HR0.out HR1.out HR2.out) (fun hHeld2 => ?_)
                                          clear hK_ K_ hHeld
                                          have hHeld := hHeld2
                                          clear hHeld2
                                          (try simp only [Act.put, List.setIfInBounds_toArray, List.set_cons_zero, List.set_cons_succ])
                                          refine wpAnyH_take (i := 10) (oi := ⟨some 105, _, _, _, _, _⟩) (v := ?_) rfl (by kernel_rfl) (by kernel_rfl) (by kernel_rfl) (fun _ _ _ h => h) (Or.inl ⟨by rfl, ?_⟩) (by assumption) ?_
                                          rotate_left
                                          · intro w_ hSw
                                            (try dsimp only at hSw)
                                            first | (go_simp; done) | (go_simp; with_reducible rfl)
                                          (try simp only [Act.put, List.setIfInBounds_toArray, List.set_cons_zero, List.set_cons_succ])
                                          refine wpAnyH_take (i := 11) (oi := ⟨some 106, _, _, _, _, _⟩) (v := ?_) rfl (by kernel_rfl) (by kernel_rfl) (by kernel_rfl) (fun _ _ _ h => h) (Or.inl ⟨by rfl, ?_⟩) (by assumption) ?_
                                          rotate_left
                                          · intro w_ hSw
                                            (try dsimp only at hSw)
                                            first | (go_simp; done) | (go_simp; with_reducible rfl)
                                          (try simp only [Act.put, List.setIfInBounds_toArray, List.set_cons_zero, List.set_cons_succ])
                                          refine wpAnyH_take (i := 12) (oi := ⟨some 107, _, _, _, _, _⟩) (v := ?_) rfl (by kernel_rfl) (by kernel_rfl) (by kernel_rfl) (fun _ _ _ h => h) (Or.inl ⟨by rfl, ?_⟩) (by assumption) ?_
                                          rotate_left
                                          · intro w_ hSw
                                            (try dsimp only at hSw)
                                            first | (go_simp; done) | (go_simp; with_reducible rfl)
                                          (try simp only [Act.put, List.setIfInBounds_toArray, List.set_cons_zero, List.set_cons_succ])
                                          refine wpAnyH_take (i := 13) (oi := ⟨some 108, _, _, _, _, _⟩) (v := ?_) rfl (by kernel_rfl) (by kernel_rfl) (by kernel_rfl) (fun _ _ _ h => h) (Or.inl ⟨by rfl, ?_⟩) (by assumption) ?_
                                          rotate_left
                                          · intro w_ hSw
                                            (try dsimp only at hSw)
                                            first | (go_simp; done) | (go_simp; with_reducible rfl)
                                          (try simp only [Act.put, List.setIfInBounds_toArray, List.set_cons_zero, List.set_cons_succ])
                                          refine wpAnyH_take (i := 14) (oi := ⟨some 109, _, _, _, _, _⟩) (v := ?_) rfl (by kernel_rfl) (by kernel_rfl) (by kernel_rfl) (fun _ _ _ h => h) (Or.inl ⟨by rfl, ?_⟩) (by assumption) ?_
                                          rotate_left
                                          · intro w_ hSw
                                            (try dsimp only at hSw)
                                            first | (go_simp; done) | (go_simp; with_reducible rfl)
                                          (try simp only [Act.put, List.setIfInBounds_toArray, List.set_cons_zero, List.set_cons_succ])
                                          refine wpAnyH_take (i := 15) (oi := ⟨some 110, _, _, _, _, _⟩) (v := ?_) rfl (by kernel_rfl) (by kernel_rfl) (by kernel_rfl) (fun _ _ _ h => h) (Or.inl ⟨by rfl, ?_⟩) (by assumption) ?_
                                          rotate_left
                                          · intro w_ hSw
                                            (try dsimp only at hSw)
                                            first | (go_simp; done) | (go_simp; with_reducible rfl)
                                          (try simp only [Act.put, List.setIfInBounds_toArray, List.set_cons_zero, List.set_cons_succ])
                                          refine wpAnyH_take (i := 16) (oi := ⟨some 111, _, _, _, _, _⟩) (v := ?_) rfl (by kernel_rfl) (by kernel_rfl) (by kernel_rfl) (fun _ _ _ h => h) (Or.inl ⟨by rfl, ?_⟩) (by assumption) ?_
                                          rotate_left
                                          · intro w_ hSw
                                            (try dsimp only at hSw)
                                            first | (go_simp; done) | (go_simp; with_reducible rfl)
                                          (try simp only [Act.put, List.setIfInBounds_toArray, List.set_cons_zero, List.set_cons_succ])
                                          refine wpAnyH_take (i := 17) (oi := ⟨some 112, _, _, _, _, _⟩) (v := ?_) rfl (by kernel_rfl) (by kernel_rfl) (by kernel_rfl) (fun _ _ _ h => h) (Or.inl ⟨by rfl, ?_⟩) (by assumption) ?_
                                          rotate_left
                                          · intro w_ hSw
                                            (try dsimp only at hSw)
                                            first | (go_simp; done) | (go_simp; with_reducible rfl)
                                          (try simp only [Act.put, List.setIfInBounds_toArray, List.set_cons_zero, List.set_cons_succ])
                                          refine wpAnyH_take (i := 18) (oi := ⟨some 113, _, _, _, _, _⟩) (v := ?_) rfl (by kernel_rfl) (by kernel_rfl) (by kernel_rfl) (fun _ _ _ h => h) (Or.inl ⟨by rfl, ?_⟩) (by assumption) ?_
                                          rotate_left
                                          · intro w_ hSw
                                            (try dsimp only at hSw)
                                            first | (go_simp; done) | (go_simp; with_reducible rfl)
                                          (try simp only [Act.put, List.setIfInBounds_toArray, List.set_cons_zero, List.set_cons_succ])
                                          refine wpAnyH_take (i := 19) (oi := ⟨some 114, _, _, _, _, _⟩) (v := ?_) rfl (by kernel_rfl) (by kernel_rfl) (by kernel_rfl) (fun _ _ _ h => h) (Or.inl ⟨by rfl, ?_⟩) (by assumption) ?_
                                          rotate_left
                                          · intro w_ hSw
                                            (try dsimp only at hSw)
                                            first | (go_simp; done) | (go_simp; with_reducible rfl)
                                          (try simp only [Act.put, List.setIfInBounds_toArray, List.set_cons_zero, List.set_cons_succ])
                                          refine wpAnyH_take (i := 20) (oi := ⟨some 115, _, _, _, _, _⟩) (v := ?_) rfl (by kernel_rfl) (by kernel_rfl) (by kernel_rfl) (fun _ _ _ h => h) (Or.inl ⟨by rfl, ?_⟩) (by assumption) ?_
                                          rotate_left
                                          · intro w_ hSw
                                            (try dsimp only at hSw)
                                            first | (go_simp; done) | (go_simp; with_reducible rfl)
                                          (try simp only [Act.put, List.setIfInBounds_toArray, List.set_cons_zero, List.set_cons_succ])
                                          refine wpAnyH_take (i := 21) (oi := ⟨some 116, _, _, _, _, _⟩) (v := ?_) rfl (by kernel_rfl) (by kernel_rfl) (by kernel_rfl) (fun _ _ _ h => h) (Or.inl ⟨by rfl, ?_⟩) (by assumption) ?_
                                          rotate_left
                                          · intro w_ hSw
                                            (try dsimp only at hSw)
                                            first | (go_simp; done) | (go_simp; with_reducible rfl)
                                          (try simp only [Act.put, List.setIfInBounds_toArray, List.set_cons_zero, List.set_cons_succ])
                                          refine wpAnyH_ready (rs := [22]) (by kernel_rfl) (by simp) ?_
                                          refine AllReadyH.cons (o := ⟨some 117, _, _, _, _, _⟩) rfl (fun K_ hK_ => ?_) AllReadyH.nil
                                          go_simp
                                          go_at_call 9
                                          refine (KMb.out _ (HX1.out.hl)).mono ?_
                                          rintro e wa2 ⟨rfl, hb9⟩
                                          have HX2 := Aside0.mk (HX1.out.below hb9)
                                          have HY2 := Aside0.mk (below_step HY1.out hb9)
                                          clear hb9
                                          refine hK_.out _ _ (pl_held HX2.out HY2.out HR0.out HR1.out HR2.out) (fun hHeld2 => ?_)
                                          clear hK_ K_ hHeld
                                          have hHeld := hHeld2
                                          clear hHeld2
                                          (try simp only [Act.put, List.setIfInBounds_toArray, List.set_cons_zero, List.set_cons_succ])
                                          refine wpAnyH_take (i := 23) (oi := ⟨some 118, _, _, _, _, _⟩) (v := ?_) rfl (by kernel_rfl) (by kernel_rfl) (by kernel_rfl) (fun _ _ _ h => h) (Or.inl ⟨by rfl, ?_⟩) (by assumption) ?_
                                          rotate_left
                                          · intro w_ hSw
                                            (try dsimp only at hSw)
                                            first | (go_simp; done) | (go_simp; with_reducible rfl)
                                          (try simp only [Act.put, List.setIfInBounds_toArray, List.set_cons_zero, List.set_cons_succ])
                                          refine wpAnyH_take (i := 24) (oi := ⟨some 119, _, _, _, _, _⟩) (v := ?_) rfl (by kernel_rfl) (by kernel_rfl) (by kernel_rfl) (fun _ _ _ h => h) (Or.inl ⟨by rfl, ?_⟩) (by assumption) ?_
                                          rotate_left
                                          · intro w_ hSw
                                            (try dsimp only at hSw)
                                            first | (go_simp; done) | (go_simp; with_reducible rfl)
                                          (try simp only [Act.put, List.setIfInBounds_toArray, List.set_cons_zero, List.set_cons_succ])
                                          refine wpAnyH_take (i := 25) (oi := ⟨some 8, _, _, _, _, _⟩) (v := ?_) rfl (by kernel_rfl) (by kernel_rfl) (by kernel_rfl) (fun _ _ _ h => h) (Or.inl ⟨by rfl, ?_⟩) (by assumption) ?_
                                          rotate_left
                                          · intro w_ hSw
                                            (try dsimp only at hSw)
                                            first | (go_simp; done) | (go_simp; with_reducible rfl)
                                          (try simp only [Act.put, List.setIfInBounds_toArray, List.set_cons_zero, List.set_cons_succ])
                                          refine wpAnyH_done (by kernel_rfl) ?_ _
                                          go_wp2
                                          go_roundg (sp.length - (i + 1))
                                          case measure => have := hk.out; have := HLT.out; omega
                                          case rel => exact ⟨i + 1, u2, rfl, by simp, ⟨by have := HLT.out; omega⟩, ⟨Nat.le_refl _⟩, HE, HX2, HY2⟩
                                        | false => as_aux_lemma =>
                                          rw [if_neg (by simp)] at heq'
                                          have HE := Aside0.mk heq'
                                          clear heq' ht
                                          go_upto_region 26 with fail
                                          have HX0 := Aside0.mk (HF.out.below (below_drew (Below.refl _ _)))
                                          have HY0 := Aside0.mk (below_step HW.out (below_drew (Below.refl _ _)))
                                          clear HF HW
                                          refine wp_region_held_drew (S := fun w' => w'.cell? ⟨G, 3, none⟩ = some (.int .i64 (b : Int)) ∧ w'.cell? (ad5.add i) = some (.slice (some ⟨bk, o5, none⟩) 2 ci) ∧ w'.cell? ⟨bk, o5, none⟩ = some (.string s1) ∧ w'.cell? ⟨bk, o5 + 1, none⟩ = some (.string s2)) (by kernel_rfl) (pl_held HX0.out HY0.out HR0.out HR1.out HR2.out) (fun hHeld => ?_)
                                          refine wpAnyH_take (i := 0) (oi := ⟨some 95, _, _, _, _, _⟩) (v := ?_) rfl (by kernel_rfl) (by kernel_rfl) (by kernel_rfl) (fun _ _ _ h => h) (Or.inl ⟨by rfl, ?_⟩) (by assumption) ?_
                                          rotate_left
                                          · intro w_ hSw
                                            (try dsimp only at hSw)
                                            first | (go_simp; done) | (go_simp; with_reducible rfl)
                                          (try simp only [Act.put, List.setIfInBounds_toArray, List.set_cons_zero, List.set_cons_succ])
                                          refine wpAnyH_take (i := 1) (oi := ⟨some 96, _, _, _, _, _⟩) (v := ?_) rfl (by kernel_rfl) (by kernel_rfl) (by kernel_rfl) (fun _ _ _ h => h) (Or.inl ⟨by rfl, ?_⟩) (by assumption) ?_
                                          rotate_left
                                          · intro w_ hSw
                                            (try dsimp only at hSw)
                                            first | (go_simp; done) | (go_simp; with_reducible rfl)
                                          (try simp only [Act.put, List.setIfInBounds_toArray, List.set_cons_zero, List.set_cons_succ])
                                          refine wpAnyH_take (i := 2) (oi := ⟨some 97, _, _, _, _, _⟩) (v := ?_) rfl (by kernel_rfl) (by kernel_rfl) (by kernel_rfl) (fun _ _ _ h => h) (Or.inl ⟨by rfl, ?_⟩) (by assumption) ?_
                                          rotate_left
                                          · intro w_ hSw
                                            (try dsimp only at hSw)
                                            first | (go_simp; done) | (go_simp; with_reducible rfl)
                                          (try simp only [Act.put, List.setIfInBounds_toArray, List.set_cons_zero, List.set_cons_succ])
                                          refine wpAnyH_take (i := 3) (oi := ⟨some 98, _, _, _, _, _⟩) (v := ?_) rfl (by kernel_rfl) (by kernel_rfl) (by kernel_rfl) (fun _ _ _ h => h) (Or.inl ⟨by rfl, ?_⟩) (by assumption) ?_
                                          rotate_left
                                          · intro w_ hSw
                                            (try dsimp only at hSw)
                                            first | (go_simp; done) | (go_simp; with_reducible rfl)
                                          (try simp only [Act.put, List.setIfInBounds_toArray, List.set_cons_zero, List.set_cons_succ])
                                          refine wpAnyH_take (i := 4) (oi := ⟨some 99, _, _, _, _, _⟩) (v := ?_) rfl (by kernel_rfl) (by kernel_rfl) (by kernel_rfl) (fun _ _ _ h => h) (Or.inl ⟨by rfl, ?_⟩) (by assumption) ?_
                                          rotate_left
                                          · intro w_ hSw
                                            (try dsimp only at hSw)
                                            first | (go_simp; done) | (go_simp; with_reducible rfl)
                                          (try simp only [Act.put, List.setIfInBounds_toArray, List.set_cons_zero, List.set_cons_succ])
                                          refine wpAnyH_take (i := 5) (oi := ⟨some 100, _, _, _, _, _⟩) (v := ?_) rfl (by kernel_rfl) (by kernel_rfl) (by kernel_rfl) (fun _ _ _ h => h) (Or.inl ⟨by rfl, ?_⟩) (by assumption) ?_
                                          rotate_left
                                          · intro w_ hSw
                                            (try dsimp only at hSw)
                                            first | (go_simp; done) | (go_simp; with_reducible rfl)
                                          (try simp only [Act.put, List.setIfInBounds_toArray, List.set_cons_zero, List.set_cons_succ])
                                          refine wpAnyH_take (i := 6) (oi := ⟨some 101, _, _, _, _, _⟩) (v := ?_) rfl (by kernel_rfl) (by kernel_rfl) (by kernel_rfl) (fun _ _ _ h => h) (Or.inl ⟨by rfl, ?_⟩) (by assumption) ?_
                                          rotate_left
                                          · intro w_ hSw
                                            (try dsimp only at hSw)
                                            first | (go_simp; done) | (go_simp; with_reducible rfl)
                                          (try simp only [Act.put, List.setIfInBounds_toArray, List.set_cons_zero, List.set_cons_succ])
                                          refine wpAnyH_take (i := 7) (oi := ⟨some 102, _, _, _, _, _⟩) (v := ?_) rfl (by kernel_rfl) (by kernel_rfl) (by kernel_rfl) (fun _ _ _ h => h) (Or.inl ⟨by rfl, ?_⟩) (by assumption) ?_
                                          rotate_left
                                          · intro w_ hSw
                                            (try dsimp only at hSw)
                                            first | (go_simp; done) | (go_simp; with_reducible rfl)
                                          (try simp only [Act.put, List.setIfInBounds_toArray, List.set_cons_zero, List.set_cons_succ])
                                          refine wpAnyH_take (i := 8) (oi := ⟨some 103, _, _, _, _, _⟩) (v := ?_) rfl (by kernel_rfl) (by kernel_rfl) (by kernel_rfl) (fun _ _ _ h => h) (Or.inl ⟨by rfl, ?_⟩) (by assumption) ?_
                                          rotate_left
                                          · intro w_ hSw
                                            (try dsimp only at hSw)
                                            first | (go_simp; done) | (go_simp; with_reducible rfl)
                                          (try simp only [Act.put, List.setIfInBounds_toArray, List.set_cons_zero, List.set_cons_succ])
                                          refine wpAnyH_ready (rs := [9]) (by kernel_rfl) (by simp) ?_
                                          refine AllReadyH.cons (o := ⟨some 104, _, _, _, _, _⟩) rfl (fun K_ hK_ => ?_) AllReadyH.nil
                                          go_simp
                                          go_at_call 9
                                          refine (KMa.out _ (HX0.out.hl)).mono ?_
                                          rintro e wa1 ⟨rfl, hb9⟩
                                          have HX1 := Aside0.mk (HX0.out.below hb9)
                                          have HY1 := Aside0.mk (below_step HY0.out hb9)
                                          clear hb9
                                          refine hK_.out _ _ (pl_held HX1.out HY1.out HR0.out HR1.out HR2.out) (fun hHeld2 => ?_)
                                          clear hK_ K_ hHeld
                                          have hHeld := hHeld2
                                          clear hHeld2
                                          (try simp only [Act.put, List.setIfInBounds_toArray, List.set_cons_zero, List.set_cons_succ])
                                          refine wpAnyH_take (i := 10) (oi := ⟨some 105, _, _, _, _, _⟩) (v := ?_) rfl (by kernel_rfl) (by kernel_rfl) (by kernel_rfl) (fun _ _ _ h => h) (Or.inl ⟨by rfl, ?_⟩) (by assumption) ?_
                                          rotate_left
                                          · intro w_ hSw
                                            (try dsimp only at hSw)
                                            first | (go_simp; done) | (go_simp; with_reducible rfl)
                                          (try simp only [Act.put, List.setIfInBounds_toArray, List.set_cons_zero, List.set_cons_succ])
                                          refine wpAnyH_take (i := 11) (oi := ⟨some 106, _, _, _, _, _⟩) (v := undef) rfl (by kernel_rfl) (by kernel_rfl) (by kernel_rfl) (fun _ _ _ h => h) (Or.inr ⟨by rfl, rfl⟩) (by assumption) ?_
                                          (try simp only [Act.put, List.setIfInBounds_toArray, List.set_cons_zero, List.set_cons_succ])
                                          refine wpAnyH_take (i := 12) (oi := ⟨some 107, _, _, _, _, _⟩) (v := undef) rfl (by kernel_rfl) (by kernel_rfl) (by kernel_rfl) (fun _ _ _ h => h) (Or.inr ⟨by rfl, rfl⟩) (by assumption) ?_
                                          (try simp only [Act.put, List.setIfInBounds_toArray, List.set_cons_zero, List.set_cons_succ])
                                          refine wpAnyH_take (i := 13) (oi := ⟨some 108, _, _, _, _, _⟩) (v := undef) rfl (by kernel_rfl) (by kernel_rfl) (by kernel_rfl) (fun _ _ _ h => h) (Or.inr ⟨by rfl, rfl⟩) (by assumption) ?_
                                          (try simp only [Act.put, List.setIfInBounds_toArray, List.set_cons_zero, List.set_cons_succ])
                                          refine wpAnyH_take (i := 14) (oi := ⟨some 109, _, _, _, _, _⟩) (v := undef) rfl (by kernel_rfl) (by kernel_rfl) (by kernel_rfl) (fun _ _ _ h => h) (Or.inr ⟨by rfl, rfl⟩) (by assumption) ?_
                                          (try simp only [Act.put, List.setIfInBounds_toArray, List.set_cons_zero, List.set_cons_succ])
                                          refine wpAnyH_take (i := 15) (oi := ⟨some 110, _, _, _, _, _⟩) (v := undef) rfl (by kernel_rfl) (by kernel_rfl) (by kernel_rfl) (fun _ _ _ h => h) (Or.inr ⟨by rfl, rfl⟩) (by assumption) ?_
                                          (try simp only [Act.put, List.setIfInBounds_toArray, List.set_cons_zero, List.set_cons_succ])
                                          refine wpAnyH_take (i := 16) (oi := ⟨some 111, _, _, _, _, _⟩) (v := undef) rfl (by kernel_rfl) (by kernel_rfl) (by kernel_rfl) (fun _ _ _ h => h) (Or.inr ⟨by rfl, rfl⟩) (by assumption) ?_
                                          (try simp only [Act.put, List.setIfInBounds_toArray, List.set_cons_zero, List.set_cons_succ])
                                          refine wpAnyH_take (i := 17) (oi := ⟨some 112, _, _, _, _, _⟩) (v := undef) rfl (by kernel_rfl) (by kernel_rfl) (by kernel_rfl) (fun _ _ _ h => h) (Or.inr ⟨by rfl, rfl⟩) (by assumption) ?_
                                          (try simp only [Act.put, List.setIfInBounds_toArray, List.set_cons_zero, List.set_cons_succ])
                                          refine wpAnyH_take (i := 18) (oi := ⟨some 113, _, _, _, _, _⟩) (v := undef) rfl (by kernel_rfl) (by kernel_rfl) (by kernel_rfl) (fun _ _ _ h => h) (Or.inr ⟨by rfl, rfl⟩) (by assumption) ?_
                                          (try simp only [Act.put, List.setIfInBounds_toArray, List.set_cons_zero, List.set_cons_succ])
                                          refine wpAnyH_take (i := 19) (oi := ⟨some 114, _, _, _, _, _⟩) (v := undef) rfl (by kernel_rfl) (by kernel_rfl) (by kernel_rfl) (fun _ _ _ h => h) (Or.inr ⟨by rfl, rfl⟩) (by assumption) ?_
                                          (try simp only [Act.put, List.setIfInBounds_toArray, List.set_cons_zero, List.set_cons_succ])
                                          refine wpAnyH_take (i := 20) (oi := ⟨some 115, _, _, _, _, _⟩) (v := undef) rfl (by kernel_rfl) (by kernel_rfl) (by kernel_rfl) (fun _ _ _ h => h) (Or.inr ⟨by rfl, rfl⟩) (by assumption) ?_
                                          (try simp only [Act.put, List.setIfInBounds_toArray, List.set_cons_zero, List.set_cons_succ])
                                          refine wpAnyH_take (i := 21) (oi := ⟨some 116, _, _, _, _, _⟩) (v := undef) rfl (by kernel_rfl) (by kernel_rfl) (by kernel_rfl) (fun _ _ _ h => h) (Or.inr ⟨by rfl, rfl⟩) (by assumption) ?_
                                          (try simp only [Act.put, List.setIfInBounds_toArray, List.set_cons_zero, List.set_cons_succ])
                                          refine wpAnyH_take (i := 22) (oi := ⟨some 117, _, _, _, _, _⟩) (v := undef) rfl (by kernel_rfl) (by kernel_rfl) (by kernel_rfl) (fun _ _ _ h => h) (Or.inr ⟨by rfl, rfl⟩) (by assumption) ?_
                                          (try simp only [Act.put, List.setIfInBounds_toArray, List.set_cons_zero, List.set_cons_succ])
                                          refine wpAnyH_take (i := 23) (oi := ⟨some 118, _, _, _, _, _⟩) (v := ?_) rfl (by kernel_rfl) (by kernel_rfl) (by kernel_rfl) (fun _ _ _ h => h) (Or.inl ⟨by rfl, ?_⟩) (by assumption) ?_
                                          rotate_left
                                          · intro w_ hSw
                                            (try dsimp only at hSw)
                                            first | (go_simp; done) | (go_simp; with_reducible rfl)
                                          (try simp only [Act.put, List.setIfInBounds_toArray, List.set_cons_zero, List.set_cons_succ])
                                          refine wpAnyH_take (i := 24) (oi := ⟨some 119, _, _, _, _, _⟩) (v := ?_) rfl (by kernel_rfl) (by kernel_rfl) (by kernel_rfl) (fun _ _ _ h => h) (Or.inl ⟨by rfl, ?_⟩) (by assumption) ?_
                                          rotate_left
                                          · intro w_ hSw
                                            (try dsimp only at hSw)
                                            first | (go_simp; done) | (go_simp; with_reducible rfl)
                                          (try simp only [Act.put, List.setIfInBounds_toArray, List.set_cons_zero, List.set_cons_succ])
                                          refine wpAnyH_take (i := 25) (oi := ⟨some 8, _, _, _, _, _⟩) (v := ?_) rfl (by kernel_rfl) (by kernel_rfl) (by kernel_rfl) (fun _ _ _ h => h) (Or.inl ⟨by rfl, ?_⟩) (by assumption) ?_
                                          rotate_left
                                          · intro w_ hSw
                                            (try dsimp only at hSw)
                                            first | (go_simp; done) | (go_simp; with_reducible rfl)
                                          (try simp only [Act.put, List.setIfInBounds_toArray, List.set_cons_zero, List.set_cons_succ])
                                          refine wpAnyH_done (by kernel_rfl) ?_ _
                                          go_wp2
                                          go_roundg (sp.length - (i + 1))
                                          case measure => have := hk.out; have := HLT.out; omega
                                          case rel => exact ⟨i + 1, false, rfl, by simp, ⟨by have := HLT.out; omega⟩, ⟨Nat.le_refl _⟩, HE, HX1, HY1⟩
                                    · rw [if_neg hy2] at heq'
                                      cases heq'
                                  · have cb0 : decide ((i : Int) < (sp.length : Int)) = false := by simp; omega
                                    have cb1 : decide (i < sp.length) = false := decide_eq_false hlt
                                    have heq' := heq.out
                                    rw [List.drop_eq_nil_of_le (by omega)] at heq'
                                    obtain rfl := Option.some.inj (show some o = some m from heq')
                                    clear heq heq' hi hk hlt
                                    go_wp2_with fail
                                    go_meet
                                    (case rel => exact HF)
                              · rw [if_neg hs1] at hsw
                                cases hsw
                            · rw [if_neg cb3] at hsw
                              cases hsw
                          · rw [if_neg c4] at hsw
                            have e4 : (x0 == 4) = false := beq_eq_false_iff_ne.mpr c4
                            by_cases c9 : x0 = 9
                            · as_aux_lemma =>
                              subst c9
                              rw [if_pos rfl] at hsw
                              have KI := Aside0.mk (fun W => impl_IsInside.calls k wd xa.f1 m W (pl_eq hsw))
                              clear hsw
                              go_wp2_with fail
                              go_at_call 16
                              refine (KI.out _).mono ?_
                              rintro e wa ⟨rfl, nd9, hdr⟩
                              have hb9 := pl_drewN hdr
                              clear hdr
                              have HG := Aside0.mk (HF.out.below hb9)
                              clear HF hb9 xa0 xa1 xa2 xa3 bc0 bc1 bc2 bc3
                              have HF := HG
                              clear HG
                              have bc0 := (blk_cell HF.out.bx 0).trans rfl
                              have bc1 := (blk_cell HF.out.bx 1).trans rfl
                              have bc2 := (blk_cell HF.out.bx 2).trans rfl
                              have bc3 := (blk_cell HF.out.bx 3).trans rfl
                              obtain ⟨xa0, xa1, xa2, xa3⟩ := pl_x HF.out.hl hal rfl HXA.out
                              go_wp2_with fail
                              go_meet
                              (case rel => exact HF)
                            · have e9 : (x0 == 9) = false := beq_eq_false_iff_ne.mpr c9
                              clear hsw
                              go_wp2_with fail
                              go_meet
                              (case rel => exact HF)
                    · rw [if_neg cb] at hsw
                      cases hsw
                case rest => as_aux_lemma =>
                  have HF2 := hcut
                  clear HF bc0 bc1 bc2 bc3
                  have HF := HF2
                  clear HF2
                  have bc0 := (blk_cell HF.out.bx 0).trans rfl
                  have bc1 := (blk_cell HF.out.bx 1).trans rfl
                  have bc2 := (blk_cell HF.out.bx 2).trans rfl
                  have bc3 := (blk_cell HF.out.bx 3).trans rfl
                  have htw := HTX.out
                  clear HTX
                  unfold laws_FnPlays.tw at htw
                  have hll := HL1.out
                  have hn1 := HN1.out
                  have wl1 : IntKind.i64.wrap ((l.length : Int) - 1) = (l.length : Int) - 1 := IntWalk.i64_in _ (by omega)
                  by_cases h9 : l.length + 1 ≤ 9
                  · rw [if_pos h9] at htw
                    obtain ⟨bw, hbw, hz_⟩ := Option.bind_eq_some_iff.mp htw
                    clear htw; have htw := hz_; clear hz_
                    have KB3 := Aside0.mk (fun W => impl_Backwards.calls wd bw W hbw)
                    have KM3 := Aside0.mk (fun A c W h1 h2 => pl_more A c W h1 h2 (pl_eq2 htw))
                    have y1 : decide (((l.length + 1 : Nat) : Int) ≤ 9) = true := decide_eq_true (by omega)
                    have y1b : decide ((l.length : Int) + 1 ≤ 9) = true := decide_eq_true (by omega)
                    have y1c : decide (l.length + 1 ≤ 9) = true := decide_eq_true h9
                    clear htw hbw
                    go_wp2_with (first | ((with_reducible refine gate_dst (N := 135) rfl ?_); refine Kd.R_lit k31 _ 31 ?hg (N := 135) ?hd (xs := ([] : List S31)) (inner := []) (ok := fun _ => True) (okp := fun _ => True) ?hr ?hp (fun _ hk => hk) trivial (Below.refl _ _) (Nat.le_refl _) (by simp) ?_; (case hd => rfl); (case hg => rfl); (case hr => first | (go_simp; done) | (go_simp; rfl)); (case hp => exact (Reps.none _ _)); intro v1 wa1 ho1 hb9 hg_ hnew_; clear hg_ hnew_; have HB := Aside0.mk hb9; have HO1 := Aside0.mk ho1; clear hb9 ho1) | ((with_reducible refine gate_builtin (b := .append) (xs := #[.tmp 135, .tmp 136]) rfl ?_); at_builtin; refine Kd.R_append_rows k31 ?b0 (w0 := ?w0) rfl (.tmp 135) (.tmp 136) 24 31 (.agg #[(.int .i64 0), (.string ⟨#[]⟩), (.int .i64 0), (.int .i64 0)]) 40 rfl Try.underlying24 info31 rfl (by decide) (by omega) v1 ([] : List S31) l _ _ _ (fun _ => True) (fun _ => False) rfl rfl ?aO ?aR (fun _ _ h => h) (fun _ h => h.elim) ?aF ?aB ?aS ?aL ?_; (case aO => exact HO1.out); (case aR => exact (HF.out.below HB.out).hl); (case aB => exact HB.out); (case aF => exact (fun _ _ => trivial)); (case aS => exact (below_size HB.out)); (case aL => have := HL1.out; simp; omega); intro v2 wa2 ho2 hb9 hg_ hat_; have HB2 := Aside0.mk hb9; have HO2 := Aside0.mk ho2; clear HB HO1 hg_ hat_ hb9 ho2; have HB := HB2; clear HB2) | ((with_reducible refine gate_builtin (b := .append) (xs := #[.tmp 137, .tmp 142]) rfl ?_); at_builtin; refine Kd.R_append k31 ?b0 (w0 := ?w0) rfl (.tmp 137) (.tmp 142) 24 31 (.agg #[(.int .i64 0), (.string ⟨#[]⟩), (.int .i64 0), (.int .i64 0)]) 40 rfl Try.underlying24 info31 rfl (by decide) (by omega) v2 l (⟨2, ⟨#[]⟩, (l.length : Int) - 1, 0⟩ : S31) [.int .i64 2, .string ⟨#[]⟩, .int .i64 ((l.length : Int) - 1), .int .i64 0] (fun _ => True) (fun _ => False) rfl rfl ?aP (fun _ hk => hk.elim) ?aF ?aO ?aB ?aS ?aL ?_; (case aO => exact HO2.out); (case aP => exact k31_mkM _ _ _ (⟨2, ⟨#[]⟩, (l.length : Int) - 1, 0⟩ : S31)); (case aF => exact (fun _ _ => trivial)); (case aB => exact HB.out); (case aS => exact (below_size HB.out)); (case aL => have := HL1.out; omega); intro v3 wa3 ho3 hb9 hg_ hat_; obtain ⟨A6, c6, rfl⟩ := Kd.R_slice ho3; have HR6 := Aside0.mk (Kd.R_reads' ho3).2.2; have HC6 := Aside0.mk (Kd.R_reads' ho3).2.1; have HG := Aside0.mk (HF.out.below hb9); clear HF HB HO2 hg_ hat_ hb9 ho3 bc0 bc1 bc2 bc3; have HF := HG; clear HG; rw [pl_len]))
                    go_wp2_with fail
                    go_at_call 13
                    refine (KB3.out _).mono ?_
                    rintro e wa ⟨rfl, hb9⟩
                    have HG := Aside0.mk (HF.out.below hb9)
                    have HR7 := Aside0.mk (Kd.C_below HR6.out hb9)
                    clear HF HR6 hb9
                    have HF := HG
                    clear HG
                    go_wp2_with fail
                    go_at_call 9
                    refine (KM3.out _ _ _ HR7.out HC6.out).mono ?_
                    rintro e wa ⟨rfl, hb9⟩
                    have HG := Aside0.mk (HF.out.below hb9)
                    clear HF HR7 hb9
                    have HF := HG
                    clear HG
                    go_wp2_with fail
                    go_meet
                    (case rel => exact ⟨HF.out.pw⟩)
                  · have y1 : decide (((l.length + 1 : Nat) : Int) ≤ 9) = false := decide_eq_false (by omega)
                    have y1b : decide ((l.length : Int) + 1 ≤ 9) = false := decide_eq_false (by omega)
                    have y1c : decide (l.length + 1 ≤ 9) = false := decide_eq_false h9
                    clear htw
                    go_wp2_with (first | ((with_reducible refine gate_dst (N := 135) rfl ?_); refine Kd.R_lit k31 _ 31 ?hg (N := 135) ?hd (xs := ([] : List S31)) (inner := []) (ok := fun _ => True) (okp := fun _ => True) ?hr ?hp (fun _ hk => hk) trivial (Below.refl _ _) (Nat.le_refl _) (by simp) ?_; (case hd => rfl); (case hg => rfl); (case hr => first | (go_simp; done) | (go_simp; rfl)); (case hp => exact (Reps.none _ _)); intro v1 wa1 ho1 hb9 hg_ hnew_; clear hg_ hnew_; have HB := Aside0.mk hb9; have HO1 := Aside0.mk ho1; clear hb9 ho1) | ((with_reducible refine gate_builtin (b := .append) (xs := #[.tmp 135, .tmp 136]) rfl ?_); at_builtin; refine Kd.R_append_rows k31 ?b0 (w0 := ?w0) rfl (.tmp 135) (.tmp 136) 24 31 (.agg #[(.int .i64 0), (.string ⟨#[]⟩), (.int .i64 0), (.int .i64 0)]) 40 rfl Try.underlying24 info31 rfl (by decide) (by omega) v1 ([] : List S31) l _ _ _ (fun _ => True) (fun _ => False) rfl rfl ?aO ?aR (fun _ _ h => h) (fun _ h => h.elim) ?aF ?aB ?aS ?aL ?_; (case aO => exact HO1.out); (case aR => exact (HF.out.below HB.out).hl); (case aB => exact HB.out); (case aF => exact (fun _ _ => trivial)); (case aS => exact (below_size HB.out)); (case aL => have := HL1.out; simp; omega); intro v2 wa2 ho2 hb9 hg_ hat_; have HB2 := Aside0.mk hb9; have HO2 := Aside0.mk ho2; clear HB HO1 hg_ hat_ hb9 ho2; have HB := HB2; clear HB2) | ((with_reducible refine gate_builtin (b := .append) (xs := #[.tmp 137, .tmp 142]) rfl ?_); at_builtin; refine Kd.R_append k31 ?b0 (w0 := ?w0) rfl (.tmp 137) (.tmp 142) 24 31 (.agg #[(.int .i64 0), (.string ⟨#[]⟩), (.int .i64 0), (.int .i64 0)]) 40 rfl Try.underlying24 info31 rfl (by decide) (by omega) v2 l (⟨2, ⟨#[]⟩, (l.length : Int) - 1, 0⟩ : S31) [.int .i64 2, .string ⟨#[]⟩, .int .i64 ((l.length : Int) - 1), .int .i64 0] (fun _ => True) (fun _ => False) rfl rfl ?aP (fun _ hk => hk.elim) ?aF ?aO ?aB ?aS ?aL ?_; (case aO => exact HO2.out); (case aP => exact k31_mkM _ _ _ (⟨2, ⟨#[]⟩, (l.length : Int) - 1, 0⟩ : S31)); (case aF => exact (fun _ _ => trivial)); (case aB => exact HB.out); (case aS => exact (below_size HB.out)); (case aL => have := HL1.out; omega); intro v3 wa3 ho3 hb9 hg_ hat_; obtain ⟨A6, c6, rfl⟩ := Kd.R_slice ho3; have HR6 := Aside0.mk (Kd.R_reads' ho3).2.2; have HC6 := Aside0.mk (Kd.R_reads' ho3).2.1; have HG := Aside0.mk (HF.out.below hb9); clear HF HB HO2 hg_ hat_ hb9 ho3 bc0 bc1 bc2 bc3; have HF := HG; clear HG; rw [pl_len]))
                    go_wp2_with fail
                    go_meet
                    (case rel => exact ⟨HF.out.pw⟩)
            · have hpf : (p2 && iw) = false := by
                cases p2 <;> cases iw <;> simp at hpw ⊢
              go_wp2_with fail
              go_meet
              (case rel => exact HF)
          case rest => as_aux_lemma =>
            have HF2 := hcut
            clear HF
            have HF := HF2
            clear HF2
            clear HSW
            have hr9 := HRS.out
            clear HRS HL1
            unfold laws_FnPlays.rest at hr9
            obtain ⟨⟨p, ws⟩, hdd, hz_⟩ := Option.bind_eq_some_iff.mp hr9
            clear hr9; have hr9 := hz_; clear hz_
            obtain ⟨wm, hwm, hz_⟩ := Option.bind_eq_some_iff.mp hr9
            clear hr9; have hr9 := hz_; clear hz_
            obtain ⟨g, hg, hz_⟩ := Option.bind_eq_some_iff.mp hr9
            clear hr9; have hr9 := hz_; clear hz_
            obtain ⟨u, hu, hz_⟩ := Option.bind_eq_some_iff.mp hr9
            clear hr9; have hr9 := hz_; clear hz_
            obtain ⟨ip, hip, hz_⟩ := Option.bind_eq_some_iff.mp hr9
            clear hr9; have hr9 := hz_; clear hz_
            obtain ⟨wi, hwi, hz_⟩ := Option.bind_eq_some_iff.mp hr9
            clear hr9; have hr9 := hz_; clear hz_
            obtain ⟨pn, hpn, hz_⟩ := Option.bind_eq_some_iff.mp hr9
            clear hr9; have hr9 := hz_; clear hz_
            by_cases hc9 : g = true ∧ (wm.length ≤ 1000 ∧ ws.length ≤ 1000 ∧ u.length ≤ 1000) ∧ (ip = true → 0 < u.length ∧ wi = true ∧ wm.length ≤ ws.length)
            · rw [if_pos hc9] at hr9
              obtain rfl := Option.some.inj hr9
              clear hr9
              obtain ⟨rfl, ⟨hm1, hm2, hm3⟩, hip2⟩ := hc9
              have KD2 := Aside0.mk (fun W hC => spec_DrawWordsMade.calls k A0 c0_ l0 p ws W hC HPC.out hdd)
              have KWM := Aside0.mk (fun A c A1 c1 W h1 h2 h3 h4 => impl_WordsMade.calls k A c p A1 c1 ws wm W h1 h2 h3 h4 hwm)
              have KU := Aside0.mk (fun A c W h1 h2 => impl_UsedWords.calls k A c p u W h1 h2 hu)
              have KIP := Aside0.mk (fun A c W h1 h2 => impl_IsPlay.calls k A c p ip W h1 h2 hip)
              have KWI := Aside0.mk (fun A c A1 c1 W h1 h2 h3 h4 => laws_within.calls k A c wm A1 c1 ws wi W h1 h2 h3 h4 hwi)
              have KPN := Aside0.mk (fun A c W h1 h2 => impl_IsPlain.calls k A c p pn W h1 h2 hpn)
              have HG := Aside0.mk (show wmGo k p ws (wm.drop 0) = some true from hg)
              have HM1 := Aside0.mk hm1
              have HM2 := Aside0.mk hm2
              have HM3 := Aside0.mk hm3
              have HIP := Aside0.mk hip2
              clear hdd hwm hu hip hwi hpn hg hm1 hm2 hm3 hip2
              go_wp2_with fail
              go_at_call 17
              refine (KD2.out _ (Kd.C_below HP.out HF.out.bl)).mono ?_
              rintro e w8 ⟨v0, v1, rfl, hr0, hr1, hb⟩
              obtain ⟨A2, c2, rfl⟩ := Kd.R_slice hr0
              obtain ⟨A3, c3, rfl⟩ := Kd.R_slice hr1
              have HC2 := Aside0.mk (Kd.R_reads' hr0).2.1
              have HC3 := Aside0.mk (Kd.R_reads' hr1).2.1
              have HX := Aside0.mk (show Kd.C k31 w8 A2 p.length p ∧ Kd.C Kd.string w8 A3 ws.length ws ∧ Below w.heap.size w w8 from ⟨(Kd.R_reads' hr0).2.2, (Kd.R_reads' hr1).2.2, below_step HF.out.bl hb⟩)
              clear HF hr0 hr1 hb KD2
              go_wp2_with fail
              go_at_call 18
              refine (KWM.out _ _ _ _ _ HX.out.1 HC2.out HX.out.2.1 HC3.out).mono ?_
              rintro e w9 ⟨v2, rfl, hr, hb⟩
              obtain ⟨A4, c4, rfl⟩ := Kd.R_slice hr
              have HC4 := Aside0.mk (Kd.R_reads' hr).2.1
              have HF := Aside0.mk (show PsW w A2 p A3 ws A4 wm w9 from ⟨Kd.C_below HX.out.1 hb, Kd.C_below HX.out.2.1 hb, (Kd.R_reads' hr).2.2, below_step HX.out.2.2 hb⟩)
              clear HX hr hb KWM
              go_wp2
              go_loopg [15] wm.length (fun kq v15 w' => ∃ (i : Nat), v15 = .int .i64 (i : Int) ∧ Aside0 (i ≤ wm.length) ∧ Aside0 (wm.length - i ≤ kq) ∧ Aside0 (wmGo k p ws (wm.drop i) = some true) ∧ Aside0 (PsW w A2 p A3 ws A4 wm w'))
              case atStart => exact ⟨0, rfl, ⟨Nat.zero_le _⟩, ⟨by omega⟩, HG, HF⟩
              case round =>
                clear HG HF
                obtain ⟨i, rfl, hi, hk, heq, HF⟩ := hrel
                have hll := HM1.out
                by_cases hlt : i < wm.length
                · have cb0 : decide ((i : Int) < (wm.length : Int)) = true := by simp; exact hlt
                  have cb1 : decide (i < wm.length) = true := decide_eq_true hlt
                  have heq' := heq.out
                  rw [List.drop_eq_getElem_cons hlt, wmGo_cons] at heq'
                  have hye : rdOf ByteArray.empty wm (i : Int) = wm[i] := by
                    unfold rdOf
                    simp [hlt]
                  generalize wm[i] = y at heq' hye
                  obtain ⟨t1, ht1, hz_⟩ := Option.bind_eq_some_iff.mp heq'
                  clear heq'; have heq' := hz_; clear hz_
                  obtain ⟨t2, ht2, hz_⟩ := Option.bind_eq_some_iff.mp heq'
                  clear heq'; have heq' := hz_; clear hz_
                  by_cases hc : t1 = true ∧ t2 = true
                  · rw [if_pos hc] at heq'
                    have HE := Aside0.mk heq'
                    clear heq heq'
                    obtain ⟨rfl, rfl⟩ := hc
                    have HYE := Aside0.mk hye
                    have HLT := Aside0.mk hlt
                    have KM1 := Aside0.mk (fun A c W h1 h2 => impl_Makes.calls k A c p y true W h1 h2 ht1)
                    have KH1 := Aside0.mk (fun A c W h1 h2 => impl_HasWord.calls k A c ws y true W h1 h2 ht2)
                    obtain ⟨ad, eA, _⟩ := Kd.at_string HF.out.hm (i : Int) (by omega) (by omega)
                    cases eA
                    have y0 := pl_y HF.out.hm hlt rfl HYE.out
                    have p1 : (0 ≤ (i : Int)) = True := eq_true (by omega)
                    have q1 : ((i : Int) < (wm.length : Int)) = True := eq_true (by omega)
                    clear hye ht1 ht2
                    go_wp2_with fail
                    go_at_call 9
                    refine (KM1.out _ _ _ HF.out.hp HC2.out).mono ?_
                    rintro e wa ⟨rfl, hb9⟩
                    have HG := Aside0.mk (HF.out.below hb9)
                    clear HF hb9 y0
                    have HF := HG
                    clear HG
                    have y0 := pl_y HF.out.hm hlt rfl HYE.out
                    go_wp2_with fail
                    go_at_call 19
                    refine (KH1.out _ _ _ HF.out.hw HC3.out).mono ?_
                    rintro e wa ⟨rfl, nd9, hdr⟩
                    have HG := Aside0.mk (HF.out.below (pl_drewN hdr))
                    clear HF hdr y0
                    go_wp2
                    go_roundg (wm.length - (i + 1))
                    case measure => have := hk.out; have := HLT.out; omega
                    case rel => exact ⟨i + 1, by simp, ⟨by have := HLT.out; omega⟩, ⟨Nat.le_refl _⟩, HE, HG⟩
                  · rw [if_neg hc] at heq'
                    cases heq'
                · have cb0 : decide ((i : Int) < (wm.length : Int)) = false := by simp; omega
                  have cb1 : decide (i < wm.length) = false := decide_eq_false hlt
                  clear heq hi hk hlt
                  go_wp2_with fail
                  go_at_call 20
                  refine (KU.out _ _ _ HF.out.hp HC2.out).mono ?_
                  rintro e wa ⟨v3, rfl, hr, hb9⟩
                  obtain ⟨A5, c5, rfl⟩ := Kd.R_slice hr
                  have HG := Aside0.mk (HF.out.below hb9)
                  clear HF hb9
                  have HF := HG
                  clear HG
                  clear hr KU
                  go_wp2_with fail
                  go_at_call 10
                  refine (KIP.out _ _ _ HF.out.hp HC2.out).mono ?_
                  rintro e wa ⟨rfl, hb9⟩
                  have HG := Aside0.mk (HF.out.below hb9)
                  clear HF hb9
                  have HF := HG
                  clear HG
                  cases ip with
                  | false =>
                    go_wp2
                    go_ret
                    exact ⟨by simp, HF.out.bl⟩
                  | true =>
                    obtain ⟨hu0, rfl, hle⟩ := HIP.out rfl
                    have hm2 := HM2.out
                    have hm3 := HM3.out
                    have y1 : decide ((0 : Int) < (u.length : Int)) = true := decide_eq_true (by omega)
                    have y2 : decide (0 < u.length) = true := decide_eq_true hu0
                    have y3 : decide ((wm.length : Int) ≤ (ws.length : Int)) = true := decide_eq_true (by omega)
                    have y4 : decide (wm.length ≤ ws.length) = true := decide_eq_true hle
                    go_wp2_with fail
                    go_at_call 21
                    refine (KWI.out _ _ _ _ _ HF.out.hm HC4.out HF.out.hw HC3.out).mono ?_
                    rintro e wa ⟨rfl, nd9, hdr⟩
                    have hb9 := pl_drewN hdr
                    clear hdr
                    have HG := Aside0.mk (HF.out.below hb9)
                    clear HF hb9
                    have HF := HG
                    clear HG
                    go_wp2_with fail
                    go_at_call 22
                    refine (KPN.out _ _ _ HF.out.hp HC2.out).mono ?_
                    rintro e wa ⟨rfl, hb9⟩
                    have HG := Aside0.mk (HF.out.below hb9)
                    clear HF hb9
                    have HF := HG
                    clear HG
                    cases pn with
                    | false =>
                      go_wp2
                      go_ret
                      exact ⟨by simp, HF.out.bl⟩
                    | true =>
                      go_wp2
                      go_ret
                      exact ⟨by simp, HF.out.bl⟩
            · rw [if_neg hc9] at hr9
              cases hr9
    · rw [if_neg hcc] at h
      cases h
/-- THE ONE PURE STATEMENT of laws_FnPlays. -/
def laws_FnPlays.Pure : Prop := ∀ (l0 : List Int), l0.length ≤ maxLen → l0.length * 1 ≤ 140737488351232 → (∀ x ∈ l0, (Lit.int .u8 x).wf = true) → ∃ k, laws_FnPlays.f k l0 = some true
theorem laws_FnPlays.walk (P : laws_FnPlays.Pure) (a0 : Option Addr) (len0 cap0 : Nat) (z0 : List Int) (w : World) (w0 : (a0 = none ∧ len0 = 0 ∧ cap0 = 0 ∧ z0 = []) ∨ ∃ x, a0 = some x ∧ len0 ≤ cap0 ∧ cap0 ≤ maxLen ∧ z0.length = cap0 ∧ (∀ i, i < z0.length → w.cell? (x.add i) = some (.int .u8 (z0.getD i 0))) ∧ ∀ n ∈ z0, (Lit.int .u8 n).wf = true) (y0 : len0 * 1 ≤ 140737488351232) :
    Calls Try.prog 3 #[.slice a0 len0 cap0] w fun e w' => e = .returned (.bool true) ∧ Below w.heap.size w w' := by
  obtain ⟨l0, rfl, hr0, hm0, hw0, hc0⟩ := ReadsInt.ofRowC w0
  obtain ⟨k, h⟩ := P l0 hm0 y0 hw0
  refine (laws_FnPlays.calls k _ _ l0 true w (Kd.C_of_reads (d := (0 : Int)) (h1 := fun _ => rfl) hr0) hc0 h).mono ?_
  rintro e w' ⟨rfl, hd⟩
  exact ⟨rfl, hd⟩


end Go.Proofs.Ytodcckiphdnjeab.QFnPlays
