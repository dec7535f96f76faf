-- Written by a changed copy of the kit's printer (wip/mp.py of this repo), for this claim; Lean checks it.
import Derived.Test.YtodcckiphdnjeaaQFnPrunedx0
import Derived.Test.YtodcckiphdnjeaaQFnPrunedx2
import Derived.Test.YtodcckiphdnjeaaQFnPrunedx4
import Derived.Test.YtodcckiphdnjeaaQFnPrunedx6
import Derived.Test.YtodcckiphdnjeaaQFnPrunedx7
import Derived.Test.YtodcckiphdnjeaaQFnPrunedx18
import Derived.Test.YtodcckiphdnjeaaQFnPrunedx22
import Derived.Test.YtodcckiphdnjeaaQFnPrunedx24
import Derived.Test.YtodcckiphdnjeaaQFnPrunedx25
namespace Go.Proofs.Ytodcckiphdnjeaa.QFnPruned
open Go.RowKit Go.Proofs.YtodcckiphdnjeaaW.PrintWords Go.Proofs.YtodcckiphdnjeaaW.PrintLast Go.Proofs.YtodcckiphdnjeaaW.PrintMore
attribute [local go_sem] max2_int min2_int max_two min_two max_three min_three max_four min_four   -- for this text's walks alone
set_option linter.unusedVariables false
set_option linter.unusedSimpArgs false

/-! ### laws_FnPruned: function 7 (given) -/
def pdIn (k : Nat) (r c : Int) (s : ByteArray) (p : List (List ByteArray)) (i : Int) : List ByteArray → Option Bool
  | [] => some true
  | y :: ys => (impl_Support.f k r c s p i y).bind fun b => if b = true then pdIn k r c s p i ys else none
theorem pdIn_cons (k : Nat) (r c : Int) (s : ByteArray) (p : List (List ByteArray)) (i : Int) (y : ByteArray) (ys : List ByteArray) : pdIn k r c s p i (y :: ys) = (impl_Support.f k r c s p i y).bind fun b => if b = true then pdIn k r c s p i ys else none := rfl
def pdOne (k : Nat) (r c : Int) (s : ByteArray) (p d : List (List ByteArray)) : List (List ByteArray) → Nat → Option Bool
  | [], _ => some true
  | x :: xs, i => if i < d.length then (laws_within.f k x (d.getD i [])).bind fun b => (pdIn k r c s p (i : Int) x).bind fun _ => if b = true then pdOne k r c s p d xs (i + 1) else none else none
theorem pdOne_cons (k : Nat) (r c : Int) (s : ByteArray) (p d : List (List ByteArray)) (x : List ByteArray) (xs : List (List ByteArray)) (i : Nat) : pdOne k r c s p d (x :: xs) i = if i < d.length then (laws_within.f k x (d.getD i [])).bind fun b => (pdIn k r c s p (i : Int) x).bind fun _ => if b = true then pdOne k r c s p d xs (i + 1) else none else none := rfl
def pdTwo (k : Nat) (q : List (List ByteArray)) : List (List ByteArray) → Nat → Option Bool
  | [], _ => some true
  | x :: xs, i => if i < q.length then (laws_sameWords.f k x (q.getD i [])).bind fun b => if b = true then pdTwo k q xs (i + 1) else none else none
theorem pdTwo_cons (k : Nat) (q : List (List ByteArray)) (x : List ByteArray) (xs : List (List ByteArray)) (i : Nat) : pdTwo k q (x :: xs) i = if i < q.length then (laws_sameWords.f k x (q.getD i [])).bind fun b => if b = true then pdTwo k q xs (i + 1) else none else none := rfl
def laws_FnPruned.j2 (k : Nat) (l0 : List Int) : Option Bool := (spec_DrawIsDead.f k l0).bind fun e => (impl_IsDead.f e).bind fun b => if b = true → 0 < e.length then some true else none
def laws_FnPruned.j1 (k : Nat) (l0 : List Int) : Option Bool := (spec_DrawForced.f k l0).bind fun g => (impl_Forced.f k g.1 g.2.1 g.2.2.1 g.2.2.2.1 g.2.2.2.2).bind fun p => (impl_IsFill.f k g.1 g.2.1 g.2.2.1 g.2.2.2.1).bind fun b => (laws_agrees.f k p.1 g.2.2.2.1).bind fun ag => if p.2 = true then (if b = true → ag = true then laws_FnPruned.j2 k l0 else none) else if p.1 = g.2.2.2.1 then laws_FnPruned.j2 k l0 else none
def laws_FnPruned.blk (k : Nat) (r c : Int) (s : ByteArray) (d p : List (List ByteArray)) : Option Bool := (pdOne k r c s p d p 0).bind fun _ => (impl_Prune.f k r c s p).bind fun q => (pdTwo k q p 0).bind fun _ => some true
def laws_FnPruned.g (k : Nat) (l0 : List Int) (r c : Int) (s : ByteArray) (d : List (List ByteArray)) : Option Bool := (impl_Prune.f k r c s d).bind fun p => (impl_CountChoices.f k p).bind fun n1 => (impl_CountChoices.f k d).bind fun n2 => (impl_SlotsOf.f k r c s).bind fun sl => if p.length = d.length ∧ n1 ≤ n2 then (if d.length = sl.length then laws_FnPruned.blk k r c s d p else some true).bind fun _ => laws_FnPruned.j1 k l0 else none
def laws_FnPruned.f (k : Nat) (l0 : List Int) : Option Bool := (laws_big.f l0).bind fun b => if b = true then some true else (spec_DrawPrune.f k l0).bind fun g => laws_FnPruned.g k l0 g.1 g.2.1 g.2.2.1 g.2.2.2
/-- What stands while the law runs: the grid's box, the candidates, the pruned ones. -/
structure PdW (w : World) (B : Nat) (r c : Int) (s : ByteArray) (AD : Option Addr) (d : List (List ByteArray)) (AP : Option Addr) (p : List (List ByteArray)) (w' : World) : Prop where
  bk : w'.heap[B]? = some (.cells #[.int .i64 r, .int .i64 c, .string s] 28 (0, 0))
  cd : Kd.C (Kd.slice 9 Kd.string) w' AD d.length d
  cp : Kd.C (Kd.slice 9 Kd.string) w' AP p.length p
  bl : Below w.heap.size w w'
theorem PdW.below {w : World} {B : Nat} {r c : Int} {s : ByteArray} {AD : Option Addr} {d : List (List ByteArray)} {AP : Option Addr} {p : List (List ByteArray)} {w' w2 : World} (h : PdW w B r c s AD d AP p w') (hb : Below w'.heap.size w' w2) : PdW w B r c s AD d AP p w2 := ⟨blk_below h.bk hb, Kd.C_below h.cd hb, Kd.C_below h.cp hb, below_step h.bl hb⟩
theorem PdW.drew {w : World} {B : Nat} {r c : Int} {s : ByteArray} {AD : Option Addr} {d : List (List ByteArray)} {AP : Option Addr} {p : List (List ByteArray)} {w' : World} (h : PdW w B r c s AD d AP p w') : PdW w B r c s AD d AP p w'.drew := h.below (below_drew (Below.refl _ _))
theorem pd_g {B : Nat} {r c : Int} {s : ByteArray} {W : World} (h : W.heap[B]? = some (.cells #[.int .i64 r, .int .i64 c, .string s] 28 (0, 0))) : W.cell? ⟨B, 0, none⟩ = some (.int .i64 r) ∧ W.cell? ⟨B, 1, none⟩ = some (.int .i64 c) ∧ W.cell? ⟨B, 2, none⟩ = some (.string s) := ⟨(blk_cell h 0).trans rfl, (blk_cell h 1).trans rfl, (blk_cell h 2).trans rfl⟩
/-- A row of rows: its cell, and what it leads to. -/
structure PdR (ad : Addr) (i : Nat) (A : Option Addr) (c : Nat) (x : List ByteArray) (w' : World) : Prop where
  cell : w'.cell? (ad.add i) = some (.slice A x.length c)
  row : Kd.C Kd.string w' A x.length x
theorem PdR.below {ad : Addr} {i : Nat} {A : Option Addr} {c : Nat} {x : List ByteArray} {w' w2 : World} (h : PdR ad i A c x w') (hb : Below w'.heap.size w' w2) : PdR ad i A c x w2 := ⟨pw_cell_below hb h.cell, Kd.C_below h.row hb⟩
theorem pd_row {w' : World} {A : Option Addr} {xs : List (List ByteArray)} (h : Kd.C (Kd.slice 9 Kd.string) w' A xs.length xs) {i : Nat} (hi : i < xs.length) {x : List ByteArray} (hx : xs.getD i [] = x) : ∃ ad A5 c5, A = some ad ∧ PdR ad i A5 c5 x w' ∧ x.length ≤ c5 := by
  obtain ⟨ad, A5, c5, e, hc, hl, hr⟩ := sup_at_row h (i : Int) (by omega) (by omega)
  rw [Int.toNat_natCast, hx] at hc hl hr
  exact ⟨ad, A5, c5, e, ⟨hc, hr⟩, hl⟩
theorem pd_s {ad : Addr} {l : List ByteArray} {W : World} (h : Kd.C Kd.string W (some ad) l.length l) {i : Nat} (hi : i < l.length) {x : ByteArray} (hx : rdOf ByteArray.empty l (i : Int) = x) : W.cell? (ad.add i) = some (.string x) := by
  obtain ⟨ad2, e1, h1⟩ := Kd.at_string h (i : Int) (by omega) (by omega)
  obtain rfl := Option.some.inj e1
  rw [hx, Int.toNat_natCast] at h1
  exact h1
theorem pd_d0 {w w' : World} (h : Drawn0 w w') : Below w.heap.size w w' := by
  obtain ⟨n, rfl⟩ := h
  exact pw_below_drewN (Below.refl _ _) n
set_option maxHeartbeats 40000000 in
set_option maxRecDepth 100000 in
theorem laws_FnPruned.calls (k : Nat) (A0 : Option Addr) (c0_ : Nat) (l0 : List Int) (r_ : Bool) (w : World) (hr0 : Kd.C (Kd.int .u8) w A0 l0.length l0) (hc0 : l0.length ≤ c0_) (h : laws_FnPruned.f k l0 = some r_) :
    Calls Try.prog 7 #[.slice A0 l0.length c0_] w fun e w' => e = .returned (.bool r_) ∧ Below w.heap.size w w' := by
  unfold laws_FnPruned.f at h
  obtain ⟨b, hb, hz_⟩ := Option.bind_eq_some_iff.mp h
  clear h; have h := hz_; clear hz_
  have KB := Aside0.mk (fun W hC => laws_big.calls A0 c0_ l0 b W hC hc0 hb)
  have HP := Aside0.mk hr0
  have HPC := Aside0.mk hc0
  clear hr0 hc0 hb
  cases b with
  | true =>
    rw [if_pos rfl] at h
    obtain rfl := Option.some.inj h
    clear h
    go_enter Try.func7, Try.ntmps7
    go_wp2_with fail
    go_at_call 21
    refine (KB.out _ HP.out).mono ?_
    rintro e w' ⟨rfl, nd, rfl⟩
    go_wp2
    go_ret
    exact ⟨rfl, pw_below_drewN (Below.refl _ _) _⟩
  | false =>
    rw [if_neg (by simp)] at h
    obtain ⟨⟨r, c, s, d⟩, ha, hz_⟩ := Option.bind_eq_some_iff.mp h
    clear h; have h := hz_; clear hz_
    unfold laws_FnPruned.g at h
    obtain ⟨p, hp, hz_⟩ := Option.bind_eq_some_iff.mp h
    clear h; have h := hz_; clear hz_
    obtain ⟨n1, hn1, hz_⟩ := Option.bind_eq_some_iff.mp h
    clear h; have h := hz_; clear hz_
    obtain ⟨n2, hn2, hz_⟩ := Option.bind_eq_some_iff.mp h
    clear h; have h := hz_; clear hz_
    obtain ⟨sl, hsl, hz_⟩ := Option.bind_eq_some_iff.mp h
    clear h; have h := hz_; clear hz_
    by_cases hc : p.length = d.length ∧ n1 ≤ n2
    case neg => rw [if_neg hc] at h; cases h
    rw [if_pos hc] at h
    obtain ⟨b0, hblk, hj1⟩ := Option.bind_eq_some_iff.mp h
    obtain ⟨hpd, hn⟩ := hc
    have KD := Aside0.mk (fun W hC => spec_DrawPrune.calls k A0 c0_ l0 r c s d W hC HPC.out ha)
    have KP := Aside0.mk (fun A cc W hC hc => impl_Prune.calls k r c s A cc d p W hC hc hp)
    have KC1 := Aside0.mk (fun A cc W hC hc => impl_CountChoices.calls k A cc p n1 W hC hc hn1)
    have KC2 := Aside0.mk (fun A cc W hC hc => impl_CountChoices.calls k A cc d n2 W hC hc hn2)
    have KS := Aside0.mk (fun W => impl_SlotsOf.calls k r c s sl W hsl)
    have HBLK := Aside0.mk hblk
    have HJ1 := Aside0.mk hj1
    have z1 : ((p.length : Int) != (d.length : Int)) = false := by rw [hpd]; simp
    have z2 : (p.length != d.length) = false := by rw [hpd]; simp
    have z3 : decide (n1 > n2) = false := decide_eq_false (by omega)
    have z4 : decide (n2 < n1) = false := decide_eq_false (by omega)
    have HPD := Aside0.mk hpd
    clear ha hp hn1 hn2 hsl hblk hj1 h hpd hn
    go_enter Try.func7, Try.ntmps7
    go_wp2_with fail
    go_at_call 21
    refine (KB.out _ HP.out).mono ?_
    rintro e wa ⟨rfl, nd, rfl⟩
    have HB1 := Aside0.mk (pw_below_drewN (Below.refl w.heap.size w) nd)
    clear KB
    generalize w.drewN nd = w1_ at HB1 ⊢
    go_wp2_with fail
    go_at_call 33
    refine (KD.out _ (Kd.C_below HP.out HB1.out)).mono ?_
    rintro e wa ⟨v0, rfl, hr, hb9⟩
    obtain ⟨AD, cD, rfl, hcd, hCD⟩ := Kd.Q_reads hr
    have HCD := Aside0.mk hcd
    have HB2 := Aside0.mk (below_step HB1.out hb9)
    have BK := Aside0.mk (blk_new wa (.cells #[.int .i64 r, .int .i64 c, .string s] 28))
    have HD2 := Aside0.mk (Kd.C_alloc hCD (.cells #[.int .i64 r, .int .i64 c, .string s] 28))
    clear hb9 KD HB1 hr hcd hCD
    generalize wa = w2 at HB2 BK HD2 ⊢
    go_wp2_with fail
    go_at_call 32
    refine (KP.out _ _ _ HD2.out HCD.out).mono ?_
    rintro e wa ⟨v1, rfl, hr, hb9⟩
    obtain ⟨AP, cP, rfl, hcp, hCP⟩ := Kd.S_reads hr
    have HCP := Aside0.mk hcp
    have HF := Aside0.mk (show PdW w w2.heap.size r c s AD d AP p wa from ⟨blk_below BK.out hb9, Kd.C_below HD2.out hb9, hCP, below_step (below_alloc HB2.out _) hb9⟩)
    clear hb9 KP HB2 BK HD2 hr hcp hCP
    generalize w2.heap.size = B at HF ⊢
    have c0 := (blk_cell HF.out.bk 0).trans rfl
    have c1 := (blk_cell HF.out.bk 1).trans rfl
    have c2 := (blk_cell HF.out.bk 2).trans rfl
    go_wp2_with fail
    go_at_call 34
    refine (KC1.out _ _ _ HF.out.cp HCP.out).mono ?_
    rintro e wa ⟨rfl, hb9⟩
    replace hb9 := pd_d0 hb9
    have HG := Aside0.mk (HF.out.below hb9)
    clear HF c0 c1 c2 hb9
    have HF := HG
    clear HG
    have c0 := (blk_cell HF.out.bk 0).trans rfl
    have c1 := (blk_cell HF.out.bk 1).trans rfl
    have c2 := (blk_cell HF.out.bk 2).trans rfl
    clear KC1
    go_wp2_with fail
    go_at_call 34
    refine (KC2.out _ _ _ HF.out.cd HCD.out).mono ?_
    rintro e wa ⟨rfl, hb9⟩
    replace hb9 := pd_d0 hb9
    have HG := Aside0.mk (HF.out.below hb9)
    clear HF c0 c1 c2 hb9
    have HF := HG
    clear HG
    have c0 := (blk_cell HF.out.bk 0).trans rfl
    have c1 := (blk_cell HF.out.bk 1).trans rfl
    have c2 := (blk_cell HF.out.bk 2).trans rfl
    clear KC2
    go_wp2_with fail
    go_at_call 26
    refine (KS.out _).mono ?_
    rintro e wa ⟨v_, rfl, hr_, hb9⟩
    obtain ⟨A_, c_, rfl⟩ := Kd.R_slice hr_
    clear hr_
    have HG := Aside0.mk (HF.out.below hb9)
    clear HF c0 c1 c2 hb9
    have HF := HG
    clear HG
    have c0 := (blk_cell HF.out.bk 0).trans rfl
    have c1 := (blk_cell HF.out.bk 1).trans rfl
    have c2 := (blk_cell HF.out.bk 2).trans rfl
    clear KS
    clear c0 c1 c2
    go_upto_if 43 with fail
    go_cut [] (fun w' => Aside0 (PdW w B r c s AD d AP p w'))
    case first => as_aux_lemma =>
      have h := HBLK.out
      clear HBLK HJ1
      by_cases hds : d.length = sl.length
      · rw [if_pos hds] at h
        have e1 : ((d.length : Int) == (sl.length : Int)) = true := beq_iff_eq.mpr (by omega)
        have e2 : (d.length == sl.length) = true := beq_iff_eq.mpr hds
        clear hds
        simp only [e1]
        unfold laws_FnPruned.blk at h
        obtain ⟨b1, hone, hz_⟩ := Option.bind_eq_some_iff.mp h
        clear h; have h := hz_; clear hz_
        obtain ⟨q, hq, hz_⟩ := Option.bind_eq_some_iff.mp h
        clear h; have h := hz_; clear hz_
        obtain ⟨b2, htwo, hz_⟩ := Option.bind_eq_some_iff.mp h
        clear h; have h := hz_; clear hz_
        have HONE := Aside0.mk (show pdOne k r c s p d (p.drop 0) 0 = some b1 from hone)
        have HTWO := Aside0.mk (show pdTwo k q (p.drop 0) 0 = some b2 from htwo)
        have KQ := Aside0.mk (fun A cc W hC hc => impl_Prune.calls k r c s A cc p q W hC hc hq)
        clear hone hq htwo h
        go_wp2
        go_loopg [6] p.length (fun kq v6 w' => ∃ (i : Nat), v6 = .int .i64 (i : Int) ∧ Aside0 (i ≤ p.length) ∧ Aside0 (p.length - i ≤ kq) ∧ Aside0 (pdOne k r c s p d (p.drop i) i = some b1) ∧ Aside0 (PdW w B r c s AD d AP p w'))
        case atStart => exact ⟨0, rfl, ⟨Nat.zero_le _⟩, ⟨by omega⟩, HONE, HF⟩
        case round =>
          clear HONE HF e1 e2
          obtain ⟨i, rfl, hi, hk, heq, HF⟩ := hrel
          have hlp := Kd.C_max HF.out.cp
          by_cases hlt : i < p.length
          · have cb0 : decide ((i : Int) < (p.length : Int)) = true := by simp; exact hlt
            have cb1 : decide (i < p.length) = true := decide_eq_true hlt
            have heq' := heq.out
            rw [List.drop_eq_getElem_cons hlt, pdOne_cons] at heq'
            have hxe : p.getD i [] = p[i] := by rw [List.getD_eq_getElem?_getD, List.getElem?_eq_getElem hlt]; rfl
            generalize p[i] = x at heq' hxe
            by_cases hid : i < d.length
            case neg => rw [if_neg hid] at heq'; cases heq'
            rw [if_pos hid] at heq'
            obtain ⟨b3, hwi, hz_⟩ := Option.bind_eq_some_iff.mp heq'
            clear heq'; have heq' := hz_; clear hz_
            obtain ⟨b4, hin, hz_⟩ := Option.bind_eq_some_iff.mp heq'
            clear heq'; have heq' := hz_; clear hz_
            by_cases hb : b3 = true
            case neg => rw [if_neg hb] at heq'; cases heq'
            rw [if_pos hb] at heq'
            subst hb
            have HE := Aside0.mk heq'
            have HXE := Aside0.mk hxe
            have HLT := Aside0.mk hlt
            generalize hye : d.getD i [] = y at hwi
            obtain ⟨adp, A5, c5, eP, hR, hc5⟩ := pd_row HF.out.cp hlt hxe
            cases eP
            obtain ⟨add, A6, c6, eD, hR2, hc6⟩ := pd_row HF.out.cd hid hye
            cases eD
            have HR := Aside0.mk hR
            have HR2 := Aside0.mk hR2
            have HC5 := Aside0.mk hc5
            have KW := Aside0.mk (fun W hC hC2 => laws_within.calls k A5 c5 x A6 c6 y true W hC hc5 hC2 hc6 hwi)
            have HIN := Aside0.mk (show pdIn k r c s p (i : Int) (x.drop 0) = some b4 from hin)
            have p1 : (0 ≤ (i : Int)) = True := eq_true (by omega)
            have q1 : ((i : Int) < (p.length : Int)) = True := eq_true (by omega)
            have q2 : ((i : Int) < (d.length : Int)) = True := eq_true (by omega)
            clear heq heq' hxe hlt hid hye hwi hin hR hR2 hc5 hc6
            go_upto_region 11 with fail
            go_cut [59] (fun v59 w' => v59 = .bool false ∧ Aside0 (PdR adp i A5 c5 x w') ∧ Aside0 (PdW w B r c s (some add) d (some adp) p w'))
            case first => as_aux_lemma =>
              have HFd := Aside0.mk HF.out.drew
              have HRd := Aside0.mk (HR.out.below (below_drew (Below.refl _ _)))
              have HR2d := Aside0.mk (HR2.out.below (below_drew (Below.refl _ _)))
              clear HF HR HR2
              have HALL := (⟨HRd.out.cell, HR2d.out.cell, HRd, HR2d, HFd⟩ : _ ∧ _ ∧ _ ∧ _ ∧ _)
              go_region_held3 (fun w' => w'.cell? (adp.add i) = some (.slice A5 x.length c5) ∧ w'.cell? (add.add i) = some (.slice A6 y.length c6) ∧ Aside0 (PdR adp i A5 c5 x w') ∧ Aside0 (PdR add i A6 c6 y w') ∧ Aside0 (PdW w B r c s (some add) d (some adp) p w')) (first | assumption | (go_split_ands; exact ⟨pw_cell_below hb9 (by assumption), pw_cell_below hb9 (by assumption), ⟨‹Aside0 (PdR adp _ _ _ _ _)›.out.below hb9⟩, ⟨‹Aside0 (PdR add _ _ _ _ _)›.out.below hb9⟩, ⟨‹Aside0 (PdW _ _ _ _ _ _ _ _ _ _)›.out.below hb9⟩⟩) | exact HALL) (first | (go_split_ands; go_at_call 28; with_reducible refine (KW.out _ ‹Aside0 (PdR adp _ _ _ _ _)›.out.row ‹Aside0 (PdR add _ _ _ _ _)›.out.row).mono ?_; rintro e wa ⟨rfl, hd9⟩; have hb9 := pd_d0 hd9; clear hd9))
              all_goals (go_wp2_with fail; go_meet; (case rel => (go_split_ands; exact ⟨by simp, ‹Aside0 (PdR adp _ _ _ _ _)›, ‹Aside0 (PdW _ _ _ _ _ _ _ _ _ _)›⟩)))
            case rest => as_aux_lemma =>
              obtain ⟨rfl, HR3, HF2⟩ := hcut
              clear HF HR HR2 KW
              have HF := HF2
              have HR := HR3
              clear HF2 HR3
              go_wp2
              go_loopg [7] x.length (fun kq v7 w' => ∃ (j : Nat), v7 = .int .i64 (j : Int) ∧ Aside0 (j ≤ x.length) ∧ Aside0 (x.length - j ≤ kq) ∧ Aside0 (pdIn k r c s p (i : Int) (x.drop j) = some b4) ∧ Aside0 (PdR adp i A5 c5 x w') ∧ Aside0 (PdW w B r c s (some add) d (some adp) p w'))
              case atStart => exact ⟨0, rfl, ⟨Nat.zero_le _⟩, ⟨by omega⟩, HIN, HR, HF⟩
              case round =>
                clear HIN HR HF
                obtain ⟨j, rfl, hj, hkj, heqj, HR, HF⟩ := hrel
                have hlx := Kd.C_max HR.out.row
                have hrc := HR.out.cell
                by_cases hltj : j < x.length
                · have cc0 : decide ((j : Int) < (x.length : Int)) = true := by simp; exact hltj
                  have cc1 : decide (j < x.length) = true := decide_eq_true hltj
                  have hq9 := heqj.out
                  rw [List.drop_eq_getElem_cons hltj, pdIn_cons] at hq9
                  have hye : rdOf ByteArray.empty x (j : Int) = x[j] := by
                    unfold rdOf
                    simp [hltj]
                  generalize x[j] = y at hq9 hye
                  obtain ⟨b5, hsu, hq10⟩ := Option.bind_eq_some_iff.mp hq9
                  by_cases hb5 : b5 = true
                  case neg => rw [if_neg hb5] at hq10; cases hq10
                  rw [if_pos hb5] at hq10
                  subst hb5
                  have HEJ := Aside0.mk hq10
                  have HYE := Aside0.mk hye
                  have HLJ := Aside0.mk hltj
                  have KU := Aside0.mk (fun W hC => impl_Support.calls k r c s (some adp) cP p (i : Int) y true W hC HCP.out hsu)
                  obtain ⟨adx, eX, _⟩ := Kd.at_string HR.out.row (j : Int) (by omega) (by omega)
                  cases eX
                  have r1 : (0 ≤ (j : Int)) = True := eq_true (by omega)
                  have r2 : ((j : Int) < (x.length : Int)) = True := eq_true (by omega)
                  have y9 : wrap64 ((j : Int) + 1) = (j : Int) + 1 := by unfold wrap64; omega
                  clear hq9 hq10 hye hltj hsu heqj
                  go_upto_region 16 with fail
                  clear hrc
                  go_cut [80] (fun v80 w' => v80 = .bool false ∧ Aside0 (PdR adp i (some adx) c5 x w') ∧ Aside0 (PdW w B r c s (some add) d (some adp) p w'))
                  case first => as_aux_lemma =>
                    have HFd := Aside0.mk HF.out.drew
                    have HRd := Aside0.mk (HR.out.below (below_drew (Below.refl _ _)))
                    clear HF HR
                    have HALL := (⟨pd_g HFd.out.bk, HRd.out.cell, pd_s HRd.out.row HLJ.out HYE.out, HRd, HFd⟩ : _ ∧ _ ∧ _ ∧ _ ∧ _)
                    go_region_held3 (fun w' => (w'.cell? ⟨B, 0, none⟩ = some (.int .i64 r) ∧ w'.cell? ⟨B, 1, none⟩ = some (.int .i64 c) ∧ w'.cell? ⟨B, 2, none⟩ = some (.string s)) ∧ w'.cell? (adp.add i) = some (.slice (some adx) x.length c5) ∧ w'.cell? (adx.add j) = some (.string y) ∧ Aside0 (PdR adp i (some adx) c5 x w') ∧ Aside0 (PdW w B r c s (some add) d (some adp) p w')) (first | assumption | (go_split_ands; exact ⟨pd_g (‹Aside0 (PdW _ _ _ _ _ _ _ _ _ _)›.out.below hb9).bk, pw_cell_below hb9 (by assumption), pw_cell_below hb9 (by assumption), ⟨‹Aside0 (PdR adp _ _ _ _ _)›.out.below hb9⟩, ⟨‹Aside0 (PdW _ _ _ _ _ _ _ _ _ _)›.out.below hb9⟩⟩) | exact HALL) (first | (go_split_ands; go_at_call 35; with_reducible refine (KU.out _ ‹Aside0 (PdW _ _ _ _ _ _ _ _ _ _)›.out.cp).mono ?_; rintro e wa ⟨rfl, hb9⟩))
                    all_goals (go_wp2_with fail; go_meet; (case rel => (go_split_ands; exact ⟨by simp, ‹Aside0 (PdR adp _ _ _ _ _)›, ‹Aside0 (PdW _ _ _ _ _ _ _ _ _ _)›⟩)))
                  case rest => as_aux_lemma =>
                    obtain ⟨rfl, HR3, HF3⟩ := hcut
                    go_wp2
                    go_roundg (x.length - (j + 1))
                    case measure => have := hkj.out; have := HLJ.out; omega
                    case rel => exact ⟨j + 1, by first | (simp; done) | simp [y9], ⟨by have := HLJ.out; omega⟩, ⟨Nat.le_refl _⟩, HEJ, HR3, HF3⟩
                · have cc0 : decide ((j : Int) < (x.length : Int)) = false := by simp; omega
                  have cc1 : decide (j < x.length) = false := decide_eq_false hltj
                  have y9 : wrap64 ((i : Int) + 1) = (i : Int) + 1 := by unfold wrap64; have := HLT.out; omega
                  clear heqj hj hkj hltj
                  go_wp2
                  go_roundg (p.length - (i + 1))
                  case measure => have := hk.out; have := HLT.out; omega
                  case rel => exact ⟨i + 1, by first | (simp; done) | simp [y9], ⟨by have := HLT.out; omega⟩, ⟨Nat.le_refl _⟩, HE, HF⟩
          · have cb0 : decide ((i : Int) < (p.length : Int)) = false := by simp; omega
            have cb1 : decide (i < p.length) = false := decide_eq_false hlt
            clear heq hi hk hlt
            have c0 := (blk_cell HF.out.bk 0).trans rfl
            have c1 := (blk_cell HF.out.bk 1).trans rfl
            have c2 := (blk_cell HF.out.bk 2).trans rfl
            go_wp2_with fail
            go_at_call 32
            refine (KQ.out _ _ _ HF.out.cp HCP.out).mono ?_
            rintro e wa ⟨v2, rfl, hr, hb9⟩
            obtain ⟨AQ, cQ, rfl, hcq, hCQ⟩ := Kd.S_reads hr
            have HQ := Aside0.mk hCQ
            clear hr hcq hCQ KQ
            have HG := Aside0.mk (HF.out.below hb9)
            clear HF c0 c1 c2 hb9
            have HF := HG
            clear HG
            have c0 := (blk_cell HF.out.bk 0).trans rfl
            have c1 := (blk_cell HF.out.bk 1).trans rfl
            have c2 := (blk_cell HF.out.bk 2).trans rfl
            clear c0 c1 c2
            go_wp2
            go_loopg [9] p.length (fun kq v9 w' => ∃ (i : Nat), v9 = .int .i64 (i : Int) ∧ Aside0 (i ≤ p.length) ∧ Aside0 (p.length - i ≤ kq) ∧ Aside0 (pdTwo k q (p.drop i) i = some b2) ∧ Aside0 (Kd.C (Kd.slice 9 Kd.string) w' AQ q.length q) ∧ Aside0 (PdW w B r c s AD d AP p w'))
            case atStart => exact ⟨0, rfl, ⟨Nat.zero_le _⟩, ⟨by omega⟩, HTWO, HQ, HF⟩
            case round =>
              clear HTWO HQ HF
              obtain ⟨i, rfl, hi, hk, heq, HQ, HF⟩ := hrel
              by_cases hlt : i < p.length
              · have cb0 : decide ((i : Int) < (p.length : Int)) = true := by simp; exact hlt
                have cb1 : decide (i < p.length) = true := decide_eq_true hlt
                have heq' := heq.out
                rw [List.drop_eq_getElem_cons hlt, pdTwo_cons] at heq'
                have hxe : p.getD i [] = p[i] := by rw [List.getD_eq_getElem?_getD, List.getElem?_eq_getElem hlt]; rfl
                generalize p[i] = x at heq' hxe
                by_cases hid : i < q.length
                case neg => rw [if_neg hid] at heq'; cases heq'
                rw [if_pos hid] at heq'
                obtain ⟨b3, hsw, hz_⟩ := Option.bind_eq_some_iff.mp heq'
                clear heq'; have heq' := hz_; clear hz_
                by_cases hb : b3 = true
                case neg => rw [if_neg hb] at heq'; cases heq'
                rw [if_pos hb] at heq'
                subst hb
                have HE := Aside0.mk heq'
                have HLT := Aside0.mk hlt
                generalize hye : q.getD i [] = y at hsw
                obtain ⟨adp, A5, c5, eP, hR, hc5⟩ := pd_row HF.out.cp hlt hxe
                cases eP
                obtain ⟨adq, A6, c6, eD, hR2, hc6⟩ := pd_row HQ.out hid hye
                cases eD
                have HR := Aside0.mk hR
                have HR2 := Aside0.mk hR2
                have KW := Aside0.mk (fun W hC hC2 => laws_sameWords.calls k A5 c5 x A6 c6 y true W hC hc5 hC2 hc6 hsw)
                have p1 : (0 ≤ (i : Int)) = True := eq_true (by omega)
                have q1 : ((i : Int) < (p.length : Int)) = True := eq_true (by omega)
                have q2 : ((i : Int) < (q.length : Int)) = True := eq_true (by omega)
                have y9 : wrap64 ((i : Int) + 1) = (i : Int) + 1 := by unfold wrap64; omega
                clear heq heq' hxe hlt hid hye hsw hR hR2 hc5 hc6
                go_upto_region 22 with fail
                go_cut [99] (fun v99 w' => v99 = .bool false ∧ Aside0 (Kd.C (Kd.slice 9 Kd.string) w' (some adq) q.length q) ∧ Aside0 (PdW w B r c s AD d (some adp) p w'))
                case first => as_aux_lemma =>
                  have HFd := Aside0.mk HF.out.drew
                  have HRd := Aside0.mk (HR.out.below (below_drew (Below.refl _ _)))
                  have HR2d := Aside0.mk (HR2.out.below (below_drew (Below.refl _ _)))
                  have HQd := Aside0.mk (Kd.C_below HQ.out (below_drew (Below.refl _ _)))
                  clear HF HR HR2 HQ
                  have HALL := (⟨HRd.out.cell, HR2d.out.cell, HRd, HR2d, HQd, HFd⟩ : _ ∧ _ ∧ _ ∧ _ ∧ _ ∧ _)
                  go_region_held3 (fun w' => w'.cell? (adp.add i) = some (.slice A5 x.length c5) ∧ w'.cell? (adq.add i) = some (.slice A6 y.length c6) ∧ Aside0 (PdR adp i A5 c5 x w') ∧ Aside0 (PdR adq i A6 c6 y w') ∧ Aside0 (Kd.C (Kd.slice 9 Kd.string) w' (some adq) q.length q) ∧ Aside0 (PdW w B r c s AD d (some adp) p w')) (first | assumption | (go_split_ands; exact ⟨pw_cell_below hb9 (by assumption), pw_cell_below hb9 (by assumption), ⟨‹Aside0 (PdR adp _ _ _ _ _)›.out.below hb9⟩, ⟨‹Aside0 (PdR adq _ _ _ _ _)›.out.below hb9⟩, ⟨Kd.C_below ‹Aside0 (Kd.C _ _ (some adq) q.length q)›.out hb9⟩, ⟨‹Aside0 (PdW _ _ _ _ _ _ _ _ _ _)›.out.below hb9⟩⟩) | exact HALL) (first | (go_split_ands; go_at_call 36; with_reducible refine (KW.out _ ‹Aside0 (PdR adp _ _ _ _ _)›.out.row ‹Aside0 (PdR adq _ _ _ _ _)›.out.row).mono ?_; rintro e wa ⟨rfl, hd9⟩; have hb9 := pd_d0 hd9; clear hd9))
                  all_goals (go_wp2_with fail; go_meet; (case rel => (go_split_ands; exact ⟨by simp, ‹Aside0 (Kd.C _ _ (some adq) q.length q)›, ‹Aside0 (PdW _ _ _ _ _ _ _ _ _ _)›⟩)))
                case rest => as_aux_lemma =>
                  obtain ⟨rfl, HQ2, HF2⟩ := hcut
                  go_wp2
                  go_roundg (p.length - (i + 1))
                  case measure => have := hk.out; have := HLT.out; omega
                  case rel => exact ⟨i + 1, by first | (simp; done) | simp [y9], ⟨by have := HLT.out; omega⟩, ⟨Nat.le_refl _⟩, HE, HQ2, HF2⟩
              · have cb0 : decide ((i : Int) < (p.length : Int)) = false := by simp; omega
                have cb1 : decide (i < p.length) = false := decide_eq_false hlt
                clear heq hi hk hlt
                go_wp2_with fail
                go_meet
                case rel => exact HF
      · have e1 : ((d.length : Int) == (sl.length : Int)) = false := beq_eq_false_iff_ne.mpr (by omega)
        have e2 : (d.length == sl.length) = false := beq_eq_false_iff_ne.mpr hds
        clear h hds
        go_wp2_with fail
        go_meet
        case rel => exact HF
    case rest => as_aux_lemma =>
      have HF2 := hcut
      clear HF HBLK HCD HCP HPD
      have HF := HF2
      clear HF2
      have h := HJ1.out
      clear HJ1
      unfold laws_FnPruned.j1 at h
      obtain ⟨⟨r2, ca, s2, f2, e2⟩, ha2, hz_⟩ := Option.bind_eq_some_iff.mp h
      clear h; have h := hz_; clear hz_
      obtain ⟨⟨f3, ok⟩, hfo, hz_⟩ := Option.bind_eq_some_iff.mp h
      clear h; have h := hz_; clear hz_
      obtain ⟨b3, hfi, hz_⟩ := Option.bind_eq_some_iff.mp h
      clear h; have h := hz_; clear hz_
      obtain ⟨ag, hag, hz_⟩ := Option.bind_eq_some_iff.mp h
      clear h; have h := hz_; clear hz_
      have KD := Aside0.mk (fun W hC => spec_DrawForced.calls k A0 c0_ l0 r2 ca s2 f2 e2 W hC HPC.out ha2)
      have KF := Aside0.mk (fun A cc W hC hc => impl_Forced.calls k r2 ca s2 f2 A cc e2 f3 ok W hC hc hfo)
      have KI := Aside0.mk (fun W => impl_IsFill.calls k r2 ca s2 f2 b3 W hfi)
      have KA := Aside0.mk (fun W => laws_agrees.calls k f3 f2 ag W hag)
      have HJ := Aside0.mk h
      clear ha2 hfo hfi hag h
      go_wp2_with fail
      go_at_call 37
      refine (KD.out _ (Kd.C_below HP.out HF.out.bl)).mono ?_
      rintro e wa ⟨v0, rfl, hr, hb9⟩
      obtain ⟨AE, cE, rfl, hce, hCE⟩ := Kd.Q_reads hr
      have HB2 := Aside0.mk (below_step HF.out.bl hb9)
      have BK := Aside0.mk (blk_new wa (.cells #[.int .i64 r2, .int .i64 ca, .string s2] 28))
      have HE2 := Aside0.mk (Kd.C_alloc hCE (.cells #[.int .i64 r2, .int .i64 ca, .string s2] 28))
      have HCE := Aside0.mk hce
      clear hb9 KD HF hr hce hCE
      go_wp2_with fail
      go_at_call 38
      refine (KF.out _ _ _ HE2.out HCE.out).mono ?_
      rintro e wb ⟨rfl, hb9⟩
      have BK2 := Aside0.mk (blk_below BK.out hb9)
      have HB3 := Aside0.mk (below_step (below_alloc HB2.out (.cells #[.int .i64 r2, .int .i64 ca, .string s2] 28)) hb9)
      clear hb9 KF HB2 BK HE2 HCE
      generalize wa.heap.size = B2 at BK2 ⊢
      have c0 := (blk_cell BK2.out 0).trans rfl
      have c1 := (blk_cell BK2.out 1).trans rfl
      have c2 := (blk_cell BK2.out 2).trans rfl
      clear BK2
      go_upto_region 26 with fail
      go_cut [133] (fun v133 w' => v133 = .bool false ∧ Aside0 (Below w.heap.size w w'))
      case first => as_aux_lemma =>
        have h := HJ.out
        clear HJ
        cases ok with
        | true =>
          first | rw [if_pos rfl] at h | rw [if_pos trivial] at h
          by_cases hba : b3 = true → ag = true
          case neg => rw [if_neg hba] at h; cases h
          clear h
          cases b3 with
          | true =>
            obtain rfl := hba rfl
            clear hba
            go_wp2_with fail
            go_at_call 39
            refine (KI.out _).mono ?_
            rintro e wa ⟨rfl, hb9⟩
            have HB4 := Aside0.mk (below_step HB3.out hb9)
            clear hb9 HB3
            go_wp2_with fail
            go_at_call 25
            refine (KA.out _).mono ?_
            rintro e wa ⟨rfl, hb9⟩
            have HB5 := Aside0.mk (below_step HB4.out (pd_d0 hb9))
            clear hb9 HB4
            go_wp2_with fail
            go_meet
            case rel => exact ⟨by simp, HB5⟩
          | false =>
            clear hba
            go_wp2_with fail
            go_at_call 39
            refine (KI.out _).mono ?_
            rintro e wa ⟨rfl, hb9⟩
            have HB4 := Aside0.mk (below_step HB3.out hb9)
            clear hb9 HB3
            go_wp2_with fail
            go_meet
            case rel => exact ⟨by simp, HB4⟩
        | false =>
          rw [if_neg (by simp)] at h
          by_cases hff : f3 = f2
          case neg => rw [if_neg hff] at h; cases h
          subst hff
          clear h
          go_wp2_with fail
          go_meet
          case rel => exact ⟨by simp, HB3⟩
      case rest => as_aux_lemma =>
        obtain ⟨rfl, HB4⟩ := hcut
        clear HB3 c0 c1 c2 KI KA
        have h : laws_FnPruned.j2 k l0 = some r_ := by
          have h := HJ.out
          cases ok with
          | true =>
            first | rw [if_pos rfl] at h | rw [if_pos trivial] at h
            by_cases hba : b3 = true → ag = true
            case neg => rw [if_neg hba] at h; cases h
            rw [if_pos hba] at h
            exact h
          | false =>
            rw [if_neg (by simp)] at h
            by_cases hff : f3 = f2
            case neg => rw [if_neg hff] at h; cases h
            rw [if_pos hff] at h
            exact h
        clear HJ
        unfold laws_FnPruned.j2 at h
        obtain ⟨e3, hd3, hz_⟩ := Option.bind_eq_some_iff.mp h
        clear h; have h := hz_; clear hz_
        obtain ⟨b4, hb4, hz_⟩ := Option.bind_eq_some_iff.mp h
        clear h; have h := hz_; clear hz_
        by_cases hbe : b4 = true → 0 < e3.length
        case neg => rw [if_neg hbe] at h; cases h
        rw [if_pos hbe] at h
        obtain rfl := Option.some.inj h
        clear h
        have KD3 := Aside0.mk (fun W hC => spec_DrawIsDead.calls k A0 c0_ l0 e3 W hC HPC.out hd3)
        have KI3 := Aside0.mk (fun A cc W hC hc => impl_IsDead.calls A cc e3 b4 W hC hc hb4)
        clear hd3 hb4
        go_wp2_with fail
        go_at_call 40
        refine (KD3.out _ (Kd.C_below HP.out HB4.out)).mono ?_
        rintro e wa ⟨v0, rfl, hr, hb9⟩
        obtain ⟨A3, c3, rfl, hc3, hC3⟩ := Kd.Q_reads hr
        have HB5 := Aside0.mk (below_step HB4.out hb9)
        clear hb9 KD3 HB4 hr
        go_wp2_with fail
        go_at_call 41
        refine (KI3.out _ _ _ hC3 hc3).mono ?_
        rintro e wa ⟨rfl, hb9⟩
        have HB6 := Aside0.mk (below_step HB5.out (pd_d0 hb9))
        clear hb9 HB5 KI3 hC3 hc3
        cases b4 with
        | true =>
          have hpos := hbe rfl
          have z1 : decide ((e3.length : Int) > 0) = true := decide_eq_true (by omega)
          have z2 : decide (0 < (e3.length : Int)) = true := decide_eq_true (by omega)
          have z3 : decide (0 < e3.length) = true := decide_eq_true hpos
          clear hbe
          go_wp2_with fail
          go_ret
          exact ⟨by simp, HB6.out⟩
        | false =>
          clear hbe
          go_wp2_with fail
          go_ret
          exact ⟨by simp, HB6.out⟩
/-- THE ONE PURE STATEMENT of laws_FnPruned. -/
def laws_FnPruned.Pure : Prop := ∀ (l0 : List Int), l0.length ≤ maxLen → l0.length * 1 ≤ 140737488351232 → (∀ x ∈ l0, (Lit.int .u8 x).wf = true) → ∃ k, laws_FnPruned.f k l0 = some true
theorem laws_FnPruned.walk (P : laws_FnPruned.Pure) (a0 : Option Addr) (len0 cap0 : Nat) (z0 : List Int) (w : World) (w0 : (a0 = none ∧ len0 = 0 ∧ cap0 = 0 ∧ z0 = []) ∨ ∃ x, a0 = some x ∧ len0 ≤ cap0 ∧ cap0 ≤ maxLen ∧ z0.length = cap0 ∧ (∀ i, i < z0.length → w.cell? (x.add i) = some (.int .u8 (z0.getD i 0))) ∧ ∀ n ∈ z0, (Lit.int .u8 n).wf = true) (y0 : len0 * 1 ≤ 140737488351232) :
    Calls Try.prog 7 #[.slice a0 len0 cap0] w fun e w' => e = .returned (.bool true) ∧ Below w.heap.size w w' := by
  obtain ⟨l0, rfl, hr0, hm0, hw0, hc0⟩ := ReadsInt.ofRowC w0
  obtain ⟨k, h⟩ := P l0 hm0 y0 hw0
  refine (laws_FnPruned.calls k _ _ l0 true w (Kd.C_of_reads (d := (0 : Int)) (h1 := fun _ => rfl) hr0) hc0 h).mono ?_
  rintro e w' ⟨rfl, hd⟩
  exact ⟨rfl, hd⟩


end Go.Proofs.Ytodcckiphdnjeaa.QFnPruned
