-- Written by a changed copy of the kit's printer (wip/mp.py of this repo), for this claim; Lean checks it.
import Derived.Test.YtodcckiphdnjeabQFnPartsx0
import Derived.Test.YtodcckiphdnjeabQFnPartsx1
import Derived.Test.YtodcckiphdnjeabQFnPartsx2
import Derived.Test.YtodcckiphdnjeabQFnPartsx3
import Derived.Test.YtodcckiphdnjeabQFnPartsx4
namespace Go.Proofs.Ytodcckiphdnjeab.QFnParts
open Go.RowKit Go.Proofs.YtodcckiphdnjeabW.PrintWords Go.Proofs.YtodcckiphdnjeabW.PrintLast Go.Proofs.YtodcckiphdnjeabW.PrintMore
attribute [local go_sem] max2_int min2_int max_two min_two max_three min_three max_four min_four   -- for this text's walks alone
set_option linter.unusedVariables false
set_option linter.unusedSimpArgs false

/-! ### laws_FnParts: function 4 (given) -/
/-- A row of a word's splits, as the law asks for it. -/
def partsRow (a : ByteArray) (y : List ByteArray) (i : Nat) : Bool := decide (y.length = 2) && decide ((y.getD 0 ⟨#[]⟩).size + (y.getD 1 ⟨#[]⟩).size ≤ 9223372036854775807 ∧ ((y.getD 0 ⟨#[]⟩) ++ (y.getD 1 ⟨#[]⟩)).toList = a.toList ∧ (y.getD 0 ⟨#[]⟩).size = i + 1)
theorem partsRow_two {a : ByteArray} {y : List ByteArray} {i : Nat} (h : partsRow a y i = true) : ∃ u v, y = [u, v] ∧ u.size + v.size ≤ 9223372036854775807 ∧ (u ++ v).toList = a.toList ∧ u.size = i + 1 := by
  unfold partsRow at h
  rw [Bool.and_eq_true, decide_eq_true_eq, decide_eq_true_eq] at h
  obtain ⟨h2, h3⟩ := h
  rcases y with _ | ⟨u, _ | ⟨v, _ | ⟨z, r⟩⟩⟩
  · simp at h2
  · simp at h2
  · exact ⟨u, v, rfl, h3⟩
  · simp at h2
def partsAll (a : ByteArray) : List (List ByteArray) → Nat → Bool
  | [], _ => true
  | y :: r, i => partsRow a y i && partsAll a r (i + 1)
theorem partsAll_cons (a : ByteArray) (y : List ByteArray) (r : List (List ByteArray)) (i : Nat) : partsAll a (y :: r) i = (partsRow a y i && partsAll a r (i + 1)) := rfl
theorem parts_cells {W : World} {A : Option Addr} {u v : ByteArray} (h : Kd.C Kd.string W A [u, v].length [u, v]) : ∃ bk o, A = some ⟨bk, o, none⟩ ∧ W.cell? ⟨bk, o, none⟩ = some (.string u) ∧ W.cell? ⟨bk, o + 1, none⟩ = some (.string v) := by
  obtain ⟨ad, e1, hx⟩ := Kd.at_string h 0 (by omega) (by simp)
  obtain ⟨ad2, e2, hy⟩ := Kd.at_string h 1 (by omega) (by simp)
  subst e1
  obtain rfl := Option.some.inj e2
  have hx0 : W.cell? ad = some (.string u) := hx
  have hs : ad.spot = none := by
    unfold World.cell? at hx0
    split at hx0
    · split at hx0
      · cases hx0
      · rename_i hn
        cases hsp : ad.spot with
        | none => rfl
        | some v => rw [hsp] at hn; simp at hn
    · cases hx0
  obtain ⟨bk, o, sp⟩ := ad
  simp only at hs
  subst hs
  exact ⟨bk, o, rfl, hx0, hy⟩
def insGo (k : Nat) (p q : ByteArray) : List ByteArray → Option Bool
  | [] => some true
  | x :: r => (impl_IsWord.f k x).bind fun t => if x.size = p.size + q.size ∧ 1 ≤ x.size ∧ 1 ≤ p.size ∧ (x.extract 0 1).toList = (p.extract 0 1).toList then (if t = true then (impl_IsInside.f k q x).bind fun t2 => if t2 = true then insGo k p q r else none else insGo k p q r) else none
theorem insGo_cons (k : Nat) (p q x : ByteArray) (r : List ByteArray) : insGo k p q (x :: r) = (impl_IsWord.f k x).bind fun t => if x.size = p.size + q.size ∧ 1 ≤ x.size ∧ 1 ≤ p.size ∧ (x.extract 0 1).toList = (p.extract 0 1).toList then (if t = true then (impl_IsInside.f k q x).bind fun t2 => if t2 = true then insGo k p q r else none else insGo k p q r) else none := rfl
def laws_FnParts.rest (k : Nat) (l : List Int) (a : ByteArray) : Option Bool := (impl_SplitsOf.f k a).bind fun s => if s.length ≤ 1000 ∧ partsAll a s 0 = true then (spec_DrawInsertions.f k l).bind fun pq => (impl_Insertions.f k pq.1 pq.2).bind fun I => if I.length ≤ 1000000 ∧ pq.1.size + pq.2.size ≤ 1000 then (insGo k pq.1 pq.2 I).bind fun g => if g = true then (spec_DrawIsInside.f k l).bind fun px => (impl_IsInside.f k px.1 px.2).bind fun b => if (if b = true then px.1.size + 2 ≤ px.2.size ∧ px.2.size ≤ 1000 else True) then some true else none else none else none else none
def laws_FnParts.g (k : Nat) (l : List Int) : Option Bool := (spec_DrawHeadOf.f k l).bind fun a => (impl_IsWord.f k a).bind fun b1 => (spec_IsWord.f k a).bind fun b2 => if b2 = b1 then (if b1 = true then (impl_HeadOf.f k a).bind fun h => (impl_WithoutHead.f k a).bind fun nh => (impl_WithoutTail.f k a).bind fun nt => (impl_Backwards.f a).bind fun ba => (impl_HeadOf.f k ba).bind fun hb => if (h.size + nh.size ≤ 9223372036854775807 ∧ (h ++ nh).toList = a.toList) ∧ (nt.size + hb.size ≤ 9223372036854775807 ∧ (nt ++ hb).toList = a.toList) then laws_FnParts.rest k l a else none else laws_FnParts.rest k l a) else none
def laws_FnParts.f (k : Nat) (l : List Int) : Option Bool := (laws_big.f l).bind fun b => if b = true then some true else laws_FnParts.g k l
set_option maxHeartbeats 8000000 in
set_option maxRecDepth 100000 in
theorem laws_FnParts.calls (k : Nat) (A0 : Option Addr) (c0 : Nat) (l0 : List Int) (r : Bool) (w : World) (hr0 : Kd.C (Kd.int .u8) w A0 l0.length l0) (hc0 : l0.length ≤ c0) (h : laws_FnParts.f k l0 = some r) :
    Calls Try.prog 4 #[.slice A0 l0.length c0] w fun e w' => e = .returned (.bool r) ∧ Below w.heap.size w w' := by
  unfold laws_FnParts.f at h
  obtain ⟨b, hb, h⟩ := Option.bind_eq_some_iff.mp h
  have KB := Aside0.mk (fun W hC => laws_big.calls A0 c0 l0 b W hC hc0 hb)
  have HP := Aside0.mk hr0
  have HPC := Aside0.mk hc0
  clear hr0 hc0 hb
  cases b with
  | true =>
    rw [if_pos rfl] at h
    obtain rfl := Option.some.inj h
    clear h
    go_enter Try.func4, Try.ntmps4
    go_wp2_with fail
    go_at_call 7
    refine (KB.out _ HP.out).mono ?_
    rintro e w' ⟨rfl, nd, rfl⟩
    go_wp2
    go_ret
    exact ⟨rfl, pw_below_drewN (Below.refl _ _) _⟩
  | false =>
    rw [if_neg (by simp)] at h
    unfold laws_FnParts.g at h
    obtain ⟨a, ha, h⟩ := Option.bind_eq_some_iff.mp h
    obtain ⟨b1, hb1, h⟩ := Option.bind_eq_some_iff.mp h
    obtain ⟨b2, hb2, h⟩ := Option.bind_eq_some_iff.mp h
    by_cases h12 : b2 = b1
    · rw [if_pos h12] at h
      subst h12
      have KH := Aside0.mk (fun W hC => spec_DrawHeadOf.calls k A0 c0 l0 a W hC HPC.out ha)
      have KW1 := Aside0.mk (fun W => impl_IsWord.calls k a b2 W hb1)
      have KW2 := Aside0.mk (fun W => spec_IsWord.calls k a b2 W hb2)
      have HH := Aside0.mk h
      clear ha hb1 hb2 h
      go_enter Try.func4, Try.ntmps4
      go_wp2_with fail
      go_at_call 7
      refine (KB.out _ HP.out).mono ?_
      rintro e w' ⟨rfl, nd, rfl⟩
      have HB1 := Aside0.mk (pw_below_drewN (Below.refl w.heap.size w) nd)
      clear KB
      generalize w.drewN nd = w1 at HB1 ⊢
      go_wp2_with fail
      go_at_call 23
      refine (KH.out _ (Kd.C_below HP.out HB1.out)).mono ?_
      rintro e w2 ⟨rfl, hb⟩
      have HB2 := Aside0.mk (below_step HB1.out hb)
      clear hb KH HB1
      go_wp2_with fail
      go_at_call 12
      refine (KW1.out _).mono ?_
      rintro e w' ⟨rfl, nd, rfl⟩
      go_wp2_with fail
      go_at_call 24
      refine (KW2.out _).mono ?_
      rintro e w' ⟨rfl, nd2, rfl⟩
      have HB3 := Aside0.mk (pw_below_drewN (pw_below_drewN HB2.out nd) nd2)
      clear HB2 KW2
      generalize (w2.drewN nd).drewN nd2 = w3 at HB3 ⊢
      have h := HH.out
      clear HH
      have hrest : laws_FnParts.rest k l0 a = some r := by
        cases b2 with
        | true =>
          rw [if_pos rfl] at h
          obtain ⟨_, _, h⟩ := Option.bind_eq_some_iff.mp h
          obtain ⟨_, _, h⟩ := Option.bind_eq_some_iff.mp h
          obtain ⟨_, _, h⟩ := Option.bind_eq_some_iff.mp h
          obtain ⟨_, _, h⟩ := Option.bind_eq_some_iff.mp h
          obtain ⟨_, _, h⟩ := Option.bind_eq_some_iff.mp h
          split at h
          · exact h
          · cases h
        | false =>
          rw [if_neg (by simp)] at h
          exact h
      unfold laws_FnParts.rest at hrest
      obtain ⟨s, hs, hrest⟩ := Option.bind_eq_some_iff.mp hrest
      by_cases hsa : s.length ≤ 1000 ∧ partsAll a s 0 = true
      · rw [if_pos hsa] at hrest
        obtain ⟨⟨p, q⟩, hpq, hrest⟩ := Option.bind_eq_some_iff.mp hrest
        obtain ⟨I, hI, hrest⟩ := Option.bind_eq_some_iff.mp hrest
        by_cases hil : I.length ≤ 1000000 ∧ p.size + q.size ≤ 1000
        · rw [if_pos hil] at hrest
          obtain ⟨g, hg, hrest⟩ := Option.bind_eq_some_iff.mp hrest
          by_cases hg1 : g = true
          · rw [if_pos hg1] at hrest
            subst hg1
            obtain ⟨⟨m, x2⟩, hmx, hrest⟩ := Option.bind_eq_some_iff.mp hrest
            obtain ⟨bx, hbx, hrest⟩ := Option.bind_eq_some_iff.mp hrest
            by_cases hla : (if bx = true then m.size + 2 ≤ x2.size ∧ x2.size ≤ 1000 else True)
            · rw [if_pos hla] at hrest
              obtain rfl := Option.some.inj hrest
              have HSL := Aside0.mk hsa.1
              have HPA := Aside0.mk (show partsAll a (s.drop 0) 0 = true from hsa.2)
              have HIL := Aside0.mk hil.1
              have HPQ := Aside0.mk hil.2
              have HIG := Aside0.mk (show insGo k p q (I.drop 0) = some true from hg)
              have HLA := Aside0.mk hla
              have KSP := Aside0.mk (fun W => impl_SplitsOf.calls k a s W hs)
              have KDI := Aside0.mk (fun W hC => spec_DrawInsertions.calls k A0 c0 l0 p q W hC HPC.out hpq)
              have KIN := Aside0.mk (fun W => impl_Insertions.calls k p q I W hI)
              have KDX := Aside0.mk (fun W hC => spec_DrawIsInside.calls k A0 c0 l0 m x2 W hC HPC.out hmx)
              have KXX := Aside0.mk (fun W => impl_IsInside.calls k m x2 bx W hbx)
              clear hs hsa hpq hI hil hg hmx hbx hla hrest
              cases b2 with
              | false =>
                clear h
                go_wp2_with fail
                go_at_call 12
                refine (KW1.out _).mono ?_
                rintro e w' ⟨rfl, nd, rfl⟩
                go_wp2_with fail
                go_at_call 12
                refine (KW1.out _).mono ?_
                rintro e w' ⟨rfl, nd2, rfl⟩
                have HB4 := Aside0.mk (pw_below_drewN (pw_below_drewN HB3.out nd) nd2)
                clear HB3 KW1
                generalize (w3.drewN nd).drewN nd2 = w4 at HB4 ⊢
                go_wp2_with fail
                go_at_call 15
                refine (KSP.out _).mono ?_
                rintro e w5 ⟨v0, rfl, hs, hb⟩
                obtain ⟨A5, c5, rfl⟩ := Kd.S_slice hs
                have HS := Aside0.mk (Kd.S_reads' hs).2.2
                have HB5 := Aside0.mk (below_step HB4.out hb)
                clear hs hb HB4 KSP
                go_wp2
                go_loopg [5] s.length (fun kq v5 w' => ∃ (i : Nat), v5 = .int .i64 (i : Int) ∧ Aside0 (i ≤ s.length) ∧ Aside0 (s.length - i ≤ kq) ∧ Aside0 (partsAll a (s.drop i) i = true) ∧ Aside0 (Below w5.heap.size w5 w'))
                case atStart => exact ⟨0, rfl, ⟨Nat.zero_le _⟩, ⟨by omega⟩, HPA, ⟨Below.refl _ _⟩⟩
                case round =>
                  clear HPA
                  obtain ⟨i, rfl, hi, hk, heq, HB⟩ := hrel
                  have hsl := HSL.out
                  by_cases hlt : i < s.length
                  · have cb0 : decide ((i : Int) < (s.length : Int)) = true := by simp; exact hlt
                    have cb1 : decide (i < s.length) = true := decide_eq_true hlt
                    obtain ⟨ad, Ai, ci, e1, hx, hle, hC⟩ := at_L2 HS.out (i : Int) (by omega) (by omega)
                    cases e1
                    have hcr : rd_L2 s (i : Int) = s[i] := by
                      unfold rd_L2
                      simp [hlt]
                    rw [hcr] at hx hC hle
                    simp only [Int.toNat_natCast] at hx
                    have heq' := heq.out
                    rw [List.drop_eq_getElem_cons hlt, partsAll_cons, Bool.and_eq_true] at heq'
                    obtain ⟨hrow, hrest⟩ := heq'
                    generalize s[i] = y at hx hC hle hrow hcr
                    obtain ⟨u, v, rfl, hsz, htl, hui⟩ := partsRow_two hrow
                    obtain ⟨bk, o, rfl, hu, hv⟩ := parts_cells hC
                    have hx' := pw_cell_below HB.out hx
                    have hu' := pw_cell_below HB.out hu
                    have hv' := pw_cell_below HB.out hv
                    have p1 : (0 ≤ (i : Int)) = True := eq_true (by omega)
                    have q1 : ((i : Int) < (s.length : Int)) = True := eq_true (by omega)
                    have z1 : (9223372036854775807 < u.size + v.size) = False := eq_false (by omega)
                    have z2 : ((u ++ v).toList == a.toList) = true := beq_iff_eq.mpr htl
                    have z3 : ((u.size : Int) == (i : Int) + 1) = true := beq_iff_eq.mpr (by omega)
                    have z4 : (u.size == i + 1) = true := beq_iff_eq.mpr hui
                    have z5 : ((u.size : Int) != (i : Int) + 1) = false := bne_eq_false_iff_eq.mpr (by omega)
                    have z6 : ((u ++ v).toList != a.toList) = false := bne_eq_false_iff_eq.mpr htl
                    have z7 : (u.size + v.size ≤ 9223372036854775807) = True := eq_true hsz
                    have HREST := Aside0.mk hrest
                    have HLT := Aside0.mk hlt
                    clear heq hrest hsz htl hui hcr hx hu hv hC hrow hle
                    go_wp2
                    go_quiet (fail)
                    go_wp2
                    go_roundg (s.length - (i + 1))
                    case measure => have := hk.out; have := HLT.out; omega
                    case rel => exact ⟨i + 1, by simp, ⟨by have := HLT.out; omega⟩, ⟨Nat.le_refl _⟩, HREST, ⟨pw_below_drewN HB.out _⟩⟩
                  · have cb0 : decide ((i : Int) < (s.length : Int)) = false := by simp; omega
                    have cb1 : decide (i < s.length) = false := decide_eq_false hlt
                    have HB6 := Aside0.mk (below_step HB5.out HB.out)
                    clear heq HB HB5 HS hlt hi hk
                    go_wp2_with fail
                    go_at_call 28
                    refine (KDI.out _ (Kd.C_below HP.out HB6.out)).mono ?_
                    rintro e w7 ⟨rfl, hb⟩
                    have HB7 := Aside0.mk (below_step HB6.out hb)
                    clear hb HB6 KDI
                    go_wp2_with fail
                    go_at_call 29
                    refine (KIN.out _).mono ?_
                    rintro e w8 ⟨v1, rfl, hr, hb⟩
                    obtain ⟨A8, c8, rfl⟩ := Kd.R_slice hr
                    have HR := Aside0.mk (Kd.R_reads' hr).2.2
                    have HB8 := Aside0.mk (below_step HB7.out hb)
                    clear hr hb HB7 KIN
                    go_wp2
                    go_loopg [9] I.length (fun kq v9 w' => ∃ (j : Nat), v9 = .int .i64 (j : Int) ∧ Aside0 (j ≤ I.length) ∧ Aside0 (I.length - j ≤ kq) ∧ Aside0 (insGo k p q (I.drop j) = some true) ∧ Aside0 (Below w8.heap.size w8 w'))
                    case atStart => exact ⟨0, rfl, ⟨Nat.zero_le _⟩, ⟨by omega⟩, HIG, ⟨Below.refl _ _⟩⟩
                    case round =>
                      clear HIG
                      obtain ⟨j, rfl, hj, hk, heq, HB⟩ := hrel
                      have hil := HIL.out
                      have hpq := HPQ.out
                      by_cases hlt : j < I.length
                      · have cb0 : decide ((j : Int) < (I.length : Int)) = true := by simp; exact hlt
                        have cb1 : decide (j < I.length) = true := decide_eq_true hlt
                        obtain ⟨ad, e1, hx⟩ := Kd.at_string HR.out (j : Int) (by omega) (by omega)
                        cases e1
                        have hcr : rdOf ByteArray.empty I (j : Int) = I[j] := by
                          unfold rdOf
                          simp [hlt]
                        rw [hcr] at hx
                        simp only [Int.toNat_natCast] at hx
                        replace hx := pw_cell_below HB.out hx
                        have heq' := heq.out
                        rw [List.drop_eq_getElem_cons hlt, insGo_cons] at heq'
                        obtain ⟨t, ht, heq'⟩ := Option.bind_eq_some_iff.mp heq'
                        generalize I[j] = x at hx hcr heq' ht
                        by_cases hcc : x.size = p.size + q.size ∧ 1 ≤ x.size ∧ 1 ≤ p.size ∧ (x.extract 0 1).toList = (p.extract 0 1).toList
                        · rw [if_pos hcc] at heq'
                          obtain ⟨hxs, hx1, hp1, hext⟩ := hcc
                          have KW := Aside0.mk (fun W => impl_IsWord.calls k x t W ht)
                          have p1 : (0 ≤ (j : Int)) = True := eq_true (by omega)
                          have q1 : ((j : Int) < (I.length : Int)) = True := eq_true (by omega)
                          have z1 : ((x.size : Int) == (p.size : Int) + (q.size : Int)) = true := beq_iff_eq.mpr (by omega)
                          have z2 : (x.size == p.size + q.size) = true := beq_iff_eq.mpr hxs
                          have zw : IntKind.i64.wrap ((p.size : Int) + (q.size : Int)) = (p.size : Int) + (q.size : Int) := by simp [IntKind.wrap, IntKind.bits, IntKind.signed]; omega
                          have zq : ((x.size : Int) != IntKind.i64.wrap ((p.size : Int) + (q.size : Int))) = false := by rw [zw]; exact bne_eq_false_iff_eq.mpr (by omega)
                          have zq2 : ((x.size : Int) != (p.size : Int) + (q.size : Int)) = false := bne_eq_false_iff_eq.mpr (by omega)
                          have z3b : ((x.extract 0 1).toList != (p.extract 0 1).toList) = false := bne_eq_false_iff_eq.mpr hext
                          have z3 : ((x.extract 0 1).toList == (p.extract 0 1).toList) = true := beq_iff_eq.mpr hext
                          have z4 : ((1 : Int) ≤ (x.size : Int)) = True := eq_true (by omega)
                          have z5 : ((1 : Int) ≤ (p.size : Int)) = True := eq_true (by omega)
                          have z6 : (1 ≤ x.size) = True := eq_true hx1
                          have z7 : (1 ≤ p.size) = True := eq_true hp1
                          clear zw
                          have HLT := Aside0.mk hlt
                          cases t with
                          | true =>
                            rw [if_pos rfl] at heq'
                            obtain ⟨t2, ht2, heq'⟩ := Option.bind_eq_some_iff.mp heq'
                            by_cases ht3 : t2 = true
                            · rw [if_pos ht3] at heq'
                              subst ht3
                              have KI2 := Aside0.mk (fun W => impl_IsInside.calls k q x true W ht2)
                              have HE := Aside0.mk heq'
                              clear heq heq' ht ht2 hxs hx1 hp1 hext hcr
                              go_wp2
                              go_quiet (first | (go_at_call 12; refine (KW.out _).mono ?_; rintro e w' ⟨rfl, nd9, rfl⟩; first | exact ⟨rfl, _, World.drewN_drewN _ _ _⟩ | exact ⟨rfl, _, rfl⟩) | (go_at_call 16; refine (KI2.out _).mono ?_; rintro e w' ⟨rfl, nd9, rfl⟩; first | exact ⟨rfl, _, World.drewN_drewN _ _ _⟩ | exact ⟨rfl, _, rfl⟩))
                              go_wp2
                              go_roundg (I.length - (j + 1))
                              case measure => have := hk.out; have := HLT.out; omega
                              case rel => exact ⟨j + 1, by simp, ⟨by have := HLT.out; omega⟩, ⟨Nat.le_refl _⟩, HE, ⟨pw_below_drewN HB.out _⟩⟩
                            · rw [if_neg ht3] at heq'
                              cases heq'
                          | false =>
                            rw [if_neg (by simp)] at heq'
                            have HE := Aside0.mk heq'
                            clear heq heq' ht hxs hx1 hp1 hext hcr
                            go_wp2
                            go_quiet (first | (go_at_call 12; refine (KW.out _).mono ?_; rintro e w' ⟨rfl, nd9, rfl⟩; first | exact ⟨rfl, _, World.drewN_drewN _ _ _⟩ | exact ⟨rfl, _, rfl⟩))
                            go_wp2
                            go_roundg (I.length - (j + 1))
                            case measure => have := hk.out; have := HLT.out; omega
                            case rel => exact ⟨j + 1, by simp, ⟨by have := HLT.out; omega⟩, ⟨Nat.le_refl _⟩, HE, ⟨pw_below_drewN HB.out _⟩⟩
                        · rw [if_neg hcc] at heq'
                          cases heq'
                      · have cb0 : decide ((j : Int) < (I.length : Int)) = false := by simp; omega
                        have cb1 : decide (j < I.length) = false := decide_eq_false hlt
                        have HB9 := Aside0.mk (below_step HB8.out HB.out)
                        clear heq HB HB8 HR hlt hj hk
                        go_wp2_with fail
                        go_at_call 30
                        refine (KDX.out _ (Kd.C_below HP.out HB9.out)).mono ?_
                        rintro e w10 ⟨rfl, hb⟩
                        have HB10 := Aside0.mk (below_step HB9.out hb)
                        clear hb HB9 KDX
                        go_wp2_with fail
                        go_at_call 16
                        refine (KXX.out _).mono ?_
                        rintro e w' ⟨rfl, nd, rfl⟩
                        have HB11 := Aside0.mk (pw_below_drewN HB10.out nd)
                        clear HB10 KXX
                        generalize w10.drewN nd = w11 at HB11 ⊢
                        have hL := HLA.out
                        clear HLA
                        cases bx with
                        | false =>
                          go_wp2
                          go_ret
                          exact ⟨rfl, HB11.out⟩
                        | true =>
                          rw [if_pos rfl] at hL
                          obtain ⟨hz1, hz2⟩ := hL
                          have y1 : decide ((m.size : Int) ≤ (x2.size : Int) - 2) = true := decide_eq_true (by omega)
                          go_wp2
                          go_ret
                          exact ⟨rfl, HB11.out⟩
              | true =>
                rw [if_pos rfl] at h
                obtain ⟨h1, hh1, h⟩ := Option.bind_eq_some_iff.mp h
                obtain ⟨nh, hnh, h⟩ := Option.bind_eq_some_iff.mp h
                obtain ⟨nt, hnt, h⟩ := Option.bind_eq_some_iff.mp h
                obtain ⟨ba, hba, h⟩ := Option.bind_eq_some_iff.mp h
                obtain ⟨hb9, hhb, h⟩ := Option.bind_eq_some_iff.mp h
                by_cases hcond : (h1.size + nh.size ≤ 9223372036854775807 ∧ (h1 ++ nh).toList = a.toList) ∧ (nt.size + hb9.size ≤ 9223372036854775807 ∧ (nt ++ hb9).toList = a.toList)
                · clear h
                  obtain ⟨⟨n1, n2⟩, n3, n4⟩ := hcond
                  have KH1 := Aside0.mk (fun W => impl_HeadOf.calls k a h1 W hh1)
                  have KNH := Aside0.mk (fun W => impl_WithoutHead.calls k a nh W hnh)
                  have KNT := Aside0.mk (fun W => impl_WithoutTail.calls k a nt W hnt)
                  have KBA := Aside0.mk (fun W => impl_Backwards.calls a ba W hba)
                  have KHB := Aside0.mk (fun W => impl_HeadOf.calls k ba hb9 W hhb)
                  have z1 : (9223372036854775807 < h1.size + nh.size) = False := eq_false (by omega)
                  have z2 : ((h1 ++ nh).toList == a.toList) = true := beq_iff_eq.mpr n2
                  have z3 : (9223372036854775807 < nt.size + hb9.size) = False := eq_false (by omega)
                  have z4 : ((nt ++ hb9).toList == a.toList) = true := beq_iff_eq.mpr n4
                  clear hh1 hnh hnt hba hhb n1 n2 n3 n4
                  go_wp2_with fail
                  go_at_call 12
                  refine (KW1.out _).mono ?_
                  rintro e w' ⟨rfl, nd, rfl⟩
                  go_wp2_with fail
                  go_at_call 25
                  refine (KH1.out _).mono ?_
                  rintro e w' ⟨rfl, nd2, rfl⟩
                  go_wp2_with fail
                  go_at_call 26
                  refine (KNH.out _).mono ?_
                  rintro e w' ⟨rfl, nd3, rfl⟩
                  go_wp2_with fail
                  go_at_call 12
                  refine (KW1.out _).mono ?_
                  rintro e w' ⟨rfl, nd4, rfl⟩
                  go_wp2_with fail
                  go_at_call 27
                  refine (KNT.out _).mono ?_
                  rintro e w' ⟨rfl, nd5, rfl⟩
                  have HB3a := Aside0.mk (pw_below_drewN HB3.out (nd + nd2 + nd3 + nd4 + nd5))
                  clear HB3 KW1 KH1 KNH KNT
                  go_wp2_with fail
                  go_at_call 13
                  refine (KBA.out _).mono ?_
                  rintro e w3b ⟨rfl, hb⟩
                  have HB3b := Aside0.mk (below_step HB3a.out hb)
                  clear hb HB3a KBA
                  go_wp2_with fail
                  go_at_call 25
                  refine (KHB.out _).mono ?_
                  rintro e w' ⟨rfl, nd6, rfl⟩
                  have HB4 := Aside0.mk (pw_below_drewN HB3b.out nd6)
                  clear HB3b KHB
                  generalize w3b.drewN nd6 = w4 at HB4 ⊢
                  go_wp2_with fail
                  go_at_call 15
                  refine (KSP.out _).mono ?_
                  rintro e w5 ⟨v0, rfl, hs, hb⟩
                  obtain ⟨A5, c5, rfl⟩ := Kd.S_slice hs
                  have HS := Aside0.mk (Kd.S_reads' hs).2.2
                  have HB5 := Aside0.mk (below_step HB4.out hb)
                  clear hs hb HB4 KSP
                  go_wp2
                  go_loopg [5] s.length (fun kq v5 w' => ∃ (i : Nat), v5 = .int .i64 (i : Int) ∧ Aside0 (i ≤ s.length) ∧ Aside0 (s.length - i ≤ kq) ∧ Aside0 (partsAll a (s.drop i) i = true) ∧ Aside0 (Below w5.heap.size w5 w'))
                  case atStart => exact ⟨0, rfl, ⟨Nat.zero_le _⟩, ⟨by omega⟩, HPA, ⟨Below.refl _ _⟩⟩
                  case round =>
                    clear HPA
                    obtain ⟨i, rfl, hi, hk, heq, HB⟩ := hrel
                    have hsl := HSL.out
                    by_cases hlt : i < s.length
                    · have cb0 : decide ((i : Int) < (s.length : Int)) = true := by simp; exact hlt
                      have cb1 : decide (i < s.length) = true := decide_eq_true hlt
                      obtain ⟨ad, Ai, ci, e1, hx, hle, hC⟩ := at_L2 HS.out (i : Int) (by omega) (by omega)
                      cases e1
                      have hcr : rd_L2 s (i : Int) = s[i] := by
                        unfold rd_L2
                        simp [hlt]
                      rw [hcr] at hx hC hle
                      simp only [Int.toNat_natCast] at hx
                      have heq' := heq.out
                      rw [List.drop_eq_getElem_cons hlt, partsAll_cons, Bool.and_eq_true] at heq'
                      obtain ⟨hrow, hrest⟩ := heq'
                      generalize s[i] = y at hx hC hle hrow hcr
                      obtain ⟨u, v, rfl, hsz, htl, hui⟩ := partsRow_two hrow
                      obtain ⟨bk, o, rfl, hu, hv⟩ := parts_cells hC
                      have hx' := pw_cell_below HB.out hx
                      have hu' := pw_cell_below HB.out hu
                      have hv' := pw_cell_below HB.out hv
                      have p1 : (0 ≤ (i : Int)) = True := eq_true (by omega)
                      have q1 : ((i : Int) < (s.length : Int)) = True := eq_true (by omega)
                      have z1 : (9223372036854775807 < u.size + v.size) = False := eq_false (by omega)
                      have z2 : ((u ++ v).toList == a.toList) = true := beq_iff_eq.mpr htl
                      have z3 : ((u.size : Int) == (i : Int) + 1) = true := beq_iff_eq.mpr (by omega)
                      have z4 : (u.size == i + 1) = true := beq_iff_eq.mpr hui
                      have z5 : ((u.size : Int) != (i : Int) + 1) = false := bne_eq_false_iff_eq.mpr (by omega)
                      have z6 : ((u ++ v).toList != a.toList) = false := bne_eq_false_iff_eq.mpr htl
                      have z7 : (u.size + v.size ≤ 9223372036854775807) = True := eq_true hsz
                      have HREST := Aside0.mk hrest
                      have HLT := Aside0.mk hlt
                      clear heq hrest hsz htl hui hcr hx hu hv hC hrow hle
                      go_wp2
                      go_quiet (fail)
                      go_wp2
                      go_roundg (s.length - (i + 1))
                      case measure => have := hk.out; have := HLT.out; omega
                      case rel => exact ⟨i + 1, by simp, ⟨by have := HLT.out; omega⟩, ⟨Nat.le_refl _⟩, HREST, ⟨pw_below_drewN HB.out _⟩⟩
                    · have cb0 : decide ((i : Int) < (s.length : Int)) = false := by simp; omega
                      have cb1 : decide (i < s.length) = false := decide_eq_false hlt
                      have HB6 := Aside0.mk (below_step HB5.out HB.out)
                      clear heq HB HB5 HS hlt hi hk
                      go_wp2_with fail
                      go_at_call 28
                      refine (KDI.out _ (Kd.C_below HP.out HB6.out)).mono ?_
                      rintro e w7 ⟨rfl, hb⟩
                      have HB7 := Aside0.mk (below_step HB6.out hb)
                      clear hb HB6 KDI
                      go_wp2_with fail
                      go_at_call 29
                      refine (KIN.out _).mono ?_
                      rintro e w8 ⟨v1, rfl, hr, hb⟩
                      obtain ⟨A8, c8, rfl⟩ := Kd.R_slice hr
                      have HR := Aside0.mk (Kd.R_reads' hr).2.2
                      have HB8 := Aside0.mk (below_step HB7.out hb)
                      clear hr hb HB7 KIN
                      go_wp2
                      go_loopg [9] I.length (fun kq v9 w' => ∃ (j : Nat), v9 = .int .i64 (j : Int) ∧ Aside0 (j ≤ I.length) ∧ Aside0 (I.length - j ≤ kq) ∧ Aside0 (insGo k p q (I.drop j) = some true) ∧ Aside0 (Below w8.heap.size w8 w'))
                      case atStart => exact ⟨0, rfl, ⟨Nat.zero_le _⟩, ⟨by omega⟩, HIG, ⟨Below.refl _ _⟩⟩
                      case round =>
                        clear HIG
                        obtain ⟨j, rfl, hj, hk, heq, HB⟩ := hrel
                        have hil := HIL.out
                        have hpq := HPQ.out
                        by_cases hlt : j < I.length
                        · have cb0 : decide ((j : Int) < (I.length : Int)) = true := by simp; exact hlt
                          have cb1 : decide (j < I.length) = true := decide_eq_true hlt
                          obtain ⟨ad, e1, hx⟩ := Kd.at_string HR.out (j : Int) (by omega) (by omega)
                          cases e1
                          have hcr : rdOf ByteArray.empty I (j : Int) = I[j] := by
                            unfold rdOf
                            simp [hlt]
                          rw [hcr] at hx
                          simp only [Int.toNat_natCast] at hx
                          replace hx := pw_cell_below HB.out hx
                          have heq' := heq.out
                          rw [List.drop_eq_getElem_cons hlt, insGo_cons] at heq'
                          obtain ⟨t, ht, heq'⟩ := Option.bind_eq_some_iff.mp heq'
                          generalize I[j] = x at hx hcr heq' ht
                          by_cases hcc : x.size = p.size + q.size ∧ 1 ≤ x.size ∧ 1 ≤ p.size ∧ (x.extract 0 1).toList = (p.extract 0 1).toList
                          · rw [if_pos hcc] at heq'
                            obtain ⟨hxs, hx1, hp1, hext⟩ := hcc
                            have KW := Aside0.mk (fun W => impl_IsWord.calls k x t W ht)
                            have p1 : (0 ≤ (j : Int)) = True := eq_true (by omega)
                            have q1 : ((j : Int) < (I.length : Int)) = True := eq_true (by omega)
                            have z1 : ((x.size : Int) == (p.size : Int) + (q.size : Int)) = true := beq_iff_eq.mpr (by omega)
                            have z2 : (x.size == p.size + q.size) = true := beq_iff_eq.mpr hxs
                            have zw : IntKind.i64.wrap ((p.size : Int) + (q.size : Int)) = (p.size : Int) + (q.size : Int) := by simp [IntKind.wrap, IntKind.bits, IntKind.signed]; omega
                            have zq : ((x.size : Int) != IntKind.i64.wrap ((p.size : Int) + (q.size : Int))) = false := by rw [zw]; exact bne_eq_false_iff_eq.mpr (by omega)
                            have zq2 : ((x.size : Int) != (p.size : Int) + (q.size : Int)) = false := bne_eq_false_iff_eq.mpr (by omega)
                            have z3b : ((x.extract 0 1).toList != (p.extract 0 1).toList) = false := bne_eq_false_iff_eq.mpr hext
                            have z3 : ((x.extract 0 1).toList == (p.extract 0 1).toList) = true := beq_iff_eq.mpr hext
                            have z4 : ((1 : Int) ≤ (x.size : Int)) = True := eq_true (by omega)
                            have z5 : ((1 : Int) ≤ (p.size : Int)) = True := eq_true (by omega)
                            have z6 : (1 ≤ x.size) = True := eq_true hx1
                            have z7 : (1 ≤ p.size) = True := eq_true hp1
                            clear zw
                            have HLT := Aside0.mk hlt
                            cases t with
                            | true =>
                              rw [if_pos rfl] at heq'
                              obtain ⟨t2, ht2, heq'⟩ := Option.bind_eq_some_iff.mp heq'
                              by_cases ht3 : t2 = true
                              · rw [if_pos ht3] at heq'
                                subst ht3
                                have KI2 := Aside0.mk (fun W => impl_IsInside.calls k q x true W ht2)
                                have HE := Aside0.mk heq'
                                clear heq heq' ht ht2 hxs hx1 hp1 hext hcr
                                go_wp2
                                go_quiet (first | (go_at_call 12; refine (KW.out _).mono ?_; rintro e w' ⟨rfl, nd9, rfl⟩; first | exact ⟨rfl, _, World.drewN_drewN _ _ _⟩ | exact ⟨rfl, _, rfl⟩) | (go_at_call 16; refine (KI2.out _).mono ?_; rintro e w' ⟨rfl, nd9, rfl⟩; first | exact ⟨rfl, _, World.drewN_drewN _ _ _⟩ | exact ⟨rfl, _, rfl⟩))
                                go_wp2
                                go_roundg (I.length - (j + 1))
                                case measure => have := hk.out; have := HLT.out; omega
                                case rel => exact ⟨j + 1, by simp, ⟨by have := HLT.out; omega⟩, ⟨Nat.le_refl _⟩, HE, ⟨pw_below_drewN HB.out _⟩⟩
                              · rw [if_neg ht3] at heq'
                                cases heq'
                            | false =>
                              rw [if_neg (by simp)] at heq'
                              have HE := Aside0.mk heq'
                              clear heq heq' ht hxs hx1 hp1 hext hcr
                              go_wp2
                              go_quiet (first | (go_at_call 12; refine (KW.out _).mono ?_; rintro e w' ⟨rfl, nd9, rfl⟩; first | exact ⟨rfl, _, World.drewN_drewN _ _ _⟩ | exact ⟨rfl, _, rfl⟩))
                              go_wp2
                              go_roundg (I.length - (j + 1))
                              case measure => have := hk.out; have := HLT.out; omega
                              case rel => exact ⟨j + 1, by simp, ⟨by have := HLT.out; omega⟩, ⟨Nat.le_refl _⟩, HE, ⟨pw_below_drewN HB.out _⟩⟩
                          · rw [if_neg hcc] at heq'
                            cases heq'
                        · have cb0 : decide ((j : Int) < (I.length : Int)) = false := by simp; omega
                          have cb1 : decide (j < I.length) = false := decide_eq_false hlt
                          have HB9 := Aside0.mk (below_step HB8.out HB.out)
                          clear heq HB HB8 HR hlt hj hk
                          go_wp2_with fail
                          go_at_call 30
                          refine (KDX.out _ (Kd.C_below HP.out HB9.out)).mono ?_
                          rintro e w10 ⟨rfl, hb⟩
                          have HB10 := Aside0.mk (below_step HB9.out hb)
                          clear hb HB9 KDX
                          go_wp2_with fail
                          go_at_call 16
                          refine (KXX.out _).mono ?_
                          rintro e w' ⟨rfl, nd, rfl⟩
                          have HB11 := Aside0.mk (pw_below_drewN HB10.out nd)
                          clear HB10 KXX
                          generalize w10.drewN nd = w11 at HB11 ⊢
                          have hL := HLA.out
                          clear HLA
                          cases bx with
                          | false =>
                            go_wp2
                            go_ret
                            exact ⟨rfl, HB11.out⟩
                          | true =>
                            rw [if_pos rfl] at hL
                            obtain ⟨hz1, hz2⟩ := hL
                            have y1 : decide ((m.size : Int) ≤ (x2.size : Int) - 2) = true := decide_eq_true (by omega)
                            go_wp2
                            go_ret
                            exact ⟨rfl, HB11.out⟩
                · rw [if_neg hcond] at h
                  cases h
            · rw [if_neg hla] at hrest
              cases hrest
          · rw [if_neg hg1] at hrest
            cases hrest
        · rw [if_neg hil] at hrest
          cases hrest
      · rw [if_neg hsa] at hrest
        cases hrest
    · rw [if_neg h12] at h
      cases h
/-- THE ONE PURE STATEMENT of laws_FnParts. -/
def laws_FnParts.Pure : Prop := ∀ (l0 : List Int), l0.length ≤ maxLen → l0.length * 1 ≤ 140737488351232 → (∀ x ∈ l0, (Lit.int .u8 x).wf = true) → ∃ k, laws_FnParts.f k l0 = some true
theorem laws_FnParts.walk (P : laws_FnParts.Pure) (a0 : Option Addr) (len0 cap0 : Nat) (z0 : List Int) (w : World) (w0 : (a0 = none ∧ len0 = 0 ∧ cap0 = 0 ∧ z0 = []) ∨ ∃ x, a0 = some x ∧ len0 ≤ cap0 ∧ cap0 ≤ maxLen ∧ z0.length = cap0 ∧ (∀ i, i < z0.length → w.cell? (x.add i) = some (.int .u8 (z0.getD i 0))) ∧ ∀ n ∈ z0, (Lit.int .u8 n).wf = true) (y0 : len0 * 1 ≤ 140737488351232) :
    Calls Try.prog 4 #[.slice a0 len0 cap0] w fun e w' => e = .returned (.bool true) ∧ Below w.heap.size w w' := by
  obtain ⟨l0, rfl, hr0, hm0, hw0, hc0⟩ := ReadsInt.ofRowC w0
  obtain ⟨k, h⟩ := P l0 hm0 y0 hw0
  refine (laws_FnParts.calls k _ _ l0 true w (Kd.C_of_reads (d := (0 : Int)) (h1 := fun _ => rfl) hr0) hc0 h).mono ?_
  rintro e w' ⟨rfl, hd⟩
  exact ⟨rfl, hd⟩


end Go.Proofs.Ytodcckiphdnjeab.QFnParts
