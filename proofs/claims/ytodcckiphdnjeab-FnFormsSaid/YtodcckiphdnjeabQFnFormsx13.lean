-- Written by a changed copy of the kit's printer (wip/mp.py of this repo), for this claim; Lean checks it.
import Derived.Test.YtodcckiphdnjeabQFnFormsx0
import Derived.Test.YtodcckiphdnjeabQFnFormsx2
import Derived.Test.YtodcckiphdnjeabQFnFormsx4
import Derived.Test.YtodcckiphdnjeabQFnFormsx6
import Derived.Test.YtodcckiphdnjeabQFnFormsx9
import Derived.Test.YtodcckiphdnjeabQFnFormsx10
import Derived.Test.YtodcckiphdnjeabQFnFormsx11
import Derived.Test.YtodcckiphdnjeabQFnFormsx12
namespace Go.Proofs.Ytodcckiphdnjeab.QFnForms
open Go.RowKit Go.Proofs.YtodcckiphdnjeabW.PrintWords Go.Proofs.YtodcckiphdnjeabW.PrintLast Go.Proofs.YtodcckiphdnjeabW.PrintMore
attribute [local go_sem] max2_int min2_int max_two min_two max_three min_three max_four min_four   -- for this text's walks alone
set_option linter.unusedVariables false
set_option linter.unusedSimpArgs false

/-! ### laws_FnForms: function 6 (given) -/
/-- The loop over the slots: each is long enough, holds few unchecked cells, is crossed, is no longer than the longest. -/
def fgGo (k : Nat) (r c : Int) (s : ByteArray) : List S57 → Nat → Option Bool
  | [], _ => some true
  | x :: l, i => (impl_UncheckedIn.f k r c s (i : Int)).bind fun u => (impl_CrossedBy.f k r c s (i : Int)).bind fun cb => (impl_LongestSlot.f k r c s).bind fun lo => if (3 ≤ x.f3 ∧ x.f3 ≤ 1000) ∧ (-1 ≤ u ∧ 2 * u ≤ x.f3) ∧ 0 < cb.length ∧ x.f3 ≤ lo then fgGo k r c s l (i + 1) else none
theorem fgGo_cons (k : Nat) (r c : Int) (s : ByteArray) (x : S57) (l : List S57) (i : Nat) : fgGo k r c s (x :: l) i = (impl_UncheckedIn.f k r c s (i : Int)).bind fun u => (impl_CrossedBy.f k r c s (i : Int)).bind fun cb => (impl_LongestSlot.f k r c s).bind fun lo => if (3 ≤ x.f3 ∧ x.f3 ≤ 1000) ∧ (-1 ≤ u ∧ 2 * u ≤ x.f3) ∧ 0 < cb.length ∧ x.f3 ≤ lo then fgGo k r c s l (i + 1) else none := rfl
def laws_FnForms.h (k : Nat) (r c : Int) (s : ByteArray) (fm : Int) : Option Bool := if fm = 0 then (impl_SlotsOf.f k r c s).bind fun sl => (fgGo k r c s sl 0).bind fun g1 => (impl_IsSymmetric.f k r c s).bind fun sy => (impl_TurnGrid.f k r c s).bind fun t => (impl_FormOf.f k t.1 t.2.1 t.2.2).bind fun f2 => if g1 = true ∧ sy = true ∧ f2 = 0 ∧ 2 ≤ sl.length ∧ sl.length ≤ 1000 then some true else none else some true
def laws_FnForms.g (k : Nat) (r c : Int) (s : ByteArray) : Option Bool := (impl_FormOf.f k r c s).bind fun fm => (impl_FormName.f fm).bind fun nm => (impl_IsConnected.f k r c s).bind fun cn => (impl_PartsOf.f k r c s).bind fun pt => (impl_IsGrid.f k r c s).bind fun ig => (impl_TurnGrid.f k r c s).bind fun t => (impl_PartsOf.f k t.1 t.2.1 t.2.2).bind fun pt2 => if (¬ nm = ⟨#[]⟩) ∧ (cn = (pt == 1)) ∧ (ig = true → pt2 = pt) then laws_FnForms.h k r c s fm else none
def laws_FnForms.f (k : Nat) (l0 : List Int) : Option Bool := (laws_big.f l0).bind fun b => if b = true then some true else (spec_DrawFormOf.f k l0).bind fun g => laws_FnForms.g k g.1 g.2.1 g.2.2
/-- What stands while the law runs: the grid's box. -/
structure FoW (w : World) (B : Nat) (r c : Int) (s : ByteArray) (w' : World) : Prop where
  bk : w'.heap[B]? = some (.cells #[.int .i64 r, .int .i64 c, .string s] 48 (0, 0))
  bl : Below w.heap.size w w'
theorem FoW.below {w : World} {B : Nat} {r c : Int} {s : ByteArray} {w' w2 : World} (h : FoW w B r c s w') (hb : Below w'.heap.size w' w2) : FoW w B r c s w2 := ⟨blk_below h.bk hb, below_step h.bl hb⟩
theorem FoW.drew {w : World} {B : Nat} {r c : Int} {s : ByteArray} {w' : World} (h : FoW w B r c s w') : FoW w B r c s w'.drew := h.below (below_drew (Below.refl _ _))
/-- .. and the slots. -/
structure FsW (w : World) (B : Nat) (r c : Int) (s : ByteArray) (A : Option Addr) (sl : List S57) (w' : World) : Prop where
  bk : w'.heap[B]? = some (.cells #[.int .i64 r, .int .i64 c, .string s] 48 (0, 0))
  hs : Kd.C k57 w' A sl.length sl
  bl : Below w.heap.size w w'
theorem FsW.below {w : World} {B : Nat} {r c : Int} {s : ByteArray} {A : Option Addr} {sl : List S57} {w' w2 : World} (h : FsW w B r c s A sl w') (hb : Below w'.heap.size w' w2) : FsW w B r c s A sl w2 := ⟨blk_below h.bk hb, Kd.C_below h.hs hb, below_step h.bl hb⟩
theorem FsW.drew {w : World} {B : Nat} {r c : Int} {s : ByteArray} {A : Option Addr} {sl : List S57} {w' : World} (h : FsW w B r c s A sl w') : FsW w B r c s A sl w'.drew := h.below (below_drew (Below.refl _ _))
theorem fo_g {w : World} {B : Nat} {r c : Int} {s : ByteArray} {W : World} (h : W.heap[B]? = some (.cells #[.int .i64 r, .int .i64 c, .string s] 48 (0, 0))) : W.cell? ⟨B, 0, none⟩ = some (.int .i64 r) ∧ W.cell? ⟨B, 1, none⟩ = some (.int .i64 c) ∧ W.cell? ⟨B, 2, none⟩ = some (.string s) := ⟨(blk_cell h 0).trans rfl, (blk_cell h 1).trans rfl, (blk_cell h 2).trans rfl⟩
theorem fs_l {w : World} {B : Nat} {r c : Int} {s : ByteArray} {A : Option Addr} {sl : List S57} {W : World} (h : FsW w B r c s A sl W) {i : Nat} (hi : i < sl.length) {ad : Addr} (hA : A = some ad) {x : S57} (hx : rd_T57 sl (i : Int) = x) : W.cell? ⟨(ad.add (i * 4)).block, (ad.add (i * 4)).off + 3, none⟩ = some (.int .i64 x.f3) := by
  obtain ⟨ad2, e1, h1⟩ := at_T57 h.hs (i : Int) (by omega) (by omega)
  obtain rfl := Option.some.inj (hA.symm.trans e1)
  rw [hx] at h1
  simp only [Int.toNat_natCast] at h1
  exact h1.2.2.2
theorem fo_drewN {w w' : World} {n : Nat} (h : w' = w.drewN n) : Below w.heap.size w w' := h ▸ pw_below_drewN (Below.refl _ _) n
theorem fo_em {a : ByteArray} (h : ¬ a = ⟨#[]⟩) : a.toList.isEmpty = false := by
  rw [Bool.eq_false_iff]
  intro h2
  rw [List.isEmpty_iff, Go.ByteArray.toList_eq] at h2
  exact h (ByteArray.ext (Array.toList_inj.1 h2))
theorem fo_ne {a b : ByteArray} (h : ¬ a = b) : (a == b) = false := by
  rw [Bool.eq_false_iff]
  intro h2
  exact h (ByteArray.ext (eq_of_beq (α := Array UInt8) h2))
set_option maxHeartbeats 40000000 in
set_option maxRecDepth 100000 in
theorem laws_FnForms.calls (k : Nat) (A0 : Option Addr) (c0_ : Nat) (l0 : List Int) (r_ : Bool) (w : World) (hr0 : Kd.C (Kd.int .u8) w A0 l0.length l0) (hc0 : l0.length ≤ c0_) (h : laws_FnForms.f k l0 = some r_) :
    Calls Try.prog 6 #[.slice A0 l0.length c0_] w fun e w' => e = .returned (.bool r_) ∧ Below w.heap.size w w' := by
  unfold laws_FnForms.f at h
  obtain ⟨b, hb, hz_⟩ := Option.bind_eq_some_iff.mp h
  clear h; have h := hz_; clear hz_
  have KB := Aside0.mk (fun W hC => laws_big.calls A0 c0_ l0 b W hC hc0 hb)
  have HP := Aside0.mk hr0
  have HPC := Aside0.mk hc0
  clear hr0 hc0 hb
  cases b with
  | true =>
    rw [if_pos rfl] at h
    obtain rfl := Option.some.inj h
    clear h
    go_enter Try.func6, Try.ntmps6
    go_wp2_with fail
    go_at_call 7
    refine (KB.out _ HP.out).mono ?_
    rintro e w' ⟨rfl, nd, rfl⟩
    go_wp2
    go_ret
    exact ⟨rfl, pw_below_drewN (Below.refl _ _) _⟩
  | false =>
    rw [if_neg (by simp)] at h
    obtain ⟨⟨r, c, s⟩, ha, hz_⟩ := Option.bind_eq_some_iff.mp h
    clear h; have h := hz_; clear hz_
    unfold laws_FnForms.g at h
    obtain ⟨fm, hfm, hz_⟩ := Option.bind_eq_some_iff.mp h
    clear h; have h := hz_; clear hz_
    obtain ⟨nm, hnm, hz_⟩ := Option.bind_eq_some_iff.mp h
    clear h; have h := hz_; clear hz_
    obtain ⟨cn, hcn, hz_⟩ := Option.bind_eq_some_iff.mp h
    clear h; have h := hz_; clear hz_
    obtain ⟨pt, hpt, hz_⟩ := Option.bind_eq_some_iff.mp h
    clear h; have h := hz_; clear hz_
    obtain ⟨ig, hig, hz_⟩ := Option.bind_eq_some_iff.mp h
    clear h; have h := hz_; clear hz_
    obtain ⟨⟨t1, t2, t3⟩, htu, hz_⟩ := Option.bind_eq_some_iff.mp h
    clear h; have h := hz_; clear hz_
    obtain ⟨pt2, hpt2, hz_⟩ := Option.bind_eq_some_iff.mp h
    clear h; have h := hz_; clear hz_
    by_cases hcc : (¬ nm = ⟨#[]⟩) ∧ (cn = (pt == 1)) ∧ (ig = true → pt2 = pt)
    · rw [if_pos hcc] at h
      have HH := Aside0.mk h
      clear h
      obtain ⟨hnm2, rfl, hpp⟩ := hcc
      have KD := Aside0.mk (fun W hC => spec_DrawFormOf.calls k A0 c0_ l0 r c s W hC HPC.out ha)
      have KF := Aside0.mk (fun W => impl_FormOf.calls k r c s fm W hfm)
      have KN := Aside0.mk (fun W => impl_FormName.calls fm nm W hnm)
      have KC := Aside0.mk (fun W => impl_IsConnected.calls k r c s (pt == 1) W hcn)
      have KP := Aside0.mk (fun W => impl_PartsOf.calls k r c s pt W hpt)
      have KG := Aside0.mk (fun W => impl_IsGrid.calls k r c s ig W hig)
      have KT := Aside0.mk (fun W => impl_TurnGrid.calls k r c s t1 t2 t3 W htu)
      have KP2 := Aside0.mk (fun W => impl_PartsOf.calls k t1 t2 t3 pt2 W hpt2)
      have w1 : (nm == (⟨#[]⟩ : ByteArray)) = false := fo_ne hnm2
      have w1b : nm.toList.isEmpty = false := fo_em hnm2
      clear ha hfm hnm hcn hpt hig htu hpt2
      go_enter Try.func6, Try.ntmps6
      go_wp2_with fail
      go_at_call 7
      refine (KB.out _ HP.out).mono ?_
      rintro e w' ⟨rfl, nd, rfl⟩
      have HB1 := Aside0.mk (pw_below_drewN (Below.refl w.heap.size w) nd)
      clear KB
      generalize w.drewN nd = w1_ at HB1 ⊢
      go_wp2_with fail
      go_at_call 40
      refine (KD.out _ (Kd.C_below HP.out HB1.out)).mono ?_
      rintro e w2 ⟨rfl, hb⟩
      have HB2 := Aside0.mk (below_step HB1.out hb)
      have BK := Aside0.mk (blk_new w2 (.cells #[.int .i64 r, .int .i64 c, .string s] 48))
      clear hb KD HB1
      go_wp2_with fail
      go_at_call 41
      refine (KF.out _).mono ?_
      rintro e w3 ⟨rfl, hb⟩
      have HF := Aside0.mk (show FoW w w2.heap.size r c s w3 from ⟨blk_below BK.out hb, below_step (below_alloc HB2.out _) hb⟩)
      clear hb KF HB2 BK
      generalize w2.heap.size = B at HF ⊢
      have c0 := (blk_cell HF.out.bk 0).trans rfl
      have c1 := (blk_cell HF.out.bk 1).trans rfl
      have c2 := (blk_cell HF.out.bk 2).trans rfl
      go_upto_region 5 with fail
      go_cut [23] (fun v23 w' => v23 = .bool false ∧ Aside0 (FoW w B r c s w'))
      case first => as_aux_lemma =>
        have HFd := Aside0.mk HF.out.drew
        clear HF c0 c1 c2
        have HALL := (⟨fo_g (w := w) HFd.out.bk, HFd⟩ : _ ∧ _)
        go_region_held3 (fun w' => (w'.cell? ⟨B, 0, none⟩ = some (.int .i64 r) ∧ w'.cell? ⟨B, 1, none⟩ = some (.int .i64 c) ∧ w'.cell? ⟨B, 2, none⟩ = some (.string s)) ∧ Aside0 (FoW w B r c s w')) (first | assumption | (go_split_ands; exact ⟨fo_g (w := w) (‹Aside0 (FoW _ _ _ _ _ _)›.out.below hb9).bk, ⟨‹Aside0 (FoW _ _ _ _ _ _)›.out.below hb9⟩⟩) | exact HALL) (first | (go_at_call 42; with_reducible refine (KN.out _).mono ?_; rintro e wa ⟨rfl, hb9⟩) | (go_at_call 43; with_reducible refine (KC.out _).mono ?_; rintro e wa ⟨rfl, hb9⟩) | (go_at_call 44; with_reducible refine (KP.out _).mono ?_; rintro e wa ⟨rfl, hb9⟩))
        all_goals (go_wp2_with fail; go_meet; (case rel => (go_split_ands; exact ⟨by simp, ‹Aside0 (FoW _ _ _ _ _ _)›⟩)))
      case rest =>
        obtain ⟨rfl, HF2⟩ := hcut
        clear HF c0 c1 c2
        have HF := HF2
        clear HF2
        have c0 := (blk_cell HF.out.bk 0).trans rfl
        have c1 := (blk_cell HF.out.bk 1).trans rfl
        have c2 := (blk_cell HF.out.bk 2).trans rfl
        go_upto_region 7 with fail
        go_cut [33] (fun v33 w' => v33 = .bool false ∧ Aside0 (FoW w B r c s w'))
        case first => as_aux_lemma =>
          have HFd := Aside0.mk HF.out.drew
          clear HF c0 c1 c2
          have HALL := (⟨fo_g (w := w) HFd.out.bk, HFd⟩ : _ ∧ _)
          cases ig with
          | true =>
            have hpe := hpp rfl
            subst hpe
            go_region_held3 (fun w' => (w'.cell? ⟨B, 0, none⟩ = some (.int .i64 r) ∧ w'.cell? ⟨B, 1, none⟩ = some (.int .i64 c) ∧ w'.cell? ⟨B, 2, none⟩ = some (.string s)) ∧ Aside0 (FoW w B r c s w')) (first | assumption | (go_split_ands; exact ⟨fo_g (w := w) (‹Aside0 (FoW _ _ _ _ _ _)›.out.below hb9).bk, ⟨‹Aside0 (FoW _ _ _ _ _ _)›.out.below hb9⟩⟩) | exact HALL) (first | (go_at_call 45; with_reducible refine (KG.out _).mono ?_; rintro e wa ⟨rfl, hb9⟩) | (go_at_call 46; with_reducible refine (KT.out _).mono ?_; rintro e wa ⟨rfl, hb9⟩) | (go_at_call 44; with_reducible refine (KP2.out _).mono ?_; rintro e wa ⟨rfl, hb9⟩) | (go_at_call 44; with_reducible refine (KP.out _).mono ?_; rintro e wa ⟨rfl, hb9⟩))
            all_goals (go_wp2_with fail; go_meet; (case rel => (go_split_ands; exact ⟨by simp, ‹Aside0 (FoW _ _ _ _ _ _)›⟩)))
          | false =>
            have HF := HFd
            clear HFd HALL
            have c0 := (blk_cell HF.out.bk 0).trans rfl
            have c1 := (blk_cell HF.out.bk 1).trans rfl
            have c2 := (blk_cell HF.out.bk 2).trans rfl
            go_region_law (go_simp; go_at_call 45; refine (KG.out _).mono ?_; rintro e wa ⟨rfl, hb9⟩; have HG := Aside0.mk (HF.out.below hb9); clear HF c0 c1 c2 hb9; have HF := HG; clear HG; have c0 := (blk_cell HF.out.bk 0).trans rfl; have c1 := (blk_cell HF.out.bk 1).trans rfl; have c2 := (blk_cell HF.out.bk 2).trans rfl)
            all_goals (go_wp2_with fail; go_meet; (case rel => exact ⟨by simp, HF⟩))
        case rest =>
          obtain ⟨rfl, HF2⟩ := hcut
          clear HF c0 c1 c2
          have HF := HF2
          clear HF2
          have c0 := (blk_cell HF.out.bk 0).trans rfl
          have c1 := (blk_cell HF.out.bk 1).trans rfl
          have c2 := (blk_cell HF.out.bk 2).trans rfl
          have h := HH.out
          clear HH
          unfold laws_FnForms.h at h
          by_cases h0 : fm = 0
          · subst h0
            rw [if_pos rfl] at h
            obtain ⟨sl, hsl, hz_⟩ := Option.bind_eq_some_iff.mp h
            clear h; have h := hz_; clear hz_
            obtain ⟨g1, hg1, hz_⟩ := Option.bind_eq_some_iff.mp h
            clear h; have h := hz_; clear hz_
            obtain ⟨sy, hsy, hz_⟩ := Option.bind_eq_some_iff.mp h
            clear h; have h := hz_; clear hz_
            obtain ⟨⟨t4, t5, t6⟩, htu, hz_⟩ := Option.bind_eq_some_iff.mp h
            clear h; have h := hz_; clear hz_
            obtain ⟨f2, hf2, hz_⟩ := Option.bind_eq_some_iff.mp h
            clear h; have h := hz_; clear hz_
            by_cases hg : g1 = true ∧ sy = true ∧ f2 = 0 ∧ 2 ≤ sl.length ∧ sl.length ≤ 1000
            · rw [if_pos hg] at h
              obtain rfl := Option.some.inj h
              clear h
              obtain ⟨rfl, rfl, rfl, hl2, hl1⟩ := hg
              have KS := Aside0.mk (fun W => impl_SlotsOf.calls k r c s sl W hsl)
              have KY := Aside0.mk (fun W => impl_IsSymmetric.calls k r c s true W hsy)
              have KT2 := Aside0.mk (fun W => impl_TurnGrid.calls k r c s t4 t5 t6 W htu)
              have KF2 := Aside0.mk (fun W => impl_FormOf.calls k t4 t5 t6 0 W hf2)
              have HG1 := Aside0.mk (show fgGo k r c s (sl.drop 0) 0 = some true from hg1)
              have HL1 := Aside0.mk hl1
              have HL2 := Aside0.mk hl2
              clear hsl hsy htu hf2 hg1 hl1 hl2
              go_wp2_with fail
              go_at_call 32
              refine (KS.out _).mono ?_
              rintro e w4 ⟨v0, rfl, hr, hb9⟩
              obtain ⟨A, cA, rfl⟩ := Kd.R_slice hr
              have HS := Aside0.mk (show FsW w B r c s A sl w4 from ⟨(HF.out.below hb9).bk, (Kd.R_reads' hr).2.2, (HF.out.below hb9).bl⟩)
              clear hr KS HF c0 c1 c2 hb9
              go_wp2
              go_loopg [6] sl.length (fun kq v6 w' => ∃ (i : Nat), v6 = .int .i64 (i : Int) ∧ Aside0 (i ≤ sl.length) ∧ Aside0 (sl.length - i ≤ kq) ∧ Aside0 (fgGo k r c s (sl.drop i) i = some true) ∧ Aside0 (FsW w B r c s A sl w'))
              case atStart => exact ⟨0, rfl, ⟨Nat.zero_le _⟩, ⟨by omega⟩, HG1, HS⟩
              case round =>
                clear HG1 HS
                obtain ⟨i, rfl, hi, hk, heq, HF⟩ := hrel
                have hll := HL1.out
                by_cases hlt : i < sl.length
                · have cb0 : decide ((i : Int) < (sl.length : Int)) = true := by simp; exact hlt
                  have cb1 : decide (i < sl.length) = true := decide_eq_true hlt
                  have heq' := heq.out
                  rw [List.drop_eq_getElem_cons hlt, fgGo_cons] at heq'
                  have hxe : rd_T57 sl (i : Int) = sl[i] := by
                    unfold rd_T57
                    simp [hlt]
                  generalize sl[i] = x at heq' hxe
                  obtain ⟨u, hu, hz_⟩ := Option.bind_eq_some_iff.mp heq'
                  clear heq'; have heq' := hz_; clear hz_
                  obtain ⟨cb, hcb, hz_⟩ := Option.bind_eq_some_iff.mp heq'
                  clear heq'; have heq' := hz_; clear hz_
                  obtain ⟨lo, hlo, hz_⟩ := Option.bind_eq_some_iff.mp heq'
                  clear heq'; have heq' := hz_; clear hz_
                  obtain ⟨n0, d0, a0, b0⟩ := x
                  simp only at heq'
                  by_cases hc : (3 ≤ b0 ∧ b0 ≤ 1000) ∧ (-1 ≤ u ∧ 2 * u ≤ b0) ∧ 0 < cb.length ∧ b0 ≤ lo
                  · rw [if_pos hc] at heq'
                    have HE := Aside0.mk heq'
                    clear heq heq'
                    obtain ⟨hc1, hc2, hc3, hc4⟩ := hc
                    have HXE := Aside0.mk hxe
                    have HLT := Aside0.mk hlt
                    have KU := Aside0.mk (fun W => impl_UncheckedIn.calls k r c s (i : Int) u W hu)
                    have KB2 := Aside0.mk (fun W => impl_CrossedBy.calls k r c s (i : Int) cb W hcb)
                    have KL := Aside0.mk (fun W => impl_LongestSlot.calls k r c s lo W hlo)
                    obtain ⟨ad, eA, _⟩ := at_T57 HF.out.hs (i : Int) (by omega) (by omega)
                    cases eA
                    have p1 : (0 ≤ (i : Int)) = True := eq_true (by omega)
                    have q1 : ((i : Int) < (sl.length : Int)) = True := eq_true (by omega)
                    have y1 : decide (b0 < 3) = false := decide_eq_false (by omega)
                    have y2 : IntKind.i64.wrap (2 * u) = 2 * u := IntWalk.i64_in _ (by omega)
                    have y3 : decide (b0 < 2 * u) = false := decide_eq_false (by omega)
                    have y4 : ((cb.length : Int) == 0) = false := beq_eq_false_iff_ne.mpr (by omega)
                    have y4b : (cb.length == 0) = false := beq_eq_false_iff_ne.mpr (by omega)
                    have y5 : decide (lo < b0) = false := decide_eq_false (by omega)
                    clear hxe hu hcb hlo hc1 hc2 hc3 hc4
                    go_upto_region 15 with fail
                    go_cut [78] (fun v78 w' => v78 = .bool false ∧ Aside0 (FsW w B r c s (some ad) sl w'))
                    case first => as_aux_lemma =>
                      have HFd := Aside0.mk HF.out.drew
                      clear HF
                      have HALL := (⟨fo_g (w := w) HFd.out.bk, fs_l HFd.out HLT.out rfl HXE.out, HFd⟩ : _ ∧ _ ∧ _)
                      go_region_held3 (fun w' => (w'.cell? ⟨B, 0, none⟩ = some (.int .i64 r) ∧ w'.cell? ⟨B, 1, none⟩ = some (.int .i64 c) ∧ w'.cell? ⟨B, 2, none⟩ = some (.string s)) ∧ w'.cell? ⟨(ad.add (i * 4)).block, (ad.add (i * 4)).off + 3, none⟩ = some (.int .i64 b0) ∧ Aside0 (FsW w B r c s (some ad) sl w')) (first | assumption | (go_split_ands; exact ⟨fo_g (w := w) (‹Aside0 (FsW _ _ _ _ _ _ _ _)›.out.below hb9).bk, fs_l (‹Aside0 (FsW _ _ _ _ _ _ _ _)›.out.below hb9) HLT.out rfl HXE.out, ⟨‹Aside0 (FsW _ _ _ _ _ _ _ _)›.out.below hb9⟩⟩) | exact HALL) (first | (go_at_call 39; refine (KU.out _).mono ?_; rintro e wa ⟨rfl, hb9⟩) | (go_at_call 37; refine (KB2.out _).mono ?_; rintro e wa ⟨v_, rfl, hr_, hb9⟩; obtain ⟨A_, c_, rfl⟩ := Kd.R_slice hr_; clear hr_) | (go_at_call 47; refine (KL.out _).mono ?_; rintro e wa ⟨rfl, hb9⟩))
                      all_goals (go_wp2_with fail; go_meet; (case rel => (go_split_ands; exact ⟨by simp, ‹Aside0 (FsW _ _ _ _ _ _ _ _)›⟩)))
                    case rest =>
                      obtain ⟨rfl, HF2⟩ := hcut
                      go_wp2
                      go_roundg (sl.length - (i + 1))
                      case measure => have := hk.out; have := HLT.out; omega
                      case rel => exact ⟨i + 1, by simp, ⟨by have := HLT.out; omega⟩, ⟨Nat.le_refl _⟩, HE, HF2⟩
                  · rw [if_neg hc] at heq'
                    cases heq'
                · have cb0 : decide ((i : Int) < (sl.length : Int)) = false := by simp; omega
                  have cb1 : decide (i < sl.length) = false := decide_eq_false hlt
                  have hl2 := HL2.out
                  have y1 : decide ((2 : Int) ≤ (sl.length : Int)) = true := decide_eq_true (by omega)
                  have y2 : decide (2 ≤ sl.length) = true := decide_eq_true hl2
                  clear heq hi hk hlt
                  have c0 := (blk_cell HF.out.bk 0).trans rfl
                  have c1 := (blk_cell HF.out.bk 1).trans rfl
                  have c2 := (blk_cell HF.out.bk 2).trans rfl
                  go_wp2_with fail
                  go_at_call 48
                  refine (KY.out _).mono ?_
                  rintro e w5 ⟨rfl, hb9⟩
                  have HG := Aside0.mk (HF.out.below hb9)
                  clear HF c0 c1 c2 hb9
                  have HF := HG
                  clear HG
                  have c0 := (blk_cell HF.out.bk 0).trans rfl
                  have c1 := (blk_cell HF.out.bk 1).trans rfl
                  have c2 := (blk_cell HF.out.bk 2).trans rfl
                  go_wp2_with fail
                  go_at_call 46
                  refine (KT2.out _).mono ?_
                  rintro e w6 ⟨rfl, hb9⟩
                  have HG := Aside0.mk (HF.out.below hb9)
                  clear HF c0 c1 c2 hb9
                  have HF := HG
                  clear HG
                  have c0 := (blk_cell HF.out.bk 0).trans rfl
                  have c1 := (blk_cell HF.out.bk 1).trans rfl
                  have c2 := (blk_cell HF.out.bk 2).trans rfl
                  go_wp2_with fail
                  go_at_call 41
                  refine (KF2.out _).mono ?_
                  rintro e w7 ⟨rfl, hb9⟩
                  have HG := Aside0.mk (HF.out.below hb9)
                  clear HF c0 c1 c2 hb9
                  have HF := HG
                  clear HG
                  have c0 := (blk_cell HF.out.bk 0).trans rfl
                  have c1 := (blk_cell HF.out.bk 1).trans rfl
                  have c2 := (blk_cell HF.out.bk 2).trans rfl
                  go_wp2
                  go_ret
                  exact ⟨by simp, HF.out.bl⟩
            · rw [if_neg hg] at h
              cases h
          · rw [if_neg h0] at h
            obtain rfl := Option.some.inj h
            have y1 : (fm != 0) = true := bne_iff_ne.mpr h0
            have y2 : (fm == 0) = false := beq_eq_false_iff_ne.mpr h0
            clear h
            go_wp2
            go_ret
            exact ⟨rfl, HF.out.bl⟩
    · rw [if_neg hcc] at h
      cases h
/-- THE ONE PURE STATEMENT of laws_FnForms. -/
def laws_FnForms.Pure : Prop := ∀ (l0 : List Int), l0.length ≤ maxLen → l0.length * 1 ≤ 140737488351232 → (∀ x ∈ l0, (Lit.int .u8 x).wf = true) → ∃ k, laws_FnForms.f k l0 = some true
theorem laws_FnForms.walk (P : laws_FnForms.Pure) (a0 : Option Addr) (len0 cap0 : Nat) (z0 : List Int) (w : World) (w0 : (a0 = none ∧ len0 = 0 ∧ cap0 = 0 ∧ z0 = []) ∨ ∃ x, a0 = some x ∧ len0 ≤ cap0 ∧ cap0 ≤ maxLen ∧ z0.length = cap0 ∧ (∀ i, i < z0.length → w.cell? (x.add i) = some (.int .u8 (z0.getD i 0))) ∧ ∀ n ∈ z0, (Lit.int .u8 n).wf = true) (y0 : len0 * 1 ≤ 140737488351232) :
    Calls Try.prog 6 #[.slice a0 len0 cap0] w fun e w' => e = .returned (.bool true) ∧ Below w.heap.size w w' := by
  obtain ⟨l0, rfl, hr0, hm0, hw0, hc0⟩ := ReadsInt.ofRowC w0
  obtain ⟨k, h⟩ := P l0 hm0 y0 hw0
  refine (laws_FnForms.calls k _ _ l0 true w (Kd.C_of_reads (d := (0 : Int)) (h1 := fun _ => rfl) hr0) hc0 h).mono ?_
  rintro e w' ⟨rfl, hd⟩
  exact ⟨rfl, hd⟩


end Go.Proofs.Ytodcckiphdnjeab.QFnForms
