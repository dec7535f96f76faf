-- Written by a changed copy of the kit's printer (wip/mp.py of this repo), for this claim; Lean checks it.
import Derived.Test.YtodcckiphdnjeabDoorQFnFillsx0
import Derived.Test.YtodcckiphdnjeabDoorQFnFillsx2
import Derived.Test.YtodcckiphdnjeabDoorQFnFillsx12
import Derived.Test.YtodcckiphdnjeabDoorQFnFillsx13
import Derived.Test.YtodcckiphdnjeabDoorQFnFillsx15
import Derived.Test.YtodcckiphdnjeabDoorQFnFillsx16
import Derived.Test.YtodcckiphdnjeabDoorQFnFillsx17
import Derived.Test.YtodcckiphdnjeabDoorQFnFillsx18
namespace Go.Proofs.YtodcckiphdnjeabDoor.QFnFills
open Go.RowKit Go.Proofs.YtodcckiphdnjeabDoorW.PrintWords Go.Proofs.YtodcckiphdnjeabDoorW.PrintLast Go.Proofs.YtodcckiphdnjeabDoorW.PrintMore
attribute [local go_sem] max2_int min2_int max_two min_two max_three min_three max_four min_four   -- for this text's walks alone
set_option linter.unusedVariables false
set_option linter.unusedSimpArgs false

/-! ### laws_FnFills: function 3 (given) -/
def laws_FnFills.j2 (k : Nat) (l0 : List Int) : Option Bool := (spec_DrawIsFull.f k l0).bind fun g => (impl_IsFull.f k g.1 g.2.1 g.2.2.1 g.2.2.2).bind fun u => if u = true then (impl_WordsIn.f k g.1 g.2.1 g.2.2.1 g.2.2.2).bind fun ws => (impl_SlotsOf.f k g.1 g.2.1 g.2.2.1).bind fun sl => if ws.length = sl.length then some true else none else some true
def laws_FnFills.j1 (k : Nat) (l0 : List Int) : Option Bool := (spec_DrawEmptyFill.f k l0).bind fun g => (impl_EmptyFill.f k g.1 g.2.1 g.2.2).bind fun e => (impl_IsFill.f k g.1 g.2.1 g.2.2 e).bind fun b1 => (impl_IsGrid.f k g.1 g.2.1 g.2.2).bind fun b2 => if b1 = b2 then laws_FnFills.j2 k l0 else none
def laws_FnFills.j0 (k : Nat) (l0 : List Int) (r c : Int) (s f : ByteArray) (slot : Int) (wd : ByteArray) : Option Bool := (impl_PutWord.f k r c s f slot wd).bind fun p => if p.2 = true then (impl_IsFill.f k r c s p.1).bind fun b1 => (impl_SlotPattern.f k r c s p.1 slot).bind fun pt => (laws_agrees.f k p.1 f).bind fun ag => (impl_WordsIn.f k r c s p.1).bind fun ws => (impl_HasWord.f k ws wd).bind fun hw => (impl_PutWord.f k r c s p.1 slot wd).bind fun q => if b1 = true ∧ pt = wd ∧ ag = true ∧ hw = true ∧ q.1 = p.1 ∧ q.2 = true then laws_FnFills.j1 k l0 else none else if p.1 = f then laws_FnFills.j1 k l0 else none
def laws_FnFills.f (k : Nat) (l0 : List Int) : Option Bool := (laws_big.f l0).bind fun b => if b = true then some true else (spec_DrawPutWord.f k l0).bind fun g => laws_FnFills.j0 k l0 g.1 g.2.1 g.2.2.1 g.2.2.2.1 g.2.2.2.2.1 g.2.2.2.2.2
/-- What stands while the law runs: a grid's box. -/
structure FiW (w : World) (B : Nat) (r c : Int) (s : ByteArray) (w' : World) : Prop where
  bk : w'.heap[B]? = some (.cells #[.int .i64 r, .int .i64 c, .string s] 25 (0, 0))
  bl : Below w.heap.size w w'
theorem FiW.below {w : World} {B : Nat} {r c : Int} {s : ByteArray} {w' w2 : World} (h : FiW w B r c s w') (hb : Below w'.heap.size w' w2) : FiW w B r c s w2 := ⟨blk_below h.bk hb, below_step h.bl hb⟩
theorem FiW.drew {w : World} {B : Nat} {r c : Int} {s : ByteArray} {w' : World} (h : FiW w B r c s w') : FiW w B r c s w'.drew := h.below (below_drew (Below.refl _ _))
theorem fi_g {w : World} {B : Nat} {r c : Int} {s : ByteArray} {W : World} (h : W.heap[B]? = some (.cells #[.int .i64 r, .int .i64 c, .string s] 25 (0, 0))) : W.cell? ⟨B, 0, none⟩ = some (.int .i64 r) ∧ W.cell? ⟨B, 1, none⟩ = some (.int .i64 c) ∧ W.cell? ⟨B, 2, none⟩ = some (.string s) := ⟨(blk_cell h 0).trans rfl, (blk_cell h 1).trans rfl, (blk_cell h 2).trans rfl⟩
theorem fi_drewN {w w' : World} {n : Nat} (h : w' = w.drewN n) : Below w.heap.size w w' := h ▸ pw_below_drewN (Below.refl _ _) n
theorem fi_d0 {w w' : World} (h : Drawn0 w w') : Below w.heap.size w w' := by
  obtain ⟨n, rfl⟩ := h
  exact pw_below_drewN (Below.refl _ _) n
set_option maxHeartbeats 40000000 in
set_option maxRecDepth 100000 in
theorem laws_FnFills.calls (k : Nat) (A0 : Option Addr) (c0_ : Nat) (l0 : List Int) (r_ : Bool) (w : World) (hm : maxLenAt w) (hr0 : Kd.C (Kd.int .u8) w A0 l0.length l0) (hc0 : l0.length ≤ c0_) (h : laws_FnFills.f k l0 = some r_) :
    Calls Tryd.prog 3 #[.slice A0 l0.length c0_] w fun e w' => e = .returned (.bool r_) ∧ Below w.heap.size w w' := by
  unfold laws_FnFills.f at h
  obtain ⟨b, hb, hz_⟩ := Option.bind_eq_some_iff.mp h
  clear h; have h := hz_; clear hz_
  have KB := Aside0.mk (fun W hC => laws_big.calls A0 c0_ l0 b W hC hc0 hb)
  have HP := Aside0.mk hr0
  have HPC := Aside0.mk hc0
  have HM := Aside0.mk hm
  clear hr0 hc0 hb hm
  cases b with
  | true =>
    rw [if_pos rfl] at h
    obtain rfl := Option.some.inj h
    clear h
    go_enter Tryd.func3, Tryd.ntmps3
    go_wp2_with fail
    go_at_call 4
    refine (KB.out _ HP.out).mono ?_
    rintro e w' ⟨rfl, nd, rfl⟩
    go_wp2
    go_ret
    exact ⟨rfl, pw_below_drewN (Below.refl _ _) _⟩
  | false =>
    rw [if_neg (by simp)] at h
    obtain ⟨⟨r, c, s, f, slot, wd⟩, ha, hz_⟩ := Option.bind_eq_some_iff.mp h
    clear h; have h := hz_; clear hz_
    unfold laws_FnFills.j0 at h
    obtain ⟨⟨x, ok⟩, hpw, hz_⟩ := Option.bind_eq_some_iff.mp h
    clear h; have h := hz_; clear hz_
    have KD := Aside0.mk (fun W hC => spec_DrawPutWord.calls k A0 c0_ l0 r c s f slot wd W hC HPC.out ha)
    have KU := Aside0.mk (fun W => impl_PutWord.calls k r c s f slot wd x ok W hpw)
    have HH := Aside0.mk h
    clear ha hpw h
    go_enter Tryd.func3, Tryd.ntmps3
    go_wp2_with fail
    go_at_call 4
    refine (KB.out _ HP.out).mono ?_
    rintro e wa ⟨rfl, nd, rfl⟩
    have HB1 := Aside0.mk (pw_below_drewN (Below.refl w.heap.size w) nd)
    clear KB
    generalize w.drewN nd = w1_ at HB1 ⊢
    go_wp2_with fail
    go_at_call 5
    refine (KD.out _ (Kd.C_below HP.out HB1.out)).mono ?_
    rintro e wa ⟨rfl, hb9⟩
    have HB2 := Aside0.mk (below_step HB1.out hb9)
    have BK := Aside0.mk (blk_new wa (.cells #[.int .i64 r, .int .i64 c, .string s] 25))
    clear hb9 KD HB1
    generalize wa = w2 at HB2 BK ⊢
    go_wp2_with fail
    go_at_call 6
    refine (KU.out _).mono ?_
    rintro e wa ⟨rfl, hb9⟩
    have HF := Aside0.mk (show FiW w w2.heap.size r c s wa from ⟨blk_below BK.out hb9, below_step (below_alloc HB2.out _) hb9⟩)
    clear hb9 KU HB2 BK
    generalize w2.heap.size = B at HF ⊢
    cases ok with
    | true =>
      go_upto_if 32 with fail
      go_cut [] (fun w' => Aside0 (FiW w B r c s w'))
      case first => as_aux_lemma =>
        have h := HH.out
        first | rw [if_pos rfl] at h | rw [if_pos trivial] at h
        obtain ⟨b1, hb1, hz_⟩ := Option.bind_eq_some_iff.mp h
        clear h; have h := hz_; clear hz_
        obtain ⟨pt, hpt, hz_⟩ := Option.bind_eq_some_iff.mp h
        clear h; have h := hz_; clear hz_
        obtain ⟨ag, hag, hz_⟩ := Option.bind_eq_some_iff.mp h
        clear h; have h := hz_; clear hz_
        obtain ⟨ws, hws, hz_⟩ := Option.bind_eq_some_iff.mp h
        clear h; have h := hz_; clear hz_
        obtain ⟨hw, hhw, hz_⟩ := Option.bind_eq_some_iff.mp h
        clear h; have h := hz_; clear hz_
        obtain ⟨⟨y, ok2⟩, hpq, hz_⟩ := Option.bind_eq_some_iff.mp h
        clear h; have h := hz_; clear hz_
        by_cases hc : b1 = true ∧ pt = wd ∧ ag = true ∧ hw = true ∧ y = x ∧ ok2 = true
        · obtain ⟨rfl, rfl, rfl, rfl, rfl, rfl⟩ := hc
          clear h HH
          have KI := Aside0.mk (fun W => impl_IsFill.calls k r c s y true W hb1)
          have KS := Aside0.mk (fun W => impl_SlotPattern.calls k r c s y slot pt W hpt)
          have KA := Aside0.mk (fun W => laws_agrees.calls k y f true W hag)
          have KW := Aside0.mk (fun W => impl_WordsIn.calls k r c s y ws W hws)
          have KH := Aside0.mk (fun A cc W hC hc => impl_HasWord.calls k A cc ws pt true W hC hc hhw)
          have KU := Aside0.mk (fun W => impl_PutWord.calls k r c s y slot pt y true W hpq)
          clear hb1 hpt hag hws hhw hpq
          have c0 := (blk_cell HF.out.bk 0).trans rfl
          have c1 := (blk_cell HF.out.bk 1).trans rfl
          have c2 := (blk_cell HF.out.bk 2).trans rfl
          go_wp2_with fail
          go_at_call 7
          refine (KI.out _).mono ?_
          rintro e wa ⟨rfl, hb9⟩
          have HG := Aside0.mk (HF.out.below hb9)
          clear HF c0 c1 c2 hb9
          have HF := HG
          clear HG
          have c0 := (blk_cell HF.out.bk 0).trans rfl
          have c1 := (blk_cell HF.out.bk 1).trans rfl
          have c2 := (blk_cell HF.out.bk 2).trans rfl
          go_wp2_with fail
          go_at_call 8
          refine (KS.out _).mono ?_
          rintro e wa ⟨rfl, hb9⟩
          have HG := Aside0.mk (HF.out.below hb9)
          clear HF c0 c1 c2 hb9
          have HF := HG
          clear HG
          have c0 := (blk_cell HF.out.bk 0).trans rfl
          have c1 := (blk_cell HF.out.bk 1).trans rfl
          have c2 := (blk_cell HF.out.bk 2).trans rfl
          go_wp2_with fail
          go_at_call 9
          refine (KA.out _).mono ?_
          rintro e wa ⟨rfl, hb9⟩
          replace hb9 := fi_d0 hb9
          have HG := Aside0.mk (HF.out.below hb9)
          clear HF c0 c1 c2 hb9
          have HF := HG
          clear HG
          have c0 := (blk_cell HF.out.bk 0).trans rfl
          have c1 := (blk_cell HF.out.bk 1).trans rfl
          have c2 := (blk_cell HF.out.bk 2).trans rfl
          go_wp2_with fail
          go_at_call 11
          refine (KW.out _).mono ?_
          rintro e wa ⟨v_, rfl, hr_, hb9⟩
          obtain ⟨A_, c_, rfl, hc_, hC_⟩ := Kd.R_reads hr_
          have HC_ := Aside0.mk hC_
          have Hc_ := Aside0.mk hc_
          clear hr_ hC_ hc_
          have HG := Aside0.mk (HF.out.below hb9)
          clear HF c0 c1 c2 hb9
          have HF := HG
          clear HG
          have c0 := (blk_cell HF.out.bk 0).trans rfl
          have c1 := (blk_cell HF.out.bk 1).trans rfl
          have c2 := (blk_cell HF.out.bk 2).trans rfl
          go_wp2_with fail
          go_at_call 10
          refine (KH.out _ _ _ HC_.out Hc_.out).mono ?_
          rintro e wa ⟨rfl, hb9⟩
          replace hb9 := fi_d0 hb9
          have HG := Aside0.mk (HF.out.below hb9)
          clear HF c0 c1 c2 hb9
          have HF := HG
          clear HG
          have c0 := (blk_cell HF.out.bk 0).trans rfl
          have c1 := (blk_cell HF.out.bk 1).trans rfl
          have c2 := (blk_cell HF.out.bk 2).trans rfl
          go_wp2_with fail
          go_at_call 6
          refine (KU.out _).mono ?_
          rintro e wa ⟨rfl, hb9⟩
          have HG := Aside0.mk (HF.out.below hb9)
          clear HF c0 c1 c2 hb9
          have HF := HG
          clear HG
          have c0 := (blk_cell HF.out.bk 0).trans rfl
          have c1 := (blk_cell HF.out.bk 1).trans rfl
          have c2 := (blk_cell HF.out.bk 2).trans rfl
          go_wp2_with fail
          go_meet
          case rel => exact HF
        · rw [if_neg hc] at h
          cases h
      case rest => as_aux_lemma =>
        have HF2 := hcut
        clear HF
        have HF := HF2
        clear HF2
        have h := HH.out
        clear HH
        first | rw [if_pos rfl] at h | rw [if_pos trivial] at h
        obtain ⟨b1, hb1, hz_⟩ := Option.bind_eq_some_iff.mp h
        clear h; have h := hz_; clear hz_
        obtain ⟨pt, hpt, hz_⟩ := Option.bind_eq_some_iff.mp h
        clear h; have h := hz_; clear hz_
        obtain ⟨ag, hag, hz_⟩ := Option.bind_eq_some_iff.mp h
        clear h; have h := hz_; clear hz_
        obtain ⟨ws, hws, hz_⟩ := Option.bind_eq_some_iff.mp h
        clear h; have h := hz_; clear hz_
        obtain ⟨hw, hhw, hz_⟩ := Option.bind_eq_some_iff.mp h
        clear h; have h := hz_; clear hz_
        obtain ⟨⟨y, ok2⟩, hpq, hz_⟩ := Option.bind_eq_some_iff.mp h
        clear h; have h := hz_; clear hz_
        by_cases hc0 : b1 = true ∧ pt = wd ∧ ag = true ∧ hw = true ∧ y = x ∧ ok2 = true
        · rw [if_pos hc0] at h
          clear hc0 hb1 hpt hag hws hhw hpq
          unfold laws_FnFills.j1 at h
          obtain ⟨⟨ra, ca, sa⟩, ha2, hz_⟩ := Option.bind_eq_some_iff.mp h
          clear h; have h := hz_; clear hz_
          obtain ⟨e2, he2, hz_⟩ := Option.bind_eq_some_iff.mp h
          clear h; have h := hz_; clear hz_
          obtain ⟨b1, hb1, hz_⟩ := Option.bind_eq_some_iff.mp h
          clear h; have h := hz_; clear hz_
          obtain ⟨b2, hb2, hz_⟩ := Option.bind_eq_some_iff.mp h
          clear h; have h := hz_; clear hz_
          by_cases hc : b1 = b2
          · obtain rfl := hc
            rw [if_pos rfl] at h
            have HH2 := Aside0.mk h
            clear h
            have KD := Aside0.mk (fun W hC => spec_DrawEmptyFill.calls k A0 c0_ l0 ra ca sa W hC HPC.out ha2)
            have KE := Aside0.mk (fun W hM => impl_EmptyFill.calls k ra ca sa e2 W hM he2)
            have KI := Aside0.mk (fun W => impl_IsFill.calls k ra ca sa e2 b1 W hb1)
            have KG := Aside0.mk (fun W => impl_IsGrid.calls k ra ca sa b1 W hb2)
            clear ha2 he2 hb1 hb2
            go_wp2_with fail
            go_at_call 12
            refine (KD.out _ (Kd.C_below HP.out HF.out.bl)).mono ?_
            rintro e wa ⟨rfl, hb9⟩
            have HB2 := Aside0.mk (below_step HF.out.bl hb9)
            have BK := Aside0.mk (blk_new wa (.cells #[.int .i64 ra, .int .i64 ca, .string sa] 25))
            clear hb9 KD HF
            go_wp2_with fail
            go_at_call 13
            refine (KE.out _ ?hM).mono ?_
            case hM => exact maxLenAt_below HM.out (below_alloc HB2.out _)
            rintro e wb ⟨rfl, hb9⟩
            have HF := Aside0.mk (show FiW w wa.heap.size ra ca sa wb from ⟨blk_below BK.out hb9, below_step (below_alloc HB2.out _) hb9⟩)
            clear hb9 KE HB2 BK
            generalize wa.heap.size = B2 at HF ⊢
            have c0 := (blk_cell HF.out.bk 0).trans rfl
            have c1 := (blk_cell HF.out.bk 1).trans rfl
            have c2 := (blk_cell HF.out.bk 2).trans rfl
            have nb : (b1 != b1) = false := by simp
            go_upto_region 13 with fail
            go_cut [92] (fun v92 w' => v92 = .bool false ∧ Aside0 (FiW w B2 ra ca sa w'))
            case first => as_aux_lemma =>
              clear c0 c1 c2
              have HG := Aside0.mk HF.out.drew
              clear HF
              have HF := HG
              clear HG
              refine wp_region_held_drew (S := fun w' => w'.cell? ⟨B2, 0, none⟩ = some (.int .i64 ra) ∧ w'.cell? ⟨B2, 1, none⟩ = some (.int .i64 ca) ∧ w'.cell? ⟨B2, 2, none⟩ = some (.string sa)) (by kernel_rfl) (fi_g (w := w) HF.out.bk) (fun hHeld => ?_)
              refine wpAnyH_take (i := 0) (oi := ⟨some 78, _, _, _, _, _⟩) (v := ?_) rfl (by kernel_rfl) (by kernel_rfl) (by kernel_rfl) (fun _ _ _ h => h) (Or.inl ⟨by rfl, ?_⟩) (by assumption) ?_
              rotate_left
              · intro w_ hSw
                (try dsimp only at hSw)
                first | (go_simp; done) | (go_simp; with_reducible rfl)
              (try simp only [Act.put, List.setIfInBounds_toArray, List.set_cons_zero, List.set_cons_succ])
              refine wpAnyH_take (i := 1) (oi := ⟨some 79, _, _, _, _, _⟩) (v := ?_) rfl (by kernel_rfl) (by kernel_rfl) (by kernel_rfl) (fun _ _ _ h => h) (Or.inl ⟨by rfl, ?_⟩) (by assumption) ?_
              rotate_left
              · intro w_ hSw
                (try dsimp only at hSw)
                first | (go_simp; done) | (go_simp; with_reducible rfl)
              (try simp only [Act.put, List.setIfInBounds_toArray, List.set_cons_zero, List.set_cons_succ])
              refine wpAnyH_take (i := 3) (oi := ⟨some 81, _, _, _, _, _⟩) (v := ?_) rfl (by kernel_rfl) (by kernel_rfl) (by kernel_rfl) (fun _ _ _ h => h) (Or.inl ⟨by rfl, ?_⟩) (by assumption) ?_
              rotate_left
              · intro w_ hSw
                (try dsimp only at hSw)
                first | (go_simp; done) | (go_simp; with_reducible rfl)
              (try simp only [Act.put, List.setIfInBounds_toArray, List.set_cons_zero, List.set_cons_succ])
              refine wpAnyH_ready (rs := [2]) (by kernel_rfl) (by simp) ?_
              refine AllReadyH.cons (o := ⟨some 80, _, _, _, _, _⟩) rfl (fun K_ hK_ => ?_) AllReadyH.nil
              go_simp
              go_at_call 7
              refine (KI.out _).mono ?_
              rintro e wa ⟨rfl, hb9⟩
              have HG := Aside0.mk (HF.out.below hb9)
              clear HF hb9
              have HF := HG
              clear HG
              refine hK_.out _ _ (fi_g (w := w) HF.out.bk) (fun hHeld2 => ?_)
              clear hK_ K_ hHeld
              have hHeld := hHeld2
              clear hHeld2
              (try simp only [Act.put, List.setIfInBounds_toArray, List.set_cons_zero, List.set_cons_succ])
              refine wpAnyH_ready (rs := [4]) (by kernel_rfl) (by simp) ?_
              refine AllReadyH.cons (o := ⟨some 82, _, _, _, _, _⟩) rfl (fun K_ hK_ => ?_) AllReadyH.nil
              go_simp
              go_at_call 14
              refine (KG.out _).mono ?_
              rintro e wa ⟨rfl, hb9⟩
              have HG := Aside0.mk (HF.out.below hb9)
              clear HF hb9
              have HF := HG
              clear HG
              refine hK_.out _ _ (fi_g (w := w) HF.out.bk) (fun hHeld2 => ?_)
              clear hK_ K_ hHeld
              have hHeld := hHeld2
              clear hHeld2
              (try simp only [Act.put, List.setIfInBounds_toArray, List.set_cons_zero, List.set_cons_succ])
              refine wpAnyH_take (i := 5) (oi := ⟨some 83, _, _, _, _, _⟩) (v := ?_) rfl (by kernel_rfl) (by kernel_rfl) (by kernel_rfl) (fun _ _ _ h => h) (Or.inl ⟨by rfl, ?_⟩) (by assumption) ?_
              rotate_left
              · intro w_ hSw
                (try dsimp only at hSw)
                first | (go_simp; done) | (go_simp; with_reducible rfl)
              (try simp only [Act.put, List.setIfInBounds_toArray, List.set_cons_zero, List.set_cons_succ])
              refine wpAnyH_take (i := 6) (oi := ⟨some 84, _, _, _, _, _⟩) (v := ?_) rfl (by kernel_rfl) (by kernel_rfl) (by kernel_rfl) (fun _ _ _ h => h) (Or.inl ⟨by rfl, ?_⟩) (by assumption) ?_
              rotate_left
              · intro w_ hSw
                (try dsimp only at hSw)
                first | (go_simp; done) | (go_simp; with_reducible rfl)
              (try simp only [Act.put, List.setIfInBounds_toArray, List.set_cons_zero, List.set_cons_succ])
              refine wpAnyH_take (i := 7) (oi := ⟨some 85, _, _, _, _, _⟩) (v := ?_) rfl (by kernel_rfl) (by kernel_rfl) (by kernel_rfl) (fun _ _ _ h => h) (Or.inl ⟨by rfl, ?_⟩) (by assumption) ?_
              rotate_left
              · intro w_ hSw
                (try dsimp only at hSw)
                first | (go_simp; done) | (go_simp; with_reducible rfl)
              (try simp only [Act.put, List.setIfInBounds_toArray, List.set_cons_zero, List.set_cons_succ])
              refine wpAnyH_take (i := 8) (oi := ⟨some 86, _, _, _, _, _⟩) (v := ?_) rfl (by kernel_rfl) (by kernel_rfl) (by kernel_rfl) (fun _ _ _ h => h) (Or.inl ⟨by rfl, ?_⟩) (by assumption) ?_
              rotate_left
              · intro w_ hSw
                (try dsimp only at hSw)
                first | (go_simp; done) | (go_simp; with_reducible rfl)
              (try simp only [Act.put, List.setIfInBounds_toArray, List.set_cons_zero, List.set_cons_succ])
              refine wpAnyH_take (i := 9) (oi := ⟨some 87, _, _, _, _, _⟩) (v := ?_) rfl (by kernel_rfl) (by kernel_rfl) (by kernel_rfl) (fun _ _ _ h => h) (Or.inl ⟨by rfl, ?_⟩) (by assumption) ?_
              rotate_left
              · intro w_ hSw
                (try dsimp only at hSw)
                first | (go_simp; done) | (go_simp; with_reducible rfl)
              (try simp only [Act.put, List.setIfInBounds_toArray, List.set_cons_zero, List.set_cons_succ])
              refine wpAnyH_take (i := 10) (oi := ⟨some 88, _, _, _, _, _⟩) (v := undef) rfl (by kernel_rfl) (by kernel_rfl) (by kernel_rfl) (fun _ _ _ h => h) (Or.inr ⟨by rfl, rfl⟩) (by assumption) ?_
              (try simp only [Act.put, List.setIfInBounds_toArray, List.set_cons_zero, List.set_cons_succ])
              refine wpAnyH_take (i := 11) (oi := ⟨some 89, _, _, _, _, _⟩) (v := undef) rfl (by kernel_rfl) (by kernel_rfl) (by kernel_rfl) (fun _ _ _ h => h) (Or.inr ⟨by rfl, rfl⟩) (by assumption) ?_
              (try simp only [Act.put, List.setIfInBounds_toArray, List.set_cons_zero, List.set_cons_succ])
              refine wpAnyH_take (i := 12) (oi := ⟨some 90, _, _, _, _, _⟩) (v := undef) rfl (by kernel_rfl) (by kernel_rfl) (by kernel_rfl) (fun _ _ _ h => h) (Or.inr ⟨by rfl, rfl⟩) (by assumption) ?_
              (try simp only [Act.put, List.setIfInBounds_toArray, List.set_cons_zero, List.set_cons_succ])
              refine wpAnyH_take (i := 13) (oi := ⟨some 91, _, _, _, _, _⟩) (v := ?_) rfl (by kernel_rfl) (by kernel_rfl) (by kernel_rfl) (fun _ _ _ h => h) (Or.inl ⟨by rfl, ?_⟩) (by assumption) ?_
              rotate_left
              · intro w_ hSw
                (try dsimp only at hSw)
                first | (go_simp; done) | (go_simp; with_reducible rfl)
              (try simp only [Act.put, List.setIfInBounds_toArray, List.set_cons_zero, List.set_cons_succ])
              refine wpAnyH_take (i := 14) (oi := ⟨some 92, _, _, _, _, _⟩) (v := ?_) rfl (by kernel_rfl) (by kernel_rfl) (by kernel_rfl) (fun _ _ _ h => h) (Or.inl ⟨by rfl, ?_⟩) (by assumption) ?_
              rotate_left
              · intro w_ hSw
                (try dsimp only at hSw)
                first | (go_simp; done) | (go_simp; with_reducible rfl)
              (try simp only [Act.put, List.setIfInBounds_toArray, List.set_cons_zero, List.set_cons_succ])
              refine wpAnyH_done (by kernel_rfl) ?_ _
              go_wp2_with fail
              go_meet
              case rel => exact ⟨by simp, HF⟩
            case rest => as_aux_lemma =>
              obtain ⟨rfl, HF2⟩ := hcut
              clear HF KI KG
              have HF := HF2
              clear HF2
              have h := HH2.out
              clear HH2
              unfold laws_FnFills.j2 at h
              obtain ⟨⟨r3, c3, s3, f3⟩, ha3, hz_⟩ := Option.bind_eq_some_iff.mp h
              clear h; have h := hz_; clear hz_
              obtain ⟨u, hu, hz_⟩ := Option.bind_eq_some_iff.mp h
              clear h; have h := hz_; clear hz_
              have KD3 := Aside0.mk (fun W hC => spec_DrawIsFull.calls k A0 c0_ l0 r3 c3 s3 f3 W hC HPC.out ha3)
              have KF := Aside0.mk (fun W => impl_IsFull.calls k r3 c3 s3 f3 u W hu)
              clear ha3 hu
              go_wp2_with fail
              go_at_call 15
              refine (KD3.out _ (Kd.C_below HP.out HF.out.bl)).mono ?_
              rintro e wa ⟨rfl, hb9⟩
              have HB2 := Aside0.mk (below_step HF.out.bl hb9)
              have HF3 := Aside0.mk (show FiW w wa.heap.size r3 c3 s3 (wa.alloc (.cells #[.int .i64 r3, .int .i64 c3, .string s3] 25)) from ⟨blk_new wa (.cells #[.int .i64 r3, .int .i64 c3, .string s3] 25), below_alloc HB2.out _⟩)
              clear hb9 KD3 HF HB2
              have HF := HF3
              clear HF3
              go_upto_region 16 with fail
              cases u with
              | true =>
                rw [if_pos rfl] at h
                obtain ⟨ws, hws, hz_⟩ := Option.bind_eq_some_iff.mp h
                clear h; have h := hz_; clear hz_
                obtain ⟨sl, hsl, hz_⟩ := Option.bind_eq_some_iff.mp h
                clear h; have h := hz_; clear hz_
                by_cases hc : ws.length = sl.length
                · have KW := Aside0.mk (fun W => impl_WordsIn.calls k r3 c3 s3 f3 ws W hws)
                  have KS := Aside0.mk (fun W => impl_SlotsOf.calls k r3 c3 s3 sl W hsl)
                  have q1 : ((ws.length : Int) == (sl.length : Int)) = true := beq_iff_eq.mpr (by omega)
                  have q2 : (ws.length == sl.length) = true := beq_iff_eq.mpr hc
                  rw [if_pos hc] at h
                  obtain rfl := Option.some.inj h
                  clear h hws hsl hc
                  generalize wa.heap.size = B3 at HF ⊢
                  have HFd := Aside0.mk HF.out.drew
                  clear HF
                  have HALL := (⟨fi_g (w := w) HFd.out.bk, HFd⟩ : _ ∧ _)
                  go_region_held3 (fun w' => (w'.cell? ⟨B3, 0, none⟩ = some (.int .i64 r3) ∧ w'.cell? ⟨B3, 1, none⟩ = some (.int .i64 c3) ∧ w'.cell? ⟨B3, 2, none⟩ = some (.string s3)) ∧ Aside0 (FiW w B3 r3 c3 s3 w')) (first | assumption | (go_split_ands; exact ⟨fi_g (w := w) (‹Aside0 (FiW _ _ _ _ _ _)›.out.below hb9).bk, ⟨‹Aside0 (FiW _ _ _ _ _ _)›.out.below hb9⟩⟩) | exact HALL) (first | (go_at_call 16; with_reducible refine (KF.out _).mono ?_; rintro e wa ⟨rfl, hb9⟩) | (go_at_call 11; with_reducible refine (KW.out _).mono ?_; rintro e wa ⟨v_, rfl, hr_, hb9⟩; obtain ⟨A_, c_, rfl⟩ := Kd.R_slice hr_; clear hr_) | (go_at_call 17; with_reducible refine (KS.out _).mono ?_; rintro e wa ⟨v_, rfl, hr_, hb9⟩; obtain ⟨A_, c_, rfl⟩ := Kd.R_slice hr_; clear hr_))
                  all_goals (go_wp2_with fail; go_ret; go_split_ands; exact ⟨by simp, ‹Aside0 (FiW _ _ _ _ _ _)›.out.bl⟩)
                · rw [if_neg hc] at h
                  cases h
              | false =>
                rw [if_neg (by simp)] at h
                obtain rfl := Option.some.inj h
                clear h
                generalize wa.heap.size = B3 at HF ⊢
                have HG := Aside0.mk HF.out.drew
                clear HF
                have HF := HG
                clear HG
                refine wp_region_held_drew (S := fun w' => w'.cell? ⟨B3, 0, none⟩ = some (.int .i64 r3) ∧ w'.cell? ⟨B3, 1, none⟩ = some (.int .i64 c3) ∧ w'.cell? ⟨B3, 2, none⟩ = some (.string s3)) (by kernel_rfl) (fi_g (w := w) HF.out.bk) (fun hHeld => ?_)
                refine wpAnyH_take (i := 0) (oi := ⟨some 98, _, _, _, _, _⟩) (v := ?_) rfl (by kernel_rfl) (by kernel_rfl) (by kernel_rfl) (fun _ _ _ h => h) (Or.inl ⟨by rfl, ?_⟩) (by assumption) ?_
                rotate_left
                · intro w_ hSw
                  (try dsimp only at hSw)
                  first | (go_simp; done) | (go_simp; with_reducible rfl)
                (try simp only [Act.put, List.setIfInBounds_toArray, List.set_cons_zero, List.set_cons_succ])
                refine wpAnyH_take (i := 1) (oi := ⟨some 99, _, _, _, _, _⟩) (v := ?_) rfl (by kernel_rfl) (by kernel_rfl) (by kernel_rfl) (fun _ _ _ h => h) (Or.inl ⟨by rfl, ?_⟩) (by assumption) ?_
                rotate_left
                · intro w_ hSw
                  (try dsimp only at hSw)
                  first | (go_simp; done) | (go_simp; with_reducible rfl)
                (try simp only [Act.put, List.setIfInBounds_toArray, List.set_cons_zero, List.set_cons_succ])
                refine wpAnyH_ready (rs := [2]) (by kernel_rfl) (by simp) ?_
                refine AllReadyH.cons (o := ⟨some 100, _, _, _, _, _⟩) rfl (fun K_ hK_ => ?_) AllReadyH.nil
                go_simp
                go_at_call 16
                refine (KF.out _).mono ?_
                rintro e wa ⟨rfl, hb9⟩
                have HG := Aside0.mk (HF.out.below hb9)
                clear HF hb9
                have HF := HG
                clear HG
                refine hK_.out _ _ (fi_g (w := w) HF.out.bk) (fun hHeld2 => ?_)
                clear hK_ K_ hHeld
                have hHeld := hHeld2
                clear hHeld2
                (try simp only [Act.put, List.setIfInBounds_toArray, List.set_cons_zero, List.set_cons_succ])
                refine wpAnyH_take (i := 3) (oi := ⟨some 101, _, _, _, _, _⟩) (v := ?_) rfl (by kernel_rfl) (by kernel_rfl) (by kernel_rfl) (fun _ _ _ h => h) (Or.inl ⟨by rfl, ?_⟩) (by assumption) ?_
                rotate_left
                · intro w_ hSw
                  (try dsimp only at hSw)
                  first | (go_simp; done) | (go_simp; with_reducible rfl)
                (try simp only [Act.put, List.setIfInBounds_toArray, List.set_cons_zero, List.set_cons_succ])
                refine wpAnyH_take (i := 4) (oi := ⟨some 102, _, _, _, _, _⟩) (v := ?_) rfl (by kernel_rfl) (by kernel_rfl) (by kernel_rfl) (fun _ _ _ h => h) (Or.inl ⟨by rfl, ?_⟩) (by assumption) ?_
                rotate_left
                · intro w_ hSw
                  (try dsimp only at hSw)
                  first | (go_simp; done) | (go_simp; with_reducible rfl)
                (try simp only [Act.put, List.setIfInBounds_toArray, List.set_cons_zero, List.set_cons_succ])
                refine wpAnyH_take (i := 5) (oi := ⟨some 103, _, _, _, _, _⟩) (v := undef) rfl (by kernel_rfl) (by kernel_rfl) (by kernel_rfl) (fun _ _ _ h => h) (Or.inr ⟨by rfl, rfl⟩) (by assumption) ?_
                (try simp only [Act.put, List.setIfInBounds_toArray, List.set_cons_zero, List.set_cons_succ])
                refine wpAnyH_take (i := 6) (oi := ⟨some 104, _, _, _, _, _⟩) (v := undef) rfl (by kernel_rfl) (by kernel_rfl) (by kernel_rfl) (fun _ _ _ h => h) (Or.inr ⟨by rfl, rfl⟩) (by assumption) ?_
                (try simp only [Act.put, List.setIfInBounds_toArray, List.set_cons_zero, List.set_cons_succ])
                refine wpAnyH_take (i := 7) (oi := ⟨some 105, _, _, _, _, _⟩) (v := undef) rfl (by kernel_rfl) (by kernel_rfl) (by kernel_rfl) (fun _ _ _ h => h) (Or.inr ⟨by rfl, rfl⟩) (by assumption) ?_
                (try simp only [Act.put, List.setIfInBounds_toArray, List.set_cons_zero, List.set_cons_succ])
                refine wpAnyH_take (i := 8) (oi := ⟨some 106, _, _, _, _, _⟩) (v := undef) rfl (by kernel_rfl) (by kernel_rfl) (by kernel_rfl) (fun _ _ _ h => h) (Or.inr ⟨by rfl, rfl⟩) (by assumption) ?_
                (try simp only [Act.put, List.setIfInBounds_toArray, List.set_cons_zero, List.set_cons_succ])
                refine wpAnyH_take (i := 9) (oi := ⟨some 107, _, _, _, _, _⟩) (v := undef) rfl (by kernel_rfl) (by kernel_rfl) (by kernel_rfl) (fun _ _ _ h => h) (Or.inr ⟨by rfl, rfl⟩) (by assumption) ?_
                (try simp only [Act.put, List.setIfInBounds_toArray, List.set_cons_zero, List.set_cons_succ])
                refine wpAnyH_take (i := 10) (oi := ⟨some 108, _, _, _, _, _⟩) (v := undef) rfl (by kernel_rfl) (by kernel_rfl) (by kernel_rfl) (fun _ _ _ h => h) (Or.inr ⟨by rfl, rfl⟩) (by assumption) ?_
                (try simp only [Act.put, List.setIfInBounds_toArray, List.set_cons_zero, List.set_cons_succ])
                refine wpAnyH_take (i := 11) (oi := ⟨some 109, _, _, _, _, _⟩) (v := undef) rfl (by kernel_rfl) (by kernel_rfl) (by kernel_rfl) (fun _ _ _ h => h) (Or.inr ⟨by rfl, rfl⟩) (by assumption) ?_
                (try simp only [Act.put, List.setIfInBounds_toArray, List.set_cons_zero, List.set_cons_succ])
                refine wpAnyH_take (i := 12) (oi := ⟨some 110, _, _, _, _, _⟩) (v := undef) rfl (by kernel_rfl) (by kernel_rfl) (by kernel_rfl) (fun _ _ _ h => h) (Or.inr ⟨by rfl, rfl⟩) (by assumption) ?_
                (try simp only [Act.put, List.setIfInBounds_toArray, List.set_cons_zero, List.set_cons_succ])
                refine wpAnyH_take (i := 13) (oi := ⟨some 111, _, _, _, _, _⟩) (v := ?_) rfl (by kernel_rfl) (by kernel_rfl) (by kernel_rfl) (fun _ _ _ h => h) (Or.inl ⟨by rfl, ?_⟩) (by assumption) ?_
                rotate_left
                · intro w_ hSw
                  (try dsimp only at hSw)
                  first | (go_simp; done) | (go_simp; with_reducible rfl)
                (try simp only [Act.put, List.setIfInBounds_toArray, List.set_cons_zero, List.set_cons_succ])
                refine wpAnyH_take (i := 14) (oi := ⟨some 2, _, _, _, _, _⟩) (v := ?_) rfl (by kernel_rfl) (by kernel_rfl) (by kernel_rfl) (fun _ _ _ h => h) (Or.inl ⟨by rfl, ?_⟩) (by assumption) ?_
                rotate_left
                · intro w_ hSw
                  (try dsimp only at hSw)
                  first | (go_simp; done) | (go_simp; with_reducible rfl)
                (try simp only [Act.put, List.setIfInBounds_toArray, List.set_cons_zero, List.set_cons_succ])
                refine wpAnyH_done (by kernel_rfl) ?_ _
                go_wp2_with fail
                go_ret
                exact ⟨by simp, HF.out.bl⟩
          · rw [if_neg hc] at h
            cases h
        · rw [if_neg hc0] at h
          cases h
    | false =>
      have h := HH.out
      clear HH
      rw [if_neg (by simp)] at h
      by_cases hxf : x = f
      · rw [if_pos hxf] at h
        unfold laws_FnFills.j1 at h
        subst hxf
        obtain ⟨⟨ra, ca, sa⟩, ha2, hz_⟩ := Option.bind_eq_some_iff.mp h
        clear h; have h := hz_; clear hz_
        obtain ⟨e2, he2, hz_⟩ := Option.bind_eq_some_iff.mp h
        clear h; have h := hz_; clear hz_
        obtain ⟨b1, hb1, hz_⟩ := Option.bind_eq_some_iff.mp h
        clear h; have h := hz_; clear hz_
        obtain ⟨b2, hb2, hz_⟩ := Option.bind_eq_some_iff.mp h
        clear h; have h := hz_; clear hz_
        by_cases hc : b1 = b2
        · obtain rfl := hc
          rw [if_pos rfl] at h
          have HH2 := Aside0.mk h
          clear h
          have KD := Aside0.mk (fun W hC => spec_DrawEmptyFill.calls k A0 c0_ l0 ra ca sa W hC HPC.out ha2)
          have KE := Aside0.mk (fun W hM => impl_EmptyFill.calls k ra ca sa e2 W hM he2)
          have KI := Aside0.mk (fun W => impl_IsFill.calls k ra ca sa e2 b1 W hb1)
          have KG := Aside0.mk (fun W => impl_IsGrid.calls k ra ca sa b1 W hb2)
          clear ha2 he2 hb1 hb2
          go_wp2_with fail
          go_at_call 12
          refine (KD.out _ (Kd.C_below HP.out HF.out.bl)).mono ?_
          rintro e wa ⟨rfl, hb9⟩
          have HB2 := Aside0.mk (below_step HF.out.bl hb9)
          have BK := Aside0.mk (blk_new wa (.cells #[.int .i64 ra, .int .i64 ca, .string sa] 25))
          clear hb9 KD HF
          go_wp2_with fail
          go_at_call 13
          refine (KE.out _ ?hM).mono ?_
          case hM => exact maxLenAt_below HM.out (below_alloc HB2.out _)
          rintro e wb ⟨rfl, hb9⟩
          have HF := Aside0.mk (show FiW w wa.heap.size ra ca sa wb from ⟨blk_below BK.out hb9, below_step (below_alloc HB2.out _) hb9⟩)
          clear hb9 KE HB2 BK
          generalize wa.heap.size = B2 at HF ⊢
          have c0 := (blk_cell HF.out.bk 0).trans rfl
          have c1 := (blk_cell HF.out.bk 1).trans rfl
          have c2 := (blk_cell HF.out.bk 2).trans rfl
          have nb : (b1 != b1) = false := by simp
          go_upto_region 13 with fail
          go_cut [92] (fun v92 w' => v92 = .bool false ∧ Aside0 (FiW w B2 ra ca sa w'))
          case first => as_aux_lemma =>
            have HFd := Aside0.mk HF.out.drew
            clear HF c0 c1 c2
            have HALL := (⟨fi_g (w := w) HFd.out.bk, HFd⟩ : _ ∧ _)
            go_region_held3 (fun w' => (w'.cell? ⟨B2, 0, none⟩ = some (.int .i64 ra) ∧ w'.cell? ⟨B2, 1, none⟩ = some (.int .i64 ca) ∧ w'.cell? ⟨B2, 2, none⟩ = some (.string sa)) ∧ Aside0 (FiW w B2 ra ca sa w')) (first | assumption | (go_split_ands; exact ⟨fi_g (w := w) (‹Aside0 (FiW _ _ _ _ _ _)›.out.below hb9).bk, ⟨‹Aside0 (FiW _ _ _ _ _ _)›.out.below hb9⟩⟩) | exact HALL) (first | (go_at_call 7; with_reducible refine (KI.out _).mono ?_; rintro e wa ⟨rfl, hb9⟩) | (go_at_call 14; with_reducible refine (KG.out _).mono ?_; rintro e wa ⟨rfl, hb9⟩))
            all_goals (go_wp2_with fail; go_meet; (case rel => (go_split_ands; exact ⟨by simp, ‹Aside0 (FiW _ _ _ _ _ _)›⟩)))
          case rest => as_aux_lemma =>
            obtain ⟨rfl, HF2⟩ := hcut
            clear HF KI KG
            have HF := HF2
            clear HF2
            have h := HH2.out
            clear HH2
            unfold laws_FnFills.j2 at h
            obtain ⟨⟨r3, c3, s3, f3⟩, ha3, hz_⟩ := Option.bind_eq_some_iff.mp h
            clear h; have h := hz_; clear hz_
            obtain ⟨u, hu, hz_⟩ := Option.bind_eq_some_iff.mp h
            clear h; have h := hz_; clear hz_
            have KD3 := Aside0.mk (fun W hC => spec_DrawIsFull.calls k A0 c0_ l0 r3 c3 s3 f3 W hC HPC.out ha3)
            have KF := Aside0.mk (fun W => impl_IsFull.calls k r3 c3 s3 f3 u W hu)
            clear ha3 hu
            go_wp2_with fail
            go_at_call 15
            refine (KD3.out _ (Kd.C_below HP.out HF.out.bl)).mono ?_
            rintro e wa ⟨rfl, hb9⟩
            have HB2 := Aside0.mk (below_step HF.out.bl hb9)
            have HF3 := Aside0.mk (show FiW w wa.heap.size r3 c3 s3 (wa.alloc (.cells #[.int .i64 r3, .int .i64 c3, .string s3] 25)) from ⟨blk_new wa (.cells #[.int .i64 r3, .int .i64 c3, .string s3] 25), below_alloc HB2.out _⟩)
            clear hb9 KD3 HF HB2
            have HF := HF3
            clear HF3
            go_upto_region 16 with fail
            cases u with
            | true =>
              rw [if_pos rfl] at h
              obtain ⟨ws, hws, hz_⟩ := Option.bind_eq_some_iff.mp h
              clear h; have h := hz_; clear hz_
              obtain ⟨sl, hsl, hz_⟩ := Option.bind_eq_some_iff.mp h
              clear h; have h := hz_; clear hz_
              by_cases hc : ws.length = sl.length
              · have KW := Aside0.mk (fun W => impl_WordsIn.calls k r3 c3 s3 f3 ws W hws)
                have KS := Aside0.mk (fun W => impl_SlotsOf.calls k r3 c3 s3 sl W hsl)
                have q1 : ((ws.length : Int) == (sl.length : Int)) = true := beq_iff_eq.mpr (by omega)
                have q2 : (ws.length == sl.length) = true := beq_iff_eq.mpr hc
                rw [if_pos hc] at h
                obtain rfl := Option.some.inj h
                clear h hws hsl hc
                generalize wa.heap.size = B3 at HF ⊢
                have HFd := Aside0.mk HF.out.drew
                clear HF
                have HALL := (⟨fi_g (w := w) HFd.out.bk, HFd⟩ : _ ∧ _)
                go_region_held3 (fun w' => (w'.cell? ⟨B3, 0, none⟩ = some (.int .i64 r3) ∧ w'.cell? ⟨B3, 1, none⟩ = some (.int .i64 c3) ∧ w'.cell? ⟨B3, 2, none⟩ = some (.string s3)) ∧ Aside0 (FiW w B3 r3 c3 s3 w')) (first | assumption | (go_split_ands; exact ⟨fi_g (w := w) (‹Aside0 (FiW _ _ _ _ _ _)›.out.below hb9).bk, ⟨‹Aside0 (FiW _ _ _ _ _ _)›.out.below hb9⟩⟩) | exact HALL) (first | (go_at_call 16; with_reducible refine (KF.out _).mono ?_; rintro e wa ⟨rfl, hb9⟩) | (go_at_call 11; with_reducible refine (KW.out _).mono ?_; rintro e wa ⟨v_, rfl, hr_, hb9⟩; obtain ⟨A_, c_, rfl⟩ := Kd.R_slice hr_; clear hr_) | (go_at_call 17; with_reducible refine (KS.out _).mono ?_; rintro e wa ⟨v_, rfl, hr_, hb9⟩; obtain ⟨A_, c_, rfl⟩ := Kd.R_slice hr_; clear hr_))
                all_goals (go_wp2_with fail; go_ret; go_split_ands; exact ⟨by simp, ‹Aside0 (FiW _ _ _ _ _ _)›.out.bl⟩)
              · rw [if_neg hc] at h
                cases h
            | false =>
              rw [if_neg (by simp)] at h
              obtain rfl := Option.some.inj h
              clear h
              generalize wa.heap.size = B3 at HF ⊢
              have HG := Aside0.mk HF.out.drew
              clear HF
              have HF := HG
              clear HG
              refine wp_region_held_drew (S := fun w' => w'.cell? ⟨B3, 0, none⟩ = some (.int .i64 r3) ∧ w'.cell? ⟨B3, 1, none⟩ = some (.int .i64 c3) ∧ w'.cell? ⟨B3, 2, none⟩ = some (.string s3)) (by kernel_rfl) (fi_g (w := w) HF.out.bk) (fun hHeld => ?_)
              refine wpAnyH_take (i := 0) (oi := ⟨some 98, _, _, _, _, _⟩) (v := ?_) rfl (by kernel_rfl) (by kernel_rfl) (by kernel_rfl) (fun _ _ _ h => h) (Or.inl ⟨by rfl, ?_⟩) (by assumption) ?_
              rotate_left
              · intro w_ hSw
                (try dsimp only at hSw)
                first | (go_simp; done) | (go_simp; with_reducible rfl)
              (try simp only [Act.put, List.setIfInBounds_toArray, List.set_cons_zero, List.set_cons_succ])
              refine wpAnyH_take (i := 1) (oi := ⟨some 99, _, _, _, _, _⟩) (v := ?_) rfl (by kernel_rfl) (by kernel_rfl) (by kernel_rfl) (fun _ _ _ h => h) (Or.inl ⟨by rfl, ?_⟩) (by assumption) ?_
              rotate_left
              · intro w_ hSw
                (try dsimp only at hSw)
                first | (go_simp; done) | (go_simp; with_reducible rfl)
              (try simp only [Act.put, List.setIfInBounds_toArray, List.set_cons_zero, List.set_cons_succ])
              refine wpAnyH_ready (rs := [2]) (by kernel_rfl) (by simp) ?_
              refine AllReadyH.cons (o := ⟨some 100, _, _, _, _, _⟩) rfl (fun K_ hK_ => ?_) AllReadyH.nil
              go_simp
              go_at_call 16
              refine (KF.out _).mono ?_
              rintro e wa ⟨rfl, hb9⟩
              have HG := Aside0.mk (HF.out.below hb9)
              clear HF hb9
              have HF := HG
              clear HG
              refine hK_.out _ _ (fi_g (w := w) HF.out.bk) (fun hHeld2 => ?_)
              clear hK_ K_ hHeld
              have hHeld := hHeld2
              clear hHeld2
              (try simp only [Act.put, List.setIfInBounds_toArray, List.set_cons_zero, List.set_cons_succ])
              refine wpAnyH_take (i := 3) (oi := ⟨some 101, _, _, _, _, _⟩) (v := ?_) rfl (by kernel_rfl) (by kernel_rfl) (by kernel_rfl) (fun _ _ _ h => h) (Or.inl ⟨by rfl, ?_⟩) (by assumption) ?_
              rotate_left
              · intro w_ hSw
                (try dsimp only at hSw)
                first | (go_simp; done) | (go_simp; with_reducible rfl)
              (try simp only [Act.put, List.setIfInBounds_toArray, List.set_cons_zero, List.set_cons_succ])
              refine wpAnyH_take (i := 4) (oi := ⟨some 102, _, _, _, _, _⟩) (v := ?_) rfl (by kernel_rfl) (by kernel_rfl) (by kernel_rfl) (fun _ _ _ h => h) (Or.inl ⟨by rfl, ?_⟩) (by assumption) ?_
              rotate_left
              · intro w_ hSw
                (try dsimp only at hSw)
                first | (go_simp; done) | (go_simp; with_reducible rfl)
              (try simp only [Act.put, List.setIfInBounds_toArray, List.set_cons_zero, List.set_cons_succ])
              refine wpAnyH_take (i := 5) (oi := ⟨some 103, _, _, _, _, _⟩) (v := undef) rfl (by kernel_rfl) (by kernel_rfl) (by kernel_rfl) (fun _ _ _ h => h) (Or.inr ⟨by rfl, rfl⟩) (by assumption) ?_
              (try simp only [Act.put, List.setIfInBounds_toArray, List.set_cons_zero, List.set_cons_succ])
              refine wpAnyH_take (i := 6) (oi := ⟨some 104, _, _, _, _, _⟩) (v := undef) rfl (by kernel_rfl) (by kernel_rfl) (by kernel_rfl) (fun _ _ _ h => h) (Or.inr ⟨by rfl, rfl⟩) (by assumption) ?_
              (try simp only [Act.put, List.setIfInBounds_toArray, List.set_cons_zero, List.set_cons_succ])
              refine wpAnyH_take (i := 7) (oi := ⟨some 105, _, _, _, _, _⟩) (v := undef) rfl (by kernel_rfl) (by kernel_rfl) (by kernel_rfl) (fun _ _ _ h => h) (Or.inr ⟨by rfl, rfl⟩) (by assumption) ?_
              (try simp only [Act.put, List.setIfInBounds_toArray, List.set_cons_zero, List.set_cons_succ])
              refine wpAnyH_take (i := 8) (oi := ⟨some 106, _, _, _, _, _⟩) (v := undef) rfl (by kernel_rfl) (by kernel_rfl) (by kernel_rfl) (fun _ _ _ h => h) (Or.inr ⟨by rfl, rfl⟩) (by assumption) ?_
              (try simp only [Act.put, List.setIfInBounds_toArray, List.set_cons_zero, List.set_cons_succ])
              refine wpAnyH_take (i := 9) (oi := ⟨some 107, _, _, _, _, _⟩) (v := undef) rfl (by kernel_rfl) (by kernel_rfl) (by kernel_rfl) (fun _ _ _ h => h) (Or.inr ⟨by rfl, rfl⟩) (by assumption) ?_
              (try simp only [Act.put, List.setIfInBounds_toArray, List.set_cons_zero, List.set_cons_succ])
              refine wpAnyH_take (i := 10) (oi := ⟨some 108, _, _, _, _, _⟩) (v := undef) rfl (by kernel_rfl) (by kernel_rfl) (by kernel_rfl) (fun _ _ _ h => h) (Or.inr ⟨by rfl, rfl⟩) (by assumption) ?_
              (try simp only [Act.put, List.setIfInBounds_toArray, List.set_cons_zero, List.set_cons_succ])
              refine wpAnyH_take (i := 11) (oi := ⟨some 109, _, _, _, _, _⟩) (v := undef) rfl (by kernel_rfl) (by kernel_rfl) (by kernel_rfl) (fun _ _ _ h => h) (Or.inr ⟨by rfl, rfl⟩) (by assumption) ?_
              (try simp only [Act.put, List.setIfInBounds_toArray, List.set_cons_zero, List.set_cons_succ])
              refine wpAnyH_take (i := 12) (oi := ⟨some 110, _, _, _, _, _⟩) (v := undef) rfl (by kernel_rfl) (by kernel_rfl) (by kernel_rfl) (fun _ _ _ h => h) (Or.inr ⟨by rfl, rfl⟩) (by assumption) ?_
              (try simp only [Act.put, List.setIfInBounds_toArray, List.set_cons_zero, List.set_cons_succ])
              refine wpAnyH_take (i := 13) (oi := ⟨some 111, _, _, _, _, _⟩) (v := ?_) rfl (by kernel_rfl) (by kernel_rfl) (by kernel_rfl) (fun _ _ _ h => h) (Or.inl ⟨by rfl, ?_⟩) (by assumption) ?_
              rotate_left
              · intro w_ hSw
                (try dsimp only at hSw)
                first | (go_simp; done) | (go_simp; with_reducible rfl)
              (try simp only [Act.put, List.setIfInBounds_toArray, List.set_cons_zero, List.set_cons_succ])
              refine wpAnyH_take (i := 14) (oi := ⟨some 2, _, _, _, _, _⟩) (v := ?_) rfl (by kernel_rfl) (by kernel_rfl) (by kernel_rfl) (fun _ _ _ h => h) (Or.inl ⟨by rfl, ?_⟩) (by assumption) ?_
              rotate_left
              · intro w_ hSw
                (try dsimp only at hSw)
                first | (go_simp; done) | (go_simp; with_reducible rfl)
              (try simp only [Act.put, List.setIfInBounds_toArray, List.set_cons_zero, List.set_cons_succ])
              refine wpAnyH_done (by kernel_rfl) ?_ _
              go_wp2_with fail
              go_ret
              exact ⟨by simp, HF.out.bl⟩
        · rw [if_neg hc] at h
          cases h
      · rw [if_neg hxf] at h
        cases h
/-- THE ONE PURE STATEMENT of laws_FnFills. -/
def laws_FnFills.Pure : Prop := ∀ (l0 : List Int), l0.length ≤ maxLen → l0.length * 1 ≤ 140737488351232 → (∀ x ∈ l0, (Lit.int .u8 x).wf = true) → ∃ k, laws_FnFills.f k l0 = some true
theorem laws_FnFills.walk (P : laws_FnFills.Pure) (a0 : Option Addr) (len0 cap0 : Nat) (z0 : List Int) (w : World) (w0 : (a0 = none ∧ len0 = 0 ∧ cap0 = 0 ∧ z0 = []) ∨ ∃ x, a0 = some x ∧ len0 ≤ cap0 ∧ cap0 ≤ maxLen ∧ z0.length = cap0 ∧ (∀ i, i < z0.length → w.cell? (x.add i) = some (.int .u8 (z0.getD i 0))) ∧ ∀ n ∈ z0, (Lit.int .u8 n).wf = true) (hm : maxLenAt w) (y0 : len0 * 1 ≤ 140737488351232) :
    Calls Tryd.prog 3 #[.slice a0 len0 cap0] w fun e w' => e = .returned (.bool true) ∧ Below w.heap.size w w' := by
  obtain ⟨l0, rfl, hr0, hm0, hw0, hc0⟩ := ReadsInt.ofRowC w0
  obtain ⟨k, h⟩ := P l0 hm0 y0 hw0
  refine (laws_FnFills.calls k _ _ l0 true w hm (Kd.C_of_reads (d := (0 : Int)) (h1 := fun _ => rfl) hr0) hc0 h).mono ?_
  rintro e w' ⟨rfl, hd⟩
  exact ⟨rfl, hd⟩


end Go.Proofs.YtodcckiphdnjeabDoor.QFnFills
