-- Written by a changed copy of the kit's printer (wip/mp.py of this repo), for this claim; Lean checks it.
import Derived.Test.YtodcckiphdnjeaaQFnFilledx0
import Derived.Test.YtodcckiphdnjeaaQFnFilledx4
import Derived.Test.YtodcckiphdnjeaaQFnFilledx7
import Derived.Test.YtodcckiphdnjeaaQFnFilledx16
import Derived.Test.YtodcckiphdnjeaaQFnFilledx17
import Derived.Test.YtodcckiphdnjeaaQFnFilledx18
import Derived.Test.YtodcckiphdnjeaaQFnFilledx19
import Derived.Test.YtodcckiphdnjeaaQFnFilledx20
namespace Go.Proofs.Ytodcckiphdnjeaa.QFnFilled
open Go.RowKit Go.Proofs.YtodcckiphdnjeaaW.PrintWords Go.Proofs.YtodcckiphdnjeaaW.PrintLast Go.Proofs.YtodcckiphdnjeaaW.PrintMore
attribute [local go_sem] max2_int min2_int max_two min_two max_three min_three max_four min_four   -- for this text's walks alone
set_option linter.unusedVariables false
set_option linter.unusedSimpArgs false

/-! ### laws_FnFilled: function 6 (given) -/
def fdIn (k : Nat) (p : List (List ByteArray)) : List ByteArray → Nat → Option Bool
  | [], _ => some true
  | y :: ys, j => if j < p.length then (impl_HasWord.f k (p.getD j []) y).bind fun b => if b = true then fdIn k p ys (j + 1) else none else none
theorem fdIn_cons (k : Nat) (p : List (List ByteArray)) (y : ByteArray) (ys : List ByteArray) (j : Nat) : fdIn k p (y :: ys) j = if j < p.length then (impl_HasWord.f k (p.getD j []) y).bind fun b => if b = true then fdIn k p ys (j + 1) else none else none := rfl
def fdOut (k : Nat) (r c : Int) (s : ByteArray) (p : List (List ByteArray)) : List ByteArray → Option Bool
  | [] => some true
  | x :: xs => (impl_WordsIn.f k r c s x).bind fun wl => (fdIn k p wl 0).bind fun _ => fdOut k r c s p xs
theorem fdOut_cons (k : Nat) (r c : Int) (s : ByteArray) (p : List (List ByteArray)) (x : ByteArray) (xs : List ByteArray) : fdOut k r c s p (x :: xs) = (impl_WordsIn.f k r c s x).bind fun wl => (fdIn k p wl 0).bind fun _ => fdOut k r c s p xs := rfl
def fdOne (k : Nat) (r c : Int) (s f : ByteArray) (ws l : List ByteArray) : List ByteArray → Nat → Option Bool
  | [], _ => some true
  | x :: xs, i => (impl_WordsIn.f k r c s x).bind fun wl => (impl_IsFull.f k r c s x).bind fun u => (laws_agrees.f k x f).bind fun ag => (impl_SlotsOf.f k r c s).bind fun sl => (impl_RepeatsIn.f k wl).bind fun rp => (laws_within.f k wl ws).bind fun wi => (impl_HasWord.f k (l.take i) x).bind fun hw => if u = true ∧ ag = true ∧ wl.length = sl.length ∧ rp = 0 ∧ wi = true ∧ hw = false then fdOne k r c s f ws l xs (i + 1) else none
theorem fdOne_cons (k : Nat) (r c : Int) (s f : ByteArray) (ws l : List ByteArray) (x : ByteArray) (xs : List ByteArray) (i : Nat) : fdOne k r c s f ws l (x :: xs) i = (impl_WordsIn.f k r c s x).bind fun wl => (impl_IsFull.f k r c s x).bind fun u => (laws_agrees.f k x f).bind fun ag => (impl_SlotsOf.f k r c s).bind fun sl => (impl_RepeatsIn.f k wl).bind fun rp => (laws_within.f k wl ws).bind fun wi => (impl_HasWord.f k (l.take i) x).bind fun hw => if u = true ∧ ag = true ∧ wl.length = sl.length ∧ rp = 0 ∧ wi = true ∧ hw = false then fdOne k r c s f ws l xs (i + 1) else none := rfl
def fdEnd (k : Nat) (r c : Int) (s f : ByteArray) (ws : List ByteArray) (most : Int) (l : List ByteArray) : Option Bool := (impl_FillGrid.f k r c s f ws).bind fun p => (impl_IsUniqueFill.f k r c s f ws).bind fun u => (impl_FillsOf.f k r c s f ws 2).bind fun l2 => if p.2 = decide (0 < l.length) ∧ (p.2 = true → p.1 = rdOf ByteArray.empty l 0) ∧ (l.length : Int) ≤ most ∧ u = ((l2.length : Int) == 1) then some true else none
def fdMid (k : Nat) (r c : Int) (s f : ByteArray) (ws : List ByteArray) (most : Int) (l : List ByteArray) : Option Bool := (impl_DomainsOf.f k r c s f ws).bind fun d1 => (spec_DomainsOf.f k r c s f ws).bind fun d2 => (impl_Prune.f k r c s d1).bind fun p => (fdOut k r c s p l).bind fun _ => if d1.length = d2.length then fdEnd k r c s f ws most l else none
def laws_FnFilled.g (k : Nat) (r c : Int) (s f : ByteArray) (ws : List ByteArray) (most : Int) : Option Bool := (impl_FillsOf.f k r c s f ws most).bind fun l => (fdOne k r c s f ws l l 0).bind fun _ => if 1 ≤ most ∧ most ≤ 30 then fdMid k r c s f ws most l else if l.length = 0 then some true else none
def laws_FnFilled.f (k : Nat) (l0 : List Int) : Option Bool := (laws_big.f l0).bind fun b => if b = true then some true else (spec_DrawFillsOf.f k l0).bind fun g => laws_FnFilled.g k g.1 g.2.1 g.2.2.1 g.2.2.2.1 g.2.2.2.2.1 g.2.2.2.2.2
/-- What stands while the law runs: the grid's box, the words, the fills. -/
structure FdW (w : World) (B : Nat) (r c : Int) (s : ByteArray) (AW : Option Addr) (ws : List ByteArray) (AL : Option Addr) (l : List ByteArray) (w' : World) : Prop where
  bk : w'.heap[B]? = some (.cells #[.int .i64 r, .int .i64 c, .string s] 28 (0, 0))
  cw : Kd.C Kd.string w' AW ws.length ws
  cl : Kd.C Kd.string w' AL l.length l
  bl : Below w.heap.size w w'
theorem FdW.below {w : World} {B : Nat} {r c : Int} {s : ByteArray} {AW : Option Addr} {ws : List ByteArray} {AL : Option Addr} {l : List ByteArray} {w' w2 : World} (h : FdW w B r c s AW ws AL l w') (hb : Below w'.heap.size w' w2) : FdW w B r c s AW ws AL l w2 := ⟨blk_below h.bk hb, Kd.C_below h.cw hb, Kd.C_below h.cl hb, below_step h.bl hb⟩
theorem FdW.drew {w : World} {B : Nat} {r c : Int} {s : ByteArray} {AW : Option Addr} {ws : List ByteArray} {AL : Option Addr} {l : List ByteArray} {w' : World} (h : FdW w B r c s AW ws AL l w') : FdW w B r c s AW ws AL l w'.drew := h.below (below_drew (Below.refl _ _))
theorem fd_g {B : Nat} {r c : Int} {s : ByteArray} {W : World} (h : W.heap[B]? = some (.cells #[.int .i64 r, .int .i64 c, .string s] 28 (0, 0))) : W.cell? ⟨B, 0, none⟩ = some (.int .i64 r) ∧ W.cell? ⟨B, 1, none⟩ = some (.int .i64 c) ∧ W.cell? ⟨B, 2, none⟩ = some (.string s) := ⟨(blk_cell h 0).trans rfl, (blk_cell h 1).trans rfl, (blk_cell h 2).trans rfl⟩
theorem fd_l {ad : Addr} {l : List ByteArray} {W : World} (h : Kd.C Kd.string W (some ad) l.length l) {i : Nat} (hi : i < l.length) {x : ByteArray} (hx : rdOf ByteArray.empty l (i : Int) = x) : W.cell? (ad.add i) = some (.string x) := by
  obtain ⟨ad2, e1, h1⟩ := Kd.at_string h (i : Int) (by omega) (by omega)
  obtain rfl := Option.some.inj e1
  rw [hx, Int.toNat_natCast] at h1
  exact h1
theorem fd_d0 {w w' : World} (h : Drawn0 w w') : Below w.heap.size w w' := by
  obtain ⟨n, rfl⟩ := h
  exact pw_below_drewN (Below.refl _ _) n
theorem fd_take {k : Nat} {A : Option Addr} {c : Nat} {l : List ByteArray} {i : Nat} (hi : i ≤ l.length) (hc : l.length ≤ c) {x : ByteArray} {r : Bool} (h : impl_HasWord.f k (l.take i) x = some r) : ∀ W : World, Kd.C Kd.string W A l.length l → Calls Try.prog 29 #[.slice A i c, .string x] W fun e w' => e = .returned (.bool r) ∧ Drawn0 W w' := fun W hC => by
  have hl : (l.take i).length = i := by rw [List.length_take]; omega
  have := impl_HasWord.calls k A c (l.take i) x r W (Kd.C_take hC hi) (by omega) h
  rwa [hl] at this
set_option maxHeartbeats 40000000 in
set_option maxRecDepth 100000 in
theorem laws_FnFilled.calls (k : Nat) (A0 : Option Addr) (c0_ : Nat) (l0 : List Int) (r_ : Bool) (w : World) (hr0 : Kd.C (Kd.int .u8) w A0 l0.length l0) (hc0 : l0.length ≤ c0_) (h : laws_FnFilled.f k l0 = some r_) :
    Calls Try.prog 6 #[.slice A0 l0.length c0_] w fun e w' => e = .returned (.bool r_) ∧ Below w.heap.size w w' := by
  unfold laws_FnFilled.f at h
  obtain ⟨b, hb, hz_⟩ := Option.bind_eq_some_iff.mp h
  clear h; have h := hz_; clear hz_
  have KB := Aside0.mk (fun W hC => laws_big.calls A0 c0_ l0 b W hC hc0 hb)
  have HP := Aside0.mk hr0
  have HPC := Aside0.mk hc0
  clear hr0 hc0 hb
  cases b with
  | true =>
    rw [if_pos rfl] at h
    obtain rfl := Option.some.inj h
    clear h
    go_enter Try.func6, Try.ntmps6
    go_wp2_with fail
    go_at_call 21
    refine (KB.out _ HP.out).mono ?_
    rintro e w' ⟨rfl, nd, rfl⟩
    go_wp2
    go_ret
    exact ⟨rfl, pw_below_drewN (Below.refl _ _) _⟩
  | false =>
    rw [if_neg (by simp)] at h
    obtain ⟨⟨r, c, s, f, ws, most⟩, ha, hz_⟩ := Option.bind_eq_some_iff.mp h
    clear h; have h := hz_; clear hz_
    unfold laws_FnFilled.g at h
    obtain ⟨l, hl, hz_⟩ := Option.bind_eq_some_iff.mp h
    clear h; have h := hz_; clear hz_
    have KD := Aside0.mk (fun W hC => spec_DrawFillsOf.calls k A0 c0_ l0 r c s f ws most W hC HPC.out ha)
    have KL := Aside0.mk (fun A cc W hC hc => impl_FillsOf.calls k r c s f A cc ws most l W hC hc hl)
    have HH := Aside0.mk h
    clear ha hl h
    go_enter Try.func6, Try.ntmps6
    go_wp2_with fail
    go_at_call 21
    refine (KB.out _ HP.out).mono ?_
    rintro e wa ⟨rfl, nd, rfl⟩
    have HB1 := Aside0.mk (pw_below_drewN (Below.refl w.heap.size w) nd)
    clear KB
    generalize w.drewN nd = w1_ at HB1 ⊢
    go_wp2_with fail
    go_at_call 22
    refine (KD.out _ (Kd.C_below HP.out HB1.out)).mono ?_
    rintro e wa ⟨v0, rfl, hr, hb9⟩
    obtain ⟨AW, cW, rfl, hcw, hCW⟩ := Kd.R_reads hr
    have HCW := Aside0.mk hcw
    have HB2 := Aside0.mk (below_step HB1.out hb9)
    have BK := Aside0.mk (blk_new wa (.cells #[.int .i64 r, .int .i64 c, .string s] 28))
    have HW2 := Aside0.mk (Kd.C_alloc hCW (.cells #[.int .i64 r, .int .i64 c, .string s] 28))
    clear hb9 KD HB1 hr hcw hCW
    generalize wa = w2 at HB2 BK HW2 ⊢
    go_wp2_with fail
    go_at_call 18
    refine (KL.out _ _ _ HW2.out HCW.out).mono ?_
    rintro e wa ⟨v1, rfl, hr, hb9⟩
    obtain ⟨AL, cL, rfl, hcl, hCL⟩ := Kd.R_reads hr
    have HCL := Aside0.mk hcl
    have HF := Aside0.mk (show FdW w w2.heap.size r c s AW ws AL l wa from ⟨blk_below BK.out hb9, Kd.C_below HW2.out hb9, hCL, below_step (below_alloc HB2.out _) hb9⟩)
    clear hb9 KL HB2 BK HW2 hr hcl hCL
    generalize w2.heap.size = B at HF ⊢
    have h := HH.out
    clear HH
    obtain ⟨b1, hone, hz_⟩ := Option.bind_eq_some_iff.mp h
    clear h; have h := hz_; clear hz_
    have HONE := Aside0.mk (show fdOne k r c s f ws l (l.drop 0) 0 = some b1 from hone)
    have HH := Aside0.mk h
    clear hone h
    go_wp2
    go_loopg [8] l.length (fun kq v8 w' => ∃ (i : Nat), v8 = .int .i64 (i : Int) ∧ Aside0 (i ≤ l.length) ∧ Aside0 (l.length - i ≤ kq) ∧ Aside0 (fdOne k r c s f ws l (l.drop i) i = some b1) ∧ Aside0 (FdW w B r c s AW ws AL l w'))
    case atStart => exact ⟨0, rfl, ⟨Nat.zero_le _⟩, ⟨by omega⟩, HONE, HF⟩
    case round =>
      clear HONE HF
      obtain ⟨i, rfl, hi, hk, heq, HF⟩ := hrel
      have hll := Kd.C_max HF.out.cl
      by_cases hlt : i < l.length
      · have cb0 : decide ((i : Int) < (l.length : Int)) = true := by simp; exact hlt
        have cb1 : decide (i < l.length) = true := decide_eq_true hlt
        have heq' := heq.out
        rw [List.drop_eq_getElem_cons hlt, fdOne_cons] at heq'
        have hxe : rdOf ByteArray.empty l (i : Int) = l[i] := by
          unfold rdOf
          simp [hlt]
        generalize l[i] = x at heq' hxe
        obtain ⟨wl, hwl, hz_⟩ := Option.bind_eq_some_iff.mp heq'
        clear heq'; have heq' := hz_; clear hz_
        obtain ⟨u, hu, hz_⟩ := Option.bind_eq_some_iff.mp heq'
        clear heq'; have heq' := hz_; clear hz_
        obtain ⟨ag, hag, hz_⟩ := Option.bind_eq_some_iff.mp heq'
        clear heq'; have heq' := hz_; clear hz_
        obtain ⟨sl, hsl, hz_⟩ := Option.bind_eq_some_iff.mp heq'
        clear heq'; have heq' := hz_; clear hz_
        obtain ⟨rp, hrp, hz_⟩ := Option.bind_eq_some_iff.mp heq'
        clear heq'; have heq' := hz_; clear hz_
        obtain ⟨wi, hwi, hz_⟩ := Option.bind_eq_some_iff.mp heq'
        clear heq'; have heq' := hz_; clear hz_
        obtain ⟨hw, hhw, hz_⟩ := Option.bind_eq_some_iff.mp heq'
        clear heq'; have heq' := hz_; clear hz_
        by_cases hc : u = true ∧ ag = true ∧ wl.length = sl.length ∧ rp = 0 ∧ wi = true ∧ hw = false
        · rw [if_pos hc] at heq'
          have HE := Aside0.mk heq'
          clear heq heq'
          obtain ⟨rfl, rfl, hsz, rfl, rfl, rfl⟩ := hc
          have HXE := Aside0.mk hxe
          have HLT := Aside0.mk hlt
          have KW := Aside0.mk (fun W => impl_WordsIn.calls k r c s x wl W hwl)
          have KI := Aside0.mk (fun W => impl_IsFull.calls k r c s x true W hu)
          have KA := Aside0.mk (fun W => laws_agrees.calls k x f true W hag)
          have KS := Aside0.mk (fun W => impl_SlotsOf.calls k r c s sl W hsl)
          have KR := Aside0.mk (fun A cc W hC hc => impl_RepeatsIn.calls k A cc wl 0 W hC hc hrp)
          have KN := Aside0.mk (fun A cc A2 c2 W hC hc hC2 hc2 => laws_within.calls k A cc wl A2 c2 ws true W hC hc hC2 hc2 hwi)
          have KH := Aside0.mk (fd_take (A := AL) hi.out HCL.out hhw)
          obtain ⟨ad, eA, _⟩ := Kd.at_string HF.out.cl (i : Int) (by omega) (by omega)
          cases eA
          have p1 : (0 ≤ (i : Int)) = True := eq_true (by omega)
          have q1 : ((i : Int) < (l.length : Int)) = True := eq_true (by omega)
          have q2 : ((i : Int) ≤ (cL : Int)) = True := eq_true (by have := HCL.out; omega)
          have y1 : ((wl.length : Int) != (sl.length : Int)) = false := by rw [hsz]; simp
          have y2 : (wl.length != sl.length) = false := by rw [hsz]; simp
          clear hxe hu hag hsl hrp hwi hhw hwl hsz
          go_upto_region 8 with fail
          go_cut [9] (fun v9 w' => ∃ (Ax : Option Addr) (cx : Nat), v9 = .slice Ax wl.length cx ∧ Aside0 (wl.length ≤ cx) ∧ Aside0 (Kd.C Kd.string w' Ax wl.length wl) ∧ Aside0 (FdW w B r c s AW ws (some ad) l w'))
          case first => as_aux_lemma =>
            have HFd := Aside0.mk HF.out.drew
            clear HF
            have HALL := (⟨fd_g HFd.out.bk, fd_l HFd.out.cl HLT.out HXE.out, HFd⟩ : _ ∧ _ ∧ _)
            go_region_held3 (fun w' => (w'.cell? ⟨B, 0, none⟩ = some (.int .i64 r) ∧ w'.cell? ⟨B, 1, none⟩ = some (.int .i64 c) ∧ w'.cell? ⟨B, 2, none⟩ = some (.string s)) ∧ w'.cell? (ad.add i) = some (.string x) ∧ Aside0 (FdW w B r c s AW ws (some ad) l w')) (first | assumption | (go_split_ands; exact ⟨fd_g (‹Aside0 (FdW _ _ _ _ _ _ _ _ _ _)›.out.below hb9).bk, fd_l (‹Aside0 (FdW _ _ _ _ _ _ _ _ _ _)›.out.below hb9).cl HLT.out HXE.out, ⟨‹Aside0 (FdW _ _ _ _ _ _ _ _ _ _)›.out.below hb9⟩⟩) | exact HALL) (first | (go_at_call 23; with_reducible refine (KW.out _).mono ?_; rintro e wa ⟨v_, rfl, hr_, hb9⟩; obtain ⟨A_, c_, rfl⟩ := Kd.R_slice hr_; have HCN := Aside0.mk (Kd.R_reads' hr_).2.1; have HXN := Aside0.mk (Kd.R_reads' hr_).2.2; clear hr_))
            all_goals (go_wp2_with fail; go_meet; (case rel => (go_split_ands; exact ⟨_, _, rfl, HCN, HXN, ‹Aside0 (FdW _ _ _ _ _ _ _ _ _ _)›⟩)))
          case rest => as_aux_lemma =>
            obtain ⟨Ax, cx, rfl, HCX, HX, HF2⟩ := hcut
            clear HF KW
            have HF := HF2
            clear HF2
            go_upto_region 9 with fail
            go_cut [86] (fun v86 w' => v86 = .bool false ∧ Aside0 (FdW w B r c s AW ws (some ad) l w'))
            case first => as_aux_lemma =>
              have HFd := Aside0.mk HF.out.drew
              have HXd := Aside0.mk (Kd.C_below HX.out (below_drew (Below.refl _ _)))
              clear HF HX
              have HALL := (⟨fd_g HFd.out.bk, fd_l HFd.out.cl HLT.out HXE.out, HXd, HFd⟩ : _ ∧ _ ∧ _ ∧ _)
              go_region_held3 (fun w' => (w'.cell? ⟨B, 0, none⟩ = some (.int .i64 r) ∧ w'.cell? ⟨B, 1, none⟩ = some (.int .i64 c) ∧ w'.cell? ⟨B, 2, none⟩ = some (.string s)) ∧ w'.cell? (ad.add i) = some (.string x) ∧ Aside0 (Kd.C Kd.string w' Ax wl.length wl) ∧ Aside0 (FdW w B r c s AW ws (some ad) l w')) (first | assumption | (go_split_ands; exact ⟨fd_g (‹Aside0 (FdW _ _ _ _ _ _ _ _ _ _)›.out.below hb9).bk, fd_l (‹Aside0 (FdW _ _ _ _ _ _ _ _ _ _)›.out.below hb9).cl HLT.out HXE.out, ⟨Kd.C_below ‹Aside0 (Kd.C _ _ Ax wl.length wl)›.out hb9⟩, ⟨‹Aside0 (FdW _ _ _ _ _ _ _ _ _ _)›.out.below hb9⟩⟩) | exact HALL) (first | (go_at_call 24; with_reducible refine (KI.out _).mono ?_; rintro e wa ⟨rfl, hb9⟩) | (go_at_call 25; with_reducible refine (KA.out _).mono ?_; rintro e wa ⟨rfl, hd9⟩; have hb9 := fd_d0 hd9; clear hd9) | (go_at_call 26; with_reducible refine (KS.out _).mono ?_; rintro e wa ⟨v_, rfl, hr_, hb9⟩; obtain ⟨A_, c_, rfl⟩ := Kd.R_slice hr_; clear hr_) | (go_split_ands; go_at_call 27; with_reducible refine (KR.out _ _ _ ‹Aside0 (Kd.C _ _ Ax wl.length wl)›.out HCX.out).mono ?_; rintro e wa ⟨rfl, hb9⟩) | (go_split_ands; go_at_call 28; with_reducible refine (KN.out _ _ _ _ _ ‹Aside0 (Kd.C _ _ Ax wl.length wl)›.out HCX.out ‹Aside0 (FdW _ _ _ _ _ _ _ _ _ _)›.out.cw HCW.out).mono ?_; rintro e wa ⟨rfl, hd9⟩; have hb9 := fd_d0 hd9; clear hd9) | (go_split_ands; go_at_call 29; with_reducible refine (KH.out _ ‹Aside0 (FdW _ _ _ _ _ _ _ _ _ _)›.out.cl).mono ?_; rintro e wa ⟨rfl, hd9⟩; have hb9 := fd_d0 hd9; clear hd9))
              all_goals (go_wp2_with fail; go_meet; (case rel => (go_split_ands; exact ⟨by simp, ‹Aside0 (FdW _ _ _ _ _ _ _ _ _ _)›⟩)))
            case rest => as_aux_lemma =>
              obtain ⟨rfl, HF2⟩ := hcut
              go_wp2
              go_roundg (l.length - (i + 1))
              case measure => have := hk.out; have := HLT.out; omega
              case rel => exact ⟨i + 1, by simp, ⟨by have := HLT.out; omega⟩, ⟨Nat.le_refl _⟩, HE, HF2⟩
        · rw [if_neg hc] at heq'
          cases heq'
      · have cb0 : decide ((i : Int) < (l.length : Int)) = false := by simp; omega
        have cb1 : decide (i < l.length) = false := decide_eq_false hlt
        clear heq hi hk hlt
        have h := HH.out
        clear HH
        by_cases hm : 1 ≤ most ∧ most ≤ 30
        · rw [if_pos hm] at h
          have y1 : decide (most < 1) = false := decide_eq_false (by omega)
          have y2 : decide (most > 30) = false := decide_eq_false (by omega)
          have y3 : decide (30 < most) = false := decide_eq_false (by omega)
          clear hm
          unfold fdMid at h
          obtain ⟨d1, hd1, hz_⟩ := Option.bind_eq_some_iff.mp h
          clear h; have h := hz_; clear hz_
          obtain ⟨d2, hd2, hz_⟩ := Option.bind_eq_some_iff.mp h
          clear h; have h := hz_; clear hz_
          obtain ⟨p, hp, hz_⟩ := Option.bind_eq_some_iff.mp h
          clear h; have h := hz_; clear hz_
          obtain ⟨b2, hout, hz_⟩ := Option.bind_eq_some_iff.mp h
          clear h; have h := hz_; clear hz_
          by_cases hc : d1.length = d2.length
          · rw [if_pos hc] at h
            have HH := Aside0.mk h
            clear h
            have KM := Aside0.mk (fun A cc W hC hc => impl_DomainsOf.calls k r c s f A cc ws d1 W hC hc hd1)
            have KM2 := Aside0.mk (fun A cc W hC hc => spec_DomainsOf.calls k r c s f A cc ws d2 W hC hc hd2)
            have KP := Aside0.mk (fun A cc W hC hc => impl_Prune.calls k r c s A cc d1 p W hC hc hp)
            have HOUT := Aside0.mk (show fdOut k r c s p (l.drop 0) = some b2 from hout)
            have z1 : ((d1.length : Int) != (d2.length : Int)) = false := by rw [hc]; simp
            have z2 : (d1.length != d2.length) = false := by rw [hc]; simp
            clear hd1 hd2 hp hout hc
            go_upto_region 13 with fail
            go_cut [106] (fun v106 w' => v106 = .bool false ∧ Aside0 (FdW w B r c s AW ws AL l w'))
            case first => as_aux_lemma =>
              have HFd := Aside0.mk HF.out.drew
              clear HF
              have HALL := (⟨fd_g HFd.out.bk, HFd⟩ : _ ∧ _)
              go_region_held3 (fun w' => (w'.cell? ⟨B, 0, none⟩ = some (.int .i64 r) ∧ w'.cell? ⟨B, 1, none⟩ = some (.int .i64 c) ∧ w'.cell? ⟨B, 2, none⟩ = some (.string s)) ∧ Aside0 (FdW w B r c s AW ws AL l w')) (first | assumption | (go_split_ands; exact ⟨fd_g (‹Aside0 (FdW _ _ _ _ _ _ _ _ _ _)›.out.below hb9).bk, ⟨‹Aside0 (FdW _ _ _ _ _ _ _ _ _ _)›.out.below hb9⟩⟩) | exact HALL) (first | (go_split_ands; go_at_call 30; with_reducible refine (KM.out _ _ _ ‹Aside0 (FdW _ _ _ _ _ _ _ _ _ _)›.out.cw HCW.out).mono ?_; rintro e wa ⟨v_, rfl, hr_, hb9⟩; obtain ⟨A_, c_, rfl⟩ := Kd.S_slice hr_; clear hr_) | (go_split_ands; go_at_call 31; with_reducible refine (KM2.out _ _ _ ‹Aside0 (FdW _ _ _ _ _ _ _ _ _ _)›.out.cw HCW.out).mono ?_; rintro e wa ⟨v_, rfl, hr_, hb9⟩; obtain ⟨A_, c_, rfl⟩ := Kd.S_slice hr_; clear hr_))
              all_goals (go_wp2_with fail; go_meet; (case rel => (go_split_ands; exact ⟨by simp, ‹Aside0 (FdW _ _ _ _ _ _ _ _ _ _)›⟩)))
            case rest => as_aux_lemma =>
              obtain ⟨rfl, HF2⟩ := hcut
              clear HF
              have HF := HF2
              clear HF2
              go_upto_region 15 with fail
              go_cut [10] (fun v10 w' => ∃ (AP : Option Addr) (cP : Nat), v10 = .slice AP p.length cP ∧ Aside0 (Kd.C (Kd.slice 9 Kd.string) w' AP p.length p) ∧ Aside0 (FdW w B r c s AW ws AL l w'))
              case first => as_aux_lemma =>
                have HFd := Aside0.mk HF.out.drew
                clear HF
                have HALL := (⟨fd_g HFd.out.bk, HFd⟩ : _ ∧ _)
                go_region_held3 (fun w' => (w'.cell? ⟨B, 0, none⟩ = some (.int .i64 r) ∧ w'.cell? ⟨B, 1, none⟩ = some (.int .i64 c) ∧ w'.cell? ⟨B, 2, none⟩ = some (.string s)) ∧ Aside0 (FdW w B r c s AW ws AL l w')) (first | assumption | (go_split_ands; exact ⟨fd_g (‹Aside0 (FdW _ _ _ _ _ _ _ _ _ _)›.out.below hb9).bk, ⟨‹Aside0 (FdW _ _ _ _ _ _ _ _ _ _)›.out.below hb9⟩⟩) | exact HALL) (first | (go_split_ands; go_at_call 30; with_reducible refine (KM.out _ _ _ ‹Aside0 (FdW _ _ _ _ _ _ _ _ _ _)›.out.cw HCW.out).mono ?_; rintro e wa ⟨v_, rfl, hr_, hb9⟩; obtain ⟨A_, c_, rfl⟩ := Kd.S_slice hr_; have HDC := Aside0.mk (Kd.S_reads' hr_).2.2; have HDL := Aside0.mk (Kd.S_reads' hr_).2.1; clear hr_) | (go_at_call 32; with_reducible refine (KP.out _ _ _ HDC.out HDL.out).mono ?_; rintro e wa ⟨v_, rfl, hr_, hb9⟩; obtain ⟨A_, c_, rfl⟩ := Kd.S_slice hr_; have HPN := Aside0.mk (Kd.S_reads' hr_).2.2; clear hr_))
                all_goals (go_wp2_with fail; go_meet; (case rel => (go_split_ands; exact ⟨_, _, rfl, HPN, ‹Aside0 (FdW _ _ _ _ _ _ _ _ _ _)›⟩)))
              case rest => as_aux_lemma =>
                obtain ⟨AP, cP, rfl, HPP, HF2⟩ := hcut
                clear HF KM KM2 KP
                have HF := HF2
                clear HF2
                go_wp2
                go_loopg [11] l.length (fun kq v11 w' => ∃ (i : Nat), v11 = .int .i64 (i : Int) ∧ Aside0 (i ≤ l.length) ∧ Aside0 (l.length - i ≤ kq) ∧ Aside0 (fdOut k r c s p (l.drop i) = some b2) ∧ Aside0 (Kd.C (Kd.slice 9 Kd.string) w' AP p.length p) ∧ Aside0 (FdW w B r c s AW ws AL l w'))
                case atStart => exact ⟨0, rfl, ⟨Nat.zero_le _⟩, ⟨by omega⟩, HOUT, HPP, HF⟩
                case round =>
                  clear HOUT HPP HF
                  obtain ⟨i, rfl, hi, hk, heq, HPP, HF⟩ := hrel
                  have hll := Kd.C_max HF.out.cl
                  by_cases hlt : i < l.length
                  · have cb0 : decide ((i : Int) < (l.length : Int)) = true := by simp; exact hlt
                    have cb1 : decide (i < l.length) = true := decide_eq_true hlt
                    have heq' := heq.out
                    rw [List.drop_eq_getElem_cons hlt, fdOut_cons] at heq'
                    have hxe : rdOf ByteArray.empty l (i : Int) = l[i] := by
                      unfold rdOf
                      simp [hlt]
                    generalize l[i] = x at heq' hxe
                    obtain ⟨wl, hwl, hz_⟩ := Option.bind_eq_some_iff.mp heq'
                    clear heq'; have heq' := hz_; clear hz_
                    obtain ⟨b3, hin, hz_⟩ := Option.bind_eq_some_iff.mp heq'
                    clear heq'; have heq' := hz_; clear hz_
                    have HE := Aside0.mk heq'
                    have HIN := Aside0.mk (show fdIn k p (wl.drop 0) 0 = some b3 from hin)
                    have HXE := Aside0.mk hxe
                    have HLT := Aside0.mk hlt
                    have KW := Aside0.mk (fun W => impl_WordsIn.calls k r c s x wl W hwl)
                    obtain ⟨ad, eA, _⟩ := Kd.at_string HF.out.cl (i : Int) (by omega) (by omega)
                    cases eA
                    have p1 : (0 ≤ (i : Int)) = True := eq_true (by omega)
                    have q1 : ((i : Int) < (l.length : Int)) = True := eq_true (by omega)
                    clear heq heq' hxe hwl hin
                    go_upto_region 19 with fail
                    go_cut [12] (fun v12 w' => ∃ (Ax : Option Addr) (cx : Nat), v12 = .slice Ax wl.length cx ∧ Aside0 (Kd.C Kd.string w' Ax wl.length wl) ∧ Aside0 (Kd.C (Kd.slice 9 Kd.string) w' AP p.length p) ∧ Aside0 (FdW w B r c s AW ws (some ad) l w'))
                    case first => as_aux_lemma =>
                      have HFd := Aside0.mk HF.out.drew
                      have HPd := Aside0.mk (Kd.C_below HPP.out (below_drew (Below.refl _ _)))
                      clear HF HPP
                      have HALL := (⟨fd_g HFd.out.bk, fd_l HFd.out.cl HLT.out HXE.out, HPd, HFd⟩ : _ ∧ _ ∧ _ ∧ _)
                      go_region_held3 (fun w' => (w'.cell? ⟨B, 0, none⟩ = some (.int .i64 r) ∧ w'.cell? ⟨B, 1, none⟩ = some (.int .i64 c) ∧ w'.cell? ⟨B, 2, none⟩ = some (.string s)) ∧ w'.cell? (ad.add i) = some (.string x) ∧ Aside0 (Kd.C (Kd.slice 9 Kd.string) w' AP p.length p) ∧ Aside0 (FdW w B r c s AW ws (some ad) l w')) (first | assumption | (go_split_ands; exact ⟨fd_g (‹Aside0 (FdW _ _ _ _ _ _ _ _ _ _)›.out.below hb9).bk, fd_l (‹Aside0 (FdW _ _ _ _ _ _ _ _ _ _)›.out.below hb9).cl HLT.out HXE.out, ⟨Kd.C_below ‹Aside0 (Kd.C _ _ AP p.length p)›.out hb9⟩, ⟨‹Aside0 (FdW _ _ _ _ _ _ _ _ _ _)›.out.below hb9⟩⟩) | exact HALL) (first | (go_at_call 23; with_reducible refine (KW.out _).mono ?_; rintro e wa ⟨v_, rfl, hr_, hb9⟩; obtain ⟨A_, c_, rfl⟩ := Kd.R_slice hr_; have HXN := Aside0.mk (Kd.R_reads' hr_).2.2; clear hr_))
                      all_goals (go_wp2_with fail; go_meet; (case rel => (go_split_ands; exact ⟨_, _, rfl, HXN, ‹Aside0 (Kd.C _ _ AP p.length p)›, ‹Aside0 (FdW _ _ _ _ _ _ _ _ _ _)›⟩)))
                    case rest => as_aux_lemma =>
                      obtain ⟨Ax, cx, rfl, HX, HPP2, HF2⟩ := hcut
                      clear HF KW HPP
                      have HF := HF2
                      have HPP := HPP2
                      clear HF2 HPP2
                      go_wp2
                      go_loopg [13] wl.length (fun kq v13 w' => ∃ (j : Nat), v13 = .int .i64 (j : Int) ∧ Aside0 (j ≤ wl.length) ∧ Aside0 (wl.length - j ≤ kq) ∧ Aside0 (fdIn k p (wl.drop j) j = some b3) ∧ Aside0 (Kd.C Kd.string w' Ax wl.length wl) ∧ Aside0 (Kd.C (Kd.slice 9 Kd.string) w' AP p.length p) ∧ Aside0 (FdW w B r c s AW ws (some ad) l w'))
                      case atStart => exact ⟨0, rfl, ⟨Nat.zero_le _⟩, ⟨by omega⟩, HIN, HX, HPP, HF⟩
                      case round =>
                        clear HIN HX HPP HF
                        obtain ⟨j, rfl, hj, hkj, heqj, HX, HPP, HF⟩ := hrel
                        have hlx := Kd.C_max HX.out
                        by_cases hltj : j < wl.length
                        · have cc0 : decide ((j : Int) < (wl.length : Int)) = true := by simp; exact hltj
                          have cc1 : decide (j < wl.length) = true := decide_eq_true hltj
                          have hq := heqj.out
                          rw [List.drop_eq_getElem_cons hltj, fdIn_cons] at hq
                          have hye : rdOf ByteArray.empty wl (j : Int) = wl[j] := by
                            unfold rdOf
                            simp [hltj]
                          generalize wl[j] = y at hq hye
                          by_cases hjp : j < p.length
                          · rw [if_pos hjp] at hq
                            obtain ⟨b4, hh4, hq2⟩ := Option.bind_eq_some_iff.mp hq
                            by_cases hb4 : b4 = true
                            · rw [if_pos hb4] at hq2
                              subst hb4
                              have HEJ := Aside0.mk hq2
                              have HYE := Aside0.mk hye
                              have HLJ := Aside0.mk hltj
                              have HJP := Aside0.mk hjp
                              obtain ⟨adx, eX, _⟩ := Kd.at_string HX.out (j : Int) (by omega) (by omega)
                              cases eX
                              obtain ⟨adp, A5, c5, eP, _, hc5, _⟩ := sup_at_row HPP.out (j : Int) (by omega) (by omega)
                              cases eP
                              obtain ⟨adp, A5, c5, eP, hcell, hc5, hrow⟩ := sup_at_row (Kd.C_below HPP.out (below_drew (Below.refl _ _))) (j : Int) (by omega) (by omega)
                              cases eP
                              rw [Int.toNat_natCast] at hcell hc5 hrow
                              generalize p.getD j [] = q at hcell hc5 hrow hh4
                              have y9 : wrap64 ((j : Int) + 1) = (j : Int) + 1 := by unfold wrap64; omega
                              have KH := Aside0.mk (fun W hC => impl_HasWord.calls k A5 c5 q y true W hC hc5 hh4)
                              have HCELL := Aside0.mk hcell
                              have HROW := Aside0.mk hrow
                              have r1 : (0 ≤ (j : Int)) = True := eq_true (by omega)
                              have r2 : ((j : Int) < (wl.length : Int)) = True := eq_true (by omega)
                              have r3 : ((j : Int) < (p.length : Int)) = True := eq_true (by omega)
                              clear hq hq2 hye hltj hjp hh4 heqj hrow hcell hc5
                              go_upto_region 23 with fail
                              go_cut [140] (fun v140 w' => v140 = .bool false ∧ Aside0 (Kd.C Kd.string w' (some adx) wl.length wl) ∧ Aside0 (Kd.C (Kd.slice 9 Kd.string) w' (some adp) p.length p) ∧ Aside0 (FdW w B r c s AW ws (some ad) l w'))
                              case first => as_aux_lemma =>
                                have HFd := Aside0.mk HF.out.drew
                                have HXd := Aside0.mk (Kd.C_below HX.out (below_drew (Below.refl _ _)))
                                have HPd := Aside0.mk (Kd.C_below HPP.out (below_drew (Below.refl _ _)))
                                clear HF HX HPP
                                have HALL := (⟨HCELL.out, fd_l HXd.out HLJ.out HYE.out, HROW, HXd, HPd, HFd⟩ : _ ∧ _ ∧ _ ∧ _ ∧ _ ∧ _)
                                go_region_held3 (fun w' => w'.cell? (adp.add j) = some (.slice A5 q.length c5) ∧ w'.cell? (adx.add j) = some (.string y) ∧ Aside0 (Kd.C Kd.string w' A5 q.length q) ∧ Aside0 (Kd.C Kd.string w' (some adx) wl.length wl) ∧ Aside0 (Kd.C (Kd.slice 9 Kd.string) w' (some adp) p.length p) ∧ Aside0 (FdW w B r c s AW ws (some ad) l w')) (first | assumption | (go_split_ands; exact ⟨pw_cell_below hb9 (by assumption), fd_l (Kd.C_below ‹Aside0 (Kd.C _ _ (some adx) wl.length wl)›.out hb9) HLJ.out HYE.out, ⟨Kd.C_below ‹Aside0 (Kd.C _ _ A5 q.length q)›.out hb9⟩, ⟨Kd.C_below ‹Aside0 (Kd.C _ _ (some adx) wl.length wl)›.out hb9⟩, ⟨Kd.C_below ‹Aside0 (Kd.C _ _ (some adp) p.length p)›.out hb9⟩, ⟨‹Aside0 (FdW _ _ _ _ _ _ _ _ _ _)›.out.below hb9⟩⟩) | exact HALL) (first | (go_split_ands; go_at_call 29; with_reducible refine (KH.out _ ‹Aside0 (Kd.C _ _ A5 q.length q)›.out).mono ?_; rintro e wa ⟨rfl, hd9⟩; have hb9 := fd_d0 hd9; clear hd9))
                                all_goals (go_wp2_with fail; go_meet; (case rel => (go_split_ands; exact ⟨by simp, ‹Aside0 (Kd.C _ _ (some adx) wl.length wl)›, ‹Aside0 (Kd.C _ _ (some adp) p.length p)›, ‹Aside0 (FdW _ _ _ _ _ _ _ _ _ _)›⟩)))
                              case rest => as_aux_lemma =>
                                obtain ⟨rfl, HX3, HP3, HF3⟩ := hcut
                                go_wp2
                                go_roundg (wl.length - (j + 1))
                                case measure => have := hkj.out; have := HLJ.out; omega
                                case rel => exact ⟨j + 1, by first | (simp; done) | simp [y9], ⟨by have := HLJ.out; omega⟩, ⟨Nat.le_refl _⟩, HEJ, HX3, HP3, HF3⟩
                            · rw [if_neg hb4] at hq2
                              cases hq2
                          · rw [if_neg hjp] at hq
                            cases hq
                        · have cc0 : decide ((j : Int) < (wl.length : Int)) = false := by simp; omega
                          have cc1 : decide (j < wl.length) = false := decide_eq_false hltj
                          clear heqj hj hkj hltj
                          go_wp2
                          go_roundg (l.length - (i + 1))
                          case measure => have := hk.out; have := HLT.out; omega
                          case rel => exact ⟨i + 1, by simp, ⟨by have := HLT.out; omega⟩, ⟨Nat.le_refl _⟩, HE, HPP, HF⟩
                  · have cb0 : decide ((i : Int) < (l.length : Int)) = false := by simp; omega
                    have cb1 : decide (i < l.length) = false := decide_eq_false hlt
                    clear heq hi hk hlt
                    have h := HH.out
                    clear HH HPP
                    unfold fdEnd at h
                    obtain ⟨⟨f2, ok⟩, hfg, hz_⟩ := Option.bind_eq_some_iff.mp h
                    clear h; have h := hz_; clear hz_
                    obtain ⟨u, hu, hz_⟩ := Option.bind_eq_some_iff.mp h
                    clear h; have h := hz_; clear hz_
                    obtain ⟨l2, hl2, hz_⟩ := Option.bind_eq_some_iff.mp h
                    clear h; have h := hz_; clear hz_
                    by_cases hc : ok = decide (0 < l.length) ∧ (ok = true → f2 = rdOf ByteArray.empty l 0) ∧ (l.length : Int) ≤ most ∧ u = ((l2.length : Int) == 1)
                    · rw [if_pos hc] at h
                      obtain rfl := Option.some.inj h
                      clear h
                      obtain ⟨e1, e2, e3, e4⟩ := hc
                      have KG := Aside0.mk (fun A cc W hC hc => impl_FillGrid.calls k r c s f A cc ws f2 ok W hC hc hfg)
                      have KU := Aside0.mk (fun A cc W hC hc => impl_IsUniqueFill.calls k r c s f A cc ws u W hC hc hu)
                      have KL2 := Aside0.mk (fun A cc W hC hc => impl_FillsOf.calls k r c s f A cc ws 2 l2 W hC hc hl2)
                      have y4 : decide ((l.length : Int) > most) = false := decide_eq_false (by omega)
                      have y5 : decide (most < (l.length : Int)) = false := decide_eq_false (by omega)
                      have y6 : (u == ((l2.length : Int) == 1)) = true := by rw [e4]; simp
                      clear hfg hu hl2 e3
                      have c0 := (blk_cell HF.out.bk 0).trans rfl
                      have c1 := (blk_cell HF.out.bk 1).trans rfl
                      have c2 := (blk_cell HF.out.bk 2).trans rfl
                      go_wp2_with fail
                      go_at_call 16
                      refine (KG.out _ _ _ HF.out.cw HCW.out).mono ?_
                      rintro e wa ⟨rfl, hb9⟩
                      have HG := Aside0.mk (HF.out.below hb9)
                      clear HF c0 c1 c2 hb9
                      have HF := HG
                      clear HG
                      have c0 := (blk_cell HF.out.bk 0).trans rfl
                      have c1 := (blk_cell HF.out.bk 1).trans rfl
                      have c2 := (blk_cell HF.out.bk 2).trans rfl
                      go_upto_region 26 with fail
                      cases ok with
                      | true =>
                        have hpos : 0 < l.length := of_decide_eq_true e1.symm
                        have z1 : decide ((l.length : Int) > 0) = true := decide_eq_true (by omega)
                        have z2 : decide (0 < (l.length : Int)) = true := decide_eq_true (by omega)
                        have z3 : decide (0 < l.length) = true := decide_eq_true hpos
                        obtain rfl := e2 rfl
                        clear e1 e2 e4
                        obtain ⟨ad, eA, hx0⟩ := Kd.at_string HF.out.cl 0 (by omega) (by omega)
                        cases eA
                        have hx1 : wa.cell? ad = some (.string (rdOf ByteArray.empty l 0)) := hx0
                        have hx2 : wa.cell? (ad.add 0) = some (.string (rdOf ByteArray.empty l 0)) := hx0
                        have r1 : ((0 : Int) < (l.length : Int)) = True := eq_true (by omega)
                        have r2 : (0 < l.length) = True := eq_true hpos
                        go_upto_region 28 with fail
                        clear hx0 hx1 hx2
                        clear c0 c1 c2
                        have HFd := Aside0.mk HF.out.drew
                        clear HF
                        have HALL := (⟨fd_g HFd.out.bk, HFd⟩ : _ ∧ _)
                        go_region_held3 (fun w' => (w'.cell? ⟨B, 0, none⟩ = some (.int .i64 r) ∧ w'.cell? ⟨B, 1, none⟩ = some (.int .i64 c) ∧ w'.cell? ⟨B, 2, none⟩ = some (.string s)) ∧ Aside0 (FdW w B r c s AW ws (some ad) l w')) (first | assumption | (go_split_ands; exact ⟨fd_g (‹Aside0 (FdW _ _ _ _ _ _ _ _ _ _)›.out.below hb9).bk, ⟨‹Aside0 (FdW _ _ _ _ _ _ _ _ _ _)›.out.below hb9⟩⟩) | exact HALL) (first | (go_split_ands; go_at_call 13; with_reducible refine (KU.out _ _ _ ‹Aside0 (FdW _ _ _ _ _ _ _ _ _ _)›.out.cw HCW.out).mono ?_; rintro e wa ⟨rfl, hb9⟩) | (go_split_ands; go_at_call 18; with_reducible refine (KL2.out _ _ _ ‹Aside0 (FdW _ _ _ _ _ _ _ _ _ _)›.out.cw HCW.out).mono ?_; rintro e wa ⟨v_, rfl, hr_, hb9⟩; obtain ⟨A_, c_, rfl⟩ := Kd.R_slice hr_; clear hr_))
                        all_goals (go_wp2_with fail; go_ret; go_split_ands; exact ⟨by simp, ‹Aside0 (FdW _ _ _ _ _ _ _ _ _ _)›.out.bl⟩)
                      | false =>
                        have hpos : ¬ 0 < l.length := of_decide_eq_false e1.symm
                        have z1 : decide ((l.length : Int) > 0) = false := decide_eq_false (by omega)
                        have z2 : decide (0 < (l.length : Int)) = false := decide_eq_false (by omega)
                        have z3 : decide (0 < l.length) = false := decide_eq_false hpos
                        clear e1 e2 e4
                        go_upto_region 28 with fail
                        clear c0 c1 c2
                        have HFd := Aside0.mk HF.out.drew
                        clear HF
                        have HALL := (⟨fd_g HFd.out.bk, HFd⟩ : _ ∧ _)
                        go_region_held3 (fun w' => (w'.cell? ⟨B, 0, none⟩ = some (.int .i64 r) ∧ w'.cell? ⟨B, 1, none⟩ = some (.int .i64 c) ∧ w'.cell? ⟨B, 2, none⟩ = some (.string s)) ∧ Aside0 (FdW w B r c s AW ws AL l w')) (first | assumption | (go_split_ands; exact ⟨fd_g (‹Aside0 (FdW _ _ _ _ _ _ _ _ _ _)›.out.below hb9).bk, ⟨‹Aside0 (FdW _ _ _ _ _ _ _ _ _ _)›.out.below hb9⟩⟩) | exact HALL) (first | (go_split_ands; go_at_call 13; with_reducible refine (KU.out _ _ _ ‹Aside0 (FdW _ _ _ _ _ _ _ _ _ _)›.out.cw HCW.out).mono ?_; rintro e wa ⟨rfl, hb9⟩) | (go_split_ands; go_at_call 18; with_reducible refine (KL2.out _ _ _ ‹Aside0 (FdW _ _ _ _ _ _ _ _ _ _)›.out.cw HCW.out).mono ?_; rintro e wa ⟨v_, rfl, hr_, hb9⟩; obtain ⟨A_, c_, rfl⟩ := Kd.R_slice hr_; clear hr_))
                        all_goals (go_wp2_with fail; go_ret; go_split_ands; exact ⟨by simp, ‹Aside0 (FdW _ _ _ _ _ _ _ _ _ _)›.out.bl⟩)
                    · rw [if_neg hc] at h
                      cases h
          · rw [if_neg hc] at h
            cases h
        · rw [if_neg hm] at h
          by_cases hz : l.length = 0
          · rw [if_pos hz] at h
            obtain rfl := Option.some.inj h
            clear h
            have y5 : ((l.length : Int) == 0) = true := beq_iff_eq.mpr (by omega)
            have y6 : (l.length == 0) = true := beq_iff_eq.mpr hz
            by_cases hm1 : most < 1
            · have y1 : decide (most < 1) = true := decide_eq_true hm1
              clear hm hm1
              go_wp2
              go_ret
              exact ⟨by simp [hz], HF.out.bl⟩
            · have y1 : decide (most < 1) = false := decide_eq_false hm1
              have y2 : decide (most > 30) = true := decide_eq_true (by omega)
              have y3 : decide (30 < most) = true := decide_eq_true (by omega)
              clear hm hm1
              go_wp2
              go_ret
              exact ⟨by simp [hz], HF.out.bl⟩
          · rw [if_neg hz] at h
            cases h
/-- THE ONE PURE STATEMENT of laws_FnFilled. -/
def laws_FnFilled.Pure : Prop := ∀ (l0 : List Int), l0.length ≤ maxLen → l0.length * 1 ≤ 140737488351232 → (∀ x ∈ l0, (Lit.int .u8 x).wf = true) → ∃ k, laws_FnFilled.f k l0 = some true
theorem laws_FnFilled.walk (P : laws_FnFilled.Pure) (a0 : Option Addr) (len0 cap0 : Nat) (z0 : List Int) (w : World) (w0 : (a0 = none ∧ len0 = 0 ∧ cap0 = 0 ∧ z0 = []) ∨ ∃ x, a0 = some x ∧ len0 ≤ cap0 ∧ cap0 ≤ maxLen ∧ z0.length = cap0 ∧ (∀ i, i < z0.length → w.cell? (x.add i) = some (.int .u8 (z0.getD i 0))) ∧ ∀ n ∈ z0, (Lit.int .u8 n).wf = true) (y0 : len0 * 1 ≤ 140737488351232) :
    Calls Try.prog 6 #[.slice a0 len0 cap0] w fun e w' => e = .returned (.bool true) ∧ Below w.heap.size w w' := by
  obtain ⟨l0, rfl, hr0, hm0, hw0, hc0⟩ := ReadsInt.ofRowC w0
  obtain ⟨k, h⟩ := P l0 hm0 y0 hw0
  refine (laws_FnFilled.calls k _ _ l0 true w (Kd.C_of_reads (d := (0 : Int)) (h1 := fun _ => rfl) hr0) hc0 h).mono ?_
  rintro e w' ⟨rfl, hd⟩
  exact ⟨rfl, hd⟩


end Go.Proofs.Ytodcckiphdnjeaa.QFnFilled
