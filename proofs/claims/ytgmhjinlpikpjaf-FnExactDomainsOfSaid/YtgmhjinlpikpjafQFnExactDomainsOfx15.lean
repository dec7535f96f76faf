-- Written by a changed copy of the kit's printer (wip/mp.py of this repo), for this claim; Lean checks it.
import Derived.Test.YtgmhjinlpikpjafQFnExactDomainsOfx0
import Derived.Test.YtgmhjinlpikpjafQFnExactDomainsOfx2
import Derived.Test.YtgmhjinlpikpjafQFnExactDomainsOfx8
import Derived.Test.YtgmhjinlpikpjafQFnExactDomainsOfx9
import Derived.Test.YtgmhjinlpikpjafQFnExactDomainsOfx13
import Derived.Test.YtgmhjinlpikpjafQFnExactDomainsOfx14
namespace Go.Proofs.Ytgmhjinlpikpjaf.QFnExactDomainsOf
open Go.RowKit Go.Proofs.YtgmhjinlpikpjafW.PrintWords Go.Proofs.YtgmhjinlpikpjafW.PrintLast Go.Proofs.YtgmhjinlpikpjafW.PrintMore
attribute [local go_sem] max2_int min2_int max_two min_two max_three min_three max_four min_four   -- for this text's walks alone
set_option linter.unusedVariables false
set_option linter.unusedSimpArgs false

/-! ### laws_FnExactDomainsOf: function 4 (given) -/
def laws_FnExactDomainsOf.g (k : Nat) (a0_0 a0_1 : Int) (a0_2 a1 : ByteArray) (l2 : List ByteArray) : Option Bool := (laws_toGrid.f a0_0 a0_1 a0_2).bind fun g => (laws_toStringS.f k l2).bind fun x => (spec_DomainsOf.f k g.1 g.2.1 g.2.2 a1 x).bind fun t => (impl_DomainsOf.f k g.1 g.2.1 g.2.2 a1 x).bind fun u => (laws_eqStringSS.f k u t).bind fun b => (laws_eqStringS.f k x x).bind fun b2 => (laws_markStringS.f k x 1).bind fun n => (laws_markStringSS.f k u 1).bind fun m => (laws_heldStringSS.f k m.2 1).bind fun q => if b = true ∧ b2 = true ∧ 0 ≤ n.1 ∧ 0 ≤ q ∧ q = m.1 then some true else none
def laws_FnExactDomainsOf.f (k : Nat) (a0_0 a0_1 : Int) (a0_2 a1 : ByteArray) (l2 : List ByteArray) : Option Bool := if (a1.size : Int) > 1048576 then some true else (laws_szGrid.f a0_0 a0_1 a0_2 1048576).bind fun s1 => if s1 < 0 then some true else (laws_szStringS.f k l2 s1).bind fun s2 => if s2 < 0 then some true else laws_FnExactDomainsOf.g k a0_0 a0_1 a0_2 a1 l2
theorem dom_box_cell {w w1 : World} {cs : Array Value} {t : TypeId} (hb : Below (w.alloc (.cells cs t)).heap.size (w.alloc (.cells cs t)) w1) (j : Nat) (v : Value) (h : cs[j]? = some v) : w1.cell? ⟨w.heap.size, j, none⟩ = some v := by
  have h1 : (⟨w.heap.size, j, none⟩ : Addr).block < (w.alloc (.cells cs t)).heap.size := by simp [World.alloc, -World.alloc_eq]
  rw [hb.cell h1]
  simp [World.cell?, World.alloc, -World.alloc_eq, h]
set_option maxHeartbeats 1600000 in
set_option maxRecDepth 100000 in
theorem laws_FnExactDomainsOf.calls (k : Nat) (a0_0 a0_1 : Int) (a0_2 a1 : ByteArray) (A2 : Option Addr) (c2 : Nat) (l2 : List ByteArray) (r : Bool) (w : World) (hr2 : Kd.C Kd.string w A2 l2.length l2) (hc2 : l2.length ≤ c2) (h : laws_FnExactDomainsOf.f k a0_0 a0_1 a0_2 a1 l2 = some r) :
    Calls Try.prog 4 #[.agg #[.int .i64 a0_0, .int .i64 a0_1, .string a0_2], .string a1, .slice A2 l2.length c2] w fun e w' => e = .returned (.bool r) ∧ Below w.heap.size w w' := by
  unfold laws_FnExactDomainsOf.f at h
  have HP := Aside0.mk hr2
  have HPC := Aside0.mk hc2
  clear hr2 hc2
  by_cases hb : (a1.size : Int) > 1048576
  · rw [if_pos hb] at h
    injection h with h
    subst h
    have cb0 : decide ((1048576 : Int) < (a1.size : Int)) = true := decide_eq_true hb
    clear hb
    go_enter Try.func4, Try.ntmps4
    go_wp2
    go_ret
    exact ⟨rfl, by repeat (first | exact Below.refl _ _ | apply below_alloc | apply pw_below_drewN | apply below_drew1)⟩
  · rw [if_neg hb] at h
    have cb0 : decide ((1048576 : Int) < (a1.size : Int)) = false := decide_eq_false hb
    clear hb
    obtain ⟨s1, h1, h⟩ := Option.bind_eq_some_iff.mp h
    have kz := fun W => laws_szGrid.calls a0_0 a0_1 a0_2 1048576 s1 W h1
    clear h1
    by_cases hs1 : s1 < 0
    · rw [if_pos hs1] at h
      injection h with h
      subst h
      have cb1 : decide (s1 < 0) = true := decide_eq_true hs1
      clear hs1
      go_enter Try.func4, Try.ntmps4
      go_wp2_with fail
      go_at_call 7
      refine (kz _).mono ?_
      rintro e w1 ⟨rfl, hb1⟩
      have HB1 := Aside0.mk (below_step (w := w) (by repeat (first | exact Below.refl _ _ | apply below_alloc | apply pw_below_drewN | apply below_drew1)) hb1)
      clear hb1
      go_wp2_with fail
      go_ret
      exact ⟨rfl, HB1.out⟩
    · rw [if_neg hs1] at h
      have cb1 : decide (s1 < 0) = false := decide_eq_false hs1
      clear hs1
      obtain ⟨s2, h2, h⟩ := Option.bind_eq_some_iff.mp h
      have kz2 := fun A c W hr hc => laws_szStringS.calls k A c l2 s1 s2 W hr hc h2
      clear h2
      by_cases hs2 : s2 < 0
      · rw [if_pos hs2] at h
        injection h with h
        subst h
        have cb2 : decide (s2 < 0) = true := decide_eq_true hs2
        clear hs2
        go_enter Try.func4, Try.ntmps4
        go_wp2_with fail
        go_at_call 7
        refine (kz _).mono ?_
        rintro e w1 ⟨rfl, hb1⟩
        have HB1 := Aside0.mk (below_step (w := w) (by repeat (first | exact Below.refl _ _ | apply below_alloc | apply pw_below_drewN | apply below_drew1)) hb1)
        clear hb1
        go_wp2_with fail
        go_at_call 14
        refine (kz2 _ _ _ (Kd.C_below HP.out HB1.out) HPC.out).mono ?_
        rintro e w' ⟨rfl, nd, rfl⟩
        go_wp2_with fail
        go_ret
        exact ⟨rfl, pw_below_drewN HB1.out _⟩
      · rw [if_neg hs2] at h
        have cb2 : decide (s2 < 0) = false := decide_eq_false hs2
        clear hs2
        unfold laws_FnExactDomainsOf.g at h
        obtain ⟨g, hg, h⟩ := Option.bind_eq_some_iff.mp h
        obtain ⟨x, hx, h⟩ := Option.bind_eq_some_iff.mp h
        obtain ⟨t, ht, h⟩ := Option.bind_eq_some_iff.mp h
        obtain ⟨u, hu, h⟩ := Option.bind_eq_some_iff.mp h
        obtain ⟨b, he, h⟩ := Option.bind_eq_some_iff.mp h
        obtain ⟨b2, he2, h⟩ := Option.bind_eq_some_iff.mp h
        obtain ⟨n, hn, h⟩ := Option.bind_eq_some_iff.mp h
        obtain ⟨m, hm, h⟩ := Option.bind_eq_some_iff.mp h
        obtain ⟨q, hq, h⟩ := Option.bind_eq_some_iff.mp h
        obtain ⟨g1, g2, g3⟩ := g
        obtain ⟨m1, m2⟩ := m
        obtain ⟨n1, n2⟩ := n
        by_cases hc : b = true ∧ b2 = true ∧ 0 ≤ n1 ∧ 0 ≤ q ∧ q = m1
        · rw [if_pos hc] at h
          injection h with h
          subst h
          obtain ⟨rfl, rfl, hn0, hq0, rfl⟩ := hc
          have cb3 : decide (n1 < 0) = false := by simp; omega
          have cb4 : decide (q < 0) = false := by simp; omega
          have cb5 : (q != q) = false := by simp
          have kg := fun W => laws_toGrid.calls a0_0 a0_1 a0_2 g1 g2 g3 W hg
          have kx := fun A c W hr hc => laws_toStringS.calls k A c l2 x W hr hc hx
          have ks := fun A c W hr hc => spec_DomainsOf.calls k g1 g2 g3 a1 A c x t W hr hc ht
          have ki := fun A c W hr hc => impl_DomainsOf.calls k g1 g2 g3 a1 A c x u W hr hc hu
          have ke := fun A0 c0 A1 c1 W h0 h1 h2 h3 => laws_eqStringSS.calls k A0 c0 u A1 c1 t true W h0 h1 h2 h3 he
          have ke2 := fun A0 c0 A1 c1 W h0 h1 h2 h3 => laws_eqStringS.calls k A0 c0 x A1 c1 x true W h0 h1 h2 h3 he2
          have kn := fun (P0_ : Nat → Prop) v w0 W hB ho => laws_markStringS.calls k P0_ v x 1 n1 n2 w0 W hB ho hn
          have km := fun (P0_ : Nat → Prop) v w0 W hB ho => laws_markStringSS.calls k P0_ v u 1 q m2 w0 W hB ho hm
          have kh := fun A c W hr hc => laws_heldStringSS.calls k A c m2 1 q W hr hc hq
          clear hg hx ht hu hm hq he he2 hn
          go_enter Try.func4, Try.ntmps4
          go_wp2_with fail
          go_at_call 7
          refine (kz _).mono ?_
          rintro e w1 ⟨rfl, hb1⟩
          have HB1 := Aside0.mk hb1
          have HPB := Aside0.mk (Kd.C_below HP.out (below_alloc (Below.refl _ _) (.cells #[.int .i64 a0_0, .int .i64 a0_1, .string a0_2] 23)))
          have BX := Aside0.mk (fun W (hb : Below (w.alloc (.cells #[.int .i64 a0_0, .int .i64 a0_1, .string a0_2] 23)).heap.size (w.alloc (.cells #[.int .i64 a0_0, .int .i64 a0_1, .string a0_2] 23)) W) => (⟨dom_box_cell hb 0 _ rfl, dom_box_cell hb 1 _ rfl, dom_box_cell hb 2 _ rfl⟩ : W.cell? ⟨w.heap.size, 0, none⟩ = some (.int .i64 a0_0) ∧ W.cell? ⟨w.heap.size, 1, none⟩ = some (.int .i64 a0_1) ∧ W.cell? ⟨w.heap.size, 2, none⟩ = some (.string a0_2)))
          clear hb1
          go_wp2_with fail
          go_at_call 14
          refine (kz2 _ _ _ (Kd.C_below HPB.out HB1.out) HPC.out).mono ?_
          rintro e w' ⟨rfl, nd, rfl⟩
          have HB2 := Aside0.mk (pw_below_drewN HB1.out nd)
          clear HB1
          generalize w1.drewN nd = w2 at HB2 ⊢
          obtain ⟨x0, x1, x2⟩ := BX.out _ HB2.out
          go_wp2_with fail
          go_at_call 10
          refine (kg _).mono ?_
          rintro e w3 ⟨rfl, hb⟩
          clear x0 x1 x2
          have HB3 := Aside0.mk (below_step HB2.out hb)
          clear hb
          go_wp2_with fail
          go_at_call 16
          refine (kx _ _ _ (Kd.C_below HPB.out HB3.out) HPC.out).mono ?_
          rintro e w4 ⟨va, rfl, ho, hb⟩
          obtain ⟨Aa, ca, rfl⟩ := Kd.R_slice ho
          have HB4 := Aside0.mk (below_step HB3.out hb)
          have HOa := Aside0.mk ho
          clear hb ho HB2 HB3 kz kz2
          go_wp2_with fail
          go_at_call 15
          refine (ks _ _ _ (Kd.R_reads' HOa.out).2.2 (Kd.R_reads' HOa.out).2.1).mono ?_
          rintro e w5 ⟨v0, rfl, hs, hb⟩
          obtain ⟨A0, c0, rfl⟩ := Kd.S_slice hs
          have HB5 := Aside0.mk (below_step HB4.out hb)
          have HC0 := Aside0.mk (Kd.S_reads' hs).2
          clear hb hs HOa HB4 ks
          go_wp2_with fail
          go_at_call 16
          refine (kx _ _ _ (Kd.C_below HPB.out HB5.out) HPC.out).mono ?_
          rintro e w6 ⟨vx, rfl, ho, hb⟩
          obtain ⟨Ax, cx, rfl⟩ := Kd.R_slice ho
          have HD6 := Aside0.mk hb
          have HX6 := Aside0.mk ho
          have HL6 := Aside0.mk (Kd.R_lt ho)
          clear hb ho
          obtain ⟨x0, x1, x2⟩ := BX.out _ (below_step HB5.out HD6.out)
          go_wp2_with fail
          go_at_call 10
          refine (kg _).mono ?_
          rintro e w7 ⟨rfl, hb⟩
          clear x0 x1 x2
          have HD7 := Aside0.mk (below_step HD6.out hb)
          have HX7 := Aside0.mk (Kd.R_below HX6.out hb)
          have HZ7 := Aside0.mk hb.size
          clear hb HX6
          go_wp2_with fail
          go_at_call 17
          refine (ki _ _ _ (Kd.R_reads' HX7.out).2.2 (Kd.R_reads' HX7.out).2.1).mono ?_
          rintro e w8 ⟨v1, rfl, hs, hb⟩
          obtain ⟨A1, c1, rfl⟩ := Kd.S_slice hs
          have HD8 := Aside0.mk (below_step HD7.out hb)
          have HX8 := Aside0.mk (Kd.R_below HX7.out hb)
          have HS8 := Aside0.mk hs
          have HZ8 := Aside0.mk HD7.out.size
          clear hb hs HX7 HD6
          go_wp2_with fail
          go_at_call 13
          refine (ke _ _ _ _ _ (Kd.S_reads' HS8.out).2.2 (Kd.S_reads' HS8.out).2.1 (Kd.C_below HC0.out.2 HD8.out) HC0.out.1).mono ?_
          rintro e w' ⟨rfl, nd, rfl⟩
          have HD9 := Aside0.mk (pw_below_drewN HD8.out nd)
          have HX9 := Aside0.mk (Kd.R_drewN HX8.out nd)
          have HS9 := Aside0.mk (Kd.S_drewN HS8.out nd)
          clear HD8 HX8 HS8
          generalize w8.drewN nd = w9 at HD9 HX9 HS9 ⊢
          go_wp2_with fail
          go_at_call 16
          refine (kx _ _ _ (Kd.C_below HPB.out (below_step HB5.out HD9.out)) HPC.out).mono ?_
          rintro e w10 ⟨vb, rfl, ho, hb⟩
          obtain ⟨Ab, cb, rfl⟩ := Kd.R_slice ho
          have HD10 := Aside0.mk (below_step HD9.out hb)
          have HX10 := Aside0.mk (Kd.R_below HX9.out hb)
          have HS10 := Aside0.mk (Kd.S_below HS9.out hb)
          have HO10 := Aside0.mk ho
          clear hb ho HD9 HX9 HS9
          go_wp2_with fail
          go_at_call 18
          refine (ke2 _ _ _ _ _ (Kd.R_reads' HX10.out).2.2 (Kd.R_reads' HX10.out).2.1 (Kd.R_reads' HO10.out).2.2 (Kd.R_reads' HO10.out).2.1).mono ?_
          rintro e w' ⟨rfl, nd, rfl⟩
          have HD11 := Aside0.mk (pw_below_drewN HD10.out nd)
          have HX11 := Aside0.mk (Kd.R_drewN HX10.out nd)
          have HS11 := Aside0.mk (Kd.S_drewN HS10.out nd)
          clear HD10 HX10 HS10 HO10
          generalize w10.drewN nd = w11 at HD11 HX11 HS11 ⊢
          go_wp2_with fail
          go_at_call 19
          refine (kn (fun k_ => some k_ = (Value.slice Ax x.length cx).ownBlock) _ w5 _ HD11.out (Kd.R_tight rfl HX11.out)).mono ?_
          rintro e w12 ⟨rfl, _, hb, hk⟩
          have HD12 := Aside0.mk hb
          have HS12 := Aside0.mk (Kd.S_mono (Kd.S_kept (Kd.S_bound HS11.out) hk (fun k_ hk_ he_ => by have h1_ := HL6.out k_ he_.symm; have h2_ := hk_.2.1; have h3_ := HZ7.out; omega)) (fun _ _ => trivial : ∀ k_, _ → (fun _ => True) k_))
          clear hb hk HD11 HX11 HS11 kn
          go_wp2_with fail
          go_at_call 13
          refine (ke _ _ _ _ _ (Kd.S_reads' HS12.out).2.2 (Kd.S_reads' HS12.out).2.1 (Kd.C_below HC0.out.2 HD12.out) HC0.out.1).mono ?_
          rintro e w' ⟨rfl, nd, rfl⟩
          have HD13 := Aside0.mk (pw_below_drewN HD12.out nd)
          have HS13 := Aside0.mk (Kd.S_drewN HS12.out nd)
          clear HD12 HS12
          generalize w12.drewN nd = w13 at HD13 HS13 ⊢
          go_wp2_with fail
          go_at_call 20
          refine (km (fun _ => True) _ w5 _ HD13.out (Kd.S_lower HS13.out HZ8.out)).mono ?_
          rintro e w14 ⟨rfl, hs, hb, _⟩
          obtain ⟨A4, c4, e4⟩ := Kd.S_slice hs
          injection e4 with e5 hlen e6
          rw [← hlen] at kh
          have HS14 := Aside0.mk hs
          have HD14 := Aside0.mk hb
          have HL := Aside0.mk hlen
          clear hs hb km hlen e5 e6 HD13 HS13
          go_wp2_with fail
          go_at_call 21
          refine (kh _ _ _ (by have := (Kd.S_reads' HS14.out).2.2; rwa [← HL.out] at this) (by have := (Kd.S_reads' HS14.out).2.1; exact this)).mono ?_
          rintro e w15 ⟨rfl, hb⟩
          have HD15 := Aside0.mk (below_step HD14.out hb)
          have HS15 := Aside0.mk (Kd.S_below HS14.out hb)
          clear hb HD14 HS14
          obtain ⟨x0, x1, x2⟩ := BX.out _ (below_step HB5.out HD15.out)
          go_wp2_with fail
          go_at_call 10
          refine (kg _).mono ?_
          rintro e w16 ⟨rfl, hb⟩
          clear x0 x1 x2
          have HD16 := Aside0.mk (below_step HD15.out hb)
          have HS16 := Aside0.mk (Kd.S_below HS15.out hb)
          clear hb HD15 HS15
          go_wp2_with fail
          go_at_call 16
          refine (kx _ _ _ (Kd.C_below HPB.out (below_step HB5.out HD16.out)) HPC.out).mono ?_
          rintro e w17 ⟨vc, rfl, ho, hb⟩
          obtain ⟨Ac, cc, rfl⟩ := Kd.R_slice ho
          have HD17 := Aside0.mk (below_step HD16.out hb)
          have HS17 := Aside0.mk (Kd.S_below HS16.out hb)
          have HO17 := Aside0.mk ho
          clear hb ho HD16 HS16
          go_wp2_with fail
          go_at_call 17
          refine (ki _ _ _ (Kd.R_reads' HO17.out).2.2 (Kd.R_reads' HO17.out).2.1).mono ?_
          rintro e w18 ⟨v2, rfl, hs, hb⟩
          obtain ⟨A6, c6, rfl⟩ := Kd.S_slice hs
          have HD18 := Aside0.mk (below_step HD17.out hb)
          have HS18 := Aside0.mk (Kd.S_below HS17.out hb)
          have HT18 := Aside0.mk hs
          clear hb hs HD17 HS17 HO17
          go_wp2_with fail
          go_at_call 13
          refine (ke _ _ _ _ _ (Kd.S_reads' HT18.out).2.2 (Kd.S_reads' HT18.out).2.1 (Kd.C_below HC0.out.2 HD18.out) HC0.out.1).mono ?_
          rintro e w' ⟨rfl, nd, rfl⟩
          have HD19 := Aside0.mk (pw_below_drewN HD18.out nd)
          have HS19 := Aside0.mk (Kd.S_drewN HS18.out nd)
          clear HD18 HS18 HT18
          generalize w18.drewN nd = w19 at HD19 HS19 ⊢
          go_wp2_with fail
          go_at_call 21
          refine (kh _ _ _ (by have := (Kd.S_reads' HS19.out).2.2; rwa [← HL.out] at this) (by have := (Kd.S_reads' HS19.out).2.1; exact this)).mono ?_
          rintro e w20 ⟨rfl, hb⟩
          have HD20 := Aside0.mk (below_step HB5.out (below_step HD19.out hb))
          clear hb
          go_wp2_with fail
          go_ret
          exact ⟨rfl, below_step (w := w) (below_alloc (Below.refl _ _) _) HD20.out⟩
        · rw [if_neg (by simpa using hc)] at h
          cases h


end Go.Proofs.Ytgmhjinlpikpjaf.QFnExactDomainsOf
