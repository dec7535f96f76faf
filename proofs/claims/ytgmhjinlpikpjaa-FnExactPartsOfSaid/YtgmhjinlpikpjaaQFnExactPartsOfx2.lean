-- Written by a changed copy of the kit's printer (wip/mp.py of this repo), for this claim; Lean checks it.
import Derived.Test.YtgmhjinlpikpjaaQFnExactPartsOfx0
namespace Go.Proofs.Ytgmhjinlpikpjaa.QFnExactPartsOf
open Go.RowKit Go.Proofs.YtgmhjinlpikpjaaW.PrintWords Go.Proofs.YtgmhjinlpikpjaaW.PrintLast Go.Proofs.YtgmhjinlpikpjaaW.PrintMore
attribute [local go_sem] max2_int min2_int max_two min_two max_three min_three max_four min_four   -- for this text's walks alone
set_option linter.unusedVariables false
set_option linter.unusedSimpArgs false

/-! ### spec_l10Reach: function 35 -/
mutual
def spec_l10Reach.l0 : Nat → List Bool → Bool → Int → Int → ByteArray → Option (List Bool)
  | 0, _, _, _, _, _ => none
  | k + 1, x1, x7, x109000, x109001, x109002 => if x7 = true then (spec_l10Reach.l1 k x1 false 0 x109000 x109001 x109002) else (some x1)
def spec_l10Reach.l1 : Nat → List Bool → Bool → Int → Int → Int → ByteArray → Option (List Bool)
  | 0, _, _, _, _, _, _ => none
  | k + 1, x1, x7, x8, x109000, x109001, x109002 => if x8 < (x1.length : Int) then (if 0 ≤ x8 then (if rdOf false x1 x8 = true then (spec_l10Reach.j2 k x1 x7 x8 true x109000 x109001 x109002) else (if x8 < (x109002.size : Int) then (spec_l10Reach.j2 k x1 x7 x8 ((bt x109002 x8) != 46) x109000 x109001 x109002) else (none))) else (none)) else (spec_l10Reach.l0 k x1 x7 x109000 x109001 x109002)
def spec_l10Reach.j2 : Nat → List Bool → Bool → Int → Bool → Int → Int → ByteArray → Option (List Bool)
  | 0, _, _, _, _, _, _, _ => none
  | k + 1, x1, x7, x8, x31, x109000, x109001, x109002 => if x31 = true then (spec_l10Reach.l1 k x1 x7 (wrap64 (x8 + 1)) x109000 x109001 x109002) else (if x109001 = 0 then (none) else (if (Int.tmod x8 x109001) > 0 then (if 0 ≤ (wrap64 (x8 - 1)) then (if (wrap64 (x8 - 1)) < (x1.length : Int) then (if rdOf false x1 (wrap64 (x8 - 1)) = true then (if 0 ≤ x8 then (if x8 < (x1.length : Int) then (spec_l10Reach.l1 k (x1.set (x8 : Int).toNat true) true (wrap64 (x8 + 1)) x109000 x109001 x109002) else (none)) else (none)) else (if (wrap64 ((Int.tmod x8 x109001) + 1)) < x109001 then (if 0 ≤ (wrap64 (x8 + 1)) then (if (wrap64 (x8 + 1)) < (x1.length : Int) then (if rdOf false x1 (wrap64 (x8 + 1)) = true then (if 0 ≤ x8 then (if x8 < (x1.length : Int) then (spec_l10Reach.l1 k (x1.set (x8 : Int).toNat true) true (wrap64 (x8 + 1)) x109000 x109001 x109002) else (none)) else (none)) else (if x8 ≥ x109001 then (if 0 ≤ (wrap64 (x8 - x109001)) then (if (wrap64 (x8 - x109001)) < (x1.length : Int) then (if rdOf false x1 (wrap64 (x8 - x109001)) = true then (if 0 ≤ x8 then (if x8 < (x1.length : Int) then (spec_l10Reach.l1 k (x1.set (x8 : Int).toNat true) true (wrap64 (x8 + 1)) x109000 x109001 x109002) else (none)) else (none)) else (if (wrap64 (x8 + x109001)) < (x1.length : Int) then (if 0 ≤ (wrap64 (x8 + x109001)) then (if rdOf false x1 (wrap64 (x8 + x109001)) = true then (if 0 ≤ x8 then (if x8 < (x1.length : Int) then (spec_l10Reach.l1 k (x1.set (x8 : Int).toNat true) true (wrap64 (x8 + 1)) x109000 x109001 x109002) else (none)) else (none)) else (spec_l10Reach.l1 k x1 x7 (wrap64 (x8 + 1)) x109000 x109001 x109002)) else (none)) else (spec_l10Reach.l1 k x1 x7 (wrap64 (x8 + 1)) x109000 x109001 x109002))) else (none)) else (none)) else (if (wrap64 (x8 + x109001)) < (x1.length : Int) then (if 0 ≤ (wrap64 (x8 + x109001)) then (if rdOf false x1 (wrap64 (x8 + x109001)) = true then (if 0 ≤ x8 then (if x8 < (x1.length : Int) then (spec_l10Reach.l1 k (x1.set (x8 : Int).toNat true) true (wrap64 (x8 + 1)) x109000 x109001 x109002) else (none)) else (none)) else (spec_l10Reach.l1 k x1 x7 (wrap64 (x8 + 1)) x109000 x109001 x109002)) else (none)) else (spec_l10Reach.l1 k x1 x7 (wrap64 (x8 + 1)) x109000 x109001 x109002)))) else (none)) else (none)) else (if x8 ≥ x109001 then (if 0 ≤ (wrap64 (x8 - x109001)) then (if (wrap64 (x8 - x109001)) < (x1.length : Int) then (if rdOf false x1 (wrap64 (x8 - x109001)) = true then (if 0 ≤ x8 then (if x8 < (x1.length : Int) then (spec_l10Reach.l1 k (x1.set (x8 : Int).toNat true) true (wrap64 (x8 + 1)) x109000 x109001 x109002) else (none)) else (none)) else (if (wrap64 (x8 + x109001)) < (x1.length : Int) then (if 0 ≤ (wrap64 (x8 + x109001)) then (if rdOf false x1 (wrap64 (x8 + x109001)) = true then (if 0 ≤ x8 then (if x8 < (x1.length : Int) then (spec_l10Reach.l1 k (x1.set (x8 : Int).toNat true) true (wrap64 (x8 + 1)) x109000 x109001 x109002) else (none)) else (none)) else (spec_l10Reach.l1 k x1 x7 (wrap64 (x8 + 1)) x109000 x109001 x109002)) else (none)) else (spec_l10Reach.l1 k x1 x7 (wrap64 (x8 + 1)) x109000 x109001 x109002))) else (none)) else (none)) else (if (wrap64 (x8 + x109001)) < (x1.length : Int) then (if 0 ≤ (wrap64 (x8 + x109001)) then (if rdOf false x1 (wrap64 (x8 + x109001)) = true then (if 0 ≤ x8 then (if x8 < (x1.length : Int) then (spec_l10Reach.l1 k (x1.set (x8 : Int).toNat true) true (wrap64 (x8 + 1)) x109000 x109001 x109002) else (none)) else (none)) else (spec_l10Reach.l1 k x1 x7 (wrap64 (x8 + 1)) x109000 x109001 x109002)) else (none)) else (spec_l10Reach.l1 k x1 x7 (wrap64 (x8 + 1)) x109000 x109001 x109002))))) else (none)) else (none)) else (if (wrap64 ((Int.tmod x8 x109001) + 1)) < x109001 then (if 0 ≤ (wrap64 (x8 + 1)) then (if (wrap64 (x8 + 1)) < (x1.length : Int) then (if rdOf false x1 (wrap64 (x8 + 1)) = true then (if 0 ≤ x8 then (if x8 < (x1.length : Int) then (spec_l10Reach.l1 k (x1.set (x8 : Int).toNat true) true (wrap64 (x8 + 1)) x109000 x109001 x109002) else (none)) else (none)) else (if x8 ≥ x109001 then (if 0 ≤ (wrap64 (x8 - x109001)) then (if (wrap64 (x8 - x109001)) < (x1.length : Int) then (if rdOf false x1 (wrap64 (x8 - x109001)) = true then (if 0 ≤ x8 then (if x8 < (x1.length : Int) then (spec_l10Reach.l1 k (x1.set (x8 : Int).toNat true) true (wrap64 (x8 + 1)) x109000 x109001 x109002) else (none)) else (none)) else (if (wrap64 (x8 + x109001)) < (x1.length : Int) then (if 0 ≤ (wrap64 (x8 + x109001)) then (if rdOf false x1 (wrap64 (x8 + x109001)) = true then (if 0 ≤ x8 then (if x8 < (x1.length : Int) then (spec_l10Reach.l1 k (x1.set (x8 : Int).toNat true) true (wrap64 (x8 + 1)) x109000 x109001 x109002) else (none)) else (none)) else (spec_l10Reach.l1 k x1 x7 (wrap64 (x8 + 1)) x109000 x109001 x109002)) else (none)) else (spec_l10Reach.l1 k x1 x7 (wrap64 (x8 + 1)) x109000 x109001 x109002))) else (none)) else (none)) else (if (wrap64 (x8 + x109001)) < (x1.length : Int) then (if 0 ≤ (wrap64 (x8 + x109001)) then (if rdOf false x1 (wrap64 (x8 + x109001)) = true then (if 0 ≤ x8 then (if x8 < (x1.length : Int) then (spec_l10Reach.l1 k (x1.set (x8 : Int).toNat true) true (wrap64 (x8 + 1)) x109000 x109001 x109002) else (none)) else (none)) else (spec_l10Reach.l1 k x1 x7 (wrap64 (x8 + 1)) x109000 x109001 x109002)) else (none)) else (spec_l10Reach.l1 k x1 x7 (wrap64 (x8 + 1)) x109000 x109001 x109002)))) else (none)) else (none)) else (if x8 ≥ x109001 then (if 0 ≤ (wrap64 (x8 - x109001)) then (if (wrap64 (x8 - x109001)) < (x1.length : Int) then (if rdOf false x1 (wrap64 (x8 - x109001)) = true then (if 0 ≤ x8 then (if x8 < (x1.length : Int) then (spec_l10Reach.l1 k (x1.set (x8 : Int).toNat true) true (wrap64 (x8 + 1)) x109000 x109001 x109002) else (none)) else (none)) else (if (wrap64 (x8 + x109001)) < (x1.length : Int) then (if 0 ≤ (wrap64 (x8 + x109001)) then (if rdOf false x1 (wrap64 (x8 + x109001)) = true then (if 0 ≤ x8 then (if x8 < (x1.length : Int) then (spec_l10Reach.l1 k (x1.set (x8 : Int).toNat true) true (wrap64 (x8 + 1)) x109000 x109001 x109002) else (none)) else (none)) else (spec_l10Reach.l1 k x1 x7 (wrap64 (x8 + 1)) x109000 x109001 x109002)) else (none)) else (spec_l10Reach.l1 k x1 x7 (wrap64 (x8 + 1)) x109000 x109001 x109002))) else (none)) else (none)) else (if (wrap64 (x8 + x109001)) < (x1.length : Int) then (if 0 ≤ (wrap64 (x8 + x109001)) then (if rdOf false x1 (wrap64 (x8 + x109001)) = true then (if 0 ≤ x8 then (if x8 < (x1.length : Int) then (spec_l10Reach.l1 k (x1.set (x8 : Int).toNat true) true (wrap64 (x8 + 1)) x109000 x109001 x109002) else (none)) else (none)) else (spec_l10Reach.l1 k x1 x7 (wrap64 (x8 + 1)) x109000 x109001 x109002)) else (none)) else (spec_l10Reach.l1 k x1 x7 (wrap64 (x8 + 1)) x109000 x109001 x109002))))))
end
def spec_l10Reach.f (k : Nat) (a0_0 : Int) (a0_1 : Int) (a0_2 : ByteArray) (l1 : List Bool) (a2 : Int) : Option (List Bool) := if 0 ≤ a2 then (if a2 < (l1.length : Int) then (spec_l10Reach.l0 k (l1.set (a2 : Int).toNat true) true a0_0 a0_1 a0_2) else (none)) else (none)
theorem spec_l10Reach.mono_l : ∀ k, (∀ y0 y1 y2 y3 y4, LeO (spec_l10Reach.l0 k y0 y1 y2 y3 y4) (spec_l10Reach.l0 (k + 1) y0 y1 y2 y3 y4)) ∧ (∀ y0 y1 y2 y3 y4 y5, LeO (spec_l10Reach.l1 k y0 y1 y2 y3 y4 y5) (spec_l10Reach.l1 (k + 1) y0 y1 y2 y3 y4 y5)) ∧ (∀ y0 y1 y2 y3 y4 y5 y6, LeO (spec_l10Reach.j2 k y0 y1 y2 y3 y4 y5 y6) (spec_l10Reach.j2 (k + 1) y0 y1 y2 y3 y4 y5 y6))
  | 0 => ⟨fun _ _ _ _ _ r h => by simp [spec_l10Reach.l0] at h, fun _ _ _ _ _ _ r h => by simp [spec_l10Reach.l1] at h, fun _ _ _ _ _ _ _ r h => by simp [spec_l10Reach.j2] at h⟩
  | k + 1 => by
   obtain ⟨ih0, ih1, ih2⟩ := spec_l10Reach.mono_l k
   refine ⟨?_, ?_, ?_⟩
   ·intro y0 y1 y2 y3 y4
    unfold spec_l10Reach.l0
    repeat' first
    | (with_reducible exact ih0 _ _ _ _ _)
    | (with_reducible exact ih1 _ _ _ _ _ _)
    | (with_reducible exact ih2 _ _ _ _ _ _ _)
    | (with_reducible exact LeO.refl _)
    | (with_reducible exact LeO.none _)
    | (with_reducible refine LeO.ite ?_ ?_)
    | (with_reducible refine LeO.bind ?_ (fun _ => ?_))
    | exact ih0 _ _ _ _ _
    | exact ih1 _ _ _ _ _ _
    | exact ih2 _ _ _ _ _ _ _
    | exact LeO.none _
    | refine LeO.ite ?_ ?_
    | refine LeO.bind ?_ (fun _ => ?_)
   ·intro y0 y1 y2 y3 y4 y5
    unfold spec_l10Reach.l1
    repeat' first
    | (with_reducible exact ih0 _ _ _ _ _)
    | (with_reducible exact ih1 _ _ _ _ _ _)
    | (with_reducible exact ih2 _ _ _ _ _ _ _)
    | (with_reducible exact LeO.refl _)
    | (with_reducible exact LeO.none _)
    | (with_reducible refine LeO.ite ?_ ?_)
    | (with_reducible refine LeO.bind ?_ (fun _ => ?_))
    | exact ih0 _ _ _ _ _
    | exact ih1 _ _ _ _ _ _
    | exact ih2 _ _ _ _ _ _ _
    | exact LeO.none _
    | refine LeO.ite ?_ ?_
    | refine LeO.bind ?_ (fun _ => ?_)
   ·intro y0 y1 y2 y3 y4 y5 y6
    unfold spec_l10Reach.j2
    repeat' first
    | (with_reducible exact ih0 _ _ _ _ _)
    | (with_reducible exact ih1 _ _ _ _ _ _)
    | (with_reducible exact ih2 _ _ _ _ _ _ _)
    | (with_reducible exact LeO.refl _)
    | (with_reducible exact LeO.none _)
    | (with_reducible refine LeO.ite ?_ ?_)
    | (with_reducible refine LeO.bind ?_ (fun _ => ?_))
    | exact ih0 _ _ _ _ _
    | exact ih1 _ _ _ _ _ _
    | exact ih2 _ _ _ _ _ _ _
    | exact LeO.none _
    | refine LeO.ite ?_ ?_
    | refine LeO.bind ?_ (fun _ => ?_)
theorem spec_l10Reach.mono : ∀ a0 a1 a2 a3 a4 k, LeO (spec_l10Reach.f k a0 a1 a2 a3 a4) (spec_l10Reach.f (k + 1) a0 a1 a2 a3 a4) := by
  intro a0 a1 a2 a3 a4 k
  obtain ⟨ih0, ih1, ih2⟩ := spec_l10Reach.mono_l k
  unfold spec_l10Reach.f
  repeat' first
    | (with_reducible exact ih0 _ _ _ _ _)
    | (with_reducible exact ih1 _ _ _ _ _ _)
    | (with_reducible exact ih2 _ _ _ _ _ _ _)
    | (with_reducible exact LeO.refl _)
    | (with_reducible exact LeO.none _)
    | (with_reducible refine LeO.ite ?_ ?_)
    | (with_reducible refine LeO.bind ?_ (fun _ => ?_))
    | exact ih0 _ _ _ _ _
    | exact ih1 _ _ _ _ _ _
    | exact ih2 _ _ _ _ _ _ _
    | exact LeO.none _
    | refine LeO.ite ?_ ?_
    | refine LeO.bind ?_ (fun _ => ?_)
set_option maxHeartbeats 8000000 in
set_option maxRecDepth 100000 in
theorem spec_l10Reach.calls (k : Nat) (a0_0 : Int) (a0_1 : Int) (a0_2 : ByteArray) (P1_ : Nat → Prop) (u9000_ : Value) (l1 : List Bool) (a2 : Int) (r : List Bool) (w0 w : World) (hB : Below w0.heap.size w0 w) (ho1 : Kd.R Kd.bool 4 w w0.heap.size P1_ u9000_ l1) (h : spec_l10Reach.f k a0_0 a0_1 a0_2 l1 a2 = some r) :
   Calls Try.prog 35 #[.agg #[.int .i64 a0_0, .int .i64 a0_1, .string a0_2], u9000_, .int .i64 a2] w fun e w' => ∃ v0_ : Value, e = .returned (v0_) ∧ Kd.R Kd.bool 4 w' w0.heap.size (fun k_ => (P1_ k_ ∨ w.heap.size ≤ k_)) v0_ r ∧ Below w0.heap.size w0 w' ∧ Kept w w' (fun k_ => P1_ k_) := by
  have hu37 := Try.underlying37
  have HO1 := Aside0.mk (show Kd.R Kd.bool 4 w w0.heap.size (fun k_ => (P1_ k_ ∨ w.heap.size ≤ k_)) u9000_ l1 from Kd.R_mono ho1 (fun k_ hk => (.inl hk)))
  have HK := Aside0.mk (Kept.refl w (fun k_ => P1_ k_))
  have HW0 := Aside0.mk hB.size
  have HB := Aside0.mk hB
  clear hB
  have H : (if 0 ≤ a2 then (if a2 < (l1.length : Int) then (spec_l10Reach.l0 k (l1.set (a2 : Int).toNat true) true a0_0 a0_1 a0_2) else (none)) else (none)) = some r := h
  clear h
  by_cases c4 : 0 ≤ a2
  ·rw [if_pos c4] at H
   have c4b0 : decide (0 ≤ a2) = true := decide_eq_true c4
   clear c4
   by_cases c5 : a2 < (l1.length : Int)
   ·rw [if_pos c5] at H
    have c5b0 : decide (a2 < (l1.length : Int)) = true := decide_eq_true c5
    clear c5
    obtain ⟨y109, hy109⟩ : ∃ y_ : List Bool, y_ = (l1.set (a2 : Int).toNat true) := ⟨_, rfl⟩
    replace H : (spec_l10Reach.l0 k y109 true a0_0 a0_1 a0_2) = some r := by first | (rw [hy109]; with_reducible exact H) | (have H2_ := (Option.bind_some _ _).symm.trans H; rw [hy109]; with_reducible exact H2_) | (have H2_ := (Option.bind_some _ _).symm.trans H; with_reducible exact H2_) | with_reducible exact H | (rw [hy109]; exact H) | exact H
    have Ny109 := Aside0.mk hy109
    clear hy109
    have H' := Aside0.mk H
    clear H
    go_enter Try.func35, Try.ntmps35
    go_wp2_with (first | ((with_reducible refine gate_dst (N := 3) rfl ?_); (try (refine gate_guard (by rfl) ?_; dsimp only)); refine box_event ?hg (N := 3) ?hd (cs := #[.int .i64 a0_0, .int .i64 a0_1, .string a0_2]) (t := 37) ?hr ?_; (case hd => rfl); (case hg => rfl); (case hr => first | (go_simp; done) | (go_simp; rfl)); intro gb108 hg w7 hbox hb; have n0_ := Aside0.mk (Kd.R_below (by (with_reducible repeat (first | apply Kd.R_alloc | apply Kd.R_drewN | apply Kd.R_drew)); exact HO1.out) hb); have n1_ := Aside0.mk (Kept.below (S := (fun k_ => P1_ k_)) (by repeat (first | (with_reducible first | exact HK.out | apply Kept.alloc | apply Kept.drewN | apply Kept.drew) | exact HK.out)) hb); have n2_ := Aside0.mk (below_step (by repeat (first | (with_reducible first | exact HB.out | apply below_alloc | apply pw_below_drewN | apply below_drew1) | exact HB.out)) hb); have n3_ := Aside0.mk (hbox); have n4_ := Aside0.mk ((by rw [hg]; exact (by first | exact HK.out.1 | exact (show Kept w _ (fun k_ => P1_ k_) from by repeat (first | (with_reducible first | exact HK.out | apply Kept.alloc | apply Kept.drewN | apply Kept.drew) | exact HK.out)).1) : w.heap.size ≤ gb108)); have n5_ := Aside0.mk ((by rw [hg]; exact (below_size (by repeat (first | (with_reducible first | exact HB.out | apply below_alloc | apply pw_below_drewN | apply below_drew1) | exact HB.out))) : w0.heap.size ≤ gb108)); clear HO1; clear HK; clear HB; have HO1 := n0_; have HK := n1_; have HB := n2_; have BK108 := n3_; have GW108 := n4_; have GE108 := n5_; clear n0_ n1_ n2_ n3_ n4_ n5_; clear hb hbox hg; have p6 : 0 ≤ (a2 : Int) := of_decide_eq_true (by first | (with_reducible assumption) | assumption); have q6 : (a2 : Int) < ((l1.length : Int) : Int) := of_decide_eq_true (by first | (with_reducible assumption) | assumption); obtain ⟨go6, co6, eo6, gb6, gl6, cl6, HG6⟩ := Kd.R_form HO1.out (by omega); (first | cases eo6 | (injection eo6 with ea_ en_ ec_; (first | subst ea_ | (injection ea_ with ea_; subst ea_)); subst ec_; clear en_)); have GB6 := Aside0.mk gb6; have GG6 := Aside0.mk HG6; clear gb6 gl6 HG6; have HMgo6 := Aside0.mk (show (P1_ go6 ∨ w.heap.size ≤ go6) from (HO1.out.1 _ rfl)); obtain ⟨hx6_0, hf6_0⟩ := Kd.R_celln false HO1.out (a2 : Int) p6 q6; replace p6 := eq_true p6; replace q6 := eq_true q6; obtain ⟨hy8_, hz8_⟩ := Kd.R_celln false HO1.out (a2 : Int) (of_decide_eq_true (by first | (with_reducible assumption) | assumption)) (of_decide_eq_true (by first | (with_reducible assumption) | assumption)); have HP8 := Kd.R_putg HO1.out (a2 : Int) true) | ((with_reducible refine gate_store (t := 4) (p := 13) rfl ?_); refine store_event (t := 4) (p := 13) (v := ?vo_w9) (w1 := (w7.setCell ⟨go6, (a2 : Int).toNat, none⟩ (.bool true))) ?hg ?ho ?hn ?hr ?_; (case ho => rfl); (case hg => rfl); (case hn => rfl); (case hr => first | (go_simp; done) | (go_simp; rfl)); intro w9 hw; have hg : w7.grownBy w9 (some go6) := (by rw [hw]; exact HP8.2); have hp_ : Kd.R Kd.bool 4 w9 w0.heap.size (fun k_ => (P1_ k_ ∨ w.heap.size ≤ k_)) (.slice (some ⟨go6, 0, none⟩) l1.length co6) y109 := (by rw [hw, Ny109.out]; exact HP8.1); clear HP8; have n0_ := Aside0.mk (hp_); have n1_ := Aside0.mk (blk_grown (g := gb108) (o := .cells #[.int .i64 a0_0, .int .i64 a0_1, .string a0_2] 37 (0, 0)) (by (with_reducible repeat (first | refine blk_drewN ?_ _ | refine blk_drew ?_ | refine blk_alloc ?_ _)); exact BK108.out) hg (Kd.R_ne HO1.out BK108.out (by decide))); have n2_ := Aside0.mk ((by rw [hw]; exact below_set (HB.out) GB6.out : Below w0.heap.size w0 w9)); have n3_ := Aside0.mk (Kept.of_grown (S := (fun k_ => P1_ k_)) hg (by repeat (first | (with_reducible first | exact HK.out | apply Kept.alloc | apply Kept.drewN | apply Kept.drew | refine Kept.setCell ?_ (.inr GW108.out) _) | exact HK.out)) (fun k_ e_ => (HO1.out.1 k_ e_))); clear HO1; clear BK108; clear HB; clear HK; have HO1 := n0_; have BK108 := n1_; have HB := n2_; have HK := n3_; clear n0_ n1_ n2_ n3_; clear hg hw hp_))
    go_loopg [7] k (fun kq v7 w' => ∃ (x1_1 : List Bool) (x7_1 : Bool), v7 = .bool x7_1 ∧ Aside0 (spec_l10Reach.l0 kq x1_1 x7_1 a0_0 a0_1 a0_2 = some r) ∧ Aside0 (kq ≤ k) ∧ Aside0 (Kd.R Kd.bool 4 w' w0.heap.size (fun k_ => (P1_ k_ ∨ w.heap.size ≤ k_)) (.slice (some ⟨go6, 0, none⟩) l1.length co6) x1_1) ∧ Aside0 (w'.heap[gb108]? = some (.cells #[.int .i64 a0_0, .int .i64 a0_1, .string a0_2] 37 (0, 0))) ∧ Aside0 (Kept w w' (fun k_ => P1_ k_)) ∧ Aside0 (Below w0.heap.size w0 w'))
    case atStart => exact ⟨(y109), (true), (by first | rfl | (simp; done) | (simp [*]; done)), H', ⟨Nat.le_refl _⟩, ⟨by (with_reducible repeat (first | apply Kd.R_alloc | apply Kd.R_drewN | apply Kd.R_drew)); exact HO1.out⟩, ⟨by (with_reducible repeat (first | refine blk_drewN ?_ _ | refine blk_drew ?_ | refine blk_alloc ?_ _)); exact BK108.out⟩, ⟨by repeat (first | (with_reducible first | exact HK.out | apply Kept.alloc | apply Kept.drewN | apply Kept.drew | refine Kept.setCell ?_ (.inr GW108.out) _) | exact HK.out)⟩, ⟨by repeat (first | (with_reducible first | exact HB.out | apply below_alloc | apply pw_below_drewN | apply below_drew1 | refine below_set ?_ GE108.out) | exact HB.out)⟩⟩
    case round =>
     clear H'
     try clear p2
     try clear c3
     try clear c4
     try clear c4b0
     try clear c5
     try clear c5b0
     try clear p6
     try clear q6
     try clear hx6
     try clear hf6
     try clear hx6_0
     try clear p6
     try clear q6
     obtain ⟨x1_1, x7_1, rfl, HA, HK1, HO_1, BK108, HK, HB⟩ := hrel
     have hl1_1 := (Kd.R_reads' HO_1.out).1
     rw [hl1_1] at HO_1
     (try simp only [hl1_1])
     (try simp only [hl1_1] at BK108)
     cases gk with
     | zero => exact absurd HA.out (by simp [spec_l10Reach.l0])
     | succ k1 =>
      have H := HA.out
      clear HA
      simp only [spec_l10Reach.l0] at H
      by_cases c10 : x7_1 = true
      ·subst c10
       have H1 : (spec_l10Reach.l1 k1 x1_1 false 0 a0_0 a0_1 a0_2) = some r := by rw [if_pos rfl] at H; exact H
       clear H
       have H := H1
       clear H1
       have H' := Aside0.mk H
       clear H
       go_wp2
       go_loopg [7, 8] k1 (fun kq v7 v8 w' => ∃ (x1_2 : List Bool) (x7_2 : Bool) (x8_2 : Int), v7 = .bool x7_2 ∧ v8 = .int .i64 x8_2 ∧ Aside0 (spec_l10Reach.l1 kq x1_2 x7_2 x8_2 a0_0 a0_1 a0_2 = some r) ∧ Aside0 (kq ≤ k1) ∧ Aside0 (Kd.R Kd.bool 4 w' w0.heap.size (fun k_ => (P1_ k_ ∨ w.heap.size ≤ k_)) (.slice (some ⟨go6, 0, none⟩) x1_1.length co6) x1_2) ∧ Aside0 (w'.heap[gb108]? = some (.cells #[.int .i64 a0_0, .int .i64 a0_1, .string a0_2] 37 (0, 0))) ∧ Aside0 (Kept w w' (fun k_ => P1_ k_)) ∧ Aside0 (Below w0.heap.size w0 w'))
       case atStart => exact ⟨(x1_1), (false), (0), (by first | rfl | (simp; done) | (simp [*]; done)), (by first | rfl | (simp; done) | (simp [*]; done)), H', ⟨Nat.le_refl _⟩, ⟨by (try simp only [hl1_1]); (with_reducible repeat (first | apply Kd.R_alloc | apply Kd.R_drewN | apply Kd.R_drew)); exact HO_1.out⟩, ⟨by (try simp only [hl1_1]); (with_reducible repeat (first | refine blk_drewN ?_ _ | refine blk_drew ?_ | refine blk_alloc ?_ _)); exact BK108.out⟩, ⟨by repeat (first | (with_reducible first | exact HK.out | apply Kept.alloc | apply Kept.drewN | apply Kept.drew | refine Kept.setCell ?_ (.inr GW108.out) _) | exact HK.out)⟩, ⟨by repeat (first | (with_reducible first | exact HB.out | apply below_alloc | apply pw_below_drewN | apply below_drew1 | refine below_set ?_ GE108.out) | exact HB.out)⟩⟩
       case round =>
        clear H'
        try clear c1
        try clear p2
        try clear c3
        try clear c4
        try clear c4b0
        try clear c5
        try clear c5b0
        try clear p6
        try clear q6
        try clear hx6
        try clear hf6
        try clear c10
        try clear hx6_0
        try clear p2
        try clear p6
        try clear q6
        obtain ⟨x1_2, x7_2, x8_2, rfl, rfl, HA, HK2, HO_1, BK108, HK, HB⟩ := hrel
        have hl1_2 := (Kd.R_reads' HO_1.out).1
        rw [hl1_2] at HO_1
        (try simp only [hl1_2])
        (try simp only [hl1_2] at BK108)
        cases gk with
        | zero => exact absurd HA.out (by simp [spec_l10Reach.l1])
        | succ k2 =>
         have H := HA.out
         clear HA
         simp only [spec_l10Reach.l1] at H
         by_cases c11 : x8_2 < (x1_2.length : Int)
         ·rw [if_pos c11] at H
          have c11b0 : decide (x8_2 < (x1_2.length : Int)) = true := decide_eq_true c11
          clear c11
          have HC12 := Aside0.mk H
          clear H
          go_upto_region 8 with (fail)
          go_cut [31] (fun v31 wc => ∃ (kq : Nat) (x31_11 : Bool), v31 = .bool x31_11 ∧ Aside0 (spec_l10Reach.j2 kq x1_2 x7_2 x8_2 x31_11 a0_0 a0_1 a0_2 = some r) ∧ Aside0 (kq ≤ k2) ∧ Aside0 (Kd.R Kd.bool 4 wc w0.heap.size (fun k_ => (P1_ k_ ∨ w.heap.size ≤ k_)) (.slice (some ⟨go6, 0, none⟩) x1_2.length co6) x1_2) ∧ Aside0 (wc.heap[gb108]? = some (.cells #[.int .i64 a0_0, .int .i64 a0_1, .string a0_2] 37 (0, 0))) ∧ Aside0 (Kept w wc (fun k_ => P1_ k_)) ∧ Aside0 (Below w0.heap.size w0 wc))
          case first =>
           have H := HC12.out
           clear HC12
           by_cases c13 : 0 ≤ x8_2
           ·rw [if_pos c13] at H
            have c13b0 : decide (0 ≤ x8_2) = true := decide_eq_true c13
            clear c13
            (first | rw [c13b0] | (simp only [i64_w, i32_w]; rw [c13b0]) | skip)
            obtain ⟨bq14, hbq14⟩ : ∃ b_ : Bool, b_ = (rdOf false x1_2 x8_2) := ⟨_, rfl⟩
            replace H : (if bq14 = true then (spec_l10Reach.j2 k2 x1_2 x7_2 x8_2 true a0_0 a0_1 a0_2) else (if x8_2 < (a0_2.size : Int) then (spec_l10Reach.j2 k2 x1_2 x7_2 x8_2 ((bt a0_2 x8_2) != 46) a0_0 a0_1 a0_2) else (none))) = some r := by rw [← hbq14] at H; exact H
            have Nbq14 := Aside0.mk hbq14
            clear hbq14
            by_cases c15 : bq14 = true
            ·subst c15
             have H1 : (spec_l10Reach.j2 k2 x1_2 x7_2 x8_2 true a0_0 a0_1 a0_2) = some r := by rw [if_pos rfl] at H; exact H
             clear H
             have H := H1
             clear H1
             have H' := Aside0.mk H
             clear H
             have p110 : 0 ≤ (x8_2 : Int) := of_decide_eq_true (by first | (with_reducible assumption) | assumption)
             have q110 : x8_2 < (x1_2.length : Int) := of_decide_eq_true (by first | (with_reducible assumption) | assumption)
             obtain ⟨ad110, e110, hx110_0⟩ := Kd.at_bool (Kd.R_reads' HO_1.out).2.2 x8_2 p110 q110
             (try rw [← Nbq14.out] at hx110_0)
             obtain rfl : (⟨go6, 0, none⟩ : Addr) = ad110 := (by injection e110)
             (first | simp only [add_plain] at hx110_0 | simp only [add_at] at hx110_0 | simp only [Addr.add, Nat.zero_add] at hx110_0 | skip)
             replace p110 := eq_true p110
             replace q110 := eq_true q110
             go_wp2
             go_meet
             case rel => exact ⟨_, (true), (by first | rfl | (simp; done) | (simp [*]; done)), H', ⟨by have := HK1.out; have := HK2.out; first | omega | exact Nat.le_refl _⟩, ⟨by (try simp only [hl1_1]); (try simp only [hl1_2]); (with_reducible repeat (first | apply Kd.R_alloc | apply Kd.R_drewN | apply Kd.R_drew)); exact HO_1.out⟩, ⟨by (try simp only [hl1_1]); (try simp only [hl1_2]); (with_reducible repeat (first | refine blk_drewN ?_ _ | refine blk_drew ?_ | refine blk_alloc ?_ _)); exact BK108.out⟩, ⟨by repeat (first | (with_reducible first | exact HK.out | apply Kept.alloc | apply Kept.drewN | apply Kept.drew | refine Kept.setCell ?_ (.inr GW108.out) _) | exact HK.out)⟩, ⟨by repeat (first | (with_reducible first | exact HB.out | apply below_alloc | apply pw_below_drewN | apply below_drew1 | refine below_set ?_ GE108.out) | exact HB.out)⟩⟩
            ·replace c15 := Bool.eq_false_iff.mpr c15
             subst c15
             have H1 : (if x8_2 < (a0_2.size : Int) then (spec_l10Reach.j2 k2 x1_2 x7_2 x8_2 ((bt a0_2 x8_2) != 46) a0_0 a0_1 a0_2) else (none)) = some r := by rw [if_neg (show ¬ (false = true) by decide)] at H; exact H
             clear H
             have H := H1
             clear H1
             by_cases c16 : x8_2 < (a0_2.size : Int)
             ·rw [if_pos c16] at H
              have c16b0 : decide (x8_2 < (a0_2.size : Int)) = true := decide_eq_true c16
              clear c16
              have H' := Aside0.mk H
              clear H
              have p110 : 0 ≤ (x8_2 : Int) := of_decide_eq_true (by first | (with_reducible assumption) | assumption)
              have q110 : x8_2 < (x1_2.length : Int) := of_decide_eq_true (by first | (with_reducible assumption) | assumption)
              obtain ⟨ad110, e110, hx110_0⟩ := Kd.at_bool (Kd.R_reads' HO_1.out).2.2 x8_2 p110 q110
              (try rw [← Nbq14.out] at hx110_0)
              obtain rfl : (⟨go6, 0, none⟩ : Addr) = ad110 := (by injection e110)
              (first | simp only [add_plain] at hx110_0 | simp only [add_at] at hx110_0 | simp only [Addr.add, Nat.zero_add] at hx110_0 | skip)
              replace p110 := eq_true p110
              replace q110 := eq_true q110
              have hcz18_0 : wr.cell? ⟨gb108, 0, none⟩ = some (.int .i64 a0_0) := (blk_cell BK108.out 0).trans rfl
              have hcz18_1 : wr.cell? ⟨gb108, 1, none⟩ = some (.int .i64 a0_1) := (blk_cell BK108.out 1).trans rfl
              have hcz18_2 : wr.cell? ⟨gb108, 2, none⟩ = some (.string a0_2) := (blk_cell BK108.out 2).trans rfl
              have hfz18_0 := blk_frozen BK108.out 0
              have hfz18_1 := blk_frozen BK108.out 1
              have hfz18_2 := blk_frozen BK108.out 2
              have p17 : 0 ≤ (x8_2 : Int) := of_decide_eq_true (by first | (with_reducible assumption) | assumption)
              have q17 : x8_2 < (a0_2.size : Int) := of_decide_eq_true (by first | (with_reducible assumption) | assumption)
              have hx17 := bt_at a0_2 x8_2
              replace p17 := eq_true p17
              replace q17 := eq_true q17
              go_wp2
              go_meet
              case rel => exact ⟨_, (((bt a0_2 x8_2) != 46)), (by first | rfl | (simp; done) | (simp [*]; done)), H', ⟨by have := HK1.out; have := HK2.out; first | omega | exact Nat.le_refl _⟩, ⟨by (try simp only [hl1_1]); (try simp only [hl1_2]); (with_reducible repeat (first | apply Kd.R_alloc | apply Kd.R_drewN | apply Kd.R_drew)); exact HO_1.out⟩, ⟨by (try simp only [hl1_1]); (try simp only [hl1_2]); (with_reducible repeat (first | refine blk_drewN ?_ _ | refine blk_drew ?_ | refine blk_alloc ?_ _)); exact BK108.out⟩, ⟨by repeat (first | (with_reducible first | exact HK.out | apply Kept.alloc | apply Kept.drewN | apply Kept.drew | refine Kept.setCell ?_ (.inr GW108.out) _) | exact HK.out)⟩, ⟨by repeat (first | (with_reducible first | exact HB.out | apply below_alloc | apply pw_below_drewN | apply below_drew1 | refine below_set ?_ GE108.out) | exact HB.out)⟩⟩
             ·rw [if_neg c16] at H
              exact absurd H (by simp)
           ·rw [if_neg c13] at H
            exact absurd H (by simp)
          case rest =>
           clear HC12
           try clear c1
           try clear p1
           try clear q1
           try clear hx1
           try clear p2
           try clear c3
           try clear c4
           try clear c4b0
           try clear c5
           try clear c5b0
           try clear p6
           try clear q6
           try clear hx6
           try clear hf6
           try clear c10
           try clear c11
           try clear c11b0
           try clear p11
           try clear q11
           try clear hx11
           try clear c13
           try clear c13b0
           try clear q14
           try clear c15
           try clear c16
           try clear c16b0
           try clear p17
           try clear q17
           try clear hx17
           try clear hcz18_0
           try clear hcz18_1
           try clear hcz18_2
           try clear hfz18_0
           try clear hfz18_1
           try clear hfz18_2
           try clear hx110_0
           try clear hx6_0
           try clear p110
           try clear p17
           try clear p2
           try clear p6
           try clear q110
           try clear q17
           try clear q6
           obtain ⟨kq, x31_11, rfl, HA, HJ11, HO_1, BK108, HK, HB⟩ := hcut
           cases kq with
           | zero => exact absurd HA.out (by simp [spec_l10Reach.j2])
           | succ kj11 =>
            have H := HA.out
            clear HA
            simp only [spec_l10Reach.j2] at H
            by_cases c19 : x31_11 = true
            ·subst c19
             have H1 : (spec_l10Reach.l1 kj11 x1_2 x7_2 (wrap64 (x8_2 + 1)) a0_0 a0_1 a0_2) = some r := by rw [if_pos rfl] at H; exact H
             clear H
             have H := H1
             clear H1
             have H' := Aside0.mk H
             clear H
             go_wp2
             (try simp only [← hl1_2])
             go_roundg kj11
             case measure => have := HK1.out; have := HK2.out; have := HJ11.out; omega
             case rel => exact ⟨(x1_2), (x7_2), (wrap64 (x8_2 + 1)), (by first | rfl | (simp; done) | (simp [*]; done)), (by first | rfl | (simp; done) | (simp [*]; done)), H', ⟨by have := HK1.out; have := HK2.out; have := HJ11.out; omega⟩, ⟨by (try simp only [hl1_1]); (try simp only [hl1_2]); (with_reducible repeat (first | apply Kd.R_alloc | apply Kd.R_drewN | apply Kd.R_drew)); exact HO_1.out⟩, ⟨by (try simp only [hl1_1]); (try simp only [hl1_2]); (with_reducible repeat (first | refine blk_drewN ?_ _ | refine blk_drew ?_ | refine blk_alloc ?_ _)); exact BK108.out⟩, ⟨by repeat (first | (with_reducible first | exact HK.out | apply Kept.alloc | apply Kept.drewN | apply Kept.drew | refine Kept.setCell ?_ (.inr GW108.out) _) | exact HK.out)⟩, ⟨by repeat (first | (with_reducible first | exact HB.out | apply below_alloc | apply pw_below_drewN | apply below_drew1 | refine below_set ?_ GE108.out) | exact HB.out)⟩⟩
            ·replace c19 := Bool.eq_false_iff.mpr c19
             subst c19
             have H1 : (if a0_1 = 0 then (none) else (if (Int.tmod x8_2 a0_1) > 0 then (if 0 ≤ (wrap64 (x8_2 - 1)) then (if (wrap64 (x8_2 - 1)) < (x1_2.length : Int) then (if rdOf false x1_2 (wrap64 (x8_2 - 1)) = true then (if 0 ≤ x8_2 then (if x8_2 < (x1_2.length : Int) then (spec_l10Reach.l1 kj11 (x1_2.set (x8_2 : Int).toNat true) true (wrap64 (x8_2 + 1)) a0_0 a0_1 a0_2) else (none)) else (none)) else (if (wrap64 ((Int.tmod x8_2 a0_1) + 1)) < a0_1 then (if 0 ≤ (wrap64 (x8_2 + 1)) then (if (wrap64 (x8_2 + 1)) < (x1_2.length : Int) then (if rdOf false x1_2 (wrap64 (x8_2 + 1)) = true then (if 0 ≤ x8_2 then (if x8_2 < (x1_2.length : Int) then (spec_l10Reach.l1 kj11 (x1_2.set (x8_2 : Int).toNat true) true (wrap64 (x8_2 + 1)) a0_0 a0_1 a0_2) else (none)) else (none)) else (if x8_2 ≥ a0_1 then (if 0 ≤ (wrap64 (x8_2 - a0_1)) then (if (wrap64 (x8_2 - a0_1)) < (x1_2.length : Int) then (if rdOf false x1_2 (wrap64 (x8_2 - a0_1)) = true then (if 0 ≤ x8_2 then (if x8_2 < (x1_2.length : Int) then (spec_l10Reach.l1 kj11 (x1_2.set (x8_2 : Int).toNat true) true (wrap64 (x8_2 + 1)) a0_0 a0_1 a0_2) else (none)) else (none)) else (if (wrap64 (x8_2 + a0_1)) < (x1_2.length : Int) then (if 0 ≤ (wrap64 (x8_2 + a0_1)) then (if rdOf false x1_2 (wrap64 (x8_2 + a0_1)) = true then (if 0 ≤ x8_2 then (if x8_2 < (x1_2.length : Int) then (spec_l10Reach.l1 kj11 (x1_2.set (x8_2 : Int).toNat true) true (wrap64 (x8_2 + 1)) a0_0 a0_1 a0_2) else (none)) else (none)) else (spec_l10Reach.l1 kj11 x1_2 x7_2 (wrap64 (x8_2 + 1)) a0_0 a0_1 a0_2)) else (none)) else (spec_l10Reach.l1 kj11 x1_2 x7_2 (wrap64 (x8_2 + 1)) a0_0 a0_1 a0_2))) else (none)) else (none)) else (if (wrap64 (x8_2 + a0_1)) < (x1_2.length : Int) then (if 0 ≤ (wrap64 (x8_2 + a0_1)) then (if rdOf false x1_2 (wrap64 (x8_2 + a0_1)) = true then (if 0 ≤ x8_2 then (if x8_2 < (x1_2.length : Int) then (spec_l10Reach.l1 kj11 (x1_2.set (x8_2 : Int).toNat true) true (wrap64 (x8_2 + 1)) a0_0 a0_1 a0_2) else (none)) else (none)) else (spec_l10Reach.l1 kj11 x1_2 x7_2 (wrap64 (x8_2 + 1)) a0_0 a0_1 a0_2)) else (none)) else (spec_l10Reach.l1 kj11 x1_2 x7_2 (wrap64 (x8_2 + 1)) a0_0 a0_1 a0_2)))) else (none)) else (none)) else (if x8_2 ≥ a0_1 then (if 0 ≤ (wrap64 (x8_2 - a0_1)) then (if (wrap64 (x8_2 - a0_1)) < (x1_2.length : Int) then (if rdOf false x1_2 (wrap64 (x8_2 - a0_1)) = true then (if 0 ≤ x8_2 then (if x8_2 < (x1_2.length : Int) then (spec_l10Reach.l1 kj11 (x1_2.set (x8_2 : Int).toNat true) true (wrap64 (x8_2 + 1)) a0_0 a0_1 a0_2) else (none)) else (none)) else (if (wrap64 (x8_2 + a0_1)) < (x1_2.length : Int) then (if 0 ≤ (wrap64 (x8_2 + a0_1)) then (if rdOf false x1_2 (wrap64 (x8_2 + a0_1)) = true then (if 0 ≤ x8_2 then (if x8_2 < (x1_2.length : Int) then (spec_l10Reach.l1 kj11 (x1_2.set (x8_2 : Int).toNat true) true (wrap64 (x8_2 + 1)) a0_0 a0_1 a0_2) else (none)) else (none)) else (spec_l10Reach.l1 kj11 x1_2 x7_2 (wrap64 (x8_2 + 1)) a0_0 a0_1 a0_2)) else (none)) else (spec_l10Reach.l1 kj11 x1_2 x7_2 (wrap64 (x8_2 + 1)) a0_0 a0_1 a0_2))) else (none)) else (none)) else (if (wrap64 (x8_2 + a0_1)) < (x1_2.length : Int) then (if 0 ≤ (wrap64 (x8_2 + a0_1)) then (if rdOf false x1_2 (wrap64 (x8_2 + a0_1)) = true then (if 0 ≤ x8_2 then (if x8_2 < (x1_2.length : Int) then (spec_l10Reach.l1 kj11 (x1_2.set (x8_2 : Int).toNat true) true (wrap64 (x8_2 + 1)) a0_0 a0_1 a0_2) else (none)) else (none)) else (spec_l10Reach.l1 kj11 x1_2 x7_2 (wrap64 (x8_2 + 1)) a0_0 a0_1 a0_2)) else (none)) else (spec_l10Reach.l1 kj11 x1_2 x7_2 (wrap64 (x8_2 + 1)) a0_0 a0_1 a0_2))))) else (none)) else (none)) else (if (wrap64 ((Int.tmod x8_2 a0_1) + 1)) < a0_1 then (if 0 ≤ (wrap64 (x8_2 + 1)) then (if (wrap64 (x8_2 + 1)) < (x1_2.length : Int) then (if rdOf false x1_2 (wrap64 (x8_2 + 1)) = true then (if 0 ≤ x8_2 then (if x8_2 < (x1_2.length : Int) then (spec_l10Reach.l1 kj11 (x1_2.set (x8_2 : Int).toNat true) true (wrap64 (x8_2 + 1)) a0_0 a0_1 a0_2) else (none)) else (none)) else (if x8_2 ≥ a0_1 then (if 0 ≤ (wrap64 (x8_2 - a0_1)) then (if (wrap64 (x8_2 - a0_1)) < (x1_2.length : Int) then (if rdOf false x1_2 (wrap64 (x8_2 - a0_1)) = true then (if 0 ≤ x8_2 then (if x8_2 < (x1_2.length : Int) then (spec_l10Reach.l1 kj11 (x1_2.set (x8_2 : Int).toNat true) true (wrap64 (x8_2 + 1)) a0_0 a0_1 a0_2) else (none)) else (none)) else (if (wrap64 (x8_2 + a0_1)) < (x1_2.length : Int) then (if 0 ≤ (wrap64 (x8_2 + a0_1)) then (if rdOf false x1_2 (wrap64 (x8_2 + a0_1)) = true then (if 0 ≤ x8_2 then (if x8_2 < (x1_2.length : Int) then (spec_l10Reach.l1 kj11 (x1_2.set (x8_2 : Int).toNat true) true (wrap64 (x8_2 + 1)) a0_0 a0_1 a0_2) else (none)) else (none)) else (spec_l10Reach.l1 kj11 x1_2 x7_2 (wrap64 (x8_2 + 1)) a0_0 a0_1 a0_2)) else (none)) else (spec_l10Reach.l1 kj11 x1_2 x7_2 (wrap64 (x8_2 + 1)) a0_0 a0_1 a0_2))) else (none)) else (none)) else (if (wrap64 (x8_2 + a0_1)) < (x1_2.length : Int) then (if 0 ≤ (wrap64 (x8_2 + a0_1)) then (if rdOf false x1_2 (wrap64 (x8_2 + a0_1)) = true then (if 0 ≤ x8_2 then (if x8_2 < (x1_2.length : Int) then (spec_l10Reach.l1 kj11 (x1_2.set (x8_2 : Int).toNat true) true (wrap64 (x8_2 + 1)) a0_0 a0_1 a0_2) else (none)) else (none)) else (spec_l10Reach.l1 kj11 x1_2 x7_2 (wrap64 (x8_2 + 1)) a0_0 a0_1 a0_2)) else (none)) else (spec_l10Reach.l1 kj11 x1_2 x7_2 (wrap64 (x8_2 + 1)) a0_0 a0_1 a0_2)))) else (none)) else (none)) else (if x8_2 ≥ a0_1 then (if 0 ≤ (wrap64 (x8_2 - a0_1)) then (if (wrap64 (x8_2 - a0_1)) < (x1_2.length : Int) then (if rdOf false x1_2 (wrap64 (x8_2 - a0_1)) = true then (if 0 ≤ x8_2 then (if x8_2 < (x1_2.length : Int) then (spec_l10Reach.l1 kj11 (x1_2.set (x8_2 : Int).toNat true) true (wrap64 (x8_2 + 1)) a0_0 a0_1 a0_2) else (none)) else (none)) else (if (wrap64 (x8_2 + a0_1)) < (x1_2.length : Int) then (if 0 ≤ (wrap64 (x8_2 + a0_1)) then (if rdOf false x1_2 (wrap64 (x8_2 + a0_1)) = true then (if 0 ≤ x8_2 then (if x8_2 < (x1_2.length : Int) then (spec_l10Reach.l1 kj11 (x1_2.set (x8_2 : Int).toNat true) true (wrap64 (x8_2 + 1)) a0_0 a0_1 a0_2) else (none)) else (none)) else (spec_l10Reach.l1 kj11 x1_2 x7_2 (wrap64 (x8_2 + 1)) a0_0 a0_1 a0_2)) else (none)) else (spec_l10Reach.l1 kj11 x1_2 x7_2 (wrap64 (x8_2 + 1)) a0_0 a0_1 a0_2))) else (none)) else (none)) else (if (wrap64 (x8_2 + a0_1)) < (x1_2.length : Int) then (if 0 ≤ (wrap64 (x8_2 + a0_1)) then (if rdOf false x1_2 (wrap64 (x8_2 + a0_1)) = true then (if 0 ≤ x8_2 then (if x8_2 < (x1_2.length : Int) then (spec_l10Reach.l1 kj11 (x1_2.set (x8_2 : Int).toNat true) true (wrap64 (x8_2 + 1)) a0_0 a0_1 a0_2) else (none)) else (none)) else (spec_l10Reach.l1 kj11 x1_2 x7_2 (wrap64 (x8_2 + 1)) a0_0 a0_1 a0_2)) else (none)) else (spec_l10Reach.l1 kj11 x1_2 x7_2 (wrap64 (x8_2 + 1)) a0_0 a0_1 a0_2)))))) = some r := by rw [if_neg (show ¬ (false = true) by decide)] at H; exact H
             clear H
             have H := H1
             clear H1
             by_cases c20 : a0_1 = 0
             ·rw [if_pos c20] at H
              exact absurd H (by simp)
             ·rw [if_neg c20] at H
              have c20b0 : (a0_1 == 0) = false := beq_eq_false_iff_ne.mpr c20
              have c20b1 : (a0_1 != 0) = true := bne_iff_ne.mpr c20
              by_cases c21 : (Int.tmod x8_2 a0_1) > 0
              ·rw [if_pos c21] at H
               have c21b0 : decide (0 < (Int.tmod x8_2 a0_1)) = true := decide_eq_true c21
               clear c21
               obtain ⟨ji22, hji22⟩ : ∃ j_ : Int, (wrap64 (x8_2 - 1)) = j_ := ⟨_, rfl⟩
               replace H : (if 0 ≤ (ji22) then (if (ji22) < (x1_2.length : Int) then (if rdOf false x1_2 (ji22) = true then (if 0 ≤ x8_2 then (if x8_2 < (x1_2.length : Int) then (spec_l10Reach.l1 kj11 (x1_2.set (x8_2 : Int).toNat true) true (wrap64 (x8_2 + 1)) a0_0 a0_1 a0_2) else (none)) else (none)) else (if (wrap64 ((Int.tmod x8_2 a0_1) + 1)) < a0_1 then (if 0 ≤ (wrap64 (x8_2 + 1)) then (if (wrap64 (x8_2 + 1)) < (x1_2.length : Int) then (if rdOf false x1_2 (wrap64 (x8_2 + 1)) = true then (if 0 ≤ x8_2 then (if x8_2 < (x1_2.length : Int) then (spec_l10Reach.l1 kj11 (x1_2.set (x8_2 : Int).toNat true) true (wrap64 (x8_2 + 1)) a0_0 a0_1 a0_2) else (none)) else (none)) else (if x8_2 ≥ a0_1 then (if 0 ≤ (wrap64 (x8_2 - a0_1)) then (if (wrap64 (x8_2 - a0_1)) < (x1_2.length : Int) then (if rdOf false x1_2 (wrap64 (x8_2 - a0_1)) = true then (if 0 ≤ x8_2 then (if x8_2 < (x1_2.length : Int) then (spec_l10Reach.l1 kj11 (x1_2.set (x8_2 : Int).toNat true) true (wrap64 (x8_2 + 1)) a0_0 a0_1 a0_2) else (none)) else (none)) else (if (wrap64 (x8_2 + a0_1)) < (x1_2.length : Int) then (if 0 ≤ (wrap64 (x8_2 + a0_1)) then (if rdOf false x1_2 (wrap64 (x8_2 + a0_1)) = true then (if 0 ≤ x8_2 then (if x8_2 < (x1_2.length : Int) then (spec_l10Reach.l1 kj11 (x1_2.set (x8_2 : Int).toNat true) true (wrap64 (x8_2 + 1)) a0_0 a0_1 a0_2) else (none)) else (none)) else (spec_l10Reach.l1 kj11 x1_2 x7_2 (wrap64 (x8_2 + 1)) a0_0 a0_1 a0_2)) else (none)) else (spec_l10Reach.l1 kj11 x1_2 x7_2 (wrap64 (x8_2 + 1)) a0_0 a0_1 a0_2))) else (none)) else (none)) else (if (wrap64 (x8_2 + a0_1)) < (x1_2.length : Int) then (if 0 ≤ (wrap64 (x8_2 + a0_1)) then (if rdOf false x1_2 (wrap64 (x8_2 + a0_1)) = true then (if 0 ≤ x8_2 then (if x8_2 < (x1_2.length : Int) then (spec_l10Reach.l1 kj11 (x1_2.set (x8_2 : Int).toNat true) true (wrap64 (x8_2 + 1)) a0_0 a0_1 a0_2) else (none)) else (none)) else (spec_l10Reach.l1 kj11 x1_2 x7_2 (wrap64 (x8_2 + 1)) a0_0 a0_1 a0_2)) else (none)) else (spec_l10Reach.l1 kj11 x1_2 x7_2 (wrap64 (x8_2 + 1)) a0_0 a0_1 a0_2)))) else (none)) else (none)) else (if x8_2 ≥ a0_1 then (if 0 ≤ (wrap64 (x8_2 - a0_1)) then (if (wrap64 (x8_2 - a0_1)) < (x1_2.length : Int) then (if rdOf false x1_2 (wrap64 (x8_2 - a0_1)) = true then (if 0 ≤ x8_2 then (if x8_2 < (x1_2.length : Int) then (spec_l10Reach.l1 kj11 (x1_2.set (x8_2 : Int).toNat true) true (wrap64 (x8_2 + 1)) a0_0 a0_1 a0_2) else (none)) else (none)) else (if (wrap64 (x8_2 + a0_1)) < (x1_2.length : Int) then (if 0 ≤ (wrap64 (x8_2 + a0_1)) then (if rdOf false x1_2 (wrap64 (x8_2 + a0_1)) = true then (if 0 ≤ x8_2 then (if x8_2 < (x1_2.length : Int) then (spec_l10Reach.l1 kj11 (x1_2.set (x8_2 : Int).toNat true) true (wrap64 (x8_2 + 1)) a0_0 a0_1 a0_2) else (none)) else (none)) else (spec_l10Reach.l1 kj11 x1_2 x7_2 (wrap64 (x8_2 + 1)) a0_0 a0_1 a0_2)) else (none)) else (spec_l10Reach.l1 kj11 x1_2 x7_2 (wrap64 (x8_2 + 1)) a0_0 a0_1 a0_2))) else (none)) else (none)) else (if (wrap64 (x8_2 + a0_1)) < (x1_2.length : Int) then (if 0 ≤ (wrap64 (x8_2 + a0_1)) then (if rdOf false x1_2 (wrap64 (x8_2 + a0_1)) = true then (if 0 ≤ x8_2 then (if x8_2 < (x1_2.length : Int) then (spec_l10Reach.l1 kj11 (x1_2.set (x8_2 : Int).toNat true) true (wrap64 (x8_2 + 1)) a0_0 a0_1 a0_2) else (none)) else (none)) else (spec_l10Reach.l1 kj11 x1_2 x7_2 (wrap64 (x8_2 + 1)) a0_0 a0_1 a0_2)) else (none)) else (spec_l10Reach.l1 kj11 x1_2 x7_2 (wrap64 (x8_2 + 1)) a0_0 a0_1 a0_2))))) else (none)) else (none)) = some r := by first | (rw [hji22] at H; exact H) | (simp only [hji22] at H ⊢; exact H)
               have hji22w : (IntKind.i64.wrap (x8_2 - 1)) = ji22 := (i64_w _).trans hji22
               by_cases c23 : 0 ≤ (ji22)
               ·rw [if_pos c23] at H
                have c23b0 : decide (0 ≤ (ji22)) = true := decide_eq_true c23
                clear c23
                by_cases c24 : (ji22) < (x1_2.length : Int)
                ·rw [if_pos c24] at H
                 have c24b0 : decide ((ji22) < (x1_2.length : Int)) = true := decide_eq_true c24
                 clear c24
                 obtain ⟨bq25, hbq25⟩ : ∃ b_ : Bool, b_ = (rdOf false x1_2 (ji22)) := ⟨_, rfl⟩
                 replace H : (if bq25 = true then (if 0 ≤ x8_2 then (if x8_2 < (x1_2.length : Int) then (spec_l10Reach.l1 kj11 (x1_2.set (x8_2 : Int).toNat true) true (wrap64 (x8_2 + 1)) a0_0 a0_1 a0_2) else (none)) else (none)) else (if (wrap64 ((Int.tmod x8_2 a0_1) + 1)) < a0_1 then (if 0 ≤ (wrap64 (x8_2 + 1)) then (if (wrap64 (x8_2 + 1)) < (x1_2.length : Int) then (if rdOf false x1_2 (wrap64 (x8_2 + 1)) = true then (if 0 ≤ x8_2 then (if x8_2 < (x1_2.length : Int) then (spec_l10Reach.l1 kj11 (x1_2.set (x8_2 : Int).toNat true) true (wrap64 (x8_2 + 1)) a0_0 a0_1 a0_2) else (none)) else (none)) else (if x8_2 ≥ a0_1 then (if 0 ≤ (wrap64 (x8_2 - a0_1)) then (if (wrap64 (x8_2 - a0_1)) < (x1_2.length : Int) then (if rdOf false x1_2 (wrap64 (x8_2 - a0_1)) = true then (if 0 ≤ x8_2 then (if x8_2 < (x1_2.length : Int) then (spec_l10Reach.l1 kj11 (x1_2.set (x8_2 : Int).toNat true) true (wrap64 (x8_2 + 1)) a0_0 a0_1 a0_2) else (none)) else (none)) else (if (wrap64 (x8_2 + a0_1)) < (x1_2.length : Int) then (if 0 ≤ (wrap64 (x8_2 + a0_1)) then (if rdOf false x1_2 (wrap64 (x8_2 + a0_1)) = true then (if 0 ≤ x8_2 then (if x8_2 < (x1_2.length : Int) then (spec_l10Reach.l1 kj11 (x1_2.set (x8_2 : Int).toNat true) true (wrap64 (x8_2 + 1)) a0_0 a0_1 a0_2) else (none)) else (none)) else (spec_l10Reach.l1 kj11 x1_2 x7_2 (wrap64 (x8_2 + 1)) a0_0 a0_1 a0_2)) else (none)) else (spec_l10Reach.l1 kj11 x1_2 x7_2 (wrap64 (x8_2 + 1)) a0_0 a0_1 a0_2))) else (none)) else (none)) else (if (wrap64 (x8_2 + a0_1)) < (x1_2.length : Int) then (if 0 ≤ (wrap64 (x8_2 + a0_1)) then (if rdOf false x1_2 (wrap64 (x8_2 + a0_1)) = true then (if 0 ≤ x8_2 then (if x8_2 < (x1_2.length : Int) then (spec_l10Reach.l1 kj11 (x1_2.set (x8_2 : Int).toNat true) true (wrap64 (x8_2 + 1)) a0_0 a0_1 a0_2) else (none)) else (none)) else (spec_l10Reach.l1 kj11 x1_2 x7_2 (wrap64 (x8_2 + 1)) a0_0 a0_1 a0_2)) else (none)) else (spec_l10Reach.l1 kj11 x1_2 x7_2 (wrap64 (x8_2 + 1)) a0_0 a0_1 a0_2)))) else (none)) else (none)) else (if x8_2 ≥ a0_1 then (if 0 ≤ (wrap64 (x8_2 - a0_1)) then (if (wrap64 (x8_2 - a0_1)) < (x1_2.length : Int) then (if rdOf false x1_2 (wrap64 (x8_2 - a0_1)) = true then (if 0 ≤ x8_2 then (if x8_2 < (x1_2.length : Int) then (spec_l10Reach.l1 kj11 (x1_2.set (x8_2 : Int).toNat true) true (wrap64 (x8_2 + 1)) a0_0 a0_1 a0_2) else (none)) else (none)) else (if (wrap64 (x8_2 + a0_1)) < (x1_2.length : Int) then (if 0 ≤ (wrap64 (x8_2 + a0_1)) then (if rdOf false x1_2 (wrap64 (x8_2 + a0_1)) = true then (if 0 ≤ x8_2 then (if x8_2 < (x1_2.length : Int) then (spec_l10Reach.l1 kj11 (x1_2.set (x8_2 : Int).toNat true) true (wrap64 (x8_2 + 1)) a0_0 a0_1 a0_2) else (none)) else (none)) else (spec_l10Reach.l1 kj11 x1_2 x7_2 (wrap64 (x8_2 + 1)) a0_0 a0_1 a0_2)) else (none)) else (spec_l10Reach.l1 kj11 x1_2 x7_2 (wrap64 (x8_2 + 1)) a0_0 a0_1 a0_2))) else (none)) else (none)) else (if (wrap64 (x8_2 + a0_1)) < (x1_2.length : Int) then (if 0 ≤ (wrap64 (x8_2 + a0_1)) then (if rdOf false x1_2 (wrap64 (x8_2 + a0_1)) = true then (if 0 ≤ x8_2 then (if x8_2 < (x1_2.length : Int) then (spec_l10Reach.l1 kj11 (x1_2.set (x8_2 : Int).toNat true) true (wrap64 (x8_2 + 1)) a0_0 a0_1 a0_2) else (none)) else (none)) else (spec_l10Reach.l1 kj11 x1_2 x7_2 (wrap64 (x8_2 + 1)) a0_0 a0_1 a0_2)) else (none)) else (spec_l10Reach.l1 kj11 x1_2 x7_2 (wrap64 (x8_2 + 1)) a0_0 a0_1 a0_2))))) = some r := by rw [← hbq25] at H; exact H
                 have Nbq25 := Aside0.mk hbq25
                 clear hbq25
                 by_cases c26 : bq25 = true
                 ·subst c26
                  have H1 : (if 0 ≤ x8_2 then (if x8_2 < (x1_2.length : Int) then (spec_l10Reach.l1 kj11 (x1_2.set (x8_2 : Int).toNat true) true (wrap64 (x8_2 + 1)) a0_0 a0_1 a0_2) else (none)) else (none)) = some r := by rw [if_pos rfl] at H; exact H
                  clear H
                  have H := H1
                  clear H1
                  by_cases c27 : 0 ≤ x8_2
                  ·rw [if_pos c27] at H
                   have c27b0 : decide (0 ≤ x8_2) = true := decide_eq_true c27
                   clear c27
                   by_cases c28 : x8_2 < (x1_2.length : Int)
                   ·rw [if_pos c28] at H
                    have c28b0 : decide (x8_2 < (x1_2.length : Int)) = true := decide_eq_true c28
                    clear c28
                    obtain ⟨y112, hy112⟩ : ∃ y_ : List Bool, y_ = (x1_2.set (x8_2 : Int).toNat true) := ⟨_, rfl⟩
                    replace H : (spec_l10Reach.l1 kj11 y112 true (wrap64 (x8_2 + 1)) a0_0 a0_1 a0_2) = some r := by first | (rw [hy112]; with_reducible exact H) | (have H2_ := (Option.bind_some _ _).symm.trans H; rw [hy112]; with_reducible exact H2_) | (have H2_ := (Option.bind_some _ _).symm.trans H; with_reducible exact H2_) | with_reducible exact H | (rw [hy112]; exact H) | exact H
                    have Ny112 := Aside0.mk hy112
                    clear hy112
                    have H' := Aside0.mk H
                    clear H
                    have hcz30_0 : wc.cell? ⟨gb108, 0, none⟩ = some (.int .i64 a0_0) := (blk_cell BK108.out 0).trans rfl
                    have hcz30_1 : wc.cell? ⟨gb108, 1, none⟩ = some (.int .i64 a0_1) := (blk_cell BK108.out 1).trans rfl
                    have hcz30_2 : wc.cell? ⟨gb108, 2, none⟩ = some (.string a0_2) := (blk_cell BK108.out 2).trans rfl
                    have hfz30_0 := blk_frozen BK108.out 0
                    have hfz30_1 := blk_frozen BK108.out 1
                    have hfz30_2 := blk_frozen BK108.out 2
                    have p111 : 0 ≤ ((ji22) : Int) := of_decide_eq_true (by first | (with_reducible assumption) | assumption)
                    have q111 : (ji22) < (x1_2.length : Int) := of_decide_eq_true (by first | (with_reducible assumption) | assumption)
                    obtain ⟨ad111, e111, hx111_0⟩ := Kd.at_bool (Kd.R_reads' HO_1.out).2.2 (ji22) p111 q111
                    (try rw [← Nbq25.out] at hx111_0)
                    obtain rfl : (⟨go6, 0, none⟩ : Addr) = ad111 := (by injection e111)
                    (first | simp only [add_plain] at hx111_0 | simp only [add_at] at hx111_0 | simp only [Addr.add, Nat.zero_add] at hx111_0 | skip)
                    replace p111 := eq_true p111
                    replace q111 := eq_true q111
                    have p29 : 0 ≤ (x8_2 : Int) := of_decide_eq_true (by first | (with_reducible assumption) | assumption)
                    have q29 : (x8_2 : Int) < ((x1_2.length : Int) : Int) := of_decide_eq_true (by first | (with_reducible assumption) | assumption)
                    obtain ⟨hx29_0, hf29_0⟩ := Kd.R_celln false HO_1.out (x8_2 : Int) p29 q29
                    replace p29 := eq_true p29
                    replace q29 := eq_true q29
                    have HP31 := Kd.R_putg HO_1.out (x8_2 : Int) true
                    go_wp2_with (first | ((with_reducible refine gate_store (t := 4) (p := 95) rfl ?_); refine store_event (t := 4) (p := 95) (v := ?vo_w32) (w1 := (wc.setCell ⟨go6, (x8_2 : Int).toNat, none⟩ (.bool true))) ?hg ?ho ?hn ?hr ?_; (case ho => rfl); (case hg => rfl); (case hn => rfl); (case hr => first | (go_simp; done) | (go_simp; rfl)); intro w32 hw; have hg : wc.grownBy w32 (some go6) := (by rw [hw]; exact HP31.2); have hp_ : Kd.R Kd.bool 4 w32 w0.heap.size (fun k_ => (P1_ k_ ∨ w.heap.size ≤ k_)) (.slice (some ⟨go6, 0, none⟩) x1_2.length co6) y112 := (by rw [hw, Ny112.out]; exact HP31.1); clear HP31; have n0_ := Aside0.mk (hp_); have n1_ := Aside0.mk (blk_grown (g := gb108) (o := .cells #[.int .i64 a0_0, .int .i64 a0_1, .string a0_2] 37 (0, 0)) (by (with_reducible repeat (first | refine blk_drewN ?_ _ | refine blk_drew ?_ | refine blk_alloc ?_ _)); exact BK108.out) hg (Kd.R_ne HO_1.out BK108.out (by decide))); have n2_ := Aside0.mk ((by rw [hw]; exact below_set (HB.out) GB6.out : Below w0.heap.size w0 w32)); have n3_ := Aside0.mk (Kept.of_grown (S := (fun k_ => P1_ k_)) hg (by repeat (first | (with_reducible first | exact HK.out | apply Kept.alloc | apply Kept.drewN | apply Kept.drew | refine Kept.setCell ?_ (.inr GW108.out) _) | exact HK.out)) (fun k_ e_ => (HO_1.out.1 k_ e_))); clear HO_1; clear BK108; clear HB; clear HK; have HO_1 := n0_; have BK108 := n1_; have HB := n2_; have HK := n3_; clear n0_ n1_ n2_ n3_; clear hg hw hp_))
                    (try simp only [← hl1_2])
                    go_roundg kj11
                    case measure => have := HK1.out; have := HK2.out; have := HJ11.out; omega
                    case rel => exact ⟨(y112), (true), (wrap64 (x8_2 + 1)), (by first | rfl | (simp; done) | (simp [*]; done)), (by first | rfl | (simp; done) | (simp [*]; done)), H', ⟨by have := HK1.out; have := HK2.out; have := HJ11.out; omega⟩, ⟨by (try simp only [hl1_1]); (try simp only [hl1_2]); (with_reducible repeat (first | apply Kd.R_alloc | apply Kd.R_drewN | apply Kd.R_drew)); exact HO_1.out⟩, ⟨by (try simp only [hl1_1]); (try simp only [hl1_2]); (with_reducible repeat (first | refine blk_drewN ?_ _ | refine blk_drew ?_ | refine blk_alloc ?_ _)); exact BK108.out⟩, ⟨by repeat (first | (with_reducible first | exact HK.out | apply Kept.alloc | apply Kept.drewN | apply Kept.drew | refine Kept.setCell ?_ (.inr GW108.out) _) | exact HK.out)⟩, ⟨by repeat (first | (with_reducible first | exact HB.out | apply below_alloc | apply pw_below_drewN | apply below_drew1 | refine below_set ?_ GE108.out) | exact HB.out)⟩⟩
                   ·rw [if_neg c28] at H
                    exact absurd H (by simp)
                  ·rw [if_neg c27] at H
                   exact absurd H (by simp)
                 ·replace c26 := Bool.eq_false_iff.mpr c26
                  subst c26
                  have H1 : (if (wrap64 ((Int.tmod x8_2 a0_1) + 1)) < a0_1 then (if 0 ≤ (wrap64 (x8_2 + 1)) then (if (wrap64 (x8_2 + 1)) < (x1_2.length : Int) then (if rdOf false x1_2 (wrap64 (x8_2 + 1)) = true then (if 0 ≤ x8_2 then (if x8_2 < (x1_2.length : Int) then (spec_l10Reach.l1 kj11 (x1_2.set (x8_2 : Int).toNat true) true (wrap64 (x8_2 + 1)) a0_0 a0_1 a0_2) else (none)) else (none)) else (if x8_2 ≥ a0_1 then (if 0 ≤ (wrap64 (x8_2 - a0_1)) then (if (wrap64 (x8_2 - a0_1)) < (x1_2.length : Int) then (if rdOf false x1_2 (wrap64 (x8_2 - a0_1)) = true then (if 0 ≤ x8_2 then (if x8_2 < (x1_2.length : Int) then (spec_l10Reach.l1 kj11 (x1_2.set (x8_2 : Int).toNat true) true (wrap64 (x8_2 + 1)) a0_0 a0_1 a0_2) else (none)) else (none)) else (if (wrap64 (x8_2 + a0_1)) < (x1_2.length : Int) then (if 0 ≤ (wrap64 (x8_2 + a0_1)) then (if rdOf false x1_2 (wrap64 (x8_2 + a0_1)) = true then (if 0 ≤ x8_2 then (if x8_2 < (x1_2.length : Int) then (spec_l10Reach.l1 kj11 (x1_2.set (x8_2 : Int).toNat true) true (wrap64 (x8_2 + 1)) a0_0 a0_1 a0_2) else (none)) else (none)) else (spec_l10Reach.l1 kj11 x1_2 x7_2 (wrap64 (x8_2 + 1)) a0_0 a0_1 a0_2)) else (none)) else (spec_l10Reach.l1 kj11 x1_2 x7_2 (wrap64 (x8_2 + 1)) a0_0 a0_1 a0_2))) else (none)) else (none)) else (if (wrap64 (x8_2 + a0_1)) < (x1_2.length : Int) then (if 0 ≤ (wrap64 (x8_2 + a0_1)) then (if rdOf false x1_2 (wrap64 (x8_2 + a0_1)) = true then (if 0 ≤ x8_2 then (if x8_2 < (x1_2.length : Int) then (spec_l10Reach.l1 kj11 (x1_2.set (x8_2 : Int).toNat true) true (wrap64 (x8_2 + 1)) a0_0 a0_1 a0_2) else (none)) else (none)) else (spec_l10Reach.l1 kj11 x1_2 x7_2 (wrap64 (x8_2 + 1)) a0_0 a0_1 a0_2)) else (none)) else (spec_l10Reach.l1 kj11 x1_2 x7_2 (wrap64 (x8_2 + 1)) a0_0 a0_1 a0_2)))) else (none)) else (none)) else (if x8_2 ≥ a0_1 then (if 0 ≤ (wrap64 (x8_2 - a0_1)) then (if (wrap64 (x8_2 - a0_1)) < (x1_2.length : Int) then (if rdOf false x1_2 (wrap64 (x8_2 - a0_1)) = true then (if 0 ≤ x8_2 then (if x8_2 < (x1_2.length : Int) then (spec_l10Reach.l1 kj11 (x1_2.set (x8_2 : Int).toNat true) true (wrap64 (x8_2 + 1)) a0_0 a0_1 a0_2) else (none)) else (none)) else (if (wrap64 (x8_2 + a0_1)) < (x1_2.length : Int) then (if 0 ≤ (wrap64 (x8_2 + a0_1)) then (if rdOf false x1_2 (wrap64 (x8_2 + a0_1)) = true then (if 0 ≤ x8_2 then (if x8_2 < (x1_2.length : Int) then (spec_l10Reach.l1 kj11 (x1_2.set (x8_2 : Int).toNat true) true (wrap64 (x8_2 + 1)) a0_0 a0_1 a0_2) else (none)) else (none)) else (spec_l10Reach.l1 kj11 x1_2 x7_2 (wrap64 (x8_2 + 1)) a0_0 a0_1 a0_2)) else (none)) else (spec_l10Reach.l1 kj11 x1_2 x7_2 (wrap64 (x8_2 + 1)) a0_0 a0_1 a0_2))) else (none)) else (none)) else (if (wrap64 (x8_2 + a0_1)) < (x1_2.length : Int) then (if 0 ≤ (wrap64 (x8_2 + a0_1)) then (if rdOf false x1_2 (wrap64 (x8_2 + a0_1)) = true then (if 0 ≤ x8_2 then (if x8_2 < (x1_2.length : Int) then (spec_l10Reach.l1 kj11 (x1_2.set (x8_2 : Int).toNat true) true (wrap64 (x8_2 + 1)) a0_0 a0_1 a0_2) else (none)) else (none)) else (spec_l10Reach.l1 kj11 x1_2 x7_2 (wrap64 (x8_2 + 1)) a0_0 a0_1 a0_2)) else (none)) else (spec_l10Reach.l1 kj11 x1_2 x7_2 (wrap64 (x8_2 + 1)) a0_0 a0_1 a0_2)))) = some r := by rw [if_neg (show ¬ (false = true) by decide)] at H; exact H
                  clear H
                  have H := H1
                  clear H1
                  by_cases c33 : (wrap64 ((Int.tmod x8_2 a0_1) + 1)) < a0_1
                  ·rw [if_pos c33] at H
                   have c33b0 : decide ((wrap64 ((Int.tmod x8_2 a0_1) + 1)) < a0_1) = true := decide_eq_true c33
                   clear c33
                   obtain ⟨ji34, hji34⟩ : ∃ j_ : Int, (wrap64 (x8_2 + 1)) = j_ := ⟨_, rfl⟩
                   replace H : (if 0 ≤ (ji34) then (if (ji34) < (x1_2.length : Int) then (if rdOf false x1_2 (ji34) = true then (if 0 ≤ x8_2 then (if x8_2 < (x1_2.length : Int) then (spec_l10Reach.l1 kj11 (x1_2.set (x8_2 : Int).toNat true) true ji34 a0_0 a0_1 a0_2) else (none)) else (none)) else (if x8_2 ≥ a0_1 then (if 0 ≤ (wrap64 (x8_2 - a0_1)) then (if (wrap64 (x8_2 - a0_1)) < (x1_2.length : Int) then (if rdOf false x1_2 (wrap64 (x8_2 - a0_1)) = true then (if 0 ≤ x8_2 then (if x8_2 < (x1_2.length : Int) then (spec_l10Reach.l1 kj11 (x1_2.set (x8_2 : Int).toNat true) true ji34 a0_0 a0_1 a0_2) else (none)) else (none)) else (if (wrap64 (x8_2 + a0_1)) < (x1_2.length : Int) then (if 0 ≤ (wrap64 (x8_2 + a0_1)) then (if rdOf false x1_2 (wrap64 (x8_2 + a0_1)) = true then (if 0 ≤ x8_2 then (if x8_2 < (x1_2.length : Int) then (spec_l10Reach.l1 kj11 (x1_2.set (x8_2 : Int).toNat true) true ji34 a0_0 a0_1 a0_2) else (none)) else (none)) else (spec_l10Reach.l1 kj11 x1_2 x7_2 ji34 a0_0 a0_1 a0_2)) else (none)) else (spec_l10Reach.l1 kj11 x1_2 x7_2 ji34 a0_0 a0_1 a0_2))) else (none)) else (none)) else (if (wrap64 (x8_2 + a0_1)) < (x1_2.length : Int) then (if 0 ≤ (wrap64 (x8_2 + a0_1)) then (if rdOf false x1_2 (wrap64 (x8_2 + a0_1)) = true then (if 0 ≤ x8_2 then (if x8_2 < (x1_2.length : Int) then (spec_l10Reach.l1 kj11 (x1_2.set (x8_2 : Int).toNat true) true ji34 a0_0 a0_1 a0_2) else (none)) else (none)) else (spec_l10Reach.l1 kj11 x1_2 x7_2 ji34 a0_0 a0_1 a0_2)) else (none)) else (spec_l10Reach.l1 kj11 x1_2 x7_2 ji34 a0_0 a0_1 a0_2)))) else (none)) else (none)) = some r := by first | (rw [hji34] at H; exact H) | (simp only [hji34] at H ⊢; exact H)
                   have hji34w : (IntKind.i64.wrap (x8_2 + 1)) = ji34 := (i64_w _).trans hji34
                   by_cases c35 : 0 ≤ (ji34)
                   ·rw [if_pos c35] at H
                    have c35b0 : decide (0 ≤ (ji34)) = true := decide_eq_true c35
                    clear c35
                    by_cases c36 : (ji34) < (x1_2.length : Int)
                    ·rw [if_pos c36] at H
                     have c36b0 : decide ((ji34) < (x1_2.length : Int)) = true := decide_eq_true c36
                     clear c36
                     obtain ⟨bq37, hbq37⟩ : ∃ b_ : Bool, b_ = (rdOf false x1_2 (ji34)) := ⟨_, rfl⟩
                     replace H : (if bq37 = true then (if 0 ≤ x8_2 then (if x8_2 < (x1_2.length : Int) then (spec_l10Reach.l1 kj11 (x1_2.set (x8_2 : Int).toNat true) true ji34 a0_0 a0_1 a0_2) else (none)) else (none)) else (if x8_2 ≥ a0_1 then (if 0 ≤ (wrap64 (x8_2 - a0_1)) then (if (wrap64 (x8_2 - a0_1)) < (x1_2.length : Int) then (if rdOf false x1_2 (wrap64 (x8_2 - a0_1)) = true then (if 0 ≤ x8_2 then (if x8_2 < (x1_2.length : Int) then (spec_l10Reach.l1 kj11 (x1_2.set (x8_2 : Int).toNat true) true ji34 a0_0 a0_1 a0_2) else (none)) else (none)) else (if (wrap64 (x8_2 + a0_1)) < (x1_2.length : Int) then (if 0 ≤ (wrap64 (x8_2 + a0_1)) then (if rdOf false x1_2 (wrap64 (x8_2 + a0_1)) = true then (if 0 ≤ x8_2 then (if x8_2 < (x1_2.length : Int) then (spec_l10Reach.l1 kj11 (x1_2.set (x8_2 : Int).toNat true) true ji34 a0_0 a0_1 a0_2) else (none)) else (none)) else (spec_l10Reach.l1 kj11 x1_2 x7_2 ji34 a0_0 a0_1 a0_2)) else (none)) else (spec_l10Reach.l1 kj11 x1_2 x7_2 ji34 a0_0 a0_1 a0_2))) else (none)) else (none)) else (if (wrap64 (x8_2 + a0_1)) < (x1_2.length : Int) then (if 0 ≤ (wrap64 (x8_2 + a0_1)) then (if rdOf false x1_2 (wrap64 (x8_2 + a0_1)) = true then (if 0 ≤ x8_2 then (if x8_2 < (x1_2.length : Int) then (spec_l10Reach.l1 kj11 (x1_2.set (x8_2 : Int).toNat true) true ji34 a0_0 a0_1 a0_2) else (none)) else (none)) else (spec_l10Reach.l1 kj11 x1_2 x7_2 ji34 a0_0 a0_1 a0_2)) else (none)) else (spec_l10Reach.l1 kj11 x1_2 x7_2 ji34 a0_0 a0_1 a0_2)))) = some r := by rw [← hbq37] at H; exact H
                     have Nbq37 := Aside0.mk hbq37
                     clear hbq37
                     by_cases c38 : bq37 = true
                     ·subst c38
                      have H1 : (if 0 ≤ x8_2 then (if x8_2 < (x1_2.length : Int) then (spec_l10Reach.l1 kj11 (x1_2.set (x8_2 : Int).toNat true) true ji34 a0_0 a0_1 a0_2) else (none)) else (none)) = some r := by rw [if_pos rfl] at H; exact H
                      clear H
                      have H := H1
                      clear H1
                      by_cases c39 : 0 ≤ x8_2
                      ·rw [if_pos c39] at H
                       have c39b0 : decide (0 ≤ x8_2) = true := decide_eq_true c39
                       clear c39
                       by_cases c40 : x8_2 < (x1_2.length : Int)
                       ·rw [if_pos c40] at H
                        have c40b0 : decide (x8_2 < (x1_2.length : Int)) = true := decide_eq_true c40
                        clear c40
                        obtain ⟨y114, hy114⟩ : ∃ y_ : List Bool, y_ = (x1_2.set (x8_2 : Int).toNat true) := ⟨_, rfl⟩
                        replace H : (spec_l10Reach.l1 kj11 y114 true ji34 a0_0 a0_1 a0_2) = some r := by first | (rw [hy114]; with_reducible exact H) | (have H2_ := (Option.bind_some _ _).symm.trans H; rw [hy114]; with_reducible exact H2_) | (have H2_ := (Option.bind_some _ _).symm.trans H; with_reducible exact H2_) | with_reducible exact H | (rw [hy114]; exact H) | exact H
                        have Ny114 := Aside0.mk hy114
                        clear hy114
                        have H' := Aside0.mk H
                        clear H
                        have hcz42_0 : wc.cell? ⟨gb108, 0, none⟩ = some (.int .i64 a0_0) := (blk_cell BK108.out 0).trans rfl
                        have hcz42_1 : wc.cell? ⟨gb108, 1, none⟩ = some (.int .i64 a0_1) := (blk_cell BK108.out 1).trans rfl
                        have hcz42_2 : wc.cell? ⟨gb108, 2, none⟩ = some (.string a0_2) := (blk_cell BK108.out 2).trans rfl
                        have hfz42_0 := blk_frozen BK108.out 0
                        have hfz42_1 := blk_frozen BK108.out 1
                        have hfz42_2 := blk_frozen BK108.out 2
                        have p111 : 0 ≤ ((ji22) : Int) := of_decide_eq_true (by first | (with_reducible assumption) | assumption)
                        have q111 : (ji22) < (x1_2.length : Int) := of_decide_eq_true (by first | (with_reducible assumption) | assumption)
                        obtain ⟨ad111, e111, hx111_0⟩ := Kd.at_bool (Kd.R_reads' HO_1.out).2.2 (ji22) p111 q111
                        (try rw [← Nbq25.out] at hx111_0)
                        (try rw [← Nbq37.out] at hx111_0)
                        obtain rfl : (⟨go6, 0, none⟩ : Addr) = ad111 := (by injection e111)
                        (first | simp only [add_plain] at hx111_0 | simp only [add_at] at hx111_0 | simp only [Addr.add, Nat.zero_add] at hx111_0 | skip)
                        replace p111 := eq_true p111
                        replace q111 := eq_true q111
                        have p113 : 0 ≤ ((ji34) : Int) := of_decide_eq_true (by first | (with_reducible assumption) | assumption)
                        have q113 : (ji34) < (x1_2.length : Int) := of_decide_eq_true (by first | (with_reducible assumption) | assumption)
                        obtain ⟨ad113, e113, hx113_0⟩ := Kd.at_bool (Kd.R_reads' HO_1.out).2.2 (ji34) p113 q113
                        (try rw [← Nbq25.out] at hx113_0)
                        (try rw [← Nbq37.out] at hx113_0)
                        obtain rfl : (⟨go6, 0, none⟩ : Addr) = ad113 := (by injection e113)
                        (first | simp only [add_plain] at hx113_0 | simp only [add_at] at hx113_0 | simp only [Addr.add, Nat.zero_add] at hx113_0 | skip)
                        replace p113 := eq_true p113
                        replace q113 := eq_true q113
                        have p41 : 0 ≤ (x8_2 : Int) := of_decide_eq_true (by first | (with_reducible assumption) | assumption)
                        have q41 : (x8_2 : Int) < ((x1_2.length : Int) : Int) := of_decide_eq_true (by first | (with_reducible assumption) | assumption)
                        obtain ⟨hx41_0, hf41_0⟩ := Kd.R_celln false HO_1.out (x8_2 : Int) p41 q41
                        replace p41 := eq_true p41
                        replace q41 := eq_true q41
                        have HP43 := Kd.R_putg HO_1.out (x8_2 : Int) true
                        go_wp2_with (first | ((with_reducible refine gate_store (t := 4) (p := 95) rfl ?_); refine store_event (t := 4) (p := 95) (v := ?vo_w44) (w1 := (wc.setCell ⟨go6, (x8_2 : Int).toNat, none⟩ (.bool true))) ?hg ?ho ?hn ?hr ?_; (case ho => rfl); (case hg => rfl); (case hn => rfl); (case hr => first | (go_simp; done) | (go_simp; rfl)); intro w44 hw; have hg : wc.grownBy w44 (some go6) := (by rw [hw]; exact HP43.2); have hp_ : Kd.R Kd.bool 4 w44 w0.heap.size (fun k_ => (P1_ k_ ∨ w.heap.size ≤ k_)) (.slice (some ⟨go6, 0, none⟩) x1_2.length co6) y114 := (by rw [hw, Ny114.out]; exact HP43.1); clear HP43; have n0_ := Aside0.mk (hp_); have n1_ := Aside0.mk (blk_grown (g := gb108) (o := .cells #[.int .i64 a0_0, .int .i64 a0_1, .string a0_2] 37 (0, 0)) (by (with_reducible repeat (first | refine blk_drewN ?_ _ | refine blk_drew ?_ | refine blk_alloc ?_ _)); exact BK108.out) hg (Kd.R_ne HO_1.out BK108.out (by decide))); have n2_ := Aside0.mk ((by rw [hw]; exact below_set (HB.out) GB6.out : Below w0.heap.size w0 w44)); have n3_ := Aside0.mk (Kept.of_grown (S := (fun k_ => P1_ k_)) hg (by repeat (first | (with_reducible first | exact HK.out | apply Kept.alloc | apply Kept.drewN | apply Kept.drew | refine Kept.setCell ?_ (.inr GW108.out) _) | exact HK.out)) (fun k_ e_ => (HO_1.out.1 k_ e_))); clear HO_1; clear BK108; clear HB; clear HK; have HO_1 := n0_; have BK108 := n1_; have HB := n2_; have HK := n3_; clear n0_ n1_ n2_ n3_; clear hg hw hp_))
                        (try simp only [← hl1_2])
                        go_roundg kj11
                        case measure => have := HK1.out; have := HK2.out; have := HJ11.out; omega
                        case rel => exact ⟨(y114), (true), (ji34), (by first | rfl | (simp; done) | (simp [*]; done)), (by first | rfl | (simp; done) | (simp only [← hji34] <;> (first | rfl | simp)) | (simp [*]; done)), H', ⟨by have := HK1.out; have := HK2.out; have := HJ11.out; omega⟩, ⟨by (try simp only [hl1_1]); (try simp only [hl1_2]); (with_reducible repeat (first | apply Kd.R_alloc | apply Kd.R_drewN | apply Kd.R_drew)); exact HO_1.out⟩, ⟨by (try simp only [hl1_1]); (try simp only [hl1_2]); (with_reducible repeat (first | refine blk_drewN ?_ _ | refine blk_drew ?_ | refine blk_alloc ?_ _)); exact BK108.out⟩, ⟨by repeat (first | (with_reducible first | exact HK.out | apply Kept.alloc | apply Kept.drewN | apply Kept.drew | refine Kept.setCell ?_ (.inr GW108.out) _) | exact HK.out)⟩, ⟨by repeat (first | (with_reducible first | exact HB.out | apply below_alloc | apply pw_below_drewN | apply below_drew1 | refine below_set ?_ GE108.out) | exact HB.out)⟩⟩
                       ·rw [if_neg c40] at H
                        exact absurd H (by simp)
                      ·rw [if_neg c39] at H
                       exact absurd H (by simp)
                     ·replace c38 := Bool.eq_false_iff.mpr c38
                      subst c38
                      have H1 : (if x8_2 ≥ a0_1 then (if 0 ≤ (wrap64 (x8_2 - a0_1)) then (if (wrap64 (x8_2 - a0_1)) < (x1_2.length : Int) then (if rdOf false x1_2 (wrap64 (x8_2 - a0_1)) = true then (if 0 ≤ x8_2 then (if x8_2 < (x1_2.length : Int) then (spec_l10Reach.l1 kj11 (x1_2.set (x8_2 : Int).toNat true) true ji34 a0_0 a0_1 a0_2) else (none)) else (none)) else (if (wrap64 (x8_2 + a0_1)) < (x1_2.length : Int) then (if 0 ≤ (wrap64 (x8_2 + a0_1)) then (if rdOf false x1_2 (wrap64 (x8_2 + a0_1)) = true then (if 0 ≤ x8_2 then (if x8_2 < (x1_2.length : Int) then (spec_l10Reach.l1 kj11 (x1_2.set (x8_2 : Int).toNat true) true ji34 a0_0 a0_1 a0_2) else (none)) else (none)) else (spec_l10Reach.l1 kj11 x1_2 x7_2 ji34 a0_0 a0_1 a0_2)) else (none)) else (spec_l10Reach.l1 kj11 x1_2 x7_2 ji34 a0_0 a0_1 a0_2))) else (none)) else (none)) else (if (wrap64 (x8_2 + a0_1)) < (x1_2.length : Int) then (if 0 ≤ (wrap64 (x8_2 + a0_1)) then (if rdOf false x1_2 (wrap64 (x8_2 + a0_1)) = true then (if 0 ≤ x8_2 then (if x8_2 < (x1_2.length : Int) then (spec_l10Reach.l1 kj11 (x1_2.set (x8_2 : Int).toNat true) true ji34 a0_0 a0_1 a0_2) else (none)) else (none)) else (spec_l10Reach.l1 kj11 x1_2 x7_2 ji34 a0_0 a0_1 a0_2)) else (none)) else (spec_l10Reach.l1 kj11 x1_2 x7_2 ji34 a0_0 a0_1 a0_2))) = some r := by rw [if_neg (show ¬ (false = true) by decide)] at H; exact H
                      clear H
                      have H := H1
                      clear H1
                      by_cases c45 : x8_2 ≥ a0_1
                      ·rw [if_pos c45] at H
                       have c45b0 : decide (a0_1 ≤ x8_2) = true := decide_eq_true c45
                       clear c45
                       obtain ⟨ji46, hji46⟩ : ∃ j_ : Int, (wrap64 (x8_2 - a0_1)) = j_ := ⟨_, rfl⟩
                       replace H : (if 0 ≤ (ji46) then (if (ji46) < (x1_2.length : Int) then (if rdOf false x1_2 (ji46) = true then (if 0 ≤ x8_2 then (if x8_2 < (x1_2.length : Int) then (spec_l10Reach.l1 kj11 (x1_2.set (x8_2 : Int).toNat true) true ji34 a0_0 a0_1 a0_2) else (none)) else (none)) else (if (wrap64 (x8_2 + a0_1)) < (x1_2.length : Int) then (if 0 ≤ (wrap64 (x8_2 + a0_1)) then (if rdOf false x1_2 (wrap64 (x8_2 + a0_1)) = true then (if 0 ≤ x8_2 then (if x8_2 < (x1_2.length : Int) then (spec_l10Reach.l1 kj11 (x1_2.set (x8_2 : Int).toNat true) true ji34 a0_0 a0_1 a0_2) else (none)) else (none)) else (spec_l10Reach.l1 kj11 x1_2 x7_2 ji34 a0_0 a0_1 a0_2)) else (none)) else (spec_l10Reach.l1 kj11 x1_2 x7_2 ji34 a0_0 a0_1 a0_2))) else (none)) else (none)) = some r := by first | (rw [hji46] at H; exact H) | (simp only [hji46] at H ⊢; exact H)
                       have hji46w : (IntKind.i64.wrap (x8_2 - a0_1)) = ji46 := (i64_w _).trans hji46
                       by_cases c47 : 0 ≤ (ji46)
                       ·rw [if_pos c47] at H
                        have c47b0 : decide (0 ≤ (ji46)) = true := decide_eq_true c47
                        clear c47
                        by_cases c48 : (ji46) < (x1_2.length : Int)
                        ·rw [if_pos c48] at H
                         have c48b0 : decide ((ji46) < (x1_2.length : Int)) = true := decide_eq_true c48
                         clear c48
                         obtain ⟨bq49, hbq49⟩ : ∃ b_ : Bool, b_ = (rdOf false x1_2 (ji46)) := ⟨_, rfl⟩
                         replace H : (if bq49 = true then (if 0 ≤ x8_2 then (if x8_2 < (x1_2.length : Int) then (spec_l10Reach.l1 kj11 (x1_2.set (x8_2 : Int).toNat true) true ji34 a0_0 a0_1 a0_2) else (none)) else (none)) else (if (wrap64 (x8_2 + a0_1)) < (x1_2.length : Int) then (if 0 ≤ (wrap64 (x8_2 + a0_1)) then (if rdOf false x1_2 (wrap64 (x8_2 + a0_1)) = true then (if 0 ≤ x8_2 then (if x8_2 < (x1_2.length : Int) then (spec_l10Reach.l1 kj11 (x1_2.set (x8_2 : Int).toNat true) true ji34 a0_0 a0_1 a0_2) else (none)) else (none)) else (spec_l10Reach.l1 kj11 x1_2 x7_2 ji34 a0_0 a0_1 a0_2)) else (none)) else (spec_l10Reach.l1 kj11 x1_2 x7_2 ji34 a0_0 a0_1 a0_2))) = some r := by rw [← hbq49] at H; exact H
                         have Nbq49 := Aside0.mk hbq49
                         clear hbq49
                         by_cases c50 : bq49 = true
                         ·subst c50
                          have H1 : (if 0 ≤ x8_2 then (if x8_2 < (x1_2.length : Int) then (spec_l10Reach.l1 kj11 (x1_2.set (x8_2 : Int).toNat true) true ji34 a0_0 a0_1 a0_2) else (none)) else (none)) = some r := by rw [if_pos rfl] at H; exact H
                          clear H
                          have H := H1
                          clear H1
                          by_cases c51 : 0 ≤ x8_2
                          ·rw [if_pos c51] at H
                           have c51b0 : decide (0 ≤ x8_2) = true := decide_eq_true c51
                           clear c51
                           by_cases c52 : x8_2 < (x1_2.length : Int)
                           ·rw [if_pos c52] at H
                            have c52b0 : decide (x8_2 < (x1_2.length : Int)) = true := decide_eq_true c52
                            clear c52
                            obtain ⟨y116, hy116⟩ : ∃ y_ : List Bool, y_ = (x1_2.set (x8_2 : Int).toNat true) := ⟨_, rfl⟩
                            replace H : (spec_l10Reach.l1 kj11 y116 true ji34 a0_0 a0_1 a0_2) = some r := by first | (rw [hy116]; with_reducible exact H) | (have H2_ := (Option.bind_some _ _).symm.trans H; rw [hy116]; with_reducible exact H2_) | (have H2_ := (Option.bind_some _ _).symm.trans H; with_reducible exact H2_) | with_reducible exact H | (rw [hy116]; exact H) | exact H
                            have Ny116 := Aside0.mk hy116
                            clear hy116
                            have H' := Aside0.mk H
                            clear H
                            have hcz54_0 : wc.cell? ⟨gb108, 0, none⟩ = some (.int .i64 a0_0) := (blk_cell BK108.out 0).trans rfl
                            have hcz54_1 : wc.cell? ⟨gb108, 1, none⟩ = some (.int .i64 a0_1) := (blk_cell BK108.out 1).trans rfl
                            have hcz54_2 : wc.cell? ⟨gb108, 2, none⟩ = some (.string a0_2) := (blk_cell BK108.out 2).trans rfl
                            have hfz54_0 := blk_frozen BK108.out 0
                            have hfz54_1 := blk_frozen BK108.out 1
                            have hfz54_2 := blk_frozen BK108.out 2
                            have p111 : 0 ≤ ((ji22) : Int) := of_decide_eq_true (by first | (with_reducible assumption) | assumption)
                            have q111 : (ji22) < (x1_2.length : Int) := of_decide_eq_true (by first | (with_reducible assumption) | assumption)
                            obtain ⟨ad111, e111, hx111_0⟩ := Kd.at_bool (Kd.R_reads' HO_1.out).2.2 (ji22) p111 q111
                            (try rw [← Nbq25.out] at hx111_0)
                            (try rw [← Nbq37.out] at hx111_0)
                            (try rw [← Nbq49.out] at hx111_0)
                            obtain rfl : (⟨go6, 0, none⟩ : Addr) = ad111 := (by injection e111)
                            (first | simp only [add_plain] at hx111_0 | simp only [add_at] at hx111_0 | simp only [Addr.add, Nat.zero_add] at hx111_0 | skip)
                            replace p111 := eq_true p111
                            replace q111 := eq_true q111
                            have p113 : 0 ≤ ((ji34) : Int) := of_decide_eq_true (by first | (with_reducible assumption) | assumption)
                            have q113 : (ji34) < (x1_2.length : Int) := of_decide_eq_true (by first | (with_reducible assumption) | assumption)
                            obtain ⟨ad113, e113, hx113_0⟩ := Kd.at_bool (Kd.R_reads' HO_1.out).2.2 (ji34) p113 q113
                            (try rw [← Nbq25.out] at hx113_0)
                            (try rw [← Nbq37.out] at hx113_0)
                            (try rw [← Nbq49.out] at hx113_0)
                            obtain rfl : (⟨go6, 0, none⟩ : Addr) = ad113 := (by injection e113)
                            (first | simp only [add_plain] at hx113_0 | simp only [add_at] at hx113_0 | simp only [Addr.add, Nat.zero_add] at hx113_0 | skip)
                            replace p113 := eq_true p113
                            replace q113 := eq_true q113
                            have p115 : 0 ≤ ((ji46) : Int) := of_decide_eq_true (by first | (with_reducible assumption) | assumption)
                            have q115 : (ji46) < (x1_2.length : Int) := of_decide_eq_true (by first | (with_reducible assumption) | assumption)
                            obtain ⟨ad115, e115, hx115_0⟩ := Kd.at_bool (Kd.R_reads' HO_1.out).2.2 (ji46) p115 q115
                            (try rw [← Nbq25.out] at hx115_0)
                            (try rw [← Nbq37.out] at hx115_0)
                            (try rw [← Nbq49.out] at hx115_0)
                            obtain rfl : (⟨go6, 0, none⟩ : Addr) = ad115 := (by injection e115)
                            (first | simp only [add_plain] at hx115_0 | simp only [add_at] at hx115_0 | simp only [Addr.add, Nat.zero_add] at hx115_0 | skip)
                            replace p115 := eq_true p115
                            replace q115 := eq_true q115
                            have p53 : 0 ≤ (x8_2 : Int) := of_decide_eq_true (by first | (with_reducible assumption) | assumption)
                            have q53 : (x8_2 : Int) < ((x1_2.length : Int) : Int) := of_decide_eq_true (by first | (with_reducible assumption) | assumption)
                            obtain ⟨hx53_0, hf53_0⟩ := Kd.R_celln false HO_1.out (x8_2 : Int) p53 q53
                            replace p53 := eq_true p53
                            replace q53 := eq_true q53
                            have HP55 := Kd.R_putg HO_1.out (x8_2 : Int) true
                            go_wp2_with (first | ((with_reducible refine gate_store (t := 4) (p := 95) rfl ?_); refine store_event (t := 4) (p := 95) (v := ?vo_w56) (w1 := (wc.setCell ⟨go6, (x8_2 : Int).toNat, none⟩ (.bool true))) ?hg ?ho ?hn ?hr ?_; (case ho => rfl); (case hg => rfl); (case hn => rfl); (case hr => first | (go_simp; done) | (go_simp; rfl)); intro w56 hw; have hg : wc.grownBy w56 (some go6) := (by rw [hw]; exact HP55.2); have hp_ : Kd.R Kd.bool 4 w56 w0.heap.size (fun k_ => (P1_ k_ ∨ w.heap.size ≤ k_)) (.slice (some ⟨go6, 0, none⟩) x1_2.length co6) y116 := (by rw [hw, Ny116.out]; exact HP55.1); clear HP55; have n0_ := Aside0.mk (hp_); have n1_ := Aside0.mk (blk_grown (g := gb108) (o := .cells #[.int .i64 a0_0, .int .i64 a0_1, .string a0_2] 37 (0, 0)) (by (with_reducible repeat (first | refine blk_drewN ?_ _ | refine blk_drew ?_ | refine blk_alloc ?_ _)); exact BK108.out) hg (Kd.R_ne HO_1.out BK108.out (by decide))); have n2_ := Aside0.mk ((by rw [hw]; exact below_set (HB.out) GB6.out : Below w0.heap.size w0 w56)); have n3_ := Aside0.mk (Kept.of_grown (S := (fun k_ => P1_ k_)) hg (by repeat (first | (with_reducible first | exact HK.out | apply Kept.alloc | apply Kept.drewN | apply Kept.drew | refine Kept.setCell ?_ (.inr GW108.out) _) | exact HK.out)) (fun k_ e_ => (HO_1.out.1 k_ e_))); clear HO_1; clear BK108; clear HB; clear HK; have HO_1 := n0_; have BK108 := n1_; have HB := n2_; have HK := n3_; clear n0_ n1_ n2_ n3_; clear hg hw hp_))
                            (try simp only [← hl1_2])
                            go_roundg kj11
                            case measure => have := HK1.out; have := HK2.out; have := HJ11.out; omega
                            case rel => exact ⟨(y116), (true), (ji34), (by first | rfl | (simp; done) | (simp [*]; done)), (by first | rfl | (simp; done) | (simp only [← hji34] <;> (first | rfl | simp)) | (simp [*]; done)), H', ⟨by have := HK1.out; have := HK2.out; have := HJ11.out; omega⟩, ⟨by (try simp only [hl1_1]); (try simp only [hl1_2]); (with_reducible repeat (first | apply Kd.R_alloc | apply Kd.R_drewN | apply Kd.R_drew)); exact HO_1.out⟩, ⟨by (try simp only [hl1_1]); (try simp only [hl1_2]); (with_reducible repeat (first | refine blk_drewN ?_ _ | refine blk_drew ?_ | refine blk_alloc ?_ _)); exact BK108.out⟩, ⟨by repeat (first | (with_reducible first | exact HK.out | apply Kept.alloc | apply Kept.drewN | apply Kept.drew | refine Kept.setCell ?_ (.inr GW108.out) _) | exact HK.out)⟩, ⟨by repeat (first | (with_reducible first | exact HB.out | apply below_alloc | apply pw_below_drewN | apply below_drew1 | refine below_set ?_ GE108.out) | exact HB.out)⟩⟩
                           ·rw [if_neg c52] at H
                            exact absurd H (by simp)
                          ·rw [if_neg c51] at H
                           exact absurd H (by simp)
                         ·replace c50 := Bool.eq_false_iff.mpr c50
                          subst c50
                          have H1 : (if (wrap64 (x8_2 + a0_1)) < (x1_2.length : Int) then (if 0 ≤ (wrap64 (x8_2 + a0_1)) then (if rdOf false x1_2 (wrap64 (x8_2 + a0_1)) = true then (if 0 ≤ x8_2 then (if x8_2 < (x1_2.length : Int) then (spec_l10Reach.l1 kj11 (x1_2.set (x8_2 : Int).toNat true) true ji34 a0_0 a0_1 a0_2) else (none)) else (none)) else (spec_l10Reach.l1 kj11 x1_2 x7_2 ji34 a0_0 a0_1 a0_2)) else (none)) else (spec_l10Reach.l1 kj11 x1_2 x7_2 ji34 a0_0 a0_1 a0_2)) = some r := by rw [if_neg (show ¬ (false = true) by decide)] at H; exact H
                          clear H
                          have H := H1
                          clear H1
                          by_cases c57 : (wrap64 (x8_2 + a0_1)) < (x1_2.length : Int)
                          ·rw [if_pos c57] at H
                           have c57b0 : decide ((wrap64 (x8_2 + a0_1)) < (x1_2.length : Int)) = true := decide_eq_true c57
                           clear c57
                           obtain ⟨ji58, hji58⟩ : ∃ j_ : Int, (wrap64 (x8_2 + a0_1)) = j_ := ⟨_, rfl⟩
                           replace H : (if 0 ≤ (ji58) then (if rdOf false x1_2 (ji58) = true then (if 0 ≤ x8_2 then (if x8_2 < (x1_2.length : Int) then (spec_l10Reach.l1 kj11 (x1_2.set (x8_2 : Int).toNat true) true ji34 a0_0 a0_1 a0_2) else (none)) else (none)) else (spec_l10Reach.l1 kj11 x1_2 x7_2 ji34 a0_0 a0_1 a0_2)) else (none)) = some r := by first | (rw [hji58] at H; exact H) | (simp only [hji58] at H ⊢; exact H)
                           (try rw [hji58] at c57b0)
                           have hji58w : (IntKind.i64.wrap (x8_2 + a0_1)) = ji58 := (i64_w _).trans hji58
                           by_cases c59 : 0 ≤ (ji58)
                           ·rw [if_pos c59] at H
                            have c59b0 : decide (0 ≤ (ji58)) = true := decide_eq_true c59
                            clear c59
                            obtain ⟨bq60, hbq60⟩ : ∃ b_ : Bool, b_ = (rdOf false x1_2 (ji58)) := ⟨_, rfl⟩
                            replace H : (if bq60 = true then (if 0 ≤ x8_2 then (if x8_2 < (x1_2.length : Int) then (spec_l10Reach.l1 kj11 (x1_2.set (x8_2 : Int).toNat true) true ji34 a0_0 a0_1 a0_2) else (none)) else (none)) else (spec_l10Reach.l1 kj11 x1_2 x7_2 ji34 a0_0 a0_1 a0_2)) = some r := by rw [← hbq60] at H; exact H
                            have Nbq60 := Aside0.mk hbq60
                            clear hbq60
                            by_cases c61 : bq60 = true
                            ·subst c61
                             have H1 : (if 0 ≤ x8_2 then (if x8_2 < (x1_2.length : Int) then (spec_l10Reach.l1 kj11 (x1_2.set (x8_2 : Int).toNat true) true ji34 a0_0 a0_1 a0_2) else (none)) else (none)) = some r := by rw [if_pos rfl] at H; exact H
                             clear H
                             have H := H1
                             clear H1
                             by_cases c62 : 0 ≤ x8_2
                             ·rw [if_pos c62] at H
                              have c62b0 : decide (0 ≤ x8_2) = true := decide_eq_true c62
                              clear c62
                              by_cases c63 : x8_2 < (x1_2.length : Int)
                              ·rw [if_pos c63] at H
                               have c63b0 : decide (x8_2 < (x1_2.length : Int)) = true := decide_eq_true c63
                               clear c63
                               obtain ⟨y118, hy118⟩ : ∃ y_ : List Bool, y_ = (x1_2.set (x8_2 : Int).toNat true) := ⟨_, rfl⟩
                               replace H : (spec_l10Reach.l1 kj11 y118 true ji34 a0_0 a0_1 a0_2) = some r := by first | (rw [hy118]; with_reducible exact H) | (have H2_ := (Option.bind_some _ _).symm.trans H; rw [hy118]; with_reducible exact H2_) | (have H2_ := (Option.bind_some _ _).symm.trans H; with_reducible exact H2_) | with_reducible exact H | (rw [hy118]; exact H) | exact H
                               have Ny118 := Aside0.mk hy118
                               clear hy118
                               have H' := Aside0.mk H
                               clear H
                               have hcz65_0 : wc.cell? ⟨gb108, 0, none⟩ = some (.int .i64 a0_0) := (blk_cell BK108.out 0).trans rfl
                               have hcz65_1 : wc.cell? ⟨gb108, 1, none⟩ = some (.int .i64 a0_1) := (blk_cell BK108.out 1).trans rfl
                               have hcz65_2 : wc.cell? ⟨gb108, 2, none⟩ = some (.string a0_2) := (blk_cell BK108.out 2).trans rfl
                               have hfz65_0 := blk_frozen BK108.out 0
                               have hfz65_1 := blk_frozen BK108.out 1
                               have hfz65_2 := blk_frozen BK108.out 2
                               have p111 : 0 ≤ ((ji22) : Int) := of_decide_eq_true (by first | (with_reducible assumption) | assumption)
                               have q111 : (ji22) < (x1_2.length : Int) := of_decide_eq_true (by first | (with_reducible assumption) | assumption)
                               obtain ⟨ad111, e111, hx111_0⟩ := Kd.at_bool (Kd.R_reads' HO_1.out).2.2 (ji22) p111 q111
                               (try rw [← Nbq25.out] at hx111_0)
                               (try rw [← Nbq37.out] at hx111_0)
                               (try rw [← Nbq49.out] at hx111_0)
                               (try rw [← Nbq60.out] at hx111_0)
                               obtain rfl : (⟨go6, 0, none⟩ : Addr) = ad111 := (by injection e111)
                               (first | simp only [add_plain] at hx111_0 | simp only [add_at] at hx111_0 | simp only [Addr.add, Nat.zero_add] at hx111_0 | skip)
                               replace p111 := eq_true p111
                               replace q111 := eq_true q111
                               have p113 : 0 ≤ ((ji34) : Int) := of_decide_eq_true (by first | (with_reducible assumption) | assumption)
                               have q113 : (ji34) < (x1_2.length : Int) := of_decide_eq_true (by first | (with_reducible assumption) | assumption)
                               obtain ⟨ad113, e113, hx113_0⟩ := Kd.at_bool (Kd.R_reads' HO_1.out).2.2 (ji34) p113 q113
                               (try rw [← Nbq25.out] at hx113_0)
                               (try rw [← Nbq37.out] at hx113_0)
                               (try rw [← Nbq49.out] at hx113_0)
                               (try rw [← Nbq60.out] at hx113_0)
                               obtain rfl : (⟨go6, 0, none⟩ : Addr) = ad113 := (by injection e113)
                               (first | simp only [add_plain] at hx113_0 | simp only [add_at] at hx113_0 | simp only [Addr.add, Nat.zero_add] at hx113_0 | skip)
                               replace p113 := eq_true p113
                               replace q113 := eq_true q113
                               have p115 : 0 ≤ ((ji46) : Int) := of_decide_eq_true (by first | (with_reducible assumption) | assumption)
                               have q115 : (ji46) < (x1_2.length : Int) := of_decide_eq_true (by first | (with_reducible assumption) | assumption)
                               obtain ⟨ad115, e115, hx115_0⟩ := Kd.at_bool (Kd.R_reads' HO_1.out).2.2 (ji46) p115 q115
                               (try rw [← Nbq25.out] at hx115_0)
                               (try rw [← Nbq37.out] at hx115_0)
                               (try rw [← Nbq49.out] at hx115_0)
                               (try rw [← Nbq60.out] at hx115_0)
                               obtain rfl : (⟨go6, 0, none⟩ : Addr) = ad115 := (by injection e115)
                               (first | simp only [add_plain] at hx115_0 | simp only [add_at] at hx115_0 | simp only [Addr.add, Nat.zero_add] at hx115_0 | skip)
                               replace p115 := eq_true p115
                               replace q115 := eq_true q115
                               have p117 : 0 ≤ ((ji58) : Int) := of_decide_eq_true (by first | (with_reducible assumption) | assumption)
                               have q117 : (ji58) < (x1_2.length : Int) := of_decide_eq_true (by first | (with_reducible assumption) | assumption)
                               obtain ⟨ad117, e117, hx117_0⟩ := Kd.at_bool (Kd.R_reads' HO_1.out).2.2 (ji58) p117 q117
                               (try rw [← Nbq25.out] at hx117_0)
                               (try rw [← Nbq37.out] at hx117_0)
                               (try rw [← Nbq49.out] at hx117_0)
                               (try rw [← Nbq60.out] at hx117_0)
                               obtain rfl : (⟨go6, 0, none⟩ : Addr) = ad117 := (by injection e117)
                               (first | simp only [add_plain] at hx117_0 | simp only [add_at] at hx117_0 | simp only [Addr.add, Nat.zero_add] at hx117_0 | skip)
                               replace p117 := eq_true p117
                               replace q117 := eq_true q117
                               have p64 : 0 ≤ (x8_2 : Int) := of_decide_eq_true (by first | (with_reducible assumption) | assumption)
                               have q64 : (x8_2 : Int) < ((x1_2.length : Int) : Int) := of_decide_eq_true (by first | (with_reducible assumption) | assumption)
                               obtain ⟨hx64_0, hf64_0⟩ := Kd.R_celln false HO_1.out (x8_2 : Int) p64 q64
                               replace p64 := eq_true p64
                               replace q64 := eq_true q64
                               have HP66 := Kd.R_putg HO_1.out (x8_2 : Int) true
                               go_wp2_with (first | ((with_reducible refine gate_store (t := 4) (p := 95) rfl ?_); refine store_event (t := 4) (p := 95) (v := ?vo_w67) (w1 := (wc.setCell ⟨go6, (x8_2 : Int).toNat, none⟩ (.bool true))) ?hg ?ho ?hn ?hr ?_; (case ho => rfl); (case hg => rfl); (case hn => rfl); (case hr => first | (go_simp; done) | (go_simp; rfl)); intro w67 hw; have hg : wc.grownBy w67 (some go6) := (by rw [hw]; exact HP66.2); have hp_ : Kd.R Kd.bool 4 w67 w0.heap.size (fun k_ => (P1_ k_ ∨ w.heap.size ≤ k_)) (.slice (some ⟨go6, 0, none⟩) x1_2.length co6) y118 := (by rw [hw, Ny118.out]; exact HP66.1); clear HP66; have n0_ := Aside0.mk (hp_); have n1_ := Aside0.mk (blk_grown (g := gb108) (o := .cells #[.int .i64 a0_0, .int .i64 a0_1, .string a0_2] 37 (0, 0)) (by (with_reducible repeat (first | refine blk_drewN ?_ _ | refine blk_drew ?_ | refine blk_alloc ?_ _)); exact BK108.out) hg (Kd.R_ne HO_1.out BK108.out (by decide))); have n2_ := Aside0.mk ((by rw [hw]; exact below_set (HB.out) GB6.out : Below w0.heap.size w0 w67)); have n3_ := Aside0.mk (Kept.of_grown (S := (fun k_ => P1_ k_)) hg (by repeat (first | (with_reducible first | exact HK.out | apply Kept.alloc | apply Kept.drewN | apply Kept.drew | refine Kept.setCell ?_ (.inr GW108.out) _) | exact HK.out)) (fun k_ e_ => (HO_1.out.1 k_ e_))); clear HO_1; clear BK108; clear HB; clear HK; have HO_1 := n0_; have BK108 := n1_; have HB := n2_; have HK := n3_; clear n0_ n1_ n2_ n3_; clear hg hw hp_))
                               (try simp only [← hl1_2])
                               go_roundg kj11
                               case measure => have := HK1.out; have := HK2.out; have := HJ11.out; omega
                               case rel => exact ⟨(y118), (true), (ji34), (by first | rfl | (simp; done) | (simp [*]; done)), (by first | rfl | (simp; done) | (simp only [← hji34] <;> (first | rfl | simp)) | (simp [*]; done)), H', ⟨by have := HK1.out; have := HK2.out; have := HJ11.out; omega⟩, ⟨by (try simp only [hl1_1]); (try simp only [hl1_2]); (with_reducible repeat (first | apply Kd.R_alloc | apply Kd.R_drewN | apply Kd.R_drew)); exact HO_1.out⟩, ⟨by (try simp only [hl1_1]); (try simp only [hl1_2]); (with_reducible repeat (first | refine blk_drewN ?_ _ | refine blk_drew ?_ | refine blk_alloc ?_ _)); exact BK108.out⟩, ⟨by repeat (first | (with_reducible first | exact HK.out | apply Kept.alloc | apply Kept.drewN | apply Kept.drew | refine Kept.setCell ?_ (.inr GW108.out) _) | exact HK.out)⟩, ⟨by repeat (first | (with_reducible first | exact HB.out | apply below_alloc | apply pw_below_drewN | apply below_drew1 | refine below_set ?_ GE108.out) | exact HB.out)⟩⟩
                              ·rw [if_neg c63] at H
                               exact absurd H (by simp)
                             ·rw [if_neg c62] at H
                              exact absurd H (by simp)
                            ·replace c61 := Bool.eq_false_iff.mpr c61
                             subst c61
                             have H1 : (spec_l10Reach.l1 kj11 x1_2 x7_2 ji34 a0_0 a0_1 a0_2) = some r := by rw [if_neg (show ¬ (false = true) by decide)] at H; exact H
                             clear H
                             have H := H1
                             clear H1
                             have H' := Aside0.mk H
                             clear H
                             have hcz68_0 : wc.cell? ⟨gb108, 0, none⟩ = some (.int .i64 a0_0) := (blk_cell BK108.out 0).trans rfl
                             have hcz68_1 : wc.cell? ⟨gb108, 1, none⟩ = some (.int .i64 a0_1) := (blk_cell BK108.out 1).trans rfl
                             have hcz68_2 : wc.cell? ⟨gb108, 2, none⟩ = some (.string a0_2) := (blk_cell BK108.out 2).trans rfl
                             have hfz68_0 := blk_frozen BK108.out 0
                             have hfz68_1 := blk_frozen BK108.out 1
                             have hfz68_2 := blk_frozen BK108.out 2
                             have p111 : 0 ≤ ((ji22) : Int) := of_decide_eq_true (by first | (with_reducible assumption) | assumption)
                             have q111 : (ji22) < (x1_2.length : Int) := of_decide_eq_true (by first | (with_reducible assumption) | assumption)
                             obtain ⟨ad111, e111, hx111_0⟩ := Kd.at_bool (Kd.R_reads' HO_1.out).2.2 (ji22) p111 q111
                             (try rw [← Nbq25.out] at hx111_0)
                             (try rw [← Nbq37.out] at hx111_0)
                             (try rw [← Nbq49.out] at hx111_0)
                             (try rw [← Nbq60.out] at hx111_0)
                             obtain rfl : (⟨go6, 0, none⟩ : Addr) = ad111 := (by injection e111)
                             (first | simp only [add_plain] at hx111_0 | simp only [add_at] at hx111_0 | simp only [Addr.add, Nat.zero_add] at hx111_0 | skip)
                             replace p111 := eq_true p111
                             replace q111 := eq_true q111
                             have p113 : 0 ≤ ((ji34) : Int) := of_decide_eq_true (by first | (with_reducible assumption) | assumption)
                             have q113 : (ji34) < (x1_2.length : Int) := of_decide_eq_true (by first | (with_reducible assumption) | assumption)
                             obtain ⟨ad113, e113, hx113_0⟩ := Kd.at_bool (Kd.R_reads' HO_1.out).2.2 (ji34) p113 q113
                             (try rw [← Nbq25.out] at hx113_0)
                             (try rw [← Nbq37.out] at hx113_0)
                             (try rw [← Nbq49.out] at hx113_0)
                             (try rw [← Nbq60.out] at hx113_0)
                             obtain rfl : (⟨go6, 0, none⟩ : Addr) = ad113 := (by injection e113)
                             (first | simp only [add_plain] at hx113_0 | simp only [add_at] at hx113_0 | simp only [Addr.add, Nat.zero_add] at hx113_0 | skip)
                             replace p113 := eq_true p113
                             replace q113 := eq_true q113
                             have p115 : 0 ≤ ((ji46) : Int) := of_decide_eq_true (by first | (with_reducible assumption) | assumption)
                             have q115 : (ji46) < (x1_2.length : Int) := of_decide_eq_true (by first | (with_reducible assumption) | assumption)
                             obtain ⟨ad115, e115, hx115_0⟩ := Kd.at_bool (Kd.R_reads' HO_1.out).2.2 (ji46) p115 q115
                             (try rw [← Nbq25.out] at hx115_0)
                             (try rw [← Nbq37.out] at hx115_0)
                             (try rw [← Nbq49.out] at hx115_0)
                             (try rw [← Nbq60.out] at hx115_0)
                             obtain rfl : (⟨go6, 0, none⟩ : Addr) = ad115 := (by injection e115)
                             (first | simp only [add_plain] at hx115_0 | simp only [add_at] at hx115_0 | simp only [Addr.add, Nat.zero_add] at hx115_0 | skip)
                             replace p115 := eq_true p115
                             replace q115 := eq_true q115
                             have p117 : 0 ≤ ((ji58) : Int) := of_decide_eq_true (by first | (with_reducible assumption) | assumption)
                             have q117 : (ji58) < (x1_2.length : Int) := of_decide_eq_true (by first | (with_reducible assumption) | assumption)
                             obtain ⟨ad117, e117, hx117_0⟩ := Kd.at_bool (Kd.R_reads' HO_1.out).2.2 (ji58) p117 q117
                             (try rw [← Nbq25.out] at hx117_0)
                             (try rw [← Nbq37.out] at hx117_0)
                             (try rw [← Nbq49.out] at hx117_0)
                             (try rw [← Nbq60.out] at hx117_0)
                             obtain rfl : (⟨go6, 0, none⟩ : Addr) = ad117 := (by injection e117)
                             (first | simp only [add_plain] at hx117_0 | simp only [add_at] at hx117_0 | simp only [Addr.add, Nat.zero_add] at hx117_0 | skip)
                             replace p117 := eq_true p117
                             replace q117 := eq_true q117
                             go_wp2
                             (try simp only [← hl1_2])
                             go_roundg kj11
                             case measure => have := HK1.out; have := HK2.out; have := HJ11.out; omega
                             case rel => exact ⟨(x1_2), (x7_2), (ji34), (by first | rfl | (simp; done) | (simp [*]; done)), (by first | rfl | (simp; done) | (simp only [← hji34] <;> (first | rfl | simp)) | (simp [*]; done)), H', ⟨by have := HK1.out; have := HK2.out; have := HJ11.out; omega⟩, ⟨by (try simp only [hl1_1]); (try simp only [hl1_2]); (with_reducible repeat (first | apply Kd.R_alloc | apply Kd.R_drewN | apply Kd.R_drew)); exact HO_1.out⟩, ⟨by (try simp only [hl1_1]); (try simp only [hl1_2]); (with_reducible repeat (first | refine blk_drewN ?_ _ | refine blk_drew ?_ | refine blk_alloc ?_ _)); exact BK108.out⟩, ⟨by repeat (first | (with_reducible first | exact HK.out | apply Kept.alloc | apply Kept.drewN | apply Kept.drew | refine Kept.setCell ?_ (.inr GW108.out) _) | exact HK.out)⟩, ⟨by repeat (first | (with_reducible first | exact HB.out | apply below_alloc | apply pw_below_drewN | apply below_drew1 | refine below_set ?_ GE108.out) | exact HB.out)⟩⟩
                           ·rw [if_neg c59] at H
                            exact absurd H (by simp)
                          ·rw [if_neg c57] at H
                           have c57b0 : decide ((wrap64 (x8_2 + a0_1)) < (x1_2.length : Int)) = false := decide_eq_false c57
                           clear c57
                           have H' := Aside0.mk H
                           clear H
                           have hcz69_0 : wc.cell? ⟨gb108, 0, none⟩ = some (.int .i64 a0_0) := (blk_cell BK108.out 0).trans rfl
                           have hcz69_1 : wc.cell? ⟨gb108, 1, none⟩ = some (.int .i64 a0_1) := (blk_cell BK108.out 1).trans rfl
                           have hcz69_2 : wc.cell? ⟨gb108, 2, none⟩ = some (.string a0_2) := (blk_cell BK108.out 2).trans rfl
                           have hfz69_0 := blk_frozen BK108.out 0
                           have hfz69_1 := blk_frozen BK108.out 1
                           have hfz69_2 := blk_frozen BK108.out 2
                           have p111 : 0 ≤ ((ji22) : Int) := of_decide_eq_true (by first | (with_reducible assumption) | assumption)
                           have q111 : (ji22) < (x1_2.length : Int) := of_decide_eq_true (by first | (with_reducible assumption) | assumption)
                           obtain ⟨ad111, e111, hx111_0⟩ := Kd.at_bool (Kd.R_reads' HO_1.out).2.2 (ji22) p111 q111
                           (try rw [← Nbq25.out] at hx111_0)
                           (try rw [← Nbq37.out] at hx111_0)
                           (try rw [← Nbq49.out] at hx111_0)
                           obtain rfl : (⟨go6, 0, none⟩ : Addr) = ad111 := (by injection e111)
                           (first | simp only [add_plain] at hx111_0 | simp only [add_at] at hx111_0 | simp only [Addr.add, Nat.zero_add] at hx111_0 | skip)
                           replace p111 := eq_true p111
                           replace q111 := eq_true q111
                           have p113 : 0 ≤ ((ji34) : Int) := of_decide_eq_true (by first | (with_reducible assumption) | assumption)
                           have q113 : (ji34) < (x1_2.length : Int) := of_decide_eq_true (by first | (with_reducible assumption) | assumption)
                           obtain ⟨ad113, e113, hx113_0⟩ := Kd.at_bool (Kd.R_reads' HO_1.out).2.2 (ji34) p113 q113
                           (try rw [← Nbq25.out] at hx113_0)
                           (try rw [← Nbq37.out] at hx113_0)
                           (try rw [← Nbq49.out] at hx113_0)
                           obtain rfl : (⟨go6, 0, none⟩ : Addr) = ad113 := (by injection e113)
                           (first | simp only [add_plain] at hx113_0 | simp only [add_at] at hx113_0 | simp only [Addr.add, Nat.zero_add] at hx113_0 | skip)
                           replace p113 := eq_true p113
                           replace q113 := eq_true q113
                           have p115 : 0 ≤ ((ji46) : Int) := of_decide_eq_true (by first | (with_reducible assumption) | assumption)
                           have q115 : (ji46) < (x1_2.length : Int) := of_decide_eq_true (by first | (with_reducible assumption) | assumption)
                           obtain ⟨ad115, e115, hx115_0⟩ := Kd.at_bool (Kd.R_reads' HO_1.out).2.2 (ji46) p115 q115
                           (try rw [← Nbq25.out] at hx115_0)
                           (try rw [← Nbq37.out] at hx115_0)
                           (try rw [← Nbq49.out] at hx115_0)
                           obtain rfl : (⟨go6, 0, none⟩ : Addr) = ad115 := (by injection e115)
                           (first | simp only [add_plain] at hx115_0 | simp only [add_at] at hx115_0 | simp only [Addr.add, Nat.zero_add] at hx115_0 | skip)
                           replace p115 := eq_true p115
                           replace q115 := eq_true q115
                           go_wp2
                           (try simp only [← hl1_2])
                           go_roundg kj11
                           case measure => have := HK1.out; have := HK2.out; have := HJ11.out; omega
                           case rel => exact ⟨(x1_2), (x7_2), (ji34), (by first | rfl | (simp; done) | (simp [*]; done)), (by first | rfl | (simp; done) | (simp only [← hji34] <;> (first | rfl | simp)) | (simp [*]; done)), H', ⟨by have := HK1.out; have := HK2.out; have := HJ11.out; omega⟩, ⟨by (try simp only [hl1_1]); (try simp only [hl1_2]); (with_reducible repeat (first | apply Kd.R_alloc | apply Kd.R_drewN | apply Kd.R_drew)); exact HO_1.out⟩, ⟨by (try simp only [hl1_1]); (try simp only [hl1_2]); (with_reducible repeat (first | refine blk_drewN ?_ _ | refine blk_drew ?_ | refine blk_alloc ?_ _)); exact BK108.out⟩, ⟨by repeat (first | (with_reducible first | exact HK.out | apply Kept.alloc | apply Kept.drewN | apply Kept.drew | refine Kept.setCell ?_ (.inr GW108.out) _) | exact HK.out)⟩, ⟨by repeat (first | (with_reducible first | exact HB.out | apply below_alloc | apply pw_below_drewN | apply below_drew1 | refine below_set ?_ GE108.out) | exact HB.out)⟩⟩
                        ·rw [if_neg c48] at H
                         exact absurd H (by simp)
                       ·rw [if_neg c47] at H
                        exact absurd H (by simp)
                      ·rw [if_neg c45] at H
                       have c45b0 : decide (a0_1 ≤ x8_2) = false := decide_eq_false c45
                       clear c45
                       by_cases c70 : (wrap64 (x8_2 + a0_1)) < (x1_2.length : Int)
                       ·rw [if_pos c70] at H
                        have c70b0 : decide ((wrap64 (x8_2 + a0_1)) < (x1_2.length : Int)) = true := decide_eq_true c70
                        clear c70
                        obtain ⟨ji71, hji71⟩ : ∃ j_ : Int, (wrap64 (x8_2 + a0_1)) = j_ := ⟨_, rfl⟩
                        replace H : (if 0 ≤ (ji71) then (if rdOf false x1_2 (ji71) = true then (if 0 ≤ x8_2 then (if x8_2 < (x1_2.length : Int) then (spec_l10Reach.l1 kj11 (x1_2.set (x8_2 : Int).toNat true) true ji34 a0_0 a0_1 a0_2) else (none)) else (none)) else (spec_l10Reach.l1 kj11 x1_2 x7_2 ji34 a0_0 a0_1 a0_2)) else (none)) = some r := by first | (rw [hji71] at H; exact H) | (simp only [hji71] at H ⊢; exact H)
                        (try rw [hji71] at c70b0)
                        have hji71w : (IntKind.i64.wrap (x8_2 + a0_1)) = ji71 := (i64_w _).trans hji71
                        by_cases c72 : 0 ≤ (ji71)
                        ·rw [if_pos c72] at H
                         have c72b0 : decide (0 ≤ (ji71)) = true := decide_eq_true c72
                         clear c72
                         obtain ⟨bq73, hbq73⟩ : ∃ b_ : Bool, b_ = (rdOf false x1_2 (ji71)) := ⟨_, rfl⟩
                         replace H : (if bq73 = true then (if 0 ≤ x8_2 then (if x8_2 < (x1_2.length : Int) then (spec_l10Reach.l1 kj11 (x1_2.set (x8_2 : Int).toNat true) true ji34 a0_0 a0_1 a0_2) else (none)) else (none)) else (spec_l10Reach.l1 kj11 x1_2 x7_2 ji34 a0_0 a0_1 a0_2)) = some r := by rw [← hbq73] at H; exact H
                         have Nbq73 := Aside0.mk hbq73
                         clear hbq73
                         by_cases c74 : bq73 = true
                         ·subst c74
                          have H1 : (if 0 ≤ x8_2 then (if x8_2 < (x1_2.length : Int) then (spec_l10Reach.l1 kj11 (x1_2.set (x8_2 : Int).toNat true) true ji34 a0_0 a0_1 a0_2) else (none)) else (none)) = some r := by rw [if_pos rfl] at H; exact H
                          clear H
                          have H := H1
                          clear H1
                          by_cases c75 : 0 ≤ x8_2
                          ·rw [if_pos c75] at H
                           have c75b0 : decide (0 ≤ x8_2) = true := decide_eq_true c75
                           clear c75
                           by_cases c76 : x8_2 < (x1_2.length : Int)
                           ·rw [if_pos c76] at H
                            have c76b0 : decide (x8_2 < (x1_2.length : Int)) = true := decide_eq_true c76
                            clear c76
                            obtain ⟨y120, hy120⟩ : ∃ y_ : List Bool, y_ = (x1_2.set (x8_2 : Int).toNat true) := ⟨_, rfl⟩
                            replace H : (spec_l10Reach.l1 kj11 y120 true ji34 a0_0 a0_1 a0_2) = some r := by first | (rw [hy120]; with_reducible exact H) | (have H2_ := (Option.bind_some _ _).symm.trans H; rw [hy120]; with_reducible exact H2_) | (have H2_ := (Option.bind_some _ _).symm.trans H; with_reducible exact H2_) | with_reducible exact H | (rw [hy120]; exact H) | exact H
                            have Ny120 := Aside0.mk hy120
                            clear hy120
                            have H' := Aside0.mk H
                            clear H
                            have hcz78_0 : wc.cell? ⟨gb108, 0, none⟩ = some (.int .i64 a0_0) := (blk_cell BK108.out 0).trans rfl
                            have hcz78_1 : wc.cell? ⟨gb108, 1, none⟩ = some (.int .i64 a0_1) := (blk_cell BK108.out 1).trans rfl
                            have hcz78_2 : wc.cell? ⟨gb108, 2, none⟩ = some (.string a0_2) := (blk_cell BK108.out 2).trans rfl
                            have hfz78_0 := blk_frozen BK108.out 0
                            have hfz78_1 := blk_frozen BK108.out 1
                            have hfz78_2 := blk_frozen BK108.out 2
                            have p111 : 0 ≤ ((ji22) : Int) := of_decide_eq_true (by first | (with_reducible assumption) | assumption)
                            have q111 : (ji22) < (x1_2.length : Int) := of_decide_eq_true (by first | (with_reducible assumption) | assumption)
                            obtain ⟨ad111, e111, hx111_0⟩ := Kd.at_bool (Kd.R_reads' HO_1.out).2.2 (ji22) p111 q111
                            (try rw [← Nbq25.out] at hx111_0)
                            (try rw [← Nbq37.out] at hx111_0)
                            (try rw [← Nbq73.out] at hx111_0)
                            obtain rfl : (⟨go6, 0, none⟩ : Addr) = ad111 := (by injection e111)
                            (first | simp only [add_plain] at hx111_0 | simp only [add_at] at hx111_0 | simp only [Addr.add, Nat.zero_add] at hx111_0 | skip)
                            replace p111 := eq_true p111
                            replace q111 := eq_true q111
                            have p113 : 0 ≤ ((ji34) : Int) := of_decide_eq_true (by first | (with_reducible assumption) | assumption)
                            have q113 : (ji34) < (x1_2.length : Int) := of_decide_eq_true (by first | (with_reducible assumption) | assumption)
                            obtain ⟨ad113, e113, hx113_0⟩ := Kd.at_bool (Kd.R_reads' HO_1.out).2.2 (ji34) p113 q113
                            (try rw [← Nbq25.out] at hx113_0)
                            (try rw [← Nbq37.out] at hx113_0)
                            (try rw [← Nbq73.out] at hx113_0)
                            obtain rfl : (⟨go6, 0, none⟩ : Addr) = ad113 := (by injection e113)
                            (first | simp only [add_plain] at hx113_0 | simp only [add_at] at hx113_0 | simp only [Addr.add, Nat.zero_add] at hx113_0 | skip)
                            replace p113 := eq_true p113
                            replace q113 := eq_true q113
                            have p119 : 0 ≤ ((ji71) : Int) := of_decide_eq_true (by first | (with_reducible assumption) | assumption)
                            have q119 : (ji71) < (x1_2.length : Int) := of_decide_eq_true (by first | (with_reducible assumption) | assumption)
                            obtain ⟨ad119, e119, hx119_0⟩ := Kd.at_bool (Kd.R_reads' HO_1.out).2.2 (ji71) p119 q119
                            (try rw [← Nbq25.out] at hx119_0)
                            (try rw [← Nbq37.out] at hx119_0)
                            (try rw [← Nbq73.out] at hx119_0)
                            obtain rfl : (⟨go6, 0, none⟩ : Addr) = ad119 := (by injection e119)
                            (first | simp only [add_plain] at hx119_0 | simp only [add_at] at hx119_0 | simp only [Addr.add, Nat.zero_add] at hx119_0 | skip)
                            replace p119 := eq_true p119
                            replace q119 := eq_true q119
                            have p77 : 0 ≤ (x8_2 : Int) := of_decide_eq_true (by first | (with_reducible assumption) | assumption)
                            have q77 : (x8_2 : Int) < ((x1_2.length : Int) : Int) := of_decide_eq_true (by first | (with_reducible assumption) | assumption)
                            obtain ⟨hx77_0, hf77_0⟩ := Kd.R_celln false HO_1.out (x8_2 : Int) p77 q77
                            replace p77 := eq_true p77
                            replace q77 := eq_true q77
                            have HP79 := Kd.R_putg HO_1.out (x8_2 : Int) true
                            go_wp2_with (first | ((with_reducible refine gate_store (t := 4) (p := 95) rfl ?_); refine store_event (t := 4) (p := 95) (v := ?vo_w80) (w1 := (wc.setCell ⟨go6, (x8_2 : Int).toNat, none⟩ (.bool true))) ?hg ?ho ?hn ?hr ?_; (case ho => rfl); (case hg => rfl); (case hn => rfl); (case hr => first | (go_simp; done) | (go_simp; rfl)); intro w80 hw; have hg : wc.grownBy w80 (some go6) := (by rw [hw]; exact HP79.2); have hp_ : Kd.R Kd.bool 4 w80 w0.heap.size (fun k_ => (P1_ k_ ∨ w.heap.size ≤ k_)) (.slice (some ⟨go6, 0, none⟩) x1_2.length co6) y120 := (by rw [hw, Ny120.out]; exact HP79.1); clear HP79; have n0_ := Aside0.mk (hp_); have n1_ := Aside0.mk (blk_grown (g := gb108) (o := .cells #[.int .i64 a0_0, .int .i64 a0_1, .string a0_2] 37 (0, 0)) (by (with_reducible repeat (first | refine blk_drewN ?_ _ | refine blk_drew ?_ | refine blk_alloc ?_ _)); exact BK108.out) hg (Kd.R_ne HO_1.out BK108.out (by decide))); have n2_ := Aside0.mk ((by rw [hw]; exact below_set (HB.out) GB6.out : Below w0.heap.size w0 w80)); have n3_ := Aside0.mk (Kept.of_grown (S := (fun k_ => P1_ k_)) hg (by repeat (first | (with_reducible first | exact HK.out | apply Kept.alloc | apply Kept.drewN | apply Kept.drew | refine Kept.setCell ?_ (.inr GW108.out) _) | exact HK.out)) (fun k_ e_ => (HO_1.out.1 k_ e_))); clear HO_1; clear BK108; clear HB; clear HK; have HO_1 := n0_; have BK108 := n1_; have HB := n2_; have HK := n3_; clear n0_ n1_ n2_ n3_; clear hg hw hp_))
                            (try simp only [← hl1_2])
                            go_roundg kj11
                            case measure => have := HK1.out; have := HK2.out; have := HJ11.out; omega
                            case rel => exact ⟨(y120), (true), (ji34), (by first | rfl | (simp; done) | (simp [*]; done)), (by first | rfl | (simp; done) | (simp only [← hji34] <;> (first | rfl | simp)) | (simp [*]; done)), H', ⟨by have := HK1.out; have := HK2.out; have := HJ11.out; omega⟩, ⟨by (try simp only [hl1_1]); (try simp only [hl1_2]); (with_reducible repeat (first | apply Kd.R_alloc | apply Kd.R_drewN | apply Kd.R_drew)); exact HO_1.out⟩, ⟨by (try simp only [hl1_1]); (try simp only [hl1_2]); (with_reducible repeat (first | refine blk_drewN ?_ _ | refine blk_drew ?_ | refine blk_alloc ?_ _)); exact BK108.out⟩, ⟨by repeat (first | (with_reducible first | exact HK.out | apply Kept.alloc | apply Kept.drewN | apply Kept.drew | refine Kept.setCell ?_ (.inr GW108.out) _) | exact HK.out)⟩, ⟨by repeat (first | (with_reducible first | exact HB.out | apply below_alloc | apply pw_below_drewN | apply below_drew1 | refine below_set ?_ GE108.out) | exact HB.out)⟩⟩
                           ·rw [if_neg c76] at H
                            exact absurd H (by simp)
                          ·rw [if_neg c75] at H
                           exact absurd H (by simp)
                         ·replace c74 := Bool.eq_false_iff.mpr c74
                          subst c74
                          have H1 : (spec_l10Reach.l1 kj11 x1_2 x7_2 ji34 a0_0 a0_1 a0_2) = some r := by rw [if_neg (show ¬ (false = true) by decide)] at H; exact H
                          clear H
                          have H := H1
                          clear H1
                          have H' := Aside0.mk H
                          clear H
                          have hcz81_0 : wc.cell? ⟨gb108, 0, none⟩ = some (.int .i64 a0_0) := (blk_cell BK108.out 0).trans rfl
                          have hcz81_1 : wc.cell? ⟨gb108, 1, none⟩ = some (.int .i64 a0_1) := (blk_cell BK108.out 1).trans rfl
                          have hcz81_2 : wc.cell? ⟨gb108, 2, none⟩ = some (.string a0_2) := (blk_cell BK108.out 2).trans rfl
                          have hfz81_0 := blk_frozen BK108.out 0
                          have hfz81_1 := blk_frozen BK108.out 1
                          have hfz81_2 := blk_frozen BK108.out 2
                          have p111 : 0 ≤ ((ji22) : Int) := of_decide_eq_true (by first | (with_reducible assumption) | assumption)
                          have q111 : (ji22) < (x1_2.length : Int) := of_decide_eq_true (by first | (with_reducible assumption) | assumption)
                          obtain ⟨ad111, e111, hx111_0⟩ := Kd.at_bool (Kd.R_reads' HO_1.out).2.2 (ji22) p111 q111
                          (try rw [← Nbq25.out] at hx111_0)
                          (try rw [← Nbq37.out] at hx111_0)
                          (try rw [← Nbq73.out] at hx111_0)
                          obtain rfl : (⟨go6, 0, none⟩ : Addr) = ad111 := (by injection e111)
                          (first | simp only [add_plain] at hx111_0 | simp only [add_at] at hx111_0 | simp only [Addr.add, Nat.zero_add] at hx111_0 | skip)
                          replace p111 := eq_true p111
                          replace q111 := eq_true q111
                          have p113 : 0 ≤ ((ji34) : Int) := of_decide_eq_true (by first | (with_reducible assumption) | assumption)
                          have q113 : (ji34) < (x1_2.length : Int) := of_decide_eq_true (by first | (with_reducible assumption) | assumption)
                          obtain ⟨ad113, e113, hx113_0⟩ := Kd.at_bool (Kd.R_reads' HO_1.out).2.2 (ji34) p113 q113
                          (try rw [← Nbq25.out] at hx113_0)
                          (try rw [← Nbq37.out] at hx113_0)
                          (try rw [← Nbq73.out] at hx113_0)
                          obtain rfl : (⟨go6, 0, none⟩ : Addr) = ad113 := (by injection e113)
                          (first | simp only [add_plain] at hx113_0 | simp only [add_at] at hx113_0 | simp only [Addr.add, Nat.zero_add] at hx113_0 | skip)
                          replace p113 := eq_true p113
                          replace q113 := eq_true q113
                          have p119 : 0 ≤ ((ji71) : Int) := of_decide_eq_true (by first | (with_reducible assumption) | assumption)
                          have q119 : (ji71) < (x1_2.length : Int) := of_decide_eq_true (by first | (with_reducible assumption) | assumption)
                          obtain ⟨ad119, e119, hx119_0⟩ := Kd.at_bool (Kd.R_reads' HO_1.out).2.2 (ji71) p119 q119
                          (try rw [← Nbq25.out] at hx119_0)
                          (try rw [← Nbq37.out] at hx119_0)
                          (try rw [← Nbq73.out] at hx119_0)
                          obtain rfl : (⟨go6, 0, none⟩ : Addr) = ad119 := (by injection e119)
                          (first | simp only [add_plain] at hx119_0 | simp only [add_at] at hx119_0 | simp only [Addr.add, Nat.zero_add] at hx119_0 | skip)
                          replace p119 := eq_true p119
                          replace q119 := eq_true q119
                          go_wp2
                          (try simp only [← hl1_2])
                          go_roundg kj11
                          case measure => have := HK1.out; have := HK2.out; have := HJ11.out; omega
                          case rel => exact ⟨(x1_2), (x7_2), (ji34), (by first | rfl | (simp; done) | (simp [*]; done)), (by first | rfl | (simp; done) | (simp only [← hji34] <;> (first | rfl | simp)) | (simp [*]; done)), H', ⟨by have := HK1.out; have := HK2.out; have := HJ11.out; omega⟩, ⟨by (try simp only [hl1_1]); (try simp only [hl1_2]); (with_reducible repeat (first | apply Kd.R_alloc | apply Kd.R_drewN | apply Kd.R_drew)); exact HO_1.out⟩, ⟨by (try simp only [hl1_1]); (try simp only [hl1_2]); (with_reducible repeat (first | refine blk_drewN ?_ _ | refine blk_drew ?_ | refine blk_alloc ?_ _)); exact BK108.out⟩, ⟨by repeat (first | (with_reducible first | exact HK.out | apply Kept.alloc | apply Kept.drewN | apply Kept.drew | refine Kept.setCell ?_ (.inr GW108.out) _) | exact HK.out)⟩, ⟨by repeat (first | (with_reducible first | exact HB.out | apply below_alloc | apply pw_below_drewN | apply below_drew1 | refine below_set ?_ GE108.out) | exact HB.out)⟩⟩
                        ·rw [if_neg c72] at H
                         exact absurd H (by simp)
                       ·rw [if_neg c70] at H
                        have c70b0 : decide ((wrap64 (x8_2 + a0_1)) < (x1_2.length : Int)) = false := decide_eq_false c70
                        clear c70
                        have H' := Aside0.mk H
                        clear H
                        have hcz82_0 : wc.cell? ⟨gb108, 0, none⟩ = some (.int .i64 a0_0) := (blk_cell BK108.out 0).trans rfl
                        have hcz82_1 : wc.cell? ⟨gb108, 1, none⟩ = some (.int .i64 a0_1) := (blk_cell BK108.out 1).trans rfl
                        have hcz82_2 : wc.cell? ⟨gb108, 2, none⟩ = some (.string a0_2) := (blk_cell BK108.out 2).trans rfl
                        have hfz82_0 := blk_frozen BK108.out 0
                        have hfz82_1 := blk_frozen BK108.out 1
                        have hfz82_2 := blk_frozen BK108.out 2
                        have p111 : 0 ≤ ((ji22) : Int) := of_decide_eq_true (by first | (with_reducible assumption) | assumption)
                        have q111 : (ji22) < (x1_2.length : Int) := of_decide_eq_true (by first | (with_reducible assumption) | assumption)
                        obtain ⟨ad111, e111, hx111_0⟩ := Kd.at_bool (Kd.R_reads' HO_1.out).2.2 (ji22) p111 q111
                        (try rw [← Nbq25.out] at hx111_0)
                        (try rw [← Nbq37.out] at hx111_0)
                        obtain rfl : (⟨go6, 0, none⟩ : Addr) = ad111 := (by injection e111)
                        (first | simp only [add_plain] at hx111_0 | simp only [add_at] at hx111_0 | simp only [Addr.add, Nat.zero_add] at hx111_0 | skip)
                        replace p111 := eq_true p111
                        replace q111 := eq_true q111
                        have p113 : 0 ≤ ((ji34) : Int) := of_decide_eq_true (by first | (with_reducible assumption) | assumption)
                        have q113 : (ji34) < (x1_2.length : Int) := of_decide_eq_true (by first | (with_reducible assumption) | assumption)
                        obtain ⟨ad113, e113, hx113_0⟩ := Kd.at_bool (Kd.R_reads' HO_1.out).2.2 (ji34) p113 q113
                        (try rw [← Nbq25.out] at hx113_0)
                        (try rw [← Nbq37.out] at hx113_0)
                        obtain rfl : (⟨go6, 0, none⟩ : Addr) = ad113 := (by injection e113)
                        (first | simp only [add_plain] at hx113_0 | simp only [add_at] at hx113_0 | simp only [Addr.add, Nat.zero_add] at hx113_0 | skip)
                        replace p113 := eq_true p113
                        replace q113 := eq_true q113
                        go_wp2
                        (try simp only [← hl1_2])
                        go_roundg kj11
                        case measure => have := HK1.out; have := HK2.out; have := HJ11.out; omega
                        case rel => exact ⟨(x1_2), (x7_2), (ji34), (by first | rfl | (simp; done) | (simp [*]; done)), (by first | rfl | (simp; done) | (simp only [← hji34] <;> (first | rfl | simp)) | (simp [*]; done)), H', ⟨by have := HK1.out; have := HK2.out; have := HJ11.out; omega⟩, ⟨by (try simp only [hl1_1]); (try simp only [hl1_2]); (with_reducible repeat (first | apply Kd.R_alloc | apply Kd.R_drewN | apply Kd.R_drew)); exact HO_1.out⟩, ⟨by (try simp only [hl1_1]); (try simp only [hl1_2]); (with_reducible repeat (first | refine blk_drewN ?_ _ | refine blk_drew ?_ | refine blk_alloc ?_ _)); exact BK108.out⟩, ⟨by repeat (first | (with_reducible first | exact HK.out | apply Kept.alloc | apply Kept.drewN | apply Kept.drew | refine Kept.setCell ?_ (.inr GW108.out) _) | exact HK.out)⟩, ⟨by repeat (first | (with_reducible first | exact HB.out | apply below_alloc | apply pw_below_drewN | apply below_drew1 | refine below_set ?_ GE108.out) | exact HB.out)⟩⟩
                    ·rw [if_neg c36] at H
                     exact absurd H (by simp)
                   ·rw [if_neg c35] at H
                    exact absurd H (by simp)
                  ·rw [if_neg c33] at H
                   have c33b0 : decide ((wrap64 ((Int.tmod x8_2 a0_1) + 1)) < a0_1) = false := decide_eq_false c33
                   clear c33
                   by_cases c83 : x8_2 ≥ a0_1
                   ·rw [if_pos c83] at H
                    have c83b0 : decide (a0_1 ≤ x8_2) = true := decide_eq_true c83
                    clear c83
                    obtain ⟨ji84, hji84⟩ : ∃ j_ : Int, (wrap64 (x8_2 - a0_1)) = j_ := ⟨_, rfl⟩
                    replace H : (if 0 ≤ (ji84) then (if (ji84) < (x1_2.length : Int) then (if rdOf false x1_2 (ji84) = true then (if 0 ≤ x8_2 then (if x8_2 < (x1_2.length : Int) then (spec_l10Reach.l1 kj11 (x1_2.set (x8_2 : Int).toNat true) true (wrap64 (x8_2 + 1)) a0_0 a0_1 a0_2) else (none)) else (none)) else (if (wrap64 (x8_2 + a0_1)) < (x1_2.length : Int) then (if 0 ≤ (wrap64 (x8_2 + a0_1)) then (if rdOf false x1_2 (wrap64 (x8_2 + a0_1)) = true then (if 0 ≤ x8_2 then (if x8_2 < (x1_2.length : Int) then (spec_l10Reach.l1 kj11 (x1_2.set (x8_2 : Int).toNat true) true (wrap64 (x8_2 + 1)) a0_0 a0_1 a0_2) else (none)) else (none)) else (spec_l10Reach.l1 kj11 x1_2 x7_2 (wrap64 (x8_2 + 1)) a0_0 a0_1 a0_2)) else (none)) else (spec_l10Reach.l1 kj11 x1_2 x7_2 (wrap64 (x8_2 + 1)) a0_0 a0_1 a0_2))) else (none)) else (none)) = some r := by first | (rw [hji84] at H; exact H) | (simp only [hji84] at H ⊢; exact H)
                    have hji84w : (IntKind.i64.wrap (x8_2 - a0_1)) = ji84 := (i64_w _).trans hji84
                    by_cases c85 : 0 ≤ (ji84)
                    ·rw [if_pos c85] at H
                     have c85b0 : decide (0 ≤ (ji84)) = true := decide_eq_true c85
                     clear c85
                     by_cases c86 : (ji84) < (x1_2.length : Int)
                     ·rw [if_pos c86] at H
                      have c86b0 : decide ((ji84) < (x1_2.length : Int)) = true := decide_eq_true c86
                      clear c86
                      obtain ⟨bq87, hbq87⟩ : ∃ b_ : Bool, b_ = (rdOf false x1_2 (ji84)) := ⟨_, rfl⟩
                      replace H : (if bq87 = true then (if 0 ≤ x8_2 then (if x8_2 < (x1_2.length : Int) then (spec_l10Reach.l1 kj11 (x1_2.set (x8_2 : Int).toNat true) true (wrap64 (x8_2 + 1)) a0_0 a0_1 a0_2) else (none)) else (none)) else (if (wrap64 (x8_2 + a0_1)) < (x1_2.length : Int) then (if 0 ≤ (wrap64 (x8_2 + a0_1)) then (if rdOf false x1_2 (wrap64 (x8_2 + a0_1)) = true then (if 0 ≤ x8_2 then (if x8_2 < (x1_2.length : Int) then (spec_l10Reach.l1 kj11 (x1_2.set (x8_2 : Int).toNat true) true (wrap64 (x8_2 + 1)) a0_0 a0_1 a0_2) else (none)) else (none)) else (spec_l10Reach.l1 kj11 x1_2 x7_2 (wrap64 (x8_2 + 1)) a0_0 a0_1 a0_2)) else (none)) else (spec_l10Reach.l1 kj11 x1_2 x7_2 (wrap64 (x8_2 + 1)) a0_0 a0_1 a0_2))) = some r := by rw [← hbq87] at H; exact H
                      have Nbq87 := Aside0.mk hbq87
                      clear hbq87
                      by_cases c88 : bq87 = true
                      ·subst c88
                       have H1 : (if 0 ≤ x8_2 then (if x8_2 < (x1_2.length : Int) then (spec_l10Reach.l1 kj11 (x1_2.set (x8_2 : Int).toNat true) true (wrap64 (x8_2 + 1)) a0_0 a0_1 a0_2) else (none)) else (none)) = some r := by rw [if_pos rfl] at H; exact H
                       clear H
                       have H := H1
                       clear H1
                       by_cases c89 : 0 ≤ x8_2
                       ·rw [if_pos c89] at H
                        have c89b0 : decide (0 ≤ x8_2) = true := decide_eq_true c89
                        clear c89
                        by_cases c90 : x8_2 < (x1_2.length : Int)
                        ·rw [if_pos c90] at H
                         have c90b0 : decide (x8_2 < (x1_2.length : Int)) = true := decide_eq_true c90
                         clear c90
                         obtain ⟨y122, hy122⟩ : ∃ y_ : List Bool, y_ = (x1_2.set (x8_2 : Int).toNat true) := ⟨_, rfl⟩
                         replace H : (spec_l10Reach.l1 kj11 y122 true (wrap64 (x8_2 + 1)) a0_0 a0_1 a0_2) = some r := by first | (rw [hy122]; with_reducible exact H) | (have H2_ := (Option.bind_some _ _).symm.trans H; rw [hy122]; with_reducible exact H2_) | (have H2_ := (Option.bind_some _ _).symm.trans H; with_reducible exact H2_) | with_reducible exact H | (rw [hy122]; exact H) | exact H
                         have Ny122 := Aside0.mk hy122
                         clear hy122
                         have H' := Aside0.mk H
                         clear H
                         have hcz92_0 : wc.cell? ⟨gb108, 0, none⟩ = some (.int .i64 a0_0) := (blk_cell BK108.out 0).trans rfl
                         have hcz92_1 : wc.cell? ⟨gb108, 1, none⟩ = some (.int .i64 a0_1) := (blk_cell BK108.out 1).trans rfl
                         have hcz92_2 : wc.cell? ⟨gb108, 2, none⟩ = some (.string a0_2) := (blk_cell BK108.out 2).trans rfl
                         have hfz92_0 := blk_frozen BK108.out 0
                         have hfz92_1 := blk_frozen BK108.out 1
                         have hfz92_2 := blk_frozen BK108.out 2
                         have p111 : 0 ≤ ((ji22) : Int) := of_decide_eq_true (by first | (with_reducible assumption) | assumption)
                         have q111 : (ji22) < (x1_2.length : Int) := of_decide_eq_true (by first | (with_reducible assumption) | assumption)
                         obtain ⟨ad111, e111, hx111_0⟩ := Kd.at_bool (Kd.R_reads' HO_1.out).2.2 (ji22) p111 q111
                         (try rw [← Nbq25.out] at hx111_0)
                         (try rw [← Nbq87.out] at hx111_0)
                         obtain rfl : (⟨go6, 0, none⟩ : Addr) = ad111 := (by injection e111)
                         (first | simp only [add_plain] at hx111_0 | simp only [add_at] at hx111_0 | simp only [Addr.add, Nat.zero_add] at hx111_0 | skip)
                         replace p111 := eq_true p111
                         replace q111 := eq_true q111
                         have p121 : 0 ≤ ((ji84) : Int) := of_decide_eq_true (by first | (with_reducible assumption) | assumption)
                         have q121 : (ji84) < (x1_2.length : Int) := of_decide_eq_true (by first | (with_reducible assumption) | assumption)
                         obtain ⟨ad121, e121, hx121_0⟩ := Kd.at_bool (Kd.R_reads' HO_1.out).2.2 (ji84) p121 q121
                         (try rw [← Nbq25.out] at hx121_0)
                         (try rw [← Nbq87.out] at hx121_0)
                         obtain rfl : (⟨go6, 0, none⟩ : Addr) = ad121 := (by injection e121)
                         (first | simp only [add_plain] at hx121_0 | simp only [add_at] at hx121_0 | simp only [Addr.add, Nat.zero_add] at hx121_0 | skip)
                         replace p121 := eq_true p121
                         replace q121 := eq_true q121
                         have p91 : 0 ≤ (x8_2 : Int) := of_decide_eq_true (by first | (with_reducible assumption) | assumption)
                         have q91 : (x8_2 : Int) < ((x1_2.length : Int) : Int) := of_decide_eq_true (by first | (with_reducible assumption) | assumption)
                         obtain ⟨hx91_0, hf91_0⟩ := Kd.R_celln false HO_1.out (x8_2 : Int) p91 q91
                         replace p91 := eq_true p91
                         replace q91 := eq_true q91
                         have HP93 := Kd.R_putg HO_1.out (x8_2 : Int) true
                         go_wp2_with (first | ((with_reducible refine gate_store (t := 4) (p := 95) rfl ?_); refine store_event (t := 4) (p := 95) (v := ?vo_w94) (w1 := (wc.setCell ⟨go6, (x8_2 : Int).toNat, none⟩ (.bool true))) ?hg ?ho ?hn ?hr ?_; (case ho => rfl); (case hg => rfl); (case hn => rfl); (case hr => first | (go_simp; done) | (go_simp; rfl)); intro w94 hw; have hg : wc.grownBy w94 (some go6) := (by rw [hw]; exact HP93.2); have hp_ : Kd.R Kd.bool 4 w94 w0.heap.size (fun k_ => (P1_ k_ ∨ w.heap.size ≤ k_)) (.slice (some ⟨go6, 0, none⟩) x1_2.length co6) y122 := (by rw [hw, Ny122.out]; exact HP93.1); clear HP93; have n0_ := Aside0.mk (hp_); have n1_ := Aside0.mk (blk_grown (g := gb108) (o := .cells #[.int .i64 a0_0, .int .i64 a0_1, .string a0_2] 37 (0, 0)) (by (with_reducible repeat (first | refine blk_drewN ?_ _ | refine blk_drew ?_ | refine blk_alloc ?_ _)); exact BK108.out) hg (Kd.R_ne HO_1.out BK108.out (by decide))); have n2_ := Aside0.mk ((by rw [hw]; exact below_set (HB.out) GB6.out : Below w0.heap.size w0 w94)); have n3_ := Aside0.mk (Kept.of_grown (S := (fun k_ => P1_ k_)) hg (by repeat (first | (with_reducible first | exact HK.out | apply Kept.alloc | apply Kept.drewN | apply Kept.drew | refine Kept.setCell ?_ (.inr GW108.out) _) | exact HK.out)) (fun k_ e_ => (HO_1.out.1 k_ e_))); clear HO_1; clear BK108; clear HB; clear HK; have HO_1 := n0_; have BK108 := n1_; have HB := n2_; have HK := n3_; clear n0_ n1_ n2_ n3_; clear hg hw hp_))
                         (try simp only [← hl1_2])
                         go_roundg kj11
                         case measure => have := HK1.out; have := HK2.out; have := HJ11.out; omega
                         case rel => exact ⟨(y122), (true), (wrap64 (x8_2 + 1)), (by first | rfl | (simp; done) | (simp [*]; done)), (by first | rfl | (simp; done) | (simp [*]; done)), H', ⟨by have := HK1.out; have := HK2.out; have := HJ11.out; omega⟩, ⟨by (try simp only [hl1_1]); (try simp only [hl1_2]); (with_reducible repeat (first | apply Kd.R_alloc | apply Kd.R_drewN | apply Kd.R_drew)); exact HO_1.out⟩, ⟨by (try simp only [hl1_1]); (try simp only [hl1_2]); (with_reducible repeat (first | refine blk_drewN ?_ _ | refine blk_drew ?_ | refine blk_alloc ?_ _)); exact BK108.out⟩, ⟨by repeat (first | (with_reducible first | exact HK.out | apply Kept.alloc | apply Kept.drewN | apply Kept.drew | refine Kept.setCell ?_ (.inr GW108.out) _) | exact HK.out)⟩, ⟨by repeat (first | (with_reducible first | exact HB.out | apply below_alloc | apply pw_below_drewN | apply below_drew1 | refine below_set ?_ GE108.out) | exact HB.out)⟩⟩
                        ·rw [if_neg c90] at H
                         exact absurd H (by simp)
                       ·rw [if_neg c89] at H
                        exact absurd H (by simp)
                      ·replace c88 := Bool.eq_false_iff.mpr c88
                       subst c88
                       have H1 : (if (wrap64 (x8_2 + a0_1)) < (x1_2.length : Int) then (if 0 ≤ (wrap64 (x8_2 + a0_1)) then (if rdOf false x1_2 (wrap64 (x8_2 + a0_1)) = true then (if 0 ≤ x8_2 then (if x8_2 < (x1_2.length : Int) then (spec_l10Reach.l1 kj11 (x1_2.set (x8_2 : Int).toNat true) true (wrap64 (x8_2 + 1)) a0_0 a0_1 a0_2) else (none)) else (none)) else (spec_l10Reach.l1 kj11 x1_2 x7_2 (wrap64 (x8_2 + 1)) a0_0 a0_1 a0_2)) else (none)) else (spec_l10Reach.l1 kj11 x1_2 x7_2 (wrap64 (x8_2 + 1)) a0_0 a0_1 a0_2)) = some r := by rw [if_neg (show ¬ (false = true) by decide)] at H; exact H
                       clear H
                       have H := H1
                       clear H1
                       by_cases c95 : (wrap64 (x8_2 + a0_1)) < (x1_2.length : Int)
                       ·rw [if_pos c95] at H
                        have c95b0 : decide ((wrap64 (x8_2 + a0_1)) < (x1_2.length : Int)) = true := decide_eq_true c95
                        clear c95
                        obtain ⟨ji96, hji96⟩ : ∃ j_ : Int, (wrap64 (x8_2 + a0_1)) = j_ := ⟨_, rfl⟩
                        replace H : (if 0 ≤ (ji96) then (if rdOf false x1_2 (ji96) = true then (if 0 ≤ x8_2 then (if x8_2 < (x1_2.length : Int) then (spec_l10Reach.l1 kj11 (x1_2.set (x8_2 : Int).toNat true) true (wrap64 (x8_2 + 1)) a0_0 a0_1 a0_2) else (none)) else (none)) else (spec_l10Reach.l1 kj11 x1_2 x7_2 (wrap64 (x8_2 + 1)) a0_0 a0_1 a0_2)) else (none)) = some r := by first | (rw [hji96] at H; exact H) | (simp only [hji96] at H ⊢; exact H)
                        (try rw [hji96] at c95b0)
                        have hji96w : (IntKind.i64.wrap (x8_2 + a0_1)) = ji96 := (i64_w _).trans hji96
                        by_cases c97 : 0 ≤ (ji96)
                        ·rw [if_pos c97] at H
                         have c97b0 : decide (0 ≤ (ji96)) = true := decide_eq_true c97
                         clear c97
                         obtain ⟨bq98, hbq98⟩ : ∃ b_ : Bool, b_ = (rdOf false x1_2 (ji96)) := ⟨_, rfl⟩
                         replace H : (if bq98 = true then (if 0 ≤ x8_2 then (if x8_2 < (x1_2.length : Int) then (spec_l10Reach.l1 kj11 (x1_2.set (x8_2 : Int).toNat true) true (wrap64 (x8_2 + 1)) a0_0 a0_1 a0_2) else (none)) else (none)) else (spec_l10Reach.l1 kj11 x1_2 x7_2 (wrap64 (x8_2 + 1)) a0_0 a0_1 a0_2)) = some r := by rw [← hbq98] at H; exact H
                         have Nbq98 := Aside0.mk hbq98
                         clear hbq98
                         by_cases c99 : bq98 = true
                         ·subst c99
                          have H1 : (if 0 ≤ x8_2 then (if x8_2 < (x1_2.length : Int) then (spec_l10Reach.l1 kj11 (x1_2.set (x8_2 : Int).toNat true) true (wrap64 (x8_2 + 1)) a0_0 a0_1 a0_2) else (none)) else (none)) = some r := by rw [if_pos rfl] at H; exact H
                          clear H
                          have H := H1
                          clear H1
                          by_cases c100 : 0 ≤ x8_2
                          ·rw [if_pos c100] at H
                           have c100b0 : decide (0 ≤ x8_2) = true := decide_eq_true c100
                           clear c100
                           by_cases c101 : x8_2 < (x1_2.length : Int)
                           ·rw [if_pos c101] at H
                            have c101b0 : decide (x8_2 < (x1_2.length : Int)) = true := decide_eq_true c101
                            clear c101
                            obtain ⟨y124, hy124⟩ : ∃ y_ : List Bool, y_ = (x1_2.set (x8_2 : Int).toNat true) := ⟨_, rfl⟩
                            replace H : (spec_l10Reach.l1 kj11 y124 true (wrap64 (x8_2 + 1)) a0_0 a0_1 a0_2) = some r := by first | (rw [hy124]; with_reducible exact H) | (have H2_ := (Option.bind_some _ _).symm.trans H; rw [hy124]; with_reducible exact H2_) | (have H2_ := (Option.bind_some _ _).symm.trans H; with_reducible exact H2_) | with_reducible exact H | (rw [hy124]; exact H) | exact H
                            have Ny124 := Aside0.mk hy124
                            clear hy124
                            have H' := Aside0.mk H
                            clear H
                            have hcz103_0 : wc.cell? ⟨gb108, 0, none⟩ = some (.int .i64 a0_0) := (blk_cell BK108.out 0).trans rfl
                            have hcz103_1 : wc.cell? ⟨gb108, 1, none⟩ = some (.int .i64 a0_1) := (blk_cell BK108.out 1).trans rfl
                            have hcz103_2 : wc.cell? ⟨gb108, 2, none⟩ = some (.string a0_2) := (blk_cell BK108.out 2).trans rfl
                            have hfz103_0 := blk_frozen BK108.out 0
                            have hfz103_1 := blk_frozen BK108.out 1
                            have hfz103_2 := blk_frozen BK108.out 2
                            have p111 : 0 ≤ ((ji22) : Int) := of_decide_eq_true (by first | (with_reducible assumption) | assumption)
                            have q111 : (ji22) < (x1_2.length : Int) := of_decide_eq_true (by first | (with_reducible assumption) | assumption)
                            obtain ⟨ad111, e111, hx111_0⟩ := Kd.at_bool (Kd.R_reads' HO_1.out).2.2 (ji22) p111 q111
                            (try rw [← Nbq25.out] at hx111_0)
                            (try rw [← Nbq87.out] at hx111_0)
                            (try rw [← Nbq98.out] at hx111_0)
                            obtain rfl : (⟨go6, 0, none⟩ : Addr) = ad111 := (by injection e111)
                            (first | simp only [add_plain] at hx111_0 | simp only [add_at] at hx111_0 | simp only [Addr.add, Nat.zero_add] at hx111_0 | skip)
                            replace p111 := eq_true p111
                            replace q111 := eq_true q111
                            have p121 : 0 ≤ ((ji84) : Int) := of_decide_eq_true (by first | (with_reducible assumption) | assumption)
                            have q121 : (ji84) < (x1_2.length : Int) := of_decide_eq_true (by first | (with_reducible assumption) | assumption)
                            obtain ⟨ad121, e121, hx121_0⟩ := Kd.at_bool (Kd.R_reads' HO_1.out).2.2 (ji84) p121 q121
                            (try rw [← Nbq25.out] at hx121_0)
                            (try rw [← Nbq87.out] at hx121_0)
                            (try rw [← Nbq98.out] at hx121_0)
                            obtain rfl : (⟨go6, 0, none⟩ : Addr) = ad121 := (by injection e121)
                            (first | simp only [add_plain] at hx121_0 | simp only [add_at] at hx121_0 | simp only [Addr.add, Nat.zero_add] at hx121_0 | skip)
                            replace p121 := eq_true p121
                            replace q121 := eq_true q121
                            have p123 : 0 ≤ ((ji96) : Int) := of_decide_eq_true (by first | (with_reducible assumption) | assumption)
                            have q123 : (ji96) < (x1_2.length : Int) := of_decide_eq_true (by first | (with_reducible assumption) | assumption)
                            obtain ⟨ad123, e123, hx123_0⟩ := Kd.at_bool (Kd.R_reads' HO_1.out).2.2 (ji96) p123 q123
                            (try rw [← Nbq25.out] at hx123_0)
                            (try rw [← Nbq87.out] at hx123_0)
                            (try rw [← Nbq98.out] at hx123_0)
                            obtain rfl : (⟨go6, 0, none⟩ : Addr) = ad123 := (by injection e123)
                            (first | simp only [add_plain] at hx123_0 | simp only [add_at] at hx123_0 | simp only [Addr.add, Nat.zero_add] at hx123_0 | skip)
                            replace p123 := eq_true p123
                            replace q123 := eq_true q123
                            have p102 : 0 ≤ (x8_2 : Int) := of_decide_eq_true (by first | (with_reducible assumption) | assumption)
                            have q102 : (x8_2 : Int) < ((x1_2.length : Int) : Int) := of_decide_eq_true (by first | (with_reducible assumption) | assumption)
                            obtain ⟨hx102_0, hf102_0⟩ := Kd.R_celln false HO_1.out (x8_2 : Int) p102 q102
                            replace p102 := eq_true p102
                            replace q102 := eq_true q102
                            have HP104 := Kd.R_putg HO_1.out (x8_2 : Int) true
                            go_wp2_with (first | ((with_reducible refine gate_store (t := 4) (p := 95) rfl ?_); refine store_event (t := 4) (p := 95) (v := ?vo_w105) (w1 := (wc.setCell ⟨go6, (x8_2 : Int).toNat, none⟩ (.bool true))) ?hg ?ho ?hn ?hr ?_; (case ho => rfl); (case hg => rfl); (case hn => rfl); (case hr => first | (go_simp; done) | (go_simp; rfl)); intro w105 hw; have hg : wc.grownBy w105 (some go6) := (by rw [hw]; exact HP104.2); have hp_ : Kd.R Kd.bool 4 w105 w0.heap.size (fun k_ => (P1_ k_ ∨ w.heap.size ≤ k_)) (.slice (some ⟨go6, 0, none⟩) x1_2.length co6) y124 := (by rw [hw, Ny124.out]; exact HP104.1); clear HP104; have n0_ := Aside0.mk (hp_); have n1_ := Aside0.mk (blk_grown (g := gb108) (o := .cells #[.int .i64 a0_0, .int .i64 a0_1, .string a0_2] 37 (0, 0)) (by (with_reducible repeat (first | refine blk_drewN ?_ _ | refine blk_drew ?_ | refine blk_alloc ?_ _)); exact BK108.out) hg (Kd.R_ne HO_1.out BK108.out (by decide))); have n2_ := Aside0.mk ((by rw [hw]; exact below_set (HB.out) GB6.out : Below w0.heap.size w0 w105)); have n3_ := Aside0.mk (Kept.of_grown (S := (fun k_ => P1_ k_)) hg (by repeat (first | (with_reducible first | exact HK.out | apply Kept.alloc | apply Kept.drewN | apply Kept.drew | refine Kept.setCell ?_ (.inr GW108.out) _) | exact HK.out)) (fun k_ e_ => (HO_1.out.1 k_ e_))); clear HO_1; clear BK108; clear HB; clear HK; have HO_1 := n0_; have BK108 := n1_; have HB := n2_; have HK := n3_; clear n0_ n1_ n2_ n3_; clear hg hw hp_))
                            (try simp only [← hl1_2])
                            go_roundg kj11
                            case measure => have := HK1.out; have := HK2.out; have := HJ11.out; omega
                            case rel => exact ⟨(y124), (true), (wrap64 (x8_2 + 1)), (by first | rfl | (simp; done) | (simp [*]; done)), (by first | rfl | (simp; done) | (simp [*]; done)), H', ⟨by have := HK1.out; have := HK2.out; have := HJ11.out; omega⟩, ⟨by (try simp only [hl1_1]); (try simp only [hl1_2]); (with_reducible repeat (first | apply Kd.R_alloc | apply Kd.R_drewN | apply Kd.R_drew)); exact HO_1.out⟩, ⟨by (try simp only [hl1_1]); (try simp only [hl1_2]); (with_reducible repeat (first | refine blk_drewN ?_ _ | refine blk_drew ?_ | refine blk_alloc ?_ _)); exact BK108.out⟩, ⟨by repeat (first | (with_reducible first | exact HK.out | apply Kept.alloc | apply Kept.drewN | apply Kept.drew | refine Kept.setCell ?_ (.inr GW108.out) _) | exact HK.out)⟩, ⟨by repeat (first | (with_reducible first | exact HB.out | apply below_alloc | apply pw_below_drewN | apply below_drew1 | refine below_set ?_ GE108.out) | exact HB.out)⟩⟩
                           ·rw [if_neg c101] at H
                            exact absurd H (by simp)
                          ·rw [if_neg c100] at H
                           exact absurd H (by simp)
                         ·replace c99 := Bool.eq_false_iff.mpr c99
                          subst c99
                          have H1 : (spec_l10Reach.l1 kj11 x1_2 x7_2 (wrap64 (x8_2 + 1)) a0_0 a0_1 a0_2) = some r := by rw [if_neg (show ¬ (false = true) by decide)] at H; exact H
                          clear H
                          have H := H1
                          clear H1
                          have H' := Aside0.mk H
                          clear H
                          have hcz106_0 : wc.cell? ⟨gb108, 0, none⟩ = some (.int .i64 a0_0) := (blk_cell BK108.out 0).trans rfl
                          have hcz106_1 : wc.cell? ⟨gb108, 1, none⟩ = some (.int .i64 a0_1) := (blk_cell BK108.out 1).trans rfl
                          have hcz106_2 : wc.cell? ⟨gb108, 2, none⟩ = some (.string a0_2) := (blk_cell BK108.out 2).trans rfl
                          have hfz106_0 := blk_frozen BK108.out 0
                          have hfz106_1 := blk_frozen BK108.out 1
                          have hfz106_2 := blk_frozen BK108.out 2
                          have p111 : 0 ≤ ((ji22) : Int) := of_decide_eq_true (by first | (with_reducible assumption) | assumption)
                          have q111 : (ji22) < (x1_2.length : Int) := of_decide_eq_true (by first | (with_reducible assumption) | assumption)
                          obtain ⟨ad111, e111, hx111_0⟩ := Kd.at_bool (Kd.R_reads' HO_1.out).2.2 (ji22) p111 q111
                          (try rw [← Nbq25.out] at hx111_0)
                          (try rw [← Nbq87.out] at hx111_0)
                          (try rw [← Nbq98.out] at hx111_0)
                          obtain rfl : (⟨go6, 0, none⟩ : Addr) = ad111 := (by injection e111)
                          (first | simp only [add_plain] at hx111_0 | simp only [add_at] at hx111_0 | simp only [Addr.add, Nat.zero_add] at hx111_0 | skip)
                          replace p111 := eq_true p111
                          replace q111 := eq_true q111
                          have p121 : 0 ≤ ((ji84) : Int) := of_decide_eq_true (by first | (with_reducible assumption) | assumption)
                          have q121 : (ji84) < (x1_2.length : Int) := of_decide_eq_true (by first | (with_reducible assumption) | assumption)
                          obtain ⟨ad121, e121, hx121_0⟩ := Kd.at_bool (Kd.R_reads' HO_1.out).2.2 (ji84) p121 q121
                          (try rw [← Nbq25.out] at hx121_0)
                          (try rw [← Nbq87.out] at hx121_0)
                          (try rw [← Nbq98.out] at hx121_0)
                          obtain rfl : (⟨go6, 0, none⟩ : Addr) = ad121 := (by injection e121)
                          (first | simp only [add_plain] at hx121_0 | simp only [add_at] at hx121_0 | simp only [Addr.add, Nat.zero_add] at hx121_0 | skip)
                          replace p121 := eq_true p121
                          replace q121 := eq_true q121
                          have p123 : 0 ≤ ((ji96) : Int) := of_decide_eq_true (by first | (with_reducible assumption) | assumption)
                          have q123 : (ji96) < (x1_2.length : Int) := of_decide_eq_true (by first | (with_reducible assumption) | assumption)
                          obtain ⟨ad123, e123, hx123_0⟩ := Kd.at_bool (Kd.R_reads' HO_1.out).2.2 (ji96) p123 q123
                          (try rw [← Nbq25.out] at hx123_0)
                          (try rw [← Nbq87.out] at hx123_0)
                          (try rw [← Nbq98.out] at hx123_0)
                          obtain rfl : (⟨go6, 0, none⟩ : Addr) = ad123 := (by injection e123)
                          (first | simp only [add_plain] at hx123_0 | simp only [add_at] at hx123_0 | simp only [Addr.add, Nat.zero_add] at hx123_0 | skip)
                          replace p123 := eq_true p123
                          replace q123 := eq_true q123
                          go_wp2
                          (try simp only [← hl1_2])
                          go_roundg kj11
                          case measure => have := HK1.out; have := HK2.out; have := HJ11.out; omega
                          case rel => exact ⟨(x1_2), (x7_2), (wrap64 (x8_2 + 1)), (by first | rfl | (simp; done) | (simp [*]; done)), (by first | rfl | (simp; done) | (simp [*]; done)), H', ⟨by have := HK1.out; have := HK2.out; have := HJ11.out; omega⟩, ⟨by (try simp only [hl1_1]); (try simp only [hl1_2]); (with_reducible repeat (first | apply Kd.R_alloc | apply Kd.R_drewN | apply Kd.R_drew)); exact HO_1.out⟩, ⟨by (try simp only [hl1_1]); (try simp only [hl1_2]); (with_reducible repeat (first | refine blk_drewN ?_ _ | refine blk_drew ?_ | refine blk_alloc ?_ _)); exact BK108.out⟩, ⟨by repeat (first | (with_reducible first | exact HK.out | apply Kept.alloc | apply Kept.drewN | apply Kept.drew | refine Kept.setCell ?_ (.inr GW108.out) _) | exact HK.out)⟩, ⟨by repeat (first | (with_reducible first | exact HB.out | apply below_alloc | apply pw_below_drewN | apply below_drew1 | refine below_set ?_ GE108.out) | exact HB.out)⟩⟩
                        ·rw [if_neg c97] at H
                         exact absurd H (by simp)
                       ·rw [if_neg c95] at H
                        have c95b0 : decide ((wrap64 (x8_2 + a0_1)) < (x1_2.length : Int)) = false := decide_eq_false c95
                        clear c95
                        have H' := Aside0.mk H
                        clear H
                        have hcz107_0 : wc.cell? ⟨gb108, 0, none⟩ = some (.int .i64 a0_0) := (blk_cell BK108.out 0).trans rfl
                        have hcz107_1 : wc.cell? ⟨gb108, 1, none⟩ = some (.int .i64 a0_1) := (blk_cell BK108.out 1).trans rfl
                        have hcz107_2 : wc.cell? ⟨gb108, 2, none⟩ = some (.string a0_2) := (blk_cell BK108.out 2).trans rfl
                        have hfz107_0 := blk_frozen BK108.out 0
                        have hfz107_1 := blk_frozen BK108.out 1
                        have hfz107_2 := blk_frozen BK108.out 2
                        have p111 : 0 ≤ ((ji22) : Int) := of_decide_eq_true (by first | (with_reducible assumption) | assumption)
                        have q111 : (ji22) < (x1_2.length : Int) := of_decide_eq_true (by first | (with_reducible assumption) | assumption)
                        obtain ⟨ad111, e111, hx111_0⟩ := Kd.at_bool (Kd.R_reads' HO_1.out).2.2 (ji22) p111 q111
                        (try rw [← Nbq25.out] at hx111_0)
                        (try rw [← Nbq87.out] at hx111_0)
                        obtain rfl : (⟨go6, 0, none⟩ : Addr) = ad111 := (by injection e111)
                        (first | simp only [add_plain] at hx111_0 | simp only [add_at] at hx111_0 | simp only [Addr.add, Nat.zero_add] at hx111_0 | skip)
                        replace p111 := eq_true p111
                        replace q111 := eq_true q111
                        have p121 : 0 ≤ ((ji84) : Int) := of_decide_eq_true (by first | (with_reducible assumption) | assumption)
                        have q121 : (ji84) < (x1_2.length : Int) := of_decide_eq_true (by first | (with_reducible assumption) | assumption)
                        obtain ⟨ad121, e121, hx121_0⟩ := Kd.at_bool (Kd.R_reads' HO_1.out).2.2 (ji84) p121 q121
                        (try rw [← Nbq25.out] at hx121_0)
                        (try rw [← Nbq87.out] at hx121_0)
                        obtain rfl : (⟨go6, 0, none⟩ : Addr) = ad121 := (by injection e121)
                        (first | simp only [add_plain] at hx121_0 | simp only [add_at] at hx121_0 | simp only [Addr.add, Nat.zero_add] at hx121_0 | skip)
                        replace p121 := eq_true p121
                        replace q121 := eq_true q121
                        go_wp2
                        (try simp only [← hl1_2])
                        go_roundg kj11
                        case measure => have := HK1.out; have := HK2.out; have := HJ11.out; omega
                        case rel => exact ⟨(x1_2), (x7_2), (wrap64 (x8_2 + 1)), (by first | rfl | (simp; done) | (simp [*]; done)), (by first | rfl | (simp; done) | (simp [*]; done)), H', ⟨by have := HK1.out; have := HK2.out; have := HJ11.out; omega⟩, ⟨by (try simp only [hl1_1]); (try simp only [hl1_2]); (with_reducible repeat (first | apply Kd.R_alloc | apply Kd.R_drewN | apply Kd.R_drew)); exact HO_1.out⟩, ⟨by (try simp only [hl1_1]); (try simp only [hl1_2]); (with_reducible repeat (first | refine blk_drewN ?_ _ | refine blk_drew ?_ | refine blk_alloc ?_ _)); exact BK108.out⟩, ⟨by repeat (first | (with_reducible first | exact HK.out | apply Kept.alloc | apply Kept.drewN | apply Kept.drew | refine Kept.setCell ?_ (.inr GW108.out) _) | exact HK.out)⟩, ⟨by repeat (first | (with_reducible first | exact HB.out | apply below_alloc | apply pw_below_drewN | apply below_drew1 | refine below_set ?_ GE108.out) | exact HB.out)⟩⟩
                     ·rw [if_neg c86] at H
                      exact absurd H (by simp)
                    ·rw [if_neg c85] at H
                     exact absurd H (by simp)
                   ·rw [if_neg c83] at H
                    have c83b0 : decide (a0_1 ≤ x8_2) = false := decide_eq_false c83
                    clear c83
                    by_cases c108 : (wrap64 (x8_2 + a0_1)) < (x1_2.length : Int)
                    ·rw [if_pos c108] at H
                     have c108b0 : decide ((wrap64 (x8_2 + a0_1)) < (x1_2.length : Int)) = true := decide_eq_true c108
                     clear c108
                     obtain ⟨ji109, hji109⟩ : ∃ j_ : Int, (wrap64 (x8_2 + a0_1)) = j_ := ⟨_, rfl⟩
                     replace H : (if 0 ≤ (ji109) then (if rdOf false x1_2 (ji109) = true then (if 0 ≤ x8_2 then (if x8_2 < (x1_2.length : Int) then (spec_l10Reach.l1 kj11 (x1_2.set (x8_2 : Int).toNat true) true (wrap64 (x8_2 + 1)) a0_0 a0_1 a0_2) else (none)) else (none)) else (spec_l10Reach.l1 kj11 x1_2 x7_2 (wrap64 (x8_2 + 1)) a0_0 a0_1 a0_2)) else (none)) = some r := by first | (rw [hji109] at H; exact H) | (simp only [hji109] at H ⊢; exact H)
                     (try rw [hji109] at c108b0)
                     have hji109w : (IntKind.i64.wrap (x8_2 + a0_1)) = ji109 := (i64_w _).trans hji109
                     by_cases c110 : 0 ≤ (ji109)
                     ·rw [if_pos c110] at H
                      have c110b0 : decide (0 ≤ (ji109)) = true := decide_eq_true c110
                      clear c110
                      obtain ⟨bq111, hbq111⟩ : ∃ b_ : Bool, b_ = (rdOf false x1_2 (ji109)) := ⟨_, rfl⟩
                      replace H : (if bq111 = true then (if 0 ≤ x8_2 then (if x8_2 < (x1_2.length : Int) then (spec_l10Reach.l1 kj11 (x1_2.set (x8_2 : Int).toNat true) true (wrap64 (x8_2 + 1)) a0_0 a0_1 a0_2) else (none)) else (none)) else (spec_l10Reach.l1 kj11 x1_2 x7_2 (wrap64 (x8_2 + 1)) a0_0 a0_1 a0_2)) = some r := by rw [← hbq111] at H; exact H
                      have Nbq111 := Aside0.mk hbq111
                      clear hbq111
                      by_cases c112 : bq111 = true
                      ·subst c112
                       have H1 : (if 0 ≤ x8_2 then (if x8_2 < (x1_2.length : Int) then (spec_l10Reach.l1 kj11 (x1_2.set (x8_2 : Int).toNat true) true (wrap64 (x8_2 + 1)) a0_0 a0_1 a0_2) else (none)) else (none)) = some r := by rw [if_pos rfl] at H; exact H
                       clear H
                       have H := H1
                       clear H1
                       by_cases c113 : 0 ≤ x8_2
                       ·rw [if_pos c113] at H
                        have c113b0 : decide (0 ≤ x8_2) = true := decide_eq_true c113
                        clear c113
                        by_cases c114 : x8_2 < (x1_2.length : Int)
                        ·rw [if_pos c114] at H
                         have c114b0 : decide (x8_2 < (x1_2.length : Int)) = true := decide_eq_true c114
                         clear c114
                         obtain ⟨y126, hy126⟩ : ∃ y_ : List Bool, y_ = (x1_2.set (x8_2 : Int).toNat true) := ⟨_, rfl⟩
                         replace H : (spec_l10Reach.l1 kj11 y126 true (wrap64 (x8_2 + 1)) a0_0 a0_1 a0_2) = some r := by first | (rw [hy126]; with_reducible exact H) | (have H2_ := (Option.bind_some _ _).symm.trans H; rw [hy126]; with_reducible exact H2_) | (have H2_ := (Option.bind_some _ _).symm.trans H; with_reducible exact H2_) | with_reducible exact H | (rw [hy126]; exact H) | exact H
                         have Ny126 := Aside0.mk hy126
                         clear hy126
                         have H' := Aside0.mk H
                         clear H
                         have hcz116_0 : wc.cell? ⟨gb108, 0, none⟩ = some (.int .i64 a0_0) := (blk_cell BK108.out 0).trans rfl
                         have hcz116_1 : wc.cell? ⟨gb108, 1, none⟩ = some (.int .i64 a0_1) := (blk_cell BK108.out 1).trans rfl
                         have hcz116_2 : wc.cell? ⟨gb108, 2, none⟩ = some (.string a0_2) := (blk_cell BK108.out 2).trans rfl
                         have hfz116_0 := blk_frozen BK108.out 0
                         have hfz116_1 := blk_frozen BK108.out 1
                         have hfz116_2 := blk_frozen BK108.out 2
                         have p111 : 0 ≤ ((ji22) : Int) := of_decide_eq_true (by first | (with_reducible assumption) | assumption)
                         have q111 : (ji22) < (x1_2.length : Int) := of_decide_eq_true (by first | (with_reducible assumption) | assumption)
                         obtain ⟨ad111, e111, hx111_0⟩ := Kd.at_bool (Kd.R_reads' HO_1.out).2.2 (ji22) p111 q111
                         (try rw [← Nbq25.out] at hx111_0)
                         (try rw [← Nbq111.out] at hx111_0)
                         obtain rfl : (⟨go6, 0, none⟩ : Addr) = ad111 := (by injection e111)
                         (first | simp only [add_plain] at hx111_0 | simp only [add_at] at hx111_0 | simp only [Addr.add, Nat.zero_add] at hx111_0 | skip)
                         replace p111 := eq_true p111
                         replace q111 := eq_true q111
                         have p125 : 0 ≤ ((ji109) : Int) := of_decide_eq_true (by first | (with_reducible assumption) | assumption)
                         have q125 : (ji109) < (x1_2.length : Int) := of_decide_eq_true (by first | (with_reducible assumption) | assumption)
                         obtain ⟨ad125, e125, hx125_0⟩ := Kd.at_bool (Kd.R_reads' HO_1.out).2.2 (ji109) p125 q125
                         (try rw [← Nbq25.out] at hx125_0)
                         (try rw [← Nbq111.out] at hx125_0)
                         obtain rfl : (⟨go6, 0, none⟩ : Addr) = ad125 := (by injection e125)
                         (first | simp only [add_plain] at hx125_0 | simp only [add_at] at hx125_0 | simp only [Addr.add, Nat.zero_add] at hx125_0 | skip)
                         replace p125 := eq_true p125
                         replace q125 := eq_true q125
                         have p115 : 0 ≤ (x8_2 : Int) := of_decide_eq_true (by first | (with_reducible assumption) | assumption)
                         have q115 : (x8_2 : Int) < ((x1_2.length : Int) : Int) := of_decide_eq_true (by first | (with_reducible assumption) | assumption)
                         obtain ⟨hx115_0, hf115_0⟩ := Kd.R_celln false HO_1.out (x8_2 : Int) p115 q115
                         replace p115 := eq_true p115
                         replace q115 := eq_true q115
                         have HP117 := Kd.R_putg HO_1.out (x8_2 : Int) true
                         go_wp2_with (first | ((with_reducible refine gate_store (t := 4) (p := 95) rfl ?_); refine store_event (t := 4) (p := 95) (v := ?vo_w118) (w1 := (wc.setCell ⟨go6, (x8_2 : Int).toNat, none⟩ (.bool true))) ?hg ?ho ?hn ?hr ?_; (case ho => rfl); (case hg => rfl); (case hn => rfl); (case hr => first | (go_simp; done) | (go_simp; rfl)); intro w118 hw; have hg : wc.grownBy w118 (some go6) := (by rw [hw]; exact HP117.2); have hp_ : Kd.R Kd.bool 4 w118 w0.heap.size (fun k_ => (P1_ k_ ∨ w.heap.size ≤ k_)) (.slice (some ⟨go6, 0, none⟩) x1_2.length co6) y126 := (by rw [hw, Ny126.out]; exact HP117.1); clear HP117; have n0_ := Aside0.mk (hp_); have n1_ := Aside0.mk (blk_grown (g := gb108) (o := .cells #[.int .i64 a0_0, .int .i64 a0_1, .string a0_2] 37 (0, 0)) (by (with_reducible repeat (first | refine blk_drewN ?_ _ | refine blk_drew ?_ | refine blk_alloc ?_ _)); exact BK108.out) hg (Kd.R_ne HO_1.out BK108.out (by decide))); have n2_ := Aside0.mk ((by rw [hw]; exact below_set (HB.out) GB6.out : Below w0.heap.size w0 w118)); have n3_ := Aside0.mk (Kept.of_grown (S := (fun k_ => P1_ k_)) hg (by repeat (first | (with_reducible first | exact HK.out | apply Kept.alloc | apply Kept.drewN | apply Kept.drew | refine Kept.setCell ?_ (.inr GW108.out) _) | exact HK.out)) (fun k_ e_ => (HO_1.out.1 k_ e_))); clear HO_1; clear BK108; clear HB; clear HK; have HO_1 := n0_; have BK108 := n1_; have HB := n2_; have HK := n3_; clear n0_ n1_ n2_ n3_; clear hg hw hp_))
                         (try simp only [← hl1_2])
                         go_roundg kj11
                         case measure => have := HK1.out; have := HK2.out; have := HJ11.out; omega
                         case rel => exact ⟨(y126), (true), (wrap64 (x8_2 + 1)), (by first | rfl | (simp; done) | (simp [*]; done)), (by first | rfl | (simp; done) | (simp [*]; done)), H', ⟨by have := HK1.out; have := HK2.out; have := HJ11.out; omega⟩, ⟨by (try simp only [hl1_1]); (try simp only [hl1_2]); (with_reducible repeat (first | apply Kd.R_alloc | apply Kd.R_drewN | apply Kd.R_drew)); exact HO_1.out⟩, ⟨by (try simp only [hl1_1]); (try simp only [hl1_2]); (with_reducible repeat (first | refine blk_drewN ?_ _ | refine blk_drew ?_ | refine blk_alloc ?_ _)); exact BK108.out⟩, ⟨by repeat (first | (with_reducible first | exact HK.out | apply Kept.alloc | apply Kept.drewN | apply Kept.drew | refine Kept.setCell ?_ (.inr GW108.out) _) | exact HK.out)⟩, ⟨by repeat (first | (with_reducible first | exact HB.out | apply below_alloc | apply pw_below_drewN | apply below_drew1 | refine below_set ?_ GE108.out) | exact HB.out)⟩⟩
                        ·rw [if_neg c114] at H
                         exact absurd H (by simp)
                       ·rw [if_neg c113] at H
                        exact absurd H (by simp)
                      ·replace c112 := Bool.eq_false_iff.mpr c112
                       subst c112
                       have H1 : (spec_l10Reach.l1 kj11 x1_2 x7_2 (wrap64 (x8_2 + 1)) a0_0 a0_1 a0_2) = some r := by rw [if_neg (show ¬ (false = true) by decide)] at H; exact H
                       clear H
                       have H := H1
                       clear H1
                       have H' := Aside0.mk H
                       clear H
                       have hcz119_0 : wc.cell? ⟨gb108, 0, none⟩ = some (.int .i64 a0_0) := (blk_cell BK108.out 0).trans rfl
                       have hcz119_1 : wc.cell? ⟨gb108, 1, none⟩ = some (.int .i64 a0_1) := (blk_cell BK108.out 1).trans rfl
                       have hcz119_2 : wc.cell? ⟨gb108, 2, none⟩ = some (.string a0_2) := (blk_cell BK108.out 2).trans rfl
                       have hfz119_0 := blk_frozen BK108.out 0
                       have hfz119_1 := blk_frozen BK108.out 1
                       have hfz119_2 := blk_frozen BK108.out 2
                       have p111 : 0 ≤ ((ji22) : Int) := of_decide_eq_true (by first | (with_reducible assumption) | assumption)
                       have q111 : (ji22) < (x1_2.length : Int) := of_decide_eq_true (by first | (with_reducible assumption) | assumption)
                       obtain ⟨ad111, e111, hx111_0⟩ := Kd.at_bool (Kd.R_reads' HO_1.out).2.2 (ji22) p111 q111
                       (try rw [← Nbq25.out] at hx111_0)
                       (try rw [← Nbq111.out] at hx111_0)
                       obtain rfl : (⟨go6, 0, none⟩ : Addr) = ad111 := (by injection e111)
                       (first | simp only [add_plain] at hx111_0 | simp only [add_at] at hx111_0 | simp only [Addr.add, Nat.zero_add] at hx111_0 | skip)
                       replace p111 := eq_true p111
                       replace q111 := eq_true q111
                       have p125 : 0 ≤ ((ji109) : Int) := of_decide_eq_true (by first | (with_reducible assumption) | assumption)
                       have q125 : (ji109) < (x1_2.length : Int) := of_decide_eq_true (by first | (with_reducible assumption) | assumption)
                       obtain ⟨ad125, e125, hx125_0⟩ := Kd.at_bool (Kd.R_reads' HO_1.out).2.2 (ji109) p125 q125
                       (try rw [← Nbq25.out] at hx125_0)
                       (try rw [← Nbq111.out] at hx125_0)
                       obtain rfl : (⟨go6, 0, none⟩ : Addr) = ad125 := (by injection e125)
                       (first | simp only [add_plain] at hx125_0 | simp only [add_at] at hx125_0 | simp only [Addr.add, Nat.zero_add] at hx125_0 | skip)
                       replace p125 := eq_true p125
                       replace q125 := eq_true q125
                       go_wp2
                       (try simp only [← hl1_2])
                       go_roundg kj11
                       case measure => have := HK1.out; have := HK2.out; have := HJ11.out; omega
                       case rel => exact ⟨(x1_2), (x7_2), (wrap64 (x8_2 + 1)), (by first | rfl | (simp; done) | (simp [*]; done)), (by first | rfl | (simp; done) | (simp [*]; done)), H', ⟨by have := HK1.out; have := HK2.out; have := HJ11.out; omega⟩, ⟨by (try simp only [hl1_1]); (try simp only [hl1_2]); (with_reducible repeat (first | apply Kd.R_alloc | apply Kd.R_drewN | apply Kd.R_drew)); exact HO_1.out⟩, ⟨by (try simp only [hl1_1]); (try simp only [hl1_2]); (with_reducible repeat (first | refine blk_drewN ?_ _ | refine blk_drew ?_ | refine blk_alloc ?_ _)); exact BK108.out⟩, ⟨by repeat (first | (with_reducible first | exact HK.out | apply Kept.alloc | apply Kept.drewN | apply Kept.drew | refine Kept.setCell ?_ (.inr GW108.out) _) | exact HK.out)⟩, ⟨by repeat (first | (with_reducible first | exact HB.out | apply below_alloc | apply pw_below_drewN | apply below_drew1 | refine below_set ?_ GE108.out) | exact HB.out)⟩⟩
                     ·rw [if_neg c110] at H
                      exact absurd H (by simp)
                    ·rw [if_neg c108] at H
                     have c108b0 : decide ((wrap64 (x8_2 + a0_1)) < (x1_2.length : Int)) = false := decide_eq_false c108
                     clear c108
                     have H' := Aside0.mk H
                     clear H
                     have hcz120_0 : wc.cell? ⟨gb108, 0, none⟩ = some (.int .i64 a0_0) := (blk_cell BK108.out 0).trans rfl
                     have hcz120_1 : wc.cell? ⟨gb108, 1, none⟩ = some (.int .i64 a0_1) := (blk_cell BK108.out 1).trans rfl
                     have hcz120_2 : wc.cell? ⟨gb108, 2, none⟩ = some (.string a0_2) := (blk_cell BK108.out 2).trans rfl
                     have hfz120_0 := blk_frozen BK108.out 0
                     have hfz120_1 := blk_frozen BK108.out 1
                     have hfz120_2 := blk_frozen BK108.out 2
                     have p111 : 0 ≤ ((ji22) : Int) := of_decide_eq_true (by first | (with_reducible assumption) | assumption)
                     have q111 : (ji22) < (x1_2.length : Int) := of_decide_eq_true (by first | (with_reducible assumption) | assumption)
                     obtain ⟨ad111, e111, hx111_0⟩ := Kd.at_bool (Kd.R_reads' HO_1.out).2.2 (ji22) p111 q111
                     (try rw [← Nbq25.out] at hx111_0)
                     obtain rfl : (⟨go6, 0, none⟩ : Addr) = ad111 := (by injection e111)
                     (first | simp only [add_plain] at hx111_0 | simp only [add_at] at hx111_0 | simp only [Addr.add, Nat.zero_add] at hx111_0 | skip)
                     replace p111 := eq_true p111
                     replace q111 := eq_true q111
                     go_wp2
                     (try simp only [← hl1_2])
                     go_roundg kj11
                     case measure => have := HK1.out; have := HK2.out; have := HJ11.out; omega
                     case rel => exact ⟨(x1_2), (x7_2), (wrap64 (x8_2 + 1)), (by first | rfl | (simp; done) | (simp [*]; done)), (by first | rfl | (simp; done) | (simp [*]; done)), H', ⟨by have := HK1.out; have := HK2.out; have := HJ11.out; omega⟩, ⟨by (try simp only [hl1_1]); (try simp only [hl1_2]); (with_reducible repeat (first | apply Kd.R_alloc | apply Kd.R_drewN | apply Kd.R_drew)); exact HO_1.out⟩, ⟨by (try simp only [hl1_1]); (try simp only [hl1_2]); (with_reducible repeat (first | refine blk_drewN ?_ _ | refine blk_drew ?_ | refine blk_alloc ?_ _)); exact BK108.out⟩, ⟨by repeat (first | (with_reducible first | exact HK.out | apply Kept.alloc | apply Kept.drewN | apply Kept.drew | refine Kept.setCell ?_ (.inr GW108.out) _) | exact HK.out)⟩, ⟨by repeat (first | (with_reducible first | exact HB.out | apply below_alloc | apply pw_below_drewN | apply below_drew1 | refine below_set ?_ GE108.out) | exact HB.out)⟩⟩
                ·rw [if_neg c24] at H
                 exact absurd H (by simp)
               ·rw [if_neg c23] at H
                exact absurd H (by simp)
              ·rw [if_neg c21] at H
               have c21b0 : decide (0 < (Int.tmod x8_2 a0_1)) = false := decide_eq_false c21
               clear c21
               by_cases c121 : (wrap64 ((Int.tmod x8_2 a0_1) + 1)) < a0_1
               ·rw [if_pos c121] at H
                have c121b0 : decide ((wrap64 ((Int.tmod x8_2 a0_1) + 1)) < a0_1) = true := decide_eq_true c121
                clear c121
                obtain ⟨ji122, hji122⟩ : ∃ j_ : Int, (wrap64 (x8_2 + 1)) = j_ := ⟨_, rfl⟩
                replace H : (if 0 ≤ (ji122) then (if (ji122) < (x1_2.length : Int) then (if rdOf false x1_2 (ji122) = true then (if 0 ≤ x8_2 then (if x8_2 < (x1_2.length : Int) then (spec_l10Reach.l1 kj11 (x1_2.set (x8_2 : Int).toNat true) true ji122 a0_0 a0_1 a0_2) else (none)) else (none)) else (if x8_2 ≥ a0_1 then (if 0 ≤ (wrap64 (x8_2 - a0_1)) then (if (wrap64 (x8_2 - a0_1)) < (x1_2.length : Int) then (if rdOf false x1_2 (wrap64 (x8_2 - a0_1)) = true then (if 0 ≤ x8_2 then (if x8_2 < (x1_2.length : Int) then (spec_l10Reach.l1 kj11 (x1_2.set (x8_2 : Int).toNat true) true ji122 a0_0 a0_1 a0_2) else (none)) else (none)) else (if (wrap64 (x8_2 + a0_1)) < (x1_2.length : Int) then (if 0 ≤ (wrap64 (x8_2 + a0_1)) then (if rdOf false x1_2 (wrap64 (x8_2 + a0_1)) = true then (if 0 ≤ x8_2 then (if x8_2 < (x1_2.length : Int) then (spec_l10Reach.l1 kj11 (x1_2.set (x8_2 : Int).toNat true) true ji122 a0_0 a0_1 a0_2) else (none)) else (none)) else (spec_l10Reach.l1 kj11 x1_2 x7_2 ji122 a0_0 a0_1 a0_2)) else (none)) else (spec_l10Reach.l1 kj11 x1_2 x7_2 ji122 a0_0 a0_1 a0_2))) else (none)) else (none)) else (if (wrap64 (x8_2 + a0_1)) < (x1_2.length : Int) then (if 0 ≤ (wrap64 (x8_2 + a0_1)) then (if rdOf false x1_2 (wrap64 (x8_2 + a0_1)) = true then (if 0 ≤ x8_2 then (if x8_2 < (x1_2.length : Int) then (spec_l10Reach.l1 kj11 (x1_2.set (x8_2 : Int).toNat true) true ji122 a0_0 a0_1 a0_2) else (none)) else (none)) else (spec_l10Reach.l1 kj11 x1_2 x7_2 ji122 a0_0 a0_1 a0_2)) else (none)) else (spec_l10Reach.l1 kj11 x1_2 x7_2 ji122 a0_0 a0_1 a0_2)))) else (none)) else (none)) = some r := by first | (rw [hji122] at H; exact H) | (simp only [hji122] at H ⊢; exact H)
                have hji122w : (IntKind.i64.wrap (x8_2 + 1)) = ji122 := (i64_w _).trans hji122
                by_cases c123 : 0 ≤ (ji122)
                ·rw [if_pos c123] at H
                 have c123b0 : decide (0 ≤ (ji122)) = true := decide_eq_true c123
                 clear c123
                 by_cases c124 : (ji122) < (x1_2.length : Int)
                 ·rw [if_pos c124] at H
                  have c124b0 : decide ((ji122) < (x1_2.length : Int)) = true := decide_eq_true c124
                  clear c124
                  obtain ⟨bq125, hbq125⟩ : ∃ b_ : Bool, b_ = (rdOf false x1_2 (ji122)) := ⟨_, rfl⟩
                  replace H : (if bq125 = true then (if 0 ≤ x8_2 then (if x8_2 < (x1_2.length : Int) then (spec_l10Reach.l1 kj11 (x1_2.set (x8_2 : Int).toNat true) true ji122 a0_0 a0_1 a0_2) else (none)) else (none)) else (if x8_2 ≥ a0_1 then (if 0 ≤ (wrap64 (x8_2 - a0_1)) then (if (wrap64 (x8_2 - a0_1)) < (x1_2.length : Int) then (if rdOf false x1_2 (wrap64 (x8_2 - a0_1)) = true then (if 0 ≤ x8_2 then (if x8_2 < (x1_2.length : Int) then (spec_l10Reach.l1 kj11 (x1_2.set (x8_2 : Int).toNat true) true ji122 a0_0 a0_1 a0_2) else (none)) else (none)) else (if (wrap64 (x8_2 + a0_1)) < (x1_2.length : Int) then (if 0 ≤ (wrap64 (x8_2 + a0_1)) then (if rdOf false x1_2 (wrap64 (x8_2 + a0_1)) = true then (if 0 ≤ x8_2 then (if x8_2 < (x1_2.length : Int) then (spec_l10Reach.l1 kj11 (x1_2.set (x8_2 : Int).toNat true) true ji122 a0_0 a0_1 a0_2) else (none)) else (none)) else (spec_l10Reach.l1 kj11 x1_2 x7_2 ji122 a0_0 a0_1 a0_2)) else (none)) else (spec_l10Reach.l1 kj11 x1_2 x7_2 ji122 a0_0 a0_1 a0_2))) else (none)) else (none)) else (if (wrap64 (x8_2 + a0_1)) < (x1_2.length : Int) then (if 0 ≤ (wrap64 (x8_2 + a0_1)) then (if rdOf false x1_2 (wrap64 (x8_2 + a0_1)) = true then (if 0 ≤ x8_2 then (if x8_2 < (x1_2.length : Int) then (spec_l10Reach.l1 kj11 (x1_2.set (x8_2 : Int).toNat true) true ji122 a0_0 a0_1 a0_2) else (none)) else (none)) else (spec_l10Reach.l1 kj11 x1_2 x7_2 ji122 a0_0 a0_1 a0_2)) else (none)) else (spec_l10Reach.l1 kj11 x1_2 x7_2 ji122 a0_0 a0_1 a0_2)))) = some r := by rw [← hbq125] at H; exact H
                  have Nbq125 := Aside0.mk hbq125
                  clear hbq125
                  by_cases c126 : bq125 = true
                  ·subst c126
                   have H1 : (if 0 ≤ x8_2 then (if x8_2 < (x1_2.length : Int) then (spec_l10Reach.l1 kj11 (x1_2.set (x8_2 : Int).toNat true) true ji122 a0_0 a0_1 a0_2) else (none)) else (none)) = some r := by rw [if_pos rfl] at H; exact H
                   clear H
                   have H := H1
                   clear H1
                   by_cases c127 : 0 ≤ x8_2
                   ·rw [if_pos c127] at H
                    have c127b0 : decide (0 ≤ x8_2) = true := decide_eq_true c127
                    clear c127
                    by_cases c128 : x8_2 < (x1_2.length : Int)
                    ·rw [if_pos c128] at H
                     have c128b0 : decide (x8_2 < (x1_2.length : Int)) = true := decide_eq_true c128
                     clear c128
                     obtain ⟨y128, hy128⟩ : ∃ y_ : List Bool, y_ = (x1_2.set (x8_2 : Int).toNat true) := ⟨_, rfl⟩
                     replace H : (spec_l10Reach.l1 kj11 y128 true ji122 a0_0 a0_1 a0_2) = some r := by first | (rw [hy128]; with_reducible exact H) | (have H2_ := (Option.bind_some _ _).symm.trans H; rw [hy128]; with_reducible exact H2_) | (have H2_ := (Option.bind_some _ _).symm.trans H; with_reducible exact H2_) | with_reducible exact H | (rw [hy128]; exact H) | exact H
                     have Ny128 := Aside0.mk hy128
                     clear hy128
                     have H' := Aside0.mk H
                     clear H
                     have hcz130_0 : wc.cell? ⟨gb108, 0, none⟩ = some (.int .i64 a0_0) := (blk_cell BK108.out 0).trans rfl
                     have hcz130_1 : wc.cell? ⟨gb108, 1, none⟩ = some (.int .i64 a0_1) := (blk_cell BK108.out 1).trans rfl
                     have hcz130_2 : wc.cell? ⟨gb108, 2, none⟩ = some (.string a0_2) := (blk_cell BK108.out 2).trans rfl
                     have hfz130_0 := blk_frozen BK108.out 0
                     have hfz130_1 := blk_frozen BK108.out 1
                     have hfz130_2 := blk_frozen BK108.out 2
                     have p127 : 0 ≤ ((ji122) : Int) := of_decide_eq_true (by first | (with_reducible assumption) | assumption)
                     have q127 : (ji122) < (x1_2.length : Int) := of_decide_eq_true (by first | (with_reducible assumption) | assumption)
                     obtain ⟨ad127, e127, hx127_0⟩ := Kd.at_bool (Kd.R_reads' HO_1.out).2.2 (ji122) p127 q127
                     (try rw [← Nbq125.out] at hx127_0)
                     obtain rfl : (⟨go6, 0, none⟩ : Addr) = ad127 := (by injection e127)
                     (first | simp only [add_plain] at hx127_0 | simp only [add_at] at hx127_0 | simp only [Addr.add, Nat.zero_add] at hx127_0 | skip)
                     replace p127 := eq_true p127
                     replace q127 := eq_true q127
                     have p129 : 0 ≤ (x8_2 : Int) := of_decide_eq_true (by first | (with_reducible assumption) | assumption)
                     have q129 : (x8_2 : Int) < ((x1_2.length : Int) : Int) := of_decide_eq_true (by first | (with_reducible assumption) | assumption)
                     obtain ⟨hx129_0, hf129_0⟩ := Kd.R_celln false HO_1.out (x8_2 : Int) p129 q129
                     replace p129 := eq_true p129
                     replace q129 := eq_true q129
                     have HP131 := Kd.R_putg HO_1.out (x8_2 : Int) true
                     go_wp2_with (first | ((with_reducible refine gate_store (t := 4) (p := 95) rfl ?_); refine store_event (t := 4) (p := 95) (v := ?vo_w132) (w1 := (wc.setCell ⟨go6, (x8_2 : Int).toNat, none⟩ (.bool true))) ?hg ?ho ?hn ?hr ?_; (case ho => rfl); (case hg => rfl); (case hn => rfl); (case hr => first | (go_simp; done) | (go_simp; rfl)); intro w132 hw; have hg : wc.grownBy w132 (some go6) := (by rw [hw]; exact HP131.2); have hp_ : Kd.R Kd.bool 4 w132 w0.heap.size (fun k_ => (P1_ k_ ∨ w.heap.size ≤ k_)) (.slice (some ⟨go6, 0, none⟩) x1_2.length co6) y128 := (by rw [hw, Ny128.out]; exact HP131.1); clear HP131; have n0_ := Aside0.mk (hp_); have n1_ := Aside0.mk (blk_grown (g := gb108) (o := .cells #[.int .i64 a0_0, .int .i64 a0_1, .string a0_2] 37 (0, 0)) (by (with_reducible repeat (first | refine blk_drewN ?_ _ | refine blk_drew ?_ | refine blk_alloc ?_ _)); exact BK108.out) hg (Kd.R_ne HO_1.out BK108.out (by decide))); have n2_ := Aside0.mk ((by rw [hw]; exact below_set (HB.out) GB6.out : Below w0.heap.size w0 w132)); have n3_ := Aside0.mk (Kept.of_grown (S := (fun k_ => P1_ k_)) hg (by repeat (first | (with_reducible first | exact HK.out | apply Kept.alloc | apply Kept.drewN | apply Kept.drew | refine Kept.setCell ?_ (.inr GW108.out) _) | exact HK.out)) (fun k_ e_ => (HO_1.out.1 k_ e_))); clear HO_1; clear BK108; clear HB; clear HK; have HO_1 := n0_; have BK108 := n1_; have HB := n2_; have HK := n3_; clear n0_ n1_ n2_ n3_; clear hg hw hp_))
                     (try simp only [← hl1_2])
                     go_roundg kj11
                     case measure => have := HK1.out; have := HK2.out; have := HJ11.out; omega
                     case rel => exact ⟨(y128), (true), (ji122), (by first | rfl | (simp; done) | (simp [*]; done)), (by first | rfl | (simp; done) | (simp only [← hji122] <;> (first | rfl | simp)) | (simp [*]; done)), H', ⟨by have := HK1.out; have := HK2.out; have := HJ11.out; omega⟩, ⟨by (try simp only [hl1_1]); (try simp only [hl1_2]); (with_reducible repeat (first | apply Kd.R_alloc | apply Kd.R_drewN | apply Kd.R_drew)); exact HO_1.out⟩, ⟨by (try simp only [hl1_1]); (try simp only [hl1_2]); (with_reducible repeat (first | refine blk_drewN ?_ _ | refine blk_drew ?_ | refine blk_alloc ?_ _)); exact BK108.out⟩, ⟨by repeat (first | (with_reducible first | exact HK.out | apply Kept.alloc | apply Kept.drewN | apply Kept.drew | refine Kept.setCell ?_ (.inr GW108.out) _) | exact HK.out)⟩, ⟨by repeat (first | (with_reducible first | exact HB.out | apply below_alloc | apply pw_below_drewN | apply below_drew1 | refine below_set ?_ GE108.out) | exact HB.out)⟩⟩
                    ·rw [if_neg c128] at H
                     exact absurd H (by simp)
                   ·rw [if_neg c127] at H
                    exact absurd H (by simp)
                  ·replace c126 := Bool.eq_false_iff.mpr c126
                   subst c126
                   have H1 : (if x8_2 ≥ a0_1 then (if 0 ≤ (wrap64 (x8_2 - a0_1)) then (if (wrap64 (x8_2 - a0_1)) < (x1_2.length : Int) then (if rdOf false x1_2 (wrap64 (x8_2 - a0_1)) = true then (if 0 ≤ x8_2 then (if x8_2 < (x1_2.length : Int) then (spec_l10Reach.l1 kj11 (x1_2.set (x8_2 : Int).toNat true) true ji122 a0_0 a0_1 a0_2) else (none)) else (none)) else (if (wrap64 (x8_2 + a0_1)) < (x1_2.length : Int) then (if 0 ≤ (wrap64 (x8_2 + a0_1)) then (if rdOf false x1_2 (wrap64 (x8_2 + a0_1)) = true then (if 0 ≤ x8_2 then (if x8_2 < (x1_2.length : Int) then (spec_l10Reach.l1 kj11 (x1_2.set (x8_2 : Int).toNat true) true ji122 a0_0 a0_1 a0_2) else (none)) else (none)) else (spec_l10Reach.l1 kj11 x1_2 x7_2 ji122 a0_0 a0_1 a0_2)) else (none)) else (spec_l10Reach.l1 kj11 x1_2 x7_2 ji122 a0_0 a0_1 a0_2))) else (none)) else (none)) else (if (wrap64 (x8_2 + a0_1)) < (x1_2.length : Int) then (if 0 ≤ (wrap64 (x8_2 + a0_1)) then (if rdOf false x1_2 (wrap64 (x8_2 + a0_1)) = true then (if 0 ≤ x8_2 then (if x8_2 < (x1_2.length : Int) then (spec_l10Reach.l1 kj11 (x1_2.set (x8_2 : Int).toNat true) true ji122 a0_0 a0_1 a0_2) else (none)) else (none)) else (spec_l10Reach.l1 kj11 x1_2 x7_2 ji122 a0_0 a0_1 a0_2)) else (none)) else (spec_l10Reach.l1 kj11 x1_2 x7_2 ji122 a0_0 a0_1 a0_2))) = some r := by rw [if_neg (show ¬ (false = true) by decide)] at H; exact H
                   clear H
                   have H := H1
                   clear H1
                   by_cases c133 : x8_2 ≥ a0_1
                   ·rw [if_pos c133] at H
                    have c133b0 : decide (a0_1 ≤ x8_2) = true := decide_eq_true c133
                    clear c133
                    obtain ⟨ji134, hji134⟩ : ∃ j_ : Int, (wrap64 (x8_2 - a0_1)) = j_ := ⟨_, rfl⟩
                    replace H : (if 0 ≤ (ji134) then (if (ji134) < (x1_2.length : Int) then (if rdOf false x1_2 (ji134) = true then (if 0 ≤ x8_2 then (if x8_2 < (x1_2.length : Int) then (spec_l10Reach.l1 kj11 (x1_2.set (x8_2 : Int).toNat true) true ji122 a0_0 a0_1 a0_2) else (none)) else (none)) else (if (wrap64 (x8_2 + a0_1)) < (x1_2.length : Int) then (if 0 ≤ (wrap64 (x8_2 + a0_1)) then (if rdOf false x1_2 (wrap64 (x8_2 + a0_1)) = true then (if 0 ≤ x8_2 then (if x8_2 < (x1_2.length : Int) then (spec_l10Reach.l1 kj11 (x1_2.set (x8_2 : Int).toNat true) true ji122 a0_0 a0_1 a0_2) else (none)) else (none)) else (spec_l10Reach.l1 kj11 x1_2 x7_2 ji122 a0_0 a0_1 a0_2)) else (none)) else (spec_l10Reach.l1 kj11 x1_2 x7_2 ji122 a0_0 a0_1 a0_2))) else (none)) else (none)) = some r := by first | (rw [hji134] at H; exact H) | (simp only [hji134] at H ⊢; exact H)
                    have hji134w : (IntKind.i64.wrap (x8_2 - a0_1)) = ji134 := (i64_w _).trans hji134
                    by_cases c135 : 0 ≤ (ji134)
                    ·rw [if_pos c135] at H
                     have c135b0 : decide (0 ≤ (ji134)) = true := decide_eq_true c135
                     clear c135
                     by_cases c136 : (ji134) < (x1_2.length : Int)
                     ·rw [if_pos c136] at H
                      have c136b0 : decide ((ji134) < (x1_2.length : Int)) = true := decide_eq_true c136
                      clear c136
                      obtain ⟨bq137, hbq137⟩ : ∃ b_ : Bool, b_ = (rdOf false x1_2 (ji134)) := ⟨_, rfl⟩
                      replace H : (if bq137 = true then (if 0 ≤ x8_2 then (if x8_2 < (x1_2.length : Int) then (spec_l10Reach.l1 kj11 (x1_2.set (x8_2 : Int).toNat true) true ji122 a0_0 a0_1 a0_2) else (none)) else (none)) else (if (wrap64 (x8_2 + a0_1)) < (x1_2.length : Int) then (if 0 ≤ (wrap64 (x8_2 + a0_1)) then (if rdOf false x1_2 (wrap64 (x8_2 + a0_1)) = true then (if 0 ≤ x8_2 then (if x8_2 < (x1_2.length : Int) then (spec_l10Reach.l1 kj11 (x1_2.set (x8_2 : Int).toNat true) true ji122 a0_0 a0_1 a0_2) else (none)) else (none)) else (spec_l10Reach.l1 kj11 x1_2 x7_2 ji122 a0_0 a0_1 a0_2)) else (none)) else (spec_l10Reach.l1 kj11 x1_2 x7_2 ji122 a0_0 a0_1 a0_2))) = some r := by rw [← hbq137] at H; exact H
                      have Nbq137 := Aside0.mk hbq137
                      clear hbq137
                      by_cases c138 : bq137 = true
                      ·subst c138
                       have H1 : (if 0 ≤ x8_2 then (if x8_2 < (x1_2.length : Int) then (spec_l10Reach.l1 kj11 (x1_2.set (x8_2 : Int).toNat true) true ji122 a0_0 a0_1 a0_2) else (none)) else (none)) = some r := by rw [if_pos rfl] at H; exact H
                       clear H
                       have H := H1
                       clear H1
                       by_cases c139 : 0 ≤ x8_2
                       ·rw [if_pos c139] at H
                        have c139b0 : decide (0 ≤ x8_2) = true := decide_eq_true c139
                        clear c139
                        by_cases c140 : x8_2 < (x1_2.length : Int)
                        ·rw [if_pos c140] at H
                         have c140b0 : decide (x8_2 < (x1_2.length : Int)) = true := decide_eq_true c140
                         clear c140
                         obtain ⟨y130, hy130⟩ : ∃ y_ : List Bool, y_ = (x1_2.set (x8_2 : Int).toNat true) := ⟨_, rfl⟩
                         replace H : (spec_l10Reach.l1 kj11 y130 true ji122 a0_0 a0_1 a0_2) = some r := by first | (rw [hy130]; with_reducible exact H) | (have H2_ := (Option.bind_some _ _).symm.trans H; rw [hy130]; with_reducible exact H2_) | (have H2_ := (Option.bind_some _ _).symm.trans H; with_reducible exact H2_) | with_reducible exact H | (rw [hy130]; exact H) | exact H
                         have Ny130 := Aside0.mk hy130
                         clear hy130
                         have H' := Aside0.mk H
                         clear H
                         have hcz142_0 : wc.cell? ⟨gb108, 0, none⟩ = some (.int .i64 a0_0) := (blk_cell BK108.out 0).trans rfl
                         have hcz142_1 : wc.cell? ⟨gb108, 1, none⟩ = some (.int .i64 a0_1) := (blk_cell BK108.out 1).trans rfl
                         have hcz142_2 : wc.cell? ⟨gb108, 2, none⟩ = some (.string a0_2) := (blk_cell BK108.out 2).trans rfl
                         have hfz142_0 := blk_frozen BK108.out 0
                         have hfz142_1 := blk_frozen BK108.out 1
                         have hfz142_2 := blk_frozen BK108.out 2
                         have p127 : 0 ≤ ((ji122) : Int) := of_decide_eq_true (by first | (with_reducible assumption) | assumption)
                         have q127 : (ji122) < (x1_2.length : Int) := of_decide_eq_true (by first | (with_reducible assumption) | assumption)
                         obtain ⟨ad127, e127, hx127_0⟩ := Kd.at_bool (Kd.R_reads' HO_1.out).2.2 (ji122) p127 q127
                         (try rw [← Nbq125.out] at hx127_0)
                         (try rw [← Nbq137.out] at hx127_0)
                         obtain rfl : (⟨go6, 0, none⟩ : Addr) = ad127 := (by injection e127)
                         (first | simp only [add_plain] at hx127_0 | simp only [add_at] at hx127_0 | simp only [Addr.add, Nat.zero_add] at hx127_0 | skip)
                         replace p127 := eq_true p127
                         replace q127 := eq_true q127
                         have p129 : 0 ≤ ((ji134) : Int) := of_decide_eq_true (by first | (with_reducible assumption) | assumption)
                         have q129 : (ji134) < (x1_2.length : Int) := of_decide_eq_true (by first | (with_reducible assumption) | assumption)
                         obtain ⟨ad129, e129, hx129_0⟩ := Kd.at_bool (Kd.R_reads' HO_1.out).2.2 (ji134) p129 q129
                         (try rw [← Nbq125.out] at hx129_0)
                         (try rw [← Nbq137.out] at hx129_0)
                         obtain rfl : (⟨go6, 0, none⟩ : Addr) = ad129 := (by injection e129)
                         (first | simp only [add_plain] at hx129_0 | simp only [add_at] at hx129_0 | simp only [Addr.add, Nat.zero_add] at hx129_0 | skip)
                         replace p129 := eq_true p129
                         replace q129 := eq_true q129
                         have p141 : 0 ≤ (x8_2 : Int) := of_decide_eq_true (by first | (with_reducible assumption) | assumption)
                         have q141 : (x8_2 : Int) < ((x1_2.length : Int) : Int) := of_decide_eq_true (by first | (with_reducible assumption) | assumption)
                         obtain ⟨hx141_0, hf141_0⟩ := Kd.R_celln false HO_1.out (x8_2 : Int) p141 q141
                         replace p141 := eq_true p141
                         replace q141 := eq_true q141
                         have HP143 := Kd.R_putg HO_1.out (x8_2 : Int) true
                         go_wp2_with (first | ((with_reducible refine gate_store (t := 4) (p := 95) rfl ?_); refine store_event (t := 4) (p := 95) (v := ?vo_w144) (w1 := (wc.setCell ⟨go6, (x8_2 : Int).toNat, none⟩ (.bool true))) ?hg ?ho ?hn ?hr ?_; (case ho => rfl); (case hg => rfl); (case hn => rfl); (case hr => first | (go_simp; done) | (go_simp; rfl)); intro w144 hw; have hg : wc.grownBy w144 (some go6) := (by rw [hw]; exact HP143.2); have hp_ : Kd.R Kd.bool 4 w144 w0.heap.size (fun k_ => (P1_ k_ ∨ w.heap.size ≤ k_)) (.slice (some ⟨go6, 0, none⟩) x1_2.length co6) y130 := (by rw [hw, Ny130.out]; exact HP143.1); clear HP143; have n0_ := Aside0.mk (hp_); have n1_ := Aside0.mk (blk_grown (g := gb108) (o := .cells #[.int .i64 a0_0, .int .i64 a0_1, .string a0_2] 37 (0, 0)) (by (with_reducible repeat (first | refine blk_drewN ?_ _ | refine blk_drew ?_ | refine blk_alloc ?_ _)); exact BK108.out) hg (Kd.R_ne HO_1.out BK108.out (by decide))); have n2_ := Aside0.mk ((by rw [hw]; exact below_set (HB.out) GB6.out : Below w0.heap.size w0 w144)); have n3_ := Aside0.mk (Kept.of_grown (S := (fun k_ => P1_ k_)) hg (by repeat (first | (with_reducible first | exact HK.out | apply Kept.alloc | apply Kept.drewN | apply Kept.drew | refine Kept.setCell ?_ (.inr GW108.out) _) | exact HK.out)) (fun k_ e_ => (HO_1.out.1 k_ e_))); clear HO_1; clear BK108; clear HB; clear HK; have HO_1 := n0_; have BK108 := n1_; have HB := n2_; have HK := n3_; clear n0_ n1_ n2_ n3_; clear hg hw hp_))
                         (try simp only [← hl1_2])
                         go_roundg kj11
                         case measure => have := HK1.out; have := HK2.out; have := HJ11.out; omega
                         case rel => exact ⟨(y130), (true), (ji122), (by first | rfl | (simp; done) | (simp [*]; done)), (by first | rfl | (simp; done) | (simp only [← hji122] <;> (first | rfl | simp)) | (simp [*]; done)), H', ⟨by have := HK1.out; have := HK2.out; have := HJ11.out; omega⟩, ⟨by (try simp only [hl1_1]); (try simp only [hl1_2]); (with_reducible repeat (first | apply Kd.R_alloc | apply Kd.R_drewN | apply Kd.R_drew)); exact HO_1.out⟩, ⟨by (try simp only [hl1_1]); (try simp only [hl1_2]); (with_reducible repeat (first | refine blk_drewN ?_ _ | refine blk_drew ?_ | refine blk_alloc ?_ _)); exact BK108.out⟩, ⟨by repeat (first | (with_reducible first | exact HK.out | apply Kept.alloc | apply Kept.drewN | apply Kept.drew | refine Kept.setCell ?_ (.inr GW108.out) _) | exact HK.out)⟩, ⟨by repeat (first | (with_reducible first | exact HB.out | apply below_alloc | apply pw_below_drewN | apply below_drew1 | refine below_set ?_ GE108.out) | exact HB.out)⟩⟩
                        ·rw [if_neg c140] at H
                         exact absurd H (by simp)
                       ·rw [if_neg c139] at H
                        exact absurd H (by simp)
                      ·replace c138 := Bool.eq_false_iff.mpr c138
                       subst c138
                       have H1 : (if (wrap64 (x8_2 + a0_1)) < (x1_2.length : Int) then (if 0 ≤ (wrap64 (x8_2 + a0_1)) then (if rdOf false x1_2 (wrap64 (x8_2 + a0_1)) = true then (if 0 ≤ x8_2 then (if x8_2 < (x1_2.length : Int) then (spec_l10Reach.l1 kj11 (x1_2.set (x8_2 : Int).toNat true) true ji122 a0_0 a0_1 a0_2) else (none)) else (none)) else (spec_l10Reach.l1 kj11 x1_2 x7_2 ji122 a0_0 a0_1 a0_2)) else (none)) else (spec_l10Reach.l1 kj11 x1_2 x7_2 ji122 a0_0 a0_1 a0_2)) = some r := by rw [if_neg (show ¬ (false = true) by decide)] at H; exact H
                       clear H
                       have H := H1
                       clear H1
                       by_cases c145 : (wrap64 (x8_2 + a0_1)) < (x1_2.length : Int)
                       ·rw [if_pos c145] at H
                        have c145b0 : decide ((wrap64 (x8_2 + a0_1)) < (x1_2.length : Int)) = true := decide_eq_true c145
                        clear c145
                        obtain ⟨ji146, hji146⟩ : ∃ j_ : Int, (wrap64 (x8_2 + a0_1)) = j_ := ⟨_, rfl⟩
                        replace H : (if 0 ≤ (ji146) then (if rdOf false x1_2 (ji146) = true then (if 0 ≤ x8_2 then (if x8_2 < (x1_2.length : Int) then (spec_l10Reach.l1 kj11 (x1_2.set (x8_2 : Int).toNat true) true ji122 a0_0 a0_1 a0_2) else (none)) else (none)) else (spec_l10Reach.l1 kj11 x1_2 x7_2 ji122 a0_0 a0_1 a0_2)) else (none)) = some r := by first | (rw [hji146] at H; exact H) | (simp only [hji146] at H ⊢; exact H)
                        (try rw [hji146] at c145b0)
                        have hji146w : (IntKind.i64.wrap (x8_2 + a0_1)) = ji146 := (i64_w _).trans hji146
                        by_cases c147 : 0 ≤ (ji146)
                        ·rw [if_pos c147] at H
                         have c147b0 : decide (0 ≤ (ji146)) = true := decide_eq_true c147
                         clear c147
                         obtain ⟨bq148, hbq148⟩ : ∃ b_ : Bool, b_ = (rdOf false x1_2 (ji146)) := ⟨_, rfl⟩
                         replace H : (if bq148 = true then (if 0 ≤ x8_2 then (if x8_2 < (x1_2.length : Int) then (spec_l10Reach.l1 kj11 (x1_2.set (x8_2 : Int).toNat true) true ji122 a0_0 a0_1 a0_2) else (none)) else (none)) else (spec_l10Reach.l1 kj11 x1_2 x7_2 ji122 a0_0 a0_1 a0_2)) = some r := by rw [← hbq148] at H; exact H
                         have Nbq148 := Aside0.mk hbq148
                         clear hbq148
                         by_cases c149 : bq148 = true
                         ·subst c149
                          have H1 : (if 0 ≤ x8_2 then (if x8_2 < (x1_2.length : Int) then (spec_l10Reach.l1 kj11 (x1_2.set (x8_2 : Int).toNat true) true ji122 a0_0 a0_1 a0_2) else (none)) else (none)) = some r := by rw [if_pos rfl] at H; exact H
                          clear H
                          have H := H1
                          clear H1
                          by_cases c150 : 0 ≤ x8_2
                          ·rw [if_pos c150] at H
                           have c150b0 : decide (0 ≤ x8_2) = true := decide_eq_true c150
                           clear c150
                           by_cases c151 : x8_2 < (x1_2.length : Int)
                           ·rw [if_pos c151] at H
                            have c151b0 : decide (x8_2 < (x1_2.length : Int)) = true := decide_eq_true c151
                            clear c151
                            obtain ⟨y132, hy132⟩ : ∃ y_ : List Bool, y_ = (x1_2.set (x8_2 : Int).toNat true) := ⟨_, rfl⟩
                            replace H : (spec_l10Reach.l1 kj11 y132 true ji122 a0_0 a0_1 a0_2) = some r := by first | (rw [hy132]; with_reducible exact H) | (have H2_ := (Option.bind_some _ _).symm.trans H; rw [hy132]; with_reducible exact H2_) | (have H2_ := (Option.bind_some _ _).symm.trans H; with_reducible exact H2_) | with_reducible exact H | (rw [hy132]; exact H) | exact H
                            have Ny132 := Aside0.mk hy132
                            clear hy132
                            have H' := Aside0.mk H
                            clear H
                            have hcz153_0 : wc.cell? ⟨gb108, 0, none⟩ = some (.int .i64 a0_0) := (blk_cell BK108.out 0).trans rfl
                            have hcz153_1 : wc.cell? ⟨gb108, 1, none⟩ = some (.int .i64 a0_1) := (blk_cell BK108.out 1).trans rfl
                            have hcz153_2 : wc.cell? ⟨gb108, 2, none⟩ = some (.string a0_2) := (blk_cell BK108.out 2).trans rfl
                            have hfz153_0 := blk_frozen BK108.out 0
                            have hfz153_1 := blk_frozen BK108.out 1
                            have hfz153_2 := blk_frozen BK108.out 2
                            have p127 : 0 ≤ ((ji122) : Int) := of_decide_eq_true (by first | (with_reducible assumption) | assumption)
                            have q127 : (ji122) < (x1_2.length : Int) := of_decide_eq_true (by first | (with_reducible assumption) | assumption)
                            obtain ⟨ad127, e127, hx127_0⟩ := Kd.at_bool (Kd.R_reads' HO_1.out).2.2 (ji122) p127 q127
                            (try rw [← Nbq125.out] at hx127_0)
                            (try rw [← Nbq137.out] at hx127_0)
                            (try rw [← Nbq148.out] at hx127_0)
                            obtain rfl : (⟨go6, 0, none⟩ : Addr) = ad127 := (by injection e127)
                            (first | simp only [add_plain] at hx127_0 | simp only [add_at] at hx127_0 | simp only [Addr.add, Nat.zero_add] at hx127_0 | skip)
                            replace p127 := eq_true p127
                            replace q127 := eq_true q127
                            have p129 : 0 ≤ ((ji134) : Int) := of_decide_eq_true (by first | (with_reducible assumption) | assumption)
                            have q129 : (ji134) < (x1_2.length : Int) := of_decide_eq_true (by first | (with_reducible assumption) | assumption)
                            obtain ⟨ad129, e129, hx129_0⟩ := Kd.at_bool (Kd.R_reads' HO_1.out).2.2 (ji134) p129 q129
                            (try rw [← Nbq125.out] at hx129_0)
                            (try rw [← Nbq137.out] at hx129_0)
                            (try rw [← Nbq148.out] at hx129_0)
                            obtain rfl : (⟨go6, 0, none⟩ : Addr) = ad129 := (by injection e129)
                            (first | simp only [add_plain] at hx129_0 | simp only [add_at] at hx129_0 | simp only [Addr.add, Nat.zero_add] at hx129_0 | skip)
                            replace p129 := eq_true p129
                            replace q129 := eq_true q129
                            have p131 : 0 ≤ ((ji146) : Int) := of_decide_eq_true (by first | (with_reducible assumption) | assumption)
                            have q131 : (ji146) < (x1_2.length : Int) := of_decide_eq_true (by first | (with_reducible assumption) | assumption)
                            obtain ⟨ad131, e131, hx131_0⟩ := Kd.at_bool (Kd.R_reads' HO_1.out).2.2 (ji146) p131 q131
                            (try rw [← Nbq125.out] at hx131_0)
                            (try rw [← Nbq137.out] at hx131_0)
                            (try rw [← Nbq148.out] at hx131_0)
                            obtain rfl : (⟨go6, 0, none⟩ : Addr) = ad131 := (by injection e131)
                            (first | simp only [add_plain] at hx131_0 | simp only [add_at] at hx131_0 | simp only [Addr.add, Nat.zero_add] at hx131_0 | skip)
                            replace p131 := eq_true p131
                            replace q131 := eq_true q131
                            have p152 : 0 ≤ (x8_2 : Int) := of_decide_eq_true (by first | (with_reducible assumption) | assumption)
                            have q152 : (x8_2 : Int) < ((x1_2.length : Int) : Int) := of_decide_eq_true (by first | (with_reducible assumption) | assumption)
                            obtain ⟨hx152_0, hf152_0⟩ := Kd.R_celln false HO_1.out (x8_2 : Int) p152 q152
                            replace p152 := eq_true p152
                            replace q152 := eq_true q152
                            have HP154 := Kd.R_putg HO_1.out (x8_2 : Int) true
                            go_wp2_with (first | ((with_reducible refine gate_store (t := 4) (p := 95) rfl ?_); refine store_event (t := 4) (p := 95) (v := ?vo_w155) (w1 := (wc.setCell ⟨go6, (x8_2 : Int).toNat, none⟩ (.bool true))) ?hg ?ho ?hn ?hr ?_; (case ho => rfl); (case hg => rfl); (case hn => rfl); (case hr => first | (go_simp; done) | (go_simp; rfl)); intro w155 hw; have hg : wc.grownBy w155 (some go6) := (by rw [hw]; exact HP154.2); have hp_ : Kd.R Kd.bool 4 w155 w0.heap.size (fun k_ => (P1_ k_ ∨ w.heap.size ≤ k_)) (.slice (some ⟨go6, 0, none⟩) x1_2.length co6) y132 := (by rw [hw, Ny132.out]; exact HP154.1); clear HP154; have n0_ := Aside0.mk (hp_); have n1_ := Aside0.mk (blk_grown (g := gb108) (o := .cells #[.int .i64 a0_0, .int .i64 a0_1, .string a0_2] 37 (0, 0)) (by (with_reducible repeat (first | refine blk_drewN ?_ _ | refine blk_drew ?_ | refine blk_alloc ?_ _)); exact BK108.out) hg (Kd.R_ne HO_1.out BK108.out (by decide))); have n2_ := Aside0.mk ((by rw [hw]; exact below_set (HB.out) GB6.out : Below w0.heap.size w0 w155)); have n3_ := Aside0.mk (Kept.of_grown (S := (fun k_ => P1_ k_)) hg (by repeat (first | (with_reducible first | exact HK.out | apply Kept.alloc | apply Kept.drewN | apply Kept.drew | refine Kept.setCell ?_ (.inr GW108.out) _) | exact HK.out)) (fun k_ e_ => (HO_1.out.1 k_ e_))); clear HO_1; clear BK108; clear HB; clear HK; have HO_1 := n0_; have BK108 := n1_; have HB := n2_; have HK := n3_; clear n0_ n1_ n2_ n3_; clear hg hw hp_))
                            (try simp only [← hl1_2])
                            go_roundg kj11
                            case measure => have := HK1.out; have := HK2.out; have := HJ11.out; omega
                            case rel => exact ⟨(y132), (true), (ji122), (by first | rfl | (simp; done) | (simp [*]; done)), (by first | rfl | (simp; done) | (simp only [← hji122] <;> (first | rfl | simp)) | (simp [*]; done)), H', ⟨by have := HK1.out; have := HK2.out; have := HJ11.out; omega⟩, ⟨by (try simp only [hl1_1]); (try simp only [hl1_2]); (with_reducible repeat (first | apply Kd.R_alloc | apply Kd.R_drewN | apply Kd.R_drew)); exact HO_1.out⟩, ⟨by (try simp only [hl1_1]); (try simp only [hl1_2]); (with_reducible repeat (first | refine blk_drewN ?_ _ | refine blk_drew ?_ | refine blk_alloc ?_ _)); exact BK108.out⟩, ⟨by repeat (first | (with_reducible first | exact HK.out | apply Kept.alloc | apply Kept.drewN | apply Kept.drew | refine Kept.setCell ?_ (.inr GW108.out) _) | exact HK.out)⟩, ⟨by repeat (first | (with_reducible first | exact HB.out | apply below_alloc | apply pw_below_drewN | apply below_drew1 | refine below_set ?_ GE108.out) | exact HB.out)⟩⟩
                           ·rw [if_neg c151] at H
                            exact absurd H (by simp)
                          ·rw [if_neg c150] at H
                           exact absurd H (by simp)
                         ·replace c149 := Bool.eq_false_iff.mpr c149
                          subst c149
                          have H1 : (spec_l10Reach.l1 kj11 x1_2 x7_2 ji122 a0_0 a0_1 a0_2) = some r := by rw [if_neg (show ¬ (false = true) by decide)] at H; exact H
                          clear H
                          have H := H1
                          clear H1
                          have H' := Aside0.mk H
                          clear H
                          have hcz156_0 : wc.cell? ⟨gb108, 0, none⟩ = some (.int .i64 a0_0) := (blk_cell BK108.out 0).trans rfl
                          have hcz156_1 : wc.cell? ⟨gb108, 1, none⟩ = some (.int .i64 a0_1) := (blk_cell BK108.out 1).trans rfl
                          have hcz156_2 : wc.cell? ⟨gb108, 2, none⟩ = some (.string a0_2) := (blk_cell BK108.out 2).trans rfl
                          have hfz156_0 := blk_frozen BK108.out 0
                          have hfz156_1 := blk_frozen BK108.out 1
                          have hfz156_2 := blk_frozen BK108.out 2
                          have p127 : 0 ≤ ((ji122) : Int) := of_decide_eq_true (by first | (with_reducible assumption) | assumption)
                          have q127 : (ji122) < (x1_2.length : Int) := of_decide_eq_true (by first | (with_reducible assumption) | assumption)
                          obtain ⟨ad127, e127, hx127_0⟩ := Kd.at_bool (Kd.R_reads' HO_1.out).2.2 (ji122) p127 q127
                          (try rw [← Nbq125.out] at hx127_0)
                          (try rw [← Nbq137.out] at hx127_0)
                          (try rw [← Nbq148.out] at hx127_0)
                          obtain rfl : (⟨go6, 0, none⟩ : Addr) = ad127 := (by injection e127)
                          (first | simp only [add_plain] at hx127_0 | simp only [add_at] at hx127_0 | simp only [Addr.add, Nat.zero_add] at hx127_0 | skip)
                          replace p127 := eq_true p127
                          replace q127 := eq_true q127
                          have p129 : 0 ≤ ((ji134) : Int) := of_decide_eq_true (by first | (with_reducible assumption) | assumption)
                          have q129 : (ji134) < (x1_2.length : Int) := of_decide_eq_true (by first | (with_reducible assumption) | assumption)
                          obtain ⟨ad129, e129, hx129_0⟩ := Kd.at_bool (Kd.R_reads' HO_1.out).2.2 (ji134) p129 q129
                          (try rw [← Nbq125.out] at hx129_0)
                          (try rw [← Nbq137.out] at hx129_0)
                          (try rw [← Nbq148.out] at hx129_0)
                          obtain rfl : (⟨go6, 0, none⟩ : Addr) = ad129 := (by injection e129)
                          (first | simp only [add_plain] at hx129_0 | simp only [add_at] at hx129_0 | simp only [Addr.add, Nat.zero_add] at hx129_0 | skip)
                          replace p129 := eq_true p129
                          replace q129 := eq_true q129
                          have p131 : 0 ≤ ((ji146) : Int) := of_decide_eq_true (by first | (with_reducible assumption) | assumption)
                          have q131 : (ji146) < (x1_2.length : Int) := of_decide_eq_true (by first | (with_reducible assumption) | assumption)
                          obtain ⟨ad131, e131, hx131_0⟩ := Kd.at_bool (Kd.R_reads' HO_1.out).2.2 (ji146) p131 q131
                          (try rw [← Nbq125.out] at hx131_0)
                          (try rw [← Nbq137.out] at hx131_0)
                          (try rw [← Nbq148.out] at hx131_0)
                          obtain rfl : (⟨go6, 0, none⟩ : Addr) = ad131 := (by injection e131)
                          (first | simp only [add_plain] at hx131_0 | simp only [add_at] at hx131_0 | simp only [Addr.add, Nat.zero_add] at hx131_0 | skip)
                          replace p131 := eq_true p131
                          replace q131 := eq_true q131
                          go_wp2
                          (try simp only [← hl1_2])
                          go_roundg kj11
                          case measure => have := HK1.out; have := HK2.out; have := HJ11.out; omega
                          case rel => exact ⟨(x1_2), (x7_2), (ji122), (by first | rfl | (simp; done) | (simp [*]; done)), (by first | rfl | (simp; done) | (simp only [← hji122] <;> (first | rfl | simp)) | (simp [*]; done)), H', ⟨by have := HK1.out; have := HK2.out; have := HJ11.out; omega⟩, ⟨by (try simp only [hl1_1]); (try simp only [hl1_2]); (with_reducible repeat (first | apply Kd.R_alloc | apply Kd.R_drewN | apply Kd.R_drew)); exact HO_1.out⟩, ⟨by (try simp only [hl1_1]); (try simp only [hl1_2]); (with_reducible repeat (first | refine blk_drewN ?_ _ | refine blk_drew ?_ | refine blk_alloc ?_ _)); exact BK108.out⟩, ⟨by repeat (first | (with_reducible first | exact HK.out | apply Kept.alloc | apply Kept.drewN | apply Kept.drew | refine Kept.setCell ?_ (.inr GW108.out) _) | exact HK.out)⟩, ⟨by repeat (first | (with_reducible first | exact HB.out | apply below_alloc | apply pw_below_drewN | apply below_drew1 | refine below_set ?_ GE108.out) | exact HB.out)⟩⟩
                        ·rw [if_neg c147] at H
                         exact absurd H (by simp)
                       ·rw [if_neg c145] at H
                        have c145b0 : decide ((wrap64 (x8_2 + a0_1)) < (x1_2.length : Int)) = false := decide_eq_false c145
                        clear c145
                        have H' := Aside0.mk H
                        clear H
                        have hcz157_0 : wc.cell? ⟨gb108, 0, none⟩ = some (.int .i64 a0_0) := (blk_cell BK108.out 0).trans rfl
                        have hcz157_1 : wc.cell? ⟨gb108, 1, none⟩ = some (.int .i64 a0_1) := (blk_cell BK108.out 1).trans rfl
                        have hcz157_2 : wc.cell? ⟨gb108, 2, none⟩ = some (.string a0_2) := (blk_cell BK108.out 2).trans rfl
                        have hfz157_0 := blk_frozen BK108.out 0
                        have hfz157_1 := blk_frozen BK108.out 1
                        have hfz157_2 := blk_frozen BK108.out 2
                        have p127 : 0 ≤ ((ji122) : Int) := of_decide_eq_true (by first | (with_reducible assumption) | assumption)
                        have q127 : (ji122) < (x1_2.length : Int) := of_decide_eq_true (by first | (with_reducible assumption) | assumption)
                        obtain ⟨ad127, e127, hx127_0⟩ := Kd.at_bool (Kd.R_reads' HO_1.out).2.2 (ji122) p127 q127
                        (try rw [← Nbq125.out] at hx127_0)
                        (try rw [← Nbq137.out] at hx127_0)
                        obtain rfl : (⟨go6, 0, none⟩ : Addr) = ad127 := (by injection e127)
                        (first | simp only [add_plain] at hx127_0 | simp only [add_at] at hx127_0 | simp only [Addr.add, Nat.zero_add] at hx127_0 | skip)
                        replace p127 := eq_true p127
                        replace q127 := eq_true q127
                        have p129 : 0 ≤ ((ji134) : Int) := of_decide_eq_true (by first | (with_reducible assumption) | assumption)
                        have q129 : (ji134) < (x1_2.length : Int) := of_decide_eq_true (by first | (with_reducible assumption) | assumption)
                        obtain ⟨ad129, e129, hx129_0⟩ := Kd.at_bool (Kd.R_reads' HO_1.out).2.2 (ji134) p129 q129
                        (try rw [← Nbq125.out] at hx129_0)
                        (try rw [← Nbq137.out] at hx129_0)
                        obtain rfl : (⟨go6, 0, none⟩ : Addr) = ad129 := (by injection e129)
                        (first | simp only [add_plain] at hx129_0 | simp only [add_at] at hx129_0 | simp only [Addr.add, Nat.zero_add] at hx129_0 | skip)
                        replace p129 := eq_true p129
                        replace q129 := eq_true q129
                        go_wp2
                        (try simp only [← hl1_2])
                        go_roundg kj11
                        case measure => have := HK1.out; have := HK2.out; have := HJ11.out; omega
                        case rel => exact ⟨(x1_2), (x7_2), (ji122), (by first | rfl | (simp; done) | (simp [*]; done)), (by first | rfl | (simp; done) | (simp only [← hji122] <;> (first | rfl | simp)) | (simp [*]; done)), H', ⟨by have := HK1.out; have := HK2.out; have := HJ11.out; omega⟩, ⟨by (try simp only [hl1_1]); (try simp only [hl1_2]); (with_reducible repeat (first | apply Kd.R_alloc | apply Kd.R_drewN | apply Kd.R_drew)); exact HO_1.out⟩, ⟨by (try simp only [hl1_1]); (try simp only [hl1_2]); (with_reducible repeat (first | refine blk_drewN ?_ _ | refine blk_drew ?_ | refine blk_alloc ?_ _)); exact BK108.out⟩, ⟨by repeat (first | (with_reducible first | exact HK.out | apply Kept.alloc | apply Kept.drewN | apply Kept.drew | refine Kept.setCell ?_ (.inr GW108.out) _) | exact HK.out)⟩, ⟨by repeat (first | (with_reducible first | exact HB.out | apply below_alloc | apply pw_below_drewN | apply below_drew1 | refine below_set ?_ GE108.out) | exact HB.out)⟩⟩
                     ·rw [if_neg c136] at H
                      exact absurd H (by simp)
                    ·rw [if_neg c135] at H
                     exact absurd H (by simp)
                   ·rw [if_neg c133] at H
                    have c133b0 : decide (a0_1 ≤ x8_2) = false := decide_eq_false c133
                    clear c133
                    by_cases c158 : (wrap64 (x8_2 + a0_1)) < (x1_2.length : Int)
                    ·rw [if_pos c158] at H
                     have c158b0 : decide ((wrap64 (x8_2 + a0_1)) < (x1_2.length : Int)) = true := decide_eq_true c158
                     clear c158
                     obtain ⟨ji159, hji159⟩ : ∃ j_ : Int, (wrap64 (x8_2 + a0_1)) = j_ := ⟨_, rfl⟩
                     replace H : (if 0 ≤ (ji159) then (if rdOf false x1_2 (ji159) = true then (if 0 ≤ x8_2 then (if x8_2 < (x1_2.length : Int) then (spec_l10Reach.l1 kj11 (x1_2.set (x8_2 : Int).toNat true) true ji122 a0_0 a0_1 a0_2) else (none)) else (none)) else (spec_l10Reach.l1 kj11 x1_2 x7_2 ji122 a0_0 a0_1 a0_2)) else (none)) = some r := by first | (rw [hji159] at H; exact H) | (simp only [hji159] at H ⊢; exact H)
                     (try rw [hji159] at c158b0)
                     have hji159w : (IntKind.i64.wrap (x8_2 + a0_1)) = ji159 := (i64_w _).trans hji159
                     by_cases c160 : 0 ≤ (ji159)
                     ·rw [if_pos c160] at H
                      have c160b0 : decide (0 ≤ (ji159)) = true := decide_eq_true c160
                      clear c160
                      obtain ⟨bq161, hbq161⟩ : ∃ b_ : Bool, b_ = (rdOf false x1_2 (ji159)) := ⟨_, rfl⟩
                      replace H : (if bq161 = true then (if 0 ≤ x8_2 then (if x8_2 < (x1_2.length : Int) then (spec_l10Reach.l1 kj11 (x1_2.set (x8_2 : Int).toNat true) true ji122 a0_0 a0_1 a0_2) else (none)) else (none)) else (spec_l10Reach.l1 kj11 x1_2 x7_2 ji122 a0_0 a0_1 a0_2)) = some r := by rw [← hbq161] at H; exact H
                      have Nbq161 := Aside0.mk hbq161
                      clear hbq161
                      by_cases c162 : bq161 = true
                      ·subst c162
                       have H1 : (if 0 ≤ x8_2 then (if x8_2 < (x1_2.length : Int) then (spec_l10Reach.l1 kj11 (x1_2.set (x8_2 : Int).toNat true) true ji122 a0_0 a0_1 a0_2) else (none)) else (none)) = some r := by rw [if_pos rfl] at H; exact H
                       clear H
                       have H := H1
                       clear H1
                       by_cases c163 : 0 ≤ x8_2
                       ·rw [if_pos c163] at H
                        have c163b0 : decide (0 ≤ x8_2) = true := decide_eq_true c163
                        clear c163
                        by_cases c164 : x8_2 < (x1_2.length : Int)
                        ·rw [if_pos c164] at H
                         have c164b0 : decide (x8_2 < (x1_2.length : Int)) = true := decide_eq_true c164
                         clear c164
                         obtain ⟨y134, hy134⟩ : ∃ y_ : List Bool, y_ = (x1_2.set (x8_2 : Int).toNat true) := ⟨_, rfl⟩
                         replace H : (spec_l10Reach.l1 kj11 y134 true ji122 a0_0 a0_1 a0_2) = some r := by first | (rw [hy134]; with_reducible exact H) | (have H2_ := (Option.bind_some _ _).symm.trans H; rw [hy134]; with_reducible exact H2_) | (have H2_ := (Option.bind_some _ _).symm.trans H; with_reducible exact H2_) | with_reducible exact H | (rw [hy134]; exact H) | exact H
                         have Ny134 := Aside0.mk hy134
                         clear hy134
                         have H' := Aside0.mk H
                         clear H
                         have hcz166_0 : wc.cell? ⟨gb108, 0, none⟩ = some (.int .i64 a0_0) := (blk_cell BK108.out 0).trans rfl
                         have hcz166_1 : wc.cell? ⟨gb108, 1, none⟩ = some (.int .i64 a0_1) := (blk_cell BK108.out 1).trans rfl
                         have hcz166_2 : wc.cell? ⟨gb108, 2, none⟩ = some (.string a0_2) := (blk_cell BK108.out 2).trans rfl
                         have hfz166_0 := blk_frozen BK108.out 0
                         have hfz166_1 := blk_frozen BK108.out 1
                         have hfz166_2 := blk_frozen BK108.out 2
                         have p127 : 0 ≤ ((ji122) : Int) := of_decide_eq_true (by first | (with_reducible assumption) | assumption)
                         have q127 : (ji122) < (x1_2.length : Int) := of_decide_eq_true (by first | (with_reducible assumption) | assumption)
                         obtain ⟨ad127, e127, hx127_0⟩ := Kd.at_bool (Kd.R_reads' HO_1.out).2.2 (ji122) p127 q127
                         (try rw [← Nbq125.out] at hx127_0)
                         (try rw [← Nbq161.out] at hx127_0)
                         obtain rfl : (⟨go6, 0, none⟩ : Addr) = ad127 := (by injection e127)
                         (first | simp only [add_plain] at hx127_0 | simp only [add_at] at hx127_0 | simp only [Addr.add, Nat.zero_add] at hx127_0 | skip)
                         replace p127 := eq_true p127
                         replace q127 := eq_true q127
                         have p133 : 0 ≤ ((ji159) : Int) := of_decide_eq_true (by first | (with_reducible assumption) | assumption)
                         have q133 : (ji159) < (x1_2.length : Int) := of_decide_eq_true (by first | (with_reducible assumption) | assumption)
                         obtain ⟨ad133, e133, hx133_0⟩ := Kd.at_bool (Kd.R_reads' HO_1.out).2.2 (ji159) p133 q133
                         (try rw [← Nbq125.out] at hx133_0)
                         (try rw [← Nbq161.out] at hx133_0)
                         obtain rfl : (⟨go6, 0, none⟩ : Addr) = ad133 := (by injection e133)
                         (first | simp only [add_plain] at hx133_0 | simp only [add_at] at hx133_0 | simp only [Addr.add, Nat.zero_add] at hx133_0 | skip)
                         replace p133 := eq_true p133
                         replace q133 := eq_true q133
                         have p165 : 0 ≤ (x8_2 : Int) := of_decide_eq_true (by first | (with_reducible assumption) | assumption)
                         have q165 : (x8_2 : Int) < ((x1_2.length : Int) : Int) := of_decide_eq_true (by first | (with_reducible assumption) | assumption)
                         obtain ⟨hx165_0, hf165_0⟩ := Kd.R_celln false HO_1.out (x8_2 : Int) p165 q165
                         replace p165 := eq_true p165
                         replace q165 := eq_true q165
                         have HP167 := Kd.R_putg HO_1.out (x8_2 : Int) true
                         go_wp2_with (first | ((with_reducible refine gate_store (t := 4) (p := 95) rfl ?_); refine store_event (t := 4) (p := 95) (v := ?vo_w168) (w1 := (wc.setCell ⟨go6, (x8_2 : Int).toNat, none⟩ (.bool true))) ?hg ?ho ?hn ?hr ?_; (case ho => rfl); (case hg => rfl); (case hn => rfl); (case hr => first | (go_simp; done) | (go_simp; rfl)); intro w168 hw; have hg : wc.grownBy w168 (some go6) := (by rw [hw]; exact HP167.2); have hp_ : Kd.R Kd.bool 4 w168 w0.heap.size (fun k_ => (P1_ k_ ∨ w.heap.size ≤ k_)) (.slice (some ⟨go6, 0, none⟩) x1_2.length co6) y134 := (by rw [hw, Ny134.out]; exact HP167.1); clear HP167; have n0_ := Aside0.mk (hp_); have n1_ := Aside0.mk (blk_grown (g := gb108) (o := .cells #[.int .i64 a0_0, .int .i64 a0_1, .string a0_2] 37 (0, 0)) (by (with_reducible repeat (first | refine blk_drewN ?_ _ | refine blk_drew ?_ | refine blk_alloc ?_ _)); exact BK108.out) hg (Kd.R_ne HO_1.out BK108.out (by decide))); have n2_ := Aside0.mk ((by rw [hw]; exact below_set (HB.out) GB6.out : Below w0.heap.size w0 w168)); have n3_ := Aside0.mk (Kept.of_grown (S := (fun k_ => P1_ k_)) hg (by repeat (first | (with_reducible first | exact HK.out | apply Kept.alloc | apply Kept.drewN | apply Kept.drew | refine Kept.setCell ?_ (.inr GW108.out) _) | exact HK.out)) (fun k_ e_ => (HO_1.out.1 k_ e_))); clear HO_1; clear BK108; clear HB; clear HK; have HO_1 := n0_; have BK108 := n1_; have HB := n2_; have HK := n3_; clear n0_ n1_ n2_ n3_; clear hg hw hp_))
                         (try simp only [← hl1_2])
                         go_roundg kj11
                         case measure => have := HK1.out; have := HK2.out; have := HJ11.out; omega
                         case rel => exact ⟨(y134), (true), (ji122), (by first | rfl | (simp; done) | (simp [*]; done)), (by first | rfl | (simp; done) | (simp only [← hji122] <;> (first | rfl | simp)) | (simp [*]; done)), H', ⟨by have := HK1.out; have := HK2.out; have := HJ11.out; omega⟩, ⟨by (try simp only [hl1_1]); (try simp only [hl1_2]); (with_reducible repeat (first | apply Kd.R_alloc | apply Kd.R_drewN | apply Kd.R_drew)); exact HO_1.out⟩, ⟨by (try simp only [hl1_1]); (try simp only [hl1_2]); (with_reducible repeat (first | refine blk_drewN ?_ _ | refine blk_drew ?_ | refine blk_alloc ?_ _)); exact BK108.out⟩, ⟨by repeat (first | (with_reducible first | exact HK.out | apply Kept.alloc | apply Kept.drewN | apply Kept.drew | refine Kept.setCell ?_ (.inr GW108.out) _) | exact HK.out)⟩, ⟨by repeat (first | (with_reducible first | exact HB.out | apply below_alloc | apply pw_below_drewN | apply below_drew1 | refine below_set ?_ GE108.out) | exact HB.out)⟩⟩
                        ·rw [if_neg c164] at H
                         exact absurd H (by simp)
                       ·rw [if_neg c163] at H
                        exact absurd H (by simp)
                      ·replace c162 := Bool.eq_false_iff.mpr c162
                       subst c162
                       have H1 : (spec_l10Reach.l1 kj11 x1_2 x7_2 ji122 a0_0 a0_1 a0_2) = some r := by rw [if_neg (show ¬ (false = true) by decide)] at H; exact H
                       clear H
                       have H := H1
                       clear H1
                       have H' := Aside0.mk H
                       clear H
                       have hcz169_0 : wc.cell? ⟨gb108, 0, none⟩ = some (.int .i64 a0_0) := (blk_cell BK108.out 0).trans rfl
                       have hcz169_1 : wc.cell? ⟨gb108, 1, none⟩ = some (.int .i64 a0_1) := (blk_cell BK108.out 1).trans rfl
                       have hcz169_2 : wc.cell? ⟨gb108, 2, none⟩ = some (.string a0_2) := (blk_cell BK108.out 2).trans rfl
                       have hfz169_0 := blk_frozen BK108.out 0
                       have hfz169_1 := blk_frozen BK108.out 1
                       have hfz169_2 := blk_frozen BK108.out 2
                       have p127 : 0 ≤ ((ji122) : Int) := of_decide_eq_true (by first | (with_reducible assumption) | assumption)
                       have q127 : (ji122) < (x1_2.length : Int) := of_decide_eq_true (by first | (with_reducible assumption) | assumption)
                       obtain ⟨ad127, e127, hx127_0⟩ := Kd.at_bool (Kd.R_reads' HO_1.out).2.2 (ji122) p127 q127
                       (try rw [← Nbq125.out] at hx127_0)
                       (try rw [← Nbq161.out] at hx127_0)
                       obtain rfl : (⟨go6, 0, none⟩ : Addr) = ad127 := (by injection e127)
                       (first | simp only [add_plain] at hx127_0 | simp only [add_at] at hx127_0 | simp only [Addr.add, Nat.zero_add] at hx127_0 | skip)
                       replace p127 := eq_true p127
                       replace q127 := eq_true q127
                       have p133 : 0 ≤ ((ji159) : Int) := of_decide_eq_true (by first | (with_reducible assumption) | assumption)
                       have q133 : (ji159) < (x1_2.length : Int) := of_decide_eq_true (by first | (with_reducible assumption) | assumption)
                       obtain ⟨ad133, e133, hx133_0⟩ := Kd.at_bool (Kd.R_reads' HO_1.out).2.2 (ji159) p133 q133
                       (try rw [← Nbq125.out] at hx133_0)
                       (try rw [← Nbq161.out] at hx133_0)
                       obtain rfl : (⟨go6, 0, none⟩ : Addr) = ad133 := (by injection e133)
                       (first | simp only [add_plain] at hx133_0 | simp only [add_at] at hx133_0 | simp only [Addr.add, Nat.zero_add] at hx133_0 | skip)
                       replace p133 := eq_true p133
                       replace q133 := eq_true q133
                       go_wp2
                       (try simp only [← hl1_2])
                       go_roundg kj11
                       case measure => have := HK1.out; have := HK2.out; have := HJ11.out; omega
                       case rel => exact ⟨(x1_2), (x7_2), (ji122), (by first | rfl | (simp; done) | (simp [*]; done)), (by first | rfl | (simp; done) | (simp only [← hji122] <;> (first | rfl | simp)) | (simp [*]; done)), H', ⟨by have := HK1.out; have := HK2.out; have := HJ11.out; omega⟩, ⟨by (try simp only [hl1_1]); (try simp only [hl1_2]); (with_reducible repeat (first | apply Kd.R_alloc | apply Kd.R_drewN | apply Kd.R_drew)); exact HO_1.out⟩, ⟨by (try simp only [hl1_1]); (try simp only [hl1_2]); (with_reducible repeat (first | refine blk_drewN ?_ _ | refine blk_drew ?_ | refine blk_alloc ?_ _)); exact BK108.out⟩, ⟨by repeat (first | (with_reducible first | exact HK.out | apply Kept.alloc | apply Kept.drewN | apply Kept.drew | refine Kept.setCell ?_ (.inr GW108.out) _) | exact HK.out)⟩, ⟨by repeat (first | (with_reducible first | exact HB.out | apply below_alloc | apply pw_below_drewN | apply below_drew1 | refine below_set ?_ GE108.out) | exact HB.out)⟩⟩
                     ·rw [if_neg c160] at H
                      exact absurd H (by simp)
                    ·rw [if_neg c158] at H
                     have c158b0 : decide ((wrap64 (x8_2 + a0_1)) < (x1_2.length : Int)) = false := decide_eq_false c158
                     clear c158
                     have H' := Aside0.mk H
                     clear H
                     have hcz170_0 : wc.cell? ⟨gb108, 0, none⟩ = some (.int .i64 a0_0) := (blk_cell BK108.out 0).trans rfl
                     have hcz170_1 : wc.cell? ⟨gb108, 1, none⟩ = some (.int .i64 a0_1) := (blk_cell BK108.out 1).trans rfl
                     have hcz170_2 : wc.cell? ⟨gb108, 2, none⟩ = some (.string a0_2) := (blk_cell BK108.out 2).trans rfl
                     have hfz170_0 := blk_frozen BK108.out 0
                     have hfz170_1 := blk_frozen BK108.out 1
                     have hfz170_2 := blk_frozen BK108.out 2
                     have p127 : 0 ≤ ((ji122) : Int) := of_decide_eq_true (by first | (with_reducible assumption) | assumption)
                     have q127 : (ji122) < (x1_2.length : Int) := of_decide_eq_true (by first | (with_reducible assumption) | assumption)
                     obtain ⟨ad127, e127, hx127_0⟩ := Kd.at_bool (Kd.R_reads' HO_1.out).2.2 (ji122) p127 q127
                     (try rw [← Nbq125.out] at hx127_0)
                     obtain rfl : (⟨go6, 0, none⟩ : Addr) = ad127 := (by injection e127)
                     (first | simp only [add_plain] at hx127_0 | simp only [add_at] at hx127_0 | simp only [Addr.add, Nat.zero_add] at hx127_0 | skip)
                     replace p127 := eq_true p127
                     replace q127 := eq_true q127
                     go_wp2
                     (try simp only [← hl1_2])
                     go_roundg kj11
                     case measure => have := HK1.out; have := HK2.out; have := HJ11.out; omega
                     case rel => exact ⟨(x1_2), (x7_2), (ji122), (by first | rfl | (simp; done) | (simp [*]; done)), (by first | rfl | (simp; done) | (simp only [← hji122] <;> (first | rfl | simp)) | (simp [*]; done)), H', ⟨by have := HK1.out; have := HK2.out; have := HJ11.out; omega⟩, ⟨by (try simp only [hl1_1]); (try simp only [hl1_2]); (with_reducible repeat (first | apply Kd.R_alloc | apply Kd.R_drewN | apply Kd.R_drew)); exact HO_1.out⟩, ⟨by (try simp only [hl1_1]); (try simp only [hl1_2]); (with_reducible repeat (first | refine blk_drewN ?_ _ | refine blk_drew ?_ | refine blk_alloc ?_ _)); exact BK108.out⟩, ⟨by repeat (first | (with_reducible first | exact HK.out | apply Kept.alloc | apply Kept.drewN | apply Kept.drew | refine Kept.setCell ?_ (.inr GW108.out) _) | exact HK.out)⟩, ⟨by repeat (first | (with_reducible first | exact HB.out | apply below_alloc | apply pw_below_drewN | apply below_drew1 | refine below_set ?_ GE108.out) | exact HB.out)⟩⟩
                 ·rw [if_neg c124] at H
                  exact absurd H (by simp)
                ·rw [if_neg c123] at H
                 exact absurd H (by simp)
               ·rw [if_neg c121] at H
                have c121b0 : decide ((wrap64 ((Int.tmod x8_2 a0_1) + 1)) < a0_1) = false := decide_eq_false c121
                clear c121
                by_cases c171 : x8_2 ≥ a0_1
                ·rw [if_pos c171] at H
                 have c171b0 : decide (a0_1 ≤ x8_2) = true := decide_eq_true c171
                 clear c171
                 obtain ⟨ji172, hji172⟩ : ∃ j_ : Int, (wrap64 (x8_2 - a0_1)) = j_ := ⟨_, rfl⟩
                 replace H : (if 0 ≤ (ji172) then (if (ji172) < (x1_2.length : Int) then (if rdOf false x1_2 (ji172) = true then (if 0 ≤ x8_2 then (if x8_2 < (x1_2.length : Int) then (spec_l10Reach.l1 kj11 (x1_2.set (x8_2 : Int).toNat true) true (wrap64 (x8_2 + 1)) a0_0 a0_1 a0_2) else (none)) else (none)) else (if (wrap64 (x8_2 + a0_1)) < (x1_2.length : Int) then (if 0 ≤ (wrap64 (x8_2 + a0_1)) then (if rdOf false x1_2 (wrap64 (x8_2 + a0_1)) = true then (if 0 ≤ x8_2 then (if x8_2 < (x1_2.length : Int) then (spec_l10Reach.l1 kj11 (x1_2.set (x8_2 : Int).toNat true) true (wrap64 (x8_2 + 1)) a0_0 a0_1 a0_2) else (none)) else (none)) else (spec_l10Reach.l1 kj11 x1_2 x7_2 (wrap64 (x8_2 + 1)) a0_0 a0_1 a0_2)) else (none)) else (spec_l10Reach.l1 kj11 x1_2 x7_2 (wrap64 (x8_2 + 1)) a0_0 a0_1 a0_2))) else (none)) else (none)) = some r := by first | (rw [hji172] at H; exact H) | (simp only [hji172] at H ⊢; exact H)
                 have hji172w : (IntKind.i64.wrap (x8_2 - a0_1)) = ji172 := (i64_w _).trans hji172
                 by_cases c173 : 0 ≤ (ji172)
                 ·rw [if_pos c173] at H
                  have c173b0 : decide (0 ≤ (ji172)) = true := decide_eq_true c173
                  clear c173
                  by_cases c174 : (ji172) < (x1_2.length : Int)
                  ·rw [if_pos c174] at H
                   have c174b0 : decide ((ji172) < (x1_2.length : Int)) = true := decide_eq_true c174
                   clear c174
                   obtain ⟨bq175, hbq175⟩ : ∃ b_ : Bool, b_ = (rdOf false x1_2 (ji172)) := ⟨_, rfl⟩
                   replace H : (if bq175 = true then (if 0 ≤ x8_2 then (if x8_2 < (x1_2.length : Int) then (spec_l10Reach.l1 kj11 (x1_2.set (x8_2 : Int).toNat true) true (wrap64 (x8_2 + 1)) a0_0 a0_1 a0_2) else (none)) else (none)) else (if (wrap64 (x8_2 + a0_1)) < (x1_2.length : Int) then (if 0 ≤ (wrap64 (x8_2 + a0_1)) then (if rdOf false x1_2 (wrap64 (x8_2 + a0_1)) = true then (if 0 ≤ x8_2 then (if x8_2 < (x1_2.length : Int) then (spec_l10Reach.l1 kj11 (x1_2.set (x8_2 : Int).toNat true) true (wrap64 (x8_2 + 1)) a0_0 a0_1 a0_2) else (none)) else (none)) else (spec_l10Reach.l1 kj11 x1_2 x7_2 (wrap64 (x8_2 + 1)) a0_0 a0_1 a0_2)) else (none)) else (spec_l10Reach.l1 kj11 x1_2 x7_2 (wrap64 (x8_2 + 1)) a0_0 a0_1 a0_2))) = some r := by rw [← hbq175] at H; exact H
                   have Nbq175 := Aside0.mk hbq175
                   clear hbq175
                   by_cases c176 : bq175 = true
                   ·subst c176
                    have H1 : (if 0 ≤ x8_2 then (if x8_2 < (x1_2.length : Int) then (spec_l10Reach.l1 kj11 (x1_2.set (x8_2 : Int).toNat true) true (wrap64 (x8_2 + 1)) a0_0 a0_1 a0_2) else (none)) else (none)) = some r := by rw [if_pos rfl] at H; exact H
                    clear H
                    have H := H1
                    clear H1
                    by_cases c177 : 0 ≤ x8_2
                    ·rw [if_pos c177] at H
                     have c177b0 : decide (0 ≤ x8_2) = true := decide_eq_true c177
                     clear c177
                     by_cases c178 : x8_2 < (x1_2.length : Int)
                     ·rw [if_pos c178] at H
                      have c178b0 : decide (x8_2 < (x1_2.length : Int)) = true := decide_eq_true c178
                      clear c178
                      obtain ⟨y136, hy136⟩ : ∃ y_ : List Bool, y_ = (x1_2.set (x8_2 : Int).toNat true) := ⟨_, rfl⟩
                      replace H : (spec_l10Reach.l1 kj11 y136 true (wrap64 (x8_2 + 1)) a0_0 a0_1 a0_2) = some r := by first | (rw [hy136]; with_reducible exact H) | (have H2_ := (Option.bind_some _ _).symm.trans H; rw [hy136]; with_reducible exact H2_) | (have H2_ := (Option.bind_some _ _).symm.trans H; with_reducible exact H2_) | with_reducible exact H | (rw [hy136]; exact H) | exact H
                      have Ny136 := Aside0.mk hy136
                      clear hy136
                      have H' := Aside0.mk H
                      clear H
                      have hcz180_0 : wc.cell? ⟨gb108, 0, none⟩ = some (.int .i64 a0_0) := (blk_cell BK108.out 0).trans rfl
                      have hcz180_1 : wc.cell? ⟨gb108, 1, none⟩ = some (.int .i64 a0_1) := (blk_cell BK108.out 1).trans rfl
                      have hcz180_2 : wc.cell? ⟨gb108, 2, none⟩ = some (.string a0_2) := (blk_cell BK108.out 2).trans rfl
                      have hfz180_0 := blk_frozen BK108.out 0
                      have hfz180_1 := blk_frozen BK108.out 1
                      have hfz180_2 := blk_frozen BK108.out 2
                      have p135 : 0 ≤ ((ji172) : Int) := of_decide_eq_true (by first | (with_reducible assumption) | assumption)
                      have q135 : (ji172) < (x1_2.length : Int) := of_decide_eq_true (by first | (with_reducible assumption) | assumption)
                      obtain ⟨ad135, e135, hx135_0⟩ := Kd.at_bool (Kd.R_reads' HO_1.out).2.2 (ji172) p135 q135
                      (try rw [← Nbq175.out] at hx135_0)
                      obtain rfl : (⟨go6, 0, none⟩ : Addr) = ad135 := (by injection e135)
                      (first | simp only [add_plain] at hx135_0 | simp only [add_at] at hx135_0 | simp only [Addr.add, Nat.zero_add] at hx135_0 | skip)
                      replace p135 := eq_true p135
                      replace q135 := eq_true q135
                      have p179 : 0 ≤ (x8_2 : Int) := of_decide_eq_true (by first | (with_reducible assumption) | assumption)
                      have q179 : (x8_2 : Int) < ((x1_2.length : Int) : Int) := of_decide_eq_true (by first | (with_reducible assumption) | assumption)
                      obtain ⟨hx179_0, hf179_0⟩ := Kd.R_celln false HO_1.out (x8_2 : Int) p179 q179
                      replace p179 := eq_true p179
                      replace q179 := eq_true q179
                      have HP181 := Kd.R_putg HO_1.out (x8_2 : Int) true
                      go_wp2_with (first | ((with_reducible refine gate_store (t := 4) (p := 95) rfl ?_); refine store_event (t := 4) (p := 95) (v := ?vo_w182) (w1 := (wc.setCell ⟨go6, (x8_2 : Int).toNat, none⟩ (.bool true))) ?hg ?ho ?hn ?hr ?_; (case ho => rfl); (case hg => rfl); (case hn => rfl); (case hr => first | (go_simp; done) | (go_simp; rfl)); intro w182 hw; have hg : wc.grownBy w182 (some go6) := (by rw [hw]; exact HP181.2); have hp_ : Kd.R Kd.bool 4 w182 w0.heap.size (fun k_ => (P1_ k_ ∨ w.heap.size ≤ k_)) (.slice (some ⟨go6, 0, none⟩) x1_2.length co6) y136 := (by rw [hw, Ny136.out]; exact HP181.1); clear HP181; have n0_ := Aside0.mk (hp_); have n1_ := Aside0.mk (blk_grown (g := gb108) (o := .cells #[.int .i64 a0_0, .int .i64 a0_1, .string a0_2] 37 (0, 0)) (by (with_reducible repeat (first | refine blk_drewN ?_ _ | refine blk_drew ?_ | refine blk_alloc ?_ _)); exact BK108.out) hg (Kd.R_ne HO_1.out BK108.out (by decide))); have n2_ := Aside0.mk ((by rw [hw]; exact below_set (HB.out) GB6.out : Below w0.heap.size w0 w182)); have n3_ := Aside0.mk (Kept.of_grown (S := (fun k_ => P1_ k_)) hg (by repeat (first | (with_reducible first | exact HK.out | apply Kept.alloc | apply Kept.drewN | apply Kept.drew | refine Kept.setCell ?_ (.inr GW108.out) _) | exact HK.out)) (fun k_ e_ => (HO_1.out.1 k_ e_))); clear HO_1; clear BK108; clear HB; clear HK; have HO_1 := n0_; have BK108 := n1_; have HB := n2_; have HK := n3_; clear n0_ n1_ n2_ n3_; clear hg hw hp_))
                      (try simp only [← hl1_2])
                      go_roundg kj11
                      case measure => have := HK1.out; have := HK2.out; have := HJ11.out; omega
                      case rel => exact ⟨(y136), (true), (wrap64 (x8_2 + 1)), (by first | rfl | (simp; done) | (simp [*]; done)), (by first | rfl | (simp; done) | (simp [*]; done)), H', ⟨by have := HK1.out; have := HK2.out; have := HJ11.out; omega⟩, ⟨by (try simp only [hl1_1]); (try simp only [hl1_2]); (with_reducible repeat (first | apply Kd.R_alloc | apply Kd.R_drewN | apply Kd.R_drew)); exact HO_1.out⟩, ⟨by (try simp only [hl1_1]); (try simp only [hl1_2]); (with_reducible repeat (first | refine blk_drewN ?_ _ | refine blk_drew ?_ | refine blk_alloc ?_ _)); exact BK108.out⟩, ⟨by repeat (first | (with_reducible first | exact HK.out | apply Kept.alloc | apply Kept.drewN | apply Kept.drew | refine Kept.setCell ?_ (.inr GW108.out) _) | exact HK.out)⟩, ⟨by repeat (first | (with_reducible first | exact HB.out | apply below_alloc | apply pw_below_drewN | apply below_drew1 | refine below_set ?_ GE108.out) | exact HB.out)⟩⟩
                     ·rw [if_neg c178] at H
                      exact absurd H (by simp)
                    ·rw [if_neg c177] at H
                     exact absurd H (by simp)
                   ·replace c176 := Bool.eq_false_iff.mpr c176
                    subst c176
                    have H1 : (if (wrap64 (x8_2 + a0_1)) < (x1_2.length : Int) then (if 0 ≤ (wrap64 (x8_2 + a0_1)) then (if rdOf false x1_2 (wrap64 (x8_2 + a0_1)) = true then (if 0 ≤ x8_2 then (if x8_2 < (x1_2.length : Int) then (spec_l10Reach.l1 kj11 (x1_2.set (x8_2 : Int).toNat true) true (wrap64 (x8_2 + 1)) a0_0 a0_1 a0_2) else (none)) else (none)) else (spec_l10Reach.l1 kj11 x1_2 x7_2 (wrap64 (x8_2 + 1)) a0_0 a0_1 a0_2)) else (none)) else (spec_l10Reach.l1 kj11 x1_2 x7_2 (wrap64 (x8_2 + 1)) a0_0 a0_1 a0_2)) = some r := by rw [if_neg (show ¬ (false = true) by decide)] at H; exact H
                    clear H
                    have H := H1
                    clear H1
                    by_cases c183 : (wrap64 (x8_2 + a0_1)) < (x1_2.length : Int)
                    ·rw [if_pos c183] at H
                     have c183b0 : decide ((wrap64 (x8_2 + a0_1)) < (x1_2.length : Int)) = true := decide_eq_true c183
                     clear c183
                     obtain ⟨ji184, hji184⟩ : ∃ j_ : Int, (wrap64 (x8_2 + a0_1)) = j_ := ⟨_, rfl⟩
                     replace H : (if 0 ≤ (ji184) then (if rdOf false x1_2 (ji184) = true then (if 0 ≤ x8_2 then (if x8_2 < (x1_2.length : Int) then (spec_l10Reach.l1 kj11 (x1_2.set (x8_2 : Int).toNat true) true (wrap64 (x8_2 + 1)) a0_0 a0_1 a0_2) else (none)) else (none)) else (spec_l10Reach.l1 kj11 x1_2 x7_2 (wrap64 (x8_2 + 1)) a0_0 a0_1 a0_2)) else (none)) = some r := by first | (rw [hji184] at H; exact H) | (simp only [hji184] at H ⊢; exact H)
                     (try rw [hji184] at c183b0)
                     have hji184w : (IntKind.i64.wrap (x8_2 + a0_1)) = ji184 := (i64_w _).trans hji184
                     by_cases c185 : 0 ≤ (ji184)
                     ·rw [if_pos c185] at H
                      have c185b0 : decide (0 ≤ (ji184)) = true := decide_eq_true c185
                      clear c185
                      obtain ⟨bq186, hbq186⟩ : ∃ b_ : Bool, b_ = (rdOf false x1_2 (ji184)) := ⟨_, rfl⟩
                      replace H : (if bq186 = true then (if 0 ≤ x8_2 then (if x8_2 < (x1_2.length : Int) then (spec_l10Reach.l1 kj11 (x1_2.set (x8_2 : Int).toNat true) true (wrap64 (x8_2 + 1)) a0_0 a0_1 a0_2) else (none)) else (none)) else (spec_l10Reach.l1 kj11 x1_2 x7_2 (wrap64 (x8_2 + 1)) a0_0 a0_1 a0_2)) = some r := by rw [← hbq186] at H; exact H
                      have Nbq186 := Aside0.mk hbq186
                      clear hbq186
                      by_cases c187 : bq186 = true
                      ·subst c187
                       have H1 : (if 0 ≤ x8_2 then (if x8_2 < (x1_2.length : Int) then (spec_l10Reach.l1 kj11 (x1_2.set (x8_2 : Int).toNat true) true (wrap64 (x8_2 + 1)) a0_0 a0_1 a0_2) else (none)) else (none)) = some r := by rw [if_pos rfl] at H; exact H
                       clear H
                       have H := H1
                       clear H1
                       by_cases c188 : 0 ≤ x8_2
                       ·rw [if_pos c188] at H
                        have c188b0 : decide (0 ≤ x8_2) = true := decide_eq_true c188
                        clear c188
                        by_cases c189 : x8_2 < (x1_2.length : Int)
                        ·rw [if_pos c189] at H
                         have c189b0 : decide (x8_2 < (x1_2.length : Int)) = true := decide_eq_true c189
                         clear c189
                         obtain ⟨y138, hy138⟩ : ∃ y_ : List Bool, y_ = (x1_2.set (x8_2 : Int).toNat true) := ⟨_, rfl⟩
                         replace H : (spec_l10Reach.l1 kj11 y138 true (wrap64 (x8_2 + 1)) a0_0 a0_1 a0_2) = some r := by first | (rw [hy138]; with_reducible exact H) | (have H2_ := (Option.bind_some _ _).symm.trans H; rw [hy138]; with_reducible exact H2_) | (have H2_ := (Option.bind_some _ _).symm.trans H; with_reducible exact H2_) | with_reducible exact H | (rw [hy138]; exact H) | exact H
                         have Ny138 := Aside0.mk hy138
                         clear hy138
                         have H' := Aside0.mk H
                         clear H
                         have hcz191_0 : wc.cell? ⟨gb108, 0, none⟩ = some (.int .i64 a0_0) := (blk_cell BK108.out 0).trans rfl
                         have hcz191_1 : wc.cell? ⟨gb108, 1, none⟩ = some (.int .i64 a0_1) := (blk_cell BK108.out 1).trans rfl
                         have hcz191_2 : wc.cell? ⟨gb108, 2, none⟩ = some (.string a0_2) := (blk_cell BK108.out 2).trans rfl
                         have hfz191_0 := blk_frozen BK108.out 0
                         have hfz191_1 := blk_frozen BK108.out 1
                         have hfz191_2 := blk_frozen BK108.out 2
                         have p135 : 0 ≤ ((ji172) : Int) := of_decide_eq_true (by first | (with_reducible assumption) | assumption)
                         have q135 : (ji172) < (x1_2.length : Int) := of_decide_eq_true (by first | (with_reducible assumption) | assumption)
                         obtain ⟨ad135, e135, hx135_0⟩ := Kd.at_bool (Kd.R_reads' HO_1.out).2.2 (ji172) p135 q135
                         (try rw [← Nbq175.out] at hx135_0)
                         (try rw [← Nbq186.out] at hx135_0)
                         obtain rfl : (⟨go6, 0, none⟩ : Addr) = ad135 := (by injection e135)
                         (first | simp only [add_plain] at hx135_0 | simp only [add_at] at hx135_0 | simp only [Addr.add, Nat.zero_add] at hx135_0 | skip)
                         replace p135 := eq_true p135
                         replace q135 := eq_true q135
                         have p137 : 0 ≤ ((ji184) : Int) := of_decide_eq_true (by first | (with_reducible assumption) | assumption)
                         have q137 : (ji184) < (x1_2.length : Int) := of_decide_eq_true (by first | (with_reducible assumption) | assumption)
                         obtain ⟨ad137, e137, hx137_0⟩ := Kd.at_bool (Kd.R_reads' HO_1.out).2.2 (ji184) p137 q137
                         (try rw [← Nbq175.out] at hx137_0)
                         (try rw [← Nbq186.out] at hx137_0)
                         obtain rfl : (⟨go6, 0, none⟩ : Addr) = ad137 := (by injection e137)
                         (first | simp only [add_plain] at hx137_0 | simp only [add_at] at hx137_0 | simp only [Addr.add, Nat.zero_add] at hx137_0 | skip)
                         replace p137 := eq_true p137
                         replace q137 := eq_true q137
                         have p190 : 0 ≤ (x8_2 : Int) := of_decide_eq_true (by first | (with_reducible assumption) | assumption)
                         have q190 : (x8_2 : Int) < ((x1_2.length : Int) : Int) := of_decide_eq_true (by first | (with_reducible assumption) | assumption)
                         obtain ⟨hx190_0, hf190_0⟩ := Kd.R_celln false HO_1.out (x8_2 : Int) p190 q190
                         replace p190 := eq_true p190
                         replace q190 := eq_true q190
                         have HP192 := Kd.R_putg HO_1.out (x8_2 : Int) true
                         go_wp2_with (first | ((with_reducible refine gate_store (t := 4) (p := 95) rfl ?_); refine store_event (t := 4) (p := 95) (v := ?vo_w193) (w1 := (wc.setCell ⟨go6, (x8_2 : Int).toNat, none⟩ (.bool true))) ?hg ?ho ?hn ?hr ?_; (case ho => rfl); (case hg => rfl); (case hn => rfl); (case hr => first | (go_simp; done) | (go_simp; rfl)); intro w193 hw; have hg : wc.grownBy w193 (some go6) := (by rw [hw]; exact HP192.2); have hp_ : Kd.R Kd.bool 4 w193 w0.heap.size (fun k_ => (P1_ k_ ∨ w.heap.size ≤ k_)) (.slice (some ⟨go6, 0, none⟩) x1_2.length co6) y138 := (by rw [hw, Ny138.out]; exact HP192.1); clear HP192; have n0_ := Aside0.mk (hp_); have n1_ := Aside0.mk (blk_grown (g := gb108) (o := .cells #[.int .i64 a0_0, .int .i64 a0_1, .string a0_2] 37 (0, 0)) (by (with_reducible repeat (first | refine blk_drewN ?_ _ | refine blk_drew ?_ | refine blk_alloc ?_ _)); exact BK108.out) hg (Kd.R_ne HO_1.out BK108.out (by decide))); have n2_ := Aside0.mk ((by rw [hw]; exact below_set (HB.out) GB6.out : Below w0.heap.size w0 w193)); have n3_ := Aside0.mk (Kept.of_grown (S := (fun k_ => P1_ k_)) hg (by repeat (first | (with_reducible first | exact HK.out | apply Kept.alloc | apply Kept.drewN | apply Kept.drew | refine Kept.setCell ?_ (.inr GW108.out) _) | exact HK.out)) (fun k_ e_ => (HO_1.out.1 k_ e_))); clear HO_1; clear BK108; clear HB; clear HK; have HO_1 := n0_; have BK108 := n1_; have HB := n2_; have HK := n3_; clear n0_ n1_ n2_ n3_; clear hg hw hp_))
                         (try simp only [← hl1_2])
                         go_roundg kj11
                         case measure => have := HK1.out; have := HK2.out; have := HJ11.out; omega
                         case rel => exact ⟨(y138), (true), (wrap64 (x8_2 + 1)), (by first | rfl | (simp; done) | (simp [*]; done)), (by first | rfl | (simp; done) | (simp [*]; done)), H', ⟨by have := HK1.out; have := HK2.out; have := HJ11.out; omega⟩, ⟨by (try simp only [hl1_1]); (try simp only [hl1_2]); (with_reducible repeat (first | apply Kd.R_alloc | apply Kd.R_drewN | apply Kd.R_drew)); exact HO_1.out⟩, ⟨by (try simp only [hl1_1]); (try simp only [hl1_2]); (with_reducible repeat (first | refine blk_drewN ?_ _ | refine blk_drew ?_ | refine blk_alloc ?_ _)); exact BK108.out⟩, ⟨by repeat (first | (with_reducible first | exact HK.out | apply Kept.alloc | apply Kept.drewN | apply Kept.drew | refine Kept.setCell ?_ (.inr GW108.out) _) | exact HK.out)⟩, ⟨by repeat (first | (with_reducible first | exact HB.out | apply below_alloc | apply pw_below_drewN | apply below_drew1 | refine below_set ?_ GE108.out) | exact HB.out)⟩⟩
                        ·rw [if_neg c189] at H
                         exact absurd H (by simp)
                       ·rw [if_neg c188] at H
                        exact absurd H (by simp)
                      ·replace c187 := Bool.eq_false_iff.mpr c187
                       subst c187
                       have H1 : (spec_l10Reach.l1 kj11 x1_2 x7_2 (wrap64 (x8_2 + 1)) a0_0 a0_1 a0_2) = some r := by rw [if_neg (show ¬ (false = true) by decide)] at H; exact H
                       clear H
                       have H := H1
                       clear H1
                       have H' := Aside0.mk H
                       clear H
                       have hcz194_0 : wc.cell? ⟨gb108, 0, none⟩ = some (.int .i64 a0_0) := (blk_cell BK108.out 0).trans rfl
                       have hcz194_1 : wc.cell? ⟨gb108, 1, none⟩ = some (.int .i64 a0_1) := (blk_cell BK108.out 1).trans rfl
                       have hcz194_2 : wc.cell? ⟨gb108, 2, none⟩ = some (.string a0_2) := (blk_cell BK108.out 2).trans rfl
                       have hfz194_0 := blk_frozen BK108.out 0
                       have hfz194_1 := blk_frozen BK108.out 1
                       have hfz194_2 := blk_frozen BK108.out 2
                       have p135 : 0 ≤ ((ji172) : Int) := of_decide_eq_true (by first | (with_reducible assumption) | assumption)
                       have q135 : (ji172) < (x1_2.length : Int) := of_decide_eq_true (by first | (with_reducible assumption) | assumption)
                       obtain ⟨ad135, e135, hx135_0⟩ := Kd.at_bool (Kd.R_reads' HO_1.out).2.2 (ji172) p135 q135
                       (try rw [← Nbq175.out] at hx135_0)
                       (try rw [← Nbq186.out] at hx135_0)
                       obtain rfl : (⟨go6, 0, none⟩ : Addr) = ad135 := (by injection e135)
                       (first | simp only [add_plain] at hx135_0 | simp only [add_at] at hx135_0 | simp only [Addr.add, Nat.zero_add] at hx135_0 | skip)
                       replace p135 := eq_true p135
                       replace q135 := eq_true q135
                       have p137 : 0 ≤ ((ji184) : Int) := of_decide_eq_true (by first | (with_reducible assumption) | assumption)
                       have q137 : (ji184) < (x1_2.length : Int) := of_decide_eq_true (by first | (with_reducible assumption) | assumption)
                       obtain ⟨ad137, e137, hx137_0⟩ := Kd.at_bool (Kd.R_reads' HO_1.out).2.2 (ji184) p137 q137
                       (try rw [← Nbq175.out] at hx137_0)
                       (try rw [← Nbq186.out] at hx137_0)
                       obtain rfl : (⟨go6, 0, none⟩ : Addr) = ad137 := (by injection e137)
                       (first | simp only [add_plain] at hx137_0 | simp only [add_at] at hx137_0 | simp only [Addr.add, Nat.zero_add] at hx137_0 | skip)
                       replace p137 := eq_true p137
                       replace q137 := eq_true q137
                       go_wp2
                       (try simp only [← hl1_2])
                       go_roundg kj11
                       case measure => have := HK1.out; have := HK2.out; have := HJ11.out; omega
                       case rel => exact ⟨(x1_2), (x7_2), (wrap64 (x8_2 + 1)), (by first | rfl | (simp; done) | (simp [*]; done)), (by first | rfl | (simp; done) | (simp [*]; done)), H', ⟨by have := HK1.out; have := HK2.out; have := HJ11.out; omega⟩, ⟨by (try simp only [hl1_1]); (try simp only [hl1_2]); (with_reducible repeat (first | apply Kd.R_alloc | apply Kd.R_drewN | apply Kd.R_drew)); exact HO_1.out⟩, ⟨by (try simp only [hl1_1]); (try simp only [hl1_2]); (with_reducible repeat (first | refine blk_drewN ?_ _ | refine blk_drew ?_ | refine blk_alloc ?_ _)); exact BK108.out⟩, ⟨by repeat (first | (with_reducible first | exact HK.out | apply Kept.alloc | apply Kept.drewN | apply Kept.drew | refine Kept.setCell ?_ (.inr GW108.out) _) | exact HK.out)⟩, ⟨by repeat (first | (with_reducible first | exact HB.out | apply below_alloc | apply pw_below_drewN | apply below_drew1 | refine below_set ?_ GE108.out) | exact HB.out)⟩⟩
                     ·rw [if_neg c185] at H
                      exact absurd H (by simp)
                    ·rw [if_neg c183] at H
                     have c183b0 : decide ((wrap64 (x8_2 + a0_1)) < (x1_2.length : Int)) = false := decide_eq_false c183
                     clear c183
                     have H' := Aside0.mk H
                     clear H
                     have hcz195_0 : wc.cell? ⟨gb108, 0, none⟩ = some (.int .i64 a0_0) := (blk_cell BK108.out 0).trans rfl
                     have hcz195_1 : wc.cell? ⟨gb108, 1, none⟩ = some (.int .i64 a0_1) := (blk_cell BK108.out 1).trans rfl
                     have hcz195_2 : wc.cell? ⟨gb108, 2, none⟩ = some (.string a0_2) := (blk_cell BK108.out 2).trans rfl
                     have hfz195_0 := blk_frozen BK108.out 0
                     have hfz195_1 := blk_frozen BK108.out 1
                     have hfz195_2 := blk_frozen BK108.out 2
                     have p135 : 0 ≤ ((ji172) : Int) := of_decide_eq_true (by first | (with_reducible assumption) | assumption)
                     have q135 : (ji172) < (x1_2.length : Int) := of_decide_eq_true (by first | (with_reducible assumption) | assumption)
                     obtain ⟨ad135, e135, hx135_0⟩ := Kd.at_bool (Kd.R_reads' HO_1.out).2.2 (ji172) p135 q135
                     (try rw [← Nbq175.out] at hx135_0)
                     obtain rfl : (⟨go6, 0, none⟩ : Addr) = ad135 := (by injection e135)
                     (first | simp only [add_plain] at hx135_0 | simp only [add_at] at hx135_0 | simp only [Addr.add, Nat.zero_add] at hx135_0 | skip)
                     replace p135 := eq_true p135
                     replace q135 := eq_true q135
                     go_wp2
                     (try simp only [← hl1_2])
                     go_roundg kj11
                     case measure => have := HK1.out; have := HK2.out; have := HJ11.out; omega
                     case rel => exact ⟨(x1_2), (x7_2), (wrap64 (x8_2 + 1)), (by first | rfl | (simp; done) | (simp [*]; done)), (by first | rfl | (simp; done) | (simp [*]; done)), H', ⟨by have := HK1.out; have := HK2.out; have := HJ11.out; omega⟩, ⟨by (try simp only [hl1_1]); (try simp only [hl1_2]); (with_reducible repeat (first | apply Kd.R_alloc | apply Kd.R_drewN | apply Kd.R_drew)); exact HO_1.out⟩, ⟨by (try simp only [hl1_1]); (try simp only [hl1_2]); (with_reducible repeat (first | refine blk_drewN ?_ _ | refine blk_drew ?_ | refine blk_alloc ?_ _)); exact BK108.out⟩, ⟨by repeat (first | (with_reducible first | exact HK.out | apply Kept.alloc | apply Kept.drewN | apply Kept.drew | refine Kept.setCell ?_ (.inr GW108.out) _) | exact HK.out)⟩, ⟨by repeat (first | (with_reducible first | exact HB.out | apply below_alloc | apply pw_below_drewN | apply below_drew1 | refine below_set ?_ GE108.out) | exact HB.out)⟩⟩
                  ·rw [if_neg c174] at H
                   exact absurd H (by simp)
                 ·rw [if_neg c173] at H
                  exact absurd H (by simp)
                ·rw [if_neg c171] at H
                 have c171b0 : decide (a0_1 ≤ x8_2) = false := decide_eq_false c171
                 clear c171
                 by_cases c196 : (wrap64 (x8_2 + a0_1)) < (x1_2.length : Int)
                 ·rw [if_pos c196] at H
                  have c196b0 : decide ((wrap64 (x8_2 + a0_1)) < (x1_2.length : Int)) = true := decide_eq_true c196
                  clear c196
                  obtain ⟨ji197, hji197⟩ : ∃ j_ : Int, (wrap64 (x8_2 + a0_1)) = j_ := ⟨_, rfl⟩
                  replace H : (if 0 ≤ (ji197) then (if rdOf false x1_2 (ji197) = true then (if 0 ≤ x8_2 then (if x8_2 < (x1_2.length : Int) then (spec_l10Reach.l1 kj11 (x1_2.set (x8_2 : Int).toNat true) true (wrap64 (x8_2 + 1)) a0_0 a0_1 a0_2) else (none)) else (none)) else (spec_l10Reach.l1 kj11 x1_2 x7_2 (wrap64 (x8_2 + 1)) a0_0 a0_1 a0_2)) else (none)) = some r := by first | (rw [hji197] at H; exact H) | (simp only [hji197] at H ⊢; exact H)
                  (try rw [hji197] at c196b0)
                  have hji197w : (IntKind.i64.wrap (x8_2 + a0_1)) = ji197 := (i64_w _).trans hji197
                  by_cases c198 : 0 ≤ (ji197)
                  ·rw [if_pos c198] at H
                   have c198b0 : decide (0 ≤ (ji197)) = true := decide_eq_true c198
                   clear c198
                   obtain ⟨bq199, hbq199⟩ : ∃ b_ : Bool, b_ = (rdOf false x1_2 (ji197)) := ⟨_, rfl⟩
                   replace H : (if bq199 = true then (if 0 ≤ x8_2 then (if x8_2 < (x1_2.length : Int) then (spec_l10Reach.l1 kj11 (x1_2.set (x8_2 : Int).toNat true) true (wrap64 (x8_2 + 1)) a0_0 a0_1 a0_2) else (none)) else (none)) else (spec_l10Reach.l1 kj11 x1_2 x7_2 (wrap64 (x8_2 + 1)) a0_0 a0_1 a0_2)) = some r := by rw [← hbq199] at H; exact H
                   have Nbq199 := Aside0.mk hbq199
                   clear hbq199
                   by_cases c200 : bq199 = true
                   ·subst c200
                    have H1 : (if 0 ≤ x8_2 then (if x8_2 < (x1_2.length : Int) then (spec_l10Reach.l1 kj11 (x1_2.set (x8_2 : Int).toNat true) true (wrap64 (x8_2 + 1)) a0_0 a0_1 a0_2) else (none)) else (none)) = some r := by rw [if_pos rfl] at H; exact H
                    clear H
                    have H := H1
                    clear H1
                    by_cases c201 : 0 ≤ x8_2
                    ·rw [if_pos c201] at H
                     have c201b0 : decide (0 ≤ x8_2) = true := decide_eq_true c201
                     clear c201
                     by_cases c202 : x8_2 < (x1_2.length : Int)
                     ·rw [if_pos c202] at H
                      have c202b0 : decide (x8_2 < (x1_2.length : Int)) = true := decide_eq_true c202
                      clear c202
                      obtain ⟨y140, hy140⟩ : ∃ y_ : List Bool, y_ = (x1_2.set (x8_2 : Int).toNat true) := ⟨_, rfl⟩
                      replace H : (spec_l10Reach.l1 kj11 y140 true (wrap64 (x8_2 + 1)) a0_0 a0_1 a0_2) = some r := by first | (rw [hy140]; with_reducible exact H) | (have H2_ := (Option.bind_some _ _).symm.trans H; rw [hy140]; with_reducible exact H2_) | (have H2_ := (Option.bind_some _ _).symm.trans H; with_reducible exact H2_) | with_reducible exact H | (rw [hy140]; exact H) | exact H
                      have Ny140 := Aside0.mk hy140
                      clear hy140
                      have H' := Aside0.mk H
                      clear H
                      have hcz204_0 : wc.cell? ⟨gb108, 0, none⟩ = some (.int .i64 a0_0) := (blk_cell BK108.out 0).trans rfl
                      have hcz204_1 : wc.cell? ⟨gb108, 1, none⟩ = some (.int .i64 a0_1) := (blk_cell BK108.out 1).trans rfl
                      have hcz204_2 : wc.cell? ⟨gb108, 2, none⟩ = some (.string a0_2) := (blk_cell BK108.out 2).trans rfl
                      have hfz204_0 := blk_frozen BK108.out 0
                      have hfz204_1 := blk_frozen BK108.out 1
                      have hfz204_2 := blk_frozen BK108.out 2
                      have p139 : 0 ≤ ((ji197) : Int) := of_decide_eq_true (by first | (with_reducible assumption) | assumption)
                      have q139 : (ji197) < (x1_2.length : Int) := of_decide_eq_true (by first | (with_reducible assumption) | assumption)
                      obtain ⟨ad139, e139, hx139_0⟩ := Kd.at_bool (Kd.R_reads' HO_1.out).2.2 (ji197) p139 q139
                      (try rw [← Nbq199.out] at hx139_0)
                      obtain rfl : (⟨go6, 0, none⟩ : Addr) = ad139 := (by injection e139)
                      (first | simp only [add_plain] at hx139_0 | simp only [add_at] at hx139_0 | simp only [Addr.add, Nat.zero_add] at hx139_0 | skip)
                      replace p139 := eq_true p139
                      replace q139 := eq_true q139
                      have p203 : 0 ≤ (x8_2 : Int) := of_decide_eq_true (by first | (with_reducible assumption) | assumption)
                      have q203 : (x8_2 : Int) < ((x1_2.length : Int) : Int) := of_decide_eq_true (by first | (with_reducible assumption) | assumption)
                      obtain ⟨hx203_0, hf203_0⟩ := Kd.R_celln false HO_1.out (x8_2 : Int) p203 q203
                      replace p203 := eq_true p203
                      replace q203 := eq_true q203
                      have HP205 := Kd.R_putg HO_1.out (x8_2 : Int) true
                      go_wp2_with (first | ((with_reducible refine gate_store (t := 4) (p := 95) rfl ?_); refine store_event (t := 4) (p := 95) (v := ?vo_w206) (w1 := (wc.setCell ⟨go6, (x8_2 : Int).toNat, none⟩ (.bool true))) ?hg ?ho ?hn ?hr ?_; (case ho => rfl); (case hg => rfl); (case hn => rfl); (case hr => first | (go_simp; done) | (go_simp; rfl)); intro w206 hw; have hg : wc.grownBy w206 (some go6) := (by rw [hw]; exact HP205.2); have hp_ : Kd.R Kd.bool 4 w206 w0.heap.size (fun k_ => (P1_ k_ ∨ w.heap.size ≤ k_)) (.slice (some ⟨go6, 0, none⟩) x1_2.length co6) y140 := (by rw [hw, Ny140.out]; exact HP205.1); clear HP205; have n0_ := Aside0.mk (hp_); have n1_ := Aside0.mk (blk_grown (g := gb108) (o := .cells #[.int .i64 a0_0, .int .i64 a0_1, .string a0_2] 37 (0, 0)) (by (with_reducible repeat (first | refine blk_drewN ?_ _ | refine blk_drew ?_ | refine blk_alloc ?_ _)); exact BK108.out) hg (Kd.R_ne HO_1.out BK108.out (by decide))); have n2_ := Aside0.mk ((by rw [hw]; exact below_set (HB.out) GB6.out : Below w0.heap.size w0 w206)); have n3_ := Aside0.mk (Kept.of_grown (S := (fun k_ => P1_ k_)) hg (by repeat (first | (with_reducible first | exact HK.out | apply Kept.alloc | apply Kept.drewN | apply Kept.drew | refine Kept.setCell ?_ (.inr GW108.out) _) | exact HK.out)) (fun k_ e_ => (HO_1.out.1 k_ e_))); clear HO_1; clear BK108; clear HB; clear HK; have HO_1 := n0_; have BK108 := n1_; have HB := n2_; have HK := n3_; clear n0_ n1_ n2_ n3_; clear hg hw hp_))
                      (try simp only [← hl1_2])
                      go_roundg kj11
                      case measure => have := HK1.out; have := HK2.out; have := HJ11.out; omega
                      case rel => exact ⟨(y140), (true), (wrap64 (x8_2 + 1)), (by first | rfl | (simp; done) | (simp [*]; done)), (by first | rfl | (simp; done) | (simp [*]; done)), H', ⟨by have := HK1.out; have := HK2.out; have := HJ11.out; omega⟩, ⟨by (try simp only [hl1_1]); (try simp only [hl1_2]); (with_reducible repeat (first | apply Kd.R_alloc | apply Kd.R_drewN | apply Kd.R_drew)); exact HO_1.out⟩, ⟨by (try simp only [hl1_1]); (try simp only [hl1_2]); (with_reducible repeat (first | refine blk_drewN ?_ _ | refine blk_drew ?_ | refine blk_alloc ?_ _)); exact BK108.out⟩, ⟨by repeat (first | (with_reducible first | exact HK.out | apply Kept.alloc | apply Kept.drewN | apply Kept.drew | refine Kept.setCell ?_ (.inr GW108.out) _) | exact HK.out)⟩, ⟨by repeat (first | (with_reducible first | exact HB.out | apply below_alloc | apply pw_below_drewN | apply below_drew1 | refine below_set ?_ GE108.out) | exact HB.out)⟩⟩
                     ·rw [if_neg c202] at H
                      exact absurd H (by simp)
                    ·rw [if_neg c201] at H
                     exact absurd H (by simp)
                   ·replace c200 := Bool.eq_false_iff.mpr c200
                    subst c200
                    have H1 : (spec_l10Reach.l1 kj11 x1_2 x7_2 (wrap64 (x8_2 + 1)) a0_0 a0_1 a0_2) = some r := by rw [if_neg (show ¬ (false = true) by decide)] at H; exact H
                    clear H
                    have H := H1
                    clear H1
                    have H' := Aside0.mk H
                    clear H
                    have hcz207_0 : wc.cell? ⟨gb108, 0, none⟩ = some (.int .i64 a0_0) := (blk_cell BK108.out 0).trans rfl
                    have hcz207_1 : wc.cell? ⟨gb108, 1, none⟩ = some (.int .i64 a0_1) := (blk_cell BK108.out 1).trans rfl
                    have hcz207_2 : wc.cell? ⟨gb108, 2, none⟩ = some (.string a0_2) := (blk_cell BK108.out 2).trans rfl
                    have hfz207_0 := blk_frozen BK108.out 0
                    have hfz207_1 := blk_frozen BK108.out 1
                    have hfz207_2 := blk_frozen BK108.out 2
                    have p139 : 0 ≤ ((ji197) : Int) := of_decide_eq_true (by first | (with_reducible assumption) | assumption)
                    have q139 : (ji197) < (x1_2.length : Int) := of_decide_eq_true (by first | (with_reducible assumption) | assumption)
                    obtain ⟨ad139, e139, hx139_0⟩ := Kd.at_bool (Kd.R_reads' HO_1.out).2.2 (ji197) p139 q139
                    (try rw [← Nbq199.out] at hx139_0)
                    obtain rfl : (⟨go6, 0, none⟩ : Addr) = ad139 := (by injection e139)
                    (first | simp only [add_plain] at hx139_0 | simp only [add_at] at hx139_0 | simp only [Addr.add, Nat.zero_add] at hx139_0 | skip)
                    replace p139 := eq_true p139
                    replace q139 := eq_true q139
                    go_wp2
                    (try simp only [← hl1_2])
                    go_roundg kj11
                    case measure => have := HK1.out; have := HK2.out; have := HJ11.out; omega
                    case rel => exact ⟨(x1_2), (x7_2), (wrap64 (x8_2 + 1)), (by first | rfl | (simp; done) | (simp [*]; done)), (by first | rfl | (simp; done) | (simp [*]; done)), H', ⟨by have := HK1.out; have := HK2.out; have := HJ11.out; omega⟩, ⟨by (try simp only [hl1_1]); (try simp only [hl1_2]); (with_reducible repeat (first | apply Kd.R_alloc | apply Kd.R_drewN | apply Kd.R_drew)); exact HO_1.out⟩, ⟨by (try simp only [hl1_1]); (try simp only [hl1_2]); (with_reducible repeat (first | refine blk_drewN ?_ _ | refine blk_drew ?_ | refine blk_alloc ?_ _)); exact BK108.out⟩, ⟨by repeat (first | (with_reducible first | exact HK.out | apply Kept.alloc | apply Kept.drewN | apply Kept.drew | refine Kept.setCell ?_ (.inr GW108.out) _) | exact HK.out)⟩, ⟨by repeat (first | (with_reducible first | exact HB.out | apply below_alloc | apply pw_below_drewN | apply below_drew1 | refine below_set ?_ GE108.out) | exact HB.out)⟩⟩
                  ·rw [if_neg c198] at H
                   exact absurd H (by simp)
                 ·rw [if_neg c196] at H
                  have c196b0 : decide ((wrap64 (x8_2 + a0_1)) < (x1_2.length : Int)) = false := decide_eq_false c196
                  clear c196
                  have H' := Aside0.mk H
                  clear H
                  have hcz208_0 : wc.cell? ⟨gb108, 0, none⟩ = some (.int .i64 a0_0) := (blk_cell BK108.out 0).trans rfl
                  have hcz208_1 : wc.cell? ⟨gb108, 1, none⟩ = some (.int .i64 a0_1) := (blk_cell BK108.out 1).trans rfl
                  have hcz208_2 : wc.cell? ⟨gb108, 2, none⟩ = some (.string a0_2) := (blk_cell BK108.out 2).trans rfl
                  have hfz208_0 := blk_frozen BK108.out 0
                  have hfz208_1 := blk_frozen BK108.out 1
                  have hfz208_2 := blk_frozen BK108.out 2
                  go_wp2
                  (try simp only [← hl1_2])
                  go_roundg kj11
                  case measure => have := HK1.out; have := HK2.out; have := HJ11.out; omega
                  case rel => exact ⟨(x1_2), (x7_2), (wrap64 (x8_2 + 1)), (by first | rfl | (simp; done) | (simp [*]; done)), (by first | rfl | (simp; done) | (simp [*]; done)), H', ⟨by have := HK1.out; have := HK2.out; have := HJ11.out; omega⟩, ⟨by (try simp only [hl1_1]); (try simp only [hl1_2]); (with_reducible repeat (first | apply Kd.R_alloc | apply Kd.R_drewN | apply Kd.R_drew)); exact HO_1.out⟩, ⟨by (try simp only [hl1_1]); (try simp only [hl1_2]); (with_reducible repeat (first | refine blk_drewN ?_ _ | refine blk_drew ?_ | refine blk_alloc ?_ _)); exact BK108.out⟩, ⟨by repeat (first | (with_reducible first | exact HK.out | apply Kept.alloc | apply Kept.drewN | apply Kept.drew | refine Kept.setCell ?_ (.inr GW108.out) _) | exact HK.out)⟩, ⟨by repeat (first | (with_reducible first | exact HB.out | apply below_alloc | apply pw_below_drewN | apply below_drew1 | refine below_set ?_ GE108.out) | exact HB.out)⟩⟩
         ·rw [if_neg c11] at H
          have c11b0 : decide (x8_2 < (x1_2.length : Int)) = false := decide_eq_false c11
          clear c11
          have H' := Aside0.mk H
          clear H
          go_wp2
          (try simp only [← hl1_1, ← hl1_2])
          go_roundg k2
          case measure => have := HK1.out; have := HK2.out; omega
          case rel => exact ⟨(x1_2), (x7_2), (by first | rfl | (simp; done) | (simp [*]; done)), H', ⟨by have := HK1.out; have := HK2.out; omega⟩, ⟨by (try simp only [hl1_1]); (try simp only [hl1_2]); (with_reducible repeat (first | apply Kd.R_alloc | apply Kd.R_drewN | apply Kd.R_drew)); exact HO_1.out⟩, ⟨by (try simp only [hl1_1]); (try simp only [hl1_2]); (with_reducible repeat (first | refine blk_drewN ?_ _ | refine blk_drew ?_ | refine blk_alloc ?_ _)); exact BK108.out⟩, ⟨by repeat (first | (with_reducible first | exact HK.out | apply Kept.alloc | apply Kept.drewN | apply Kept.drew | refine Kept.setCell ?_ (.inr GW108.out) _) | exact HK.out)⟩, ⟨by repeat (first | (with_reducible first | exact HB.out | apply below_alloc | apply pw_below_drewN | apply below_drew1 | refine below_set ?_ GE108.out) | exact HB.out)⟩⟩
      ·replace c10 := Bool.eq_false_iff.mpr c10
       subst c10
       have H1 : (some x1_1) = some r := by rw [if_neg (show ¬ (false = true) by decide)] at H; exact H
       clear H
       have H := H1
       clear H1
       obtain rfl := Option.some.inj H
       go_wp2
       go_ret
       exact ⟨_, by first | rfl | (simp [errW_none, errW_some] <;> rfl) | (simp [*, errW_none, errW_some] <;> rfl), by (with_reducible repeat (first | apply Kd.R_alloc | apply Kd.R_drewN | apply Kd.R_drew)); exact HO_1.out, by repeat (first | (with_reducible first | exact HB.out | apply below_alloc | apply pw_below_drewN | apply below_drew1 | refine below_set ?_ GE108.out) | exact HB.out), by repeat (first | (with_reducible first | exact HK.out | apply Kept.alloc | apply Kept.drewN | apply Kept.drew | refine Kept.setCell ?_ (.inr GW108.out) _) | exact HK.out)⟩
   ·rw [if_neg c5] at H
    exact absurd H (by simp)
  ·rw [if_neg c4] at H
   exact absurd H (by simp)

end Go.Proofs.Ytgmhjinlpikpjaa.QFnExactPartsOf
