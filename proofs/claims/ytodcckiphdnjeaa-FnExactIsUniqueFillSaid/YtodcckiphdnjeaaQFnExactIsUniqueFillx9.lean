-- Written by a changed copy of the kit's printer (wip/mp.py of this repo), for this claim; Lean checks it.
import Derived.Test.YtodcckiphdnjeaaQFnExactIsUniqueFillx0
import Derived.Test.YtodcckiphdnjeaaQFnExactIsUniqueFillx6
import Derived.Test.YtodcckiphdnjeaaQFnExactIsUniqueFillx7
import Derived.Test.YtodcckiphdnjeaaQFnExactIsUniqueFillx8
namespace Go.Proofs.Ytodcckiphdnjeaa.QFnExactIsUniqueFill
open Go.RowKit Go.Proofs.YtodcckiphdnjeaaW.PrintWords Go.Proofs.YtodcckiphdnjeaaW.PrintLast Go.Proofs.YtodcckiphdnjeaaW.PrintMore
attribute [local go_sem] max2_int min2_int max_two min_two max_three min_three max_four min_four   -- for this text's walks alone
set_option linter.unusedVariables false
set_option linter.unusedSimpArgs false

/-! ### spec_l13Search: function 47 -/
mutual
def spec_l13Search.l0 : Nat → List (List Int) → ByteArray → List ByteArray → Int → List ByteArray → List ByteArray → Int → Int → Int → Int → ByteArray → Option (List ByteArray)
  | 0, _, _, _, _, _, _, _, _, _, _, _ => none
  | k + 1, x1, x2, x3, x4, x5, x6, x7, x17, x173000, x173001, x173002 => if x17 < (x3.length : Int) then (spec_l13Search.j1 k x1 x2 x3 x4 x5 x6 x7 x17 (decide ((x6.length : Int) < x7)) x173000 x173001 x173002) else (spec_l13Search.j1 k x1 x2 x3 x4 x5 x6 x7 x17 false x173000 x173001 x173002)
def spec_l13Search.j1 : Nat → List (List Int) → ByteArray → List ByteArray → Int → List ByteArray → List ByteArray → Int → Int → Bool → Int → Int → ByteArray → Option (List ByteArray)
  | 0, _, _, _, _, _, _, _, _, _, _, _, _ => none
  | k + 1, x1, x2, x3, x4, x5, x6, x7, x17, x45, x173000, x173001, x173002 => if x45 = true then (if 0 ≤ x17 then (if x17 < (x3.length : Int) then (if 0 ≤ x4 then (if x4 < (x1.length : Int) then (if ((rdOf ByteArray.empty x3 x17).size : Int) = ((rd_L4 x1 x4).length : Int) then ((spec_IsWord.f k (rdOf ByteArray.empty x3 x17)).bind fun t181 => (if t181 = true then ((spec_HasWord.f k x5 (rdOf ByteArray.empty x3 x17)).bind fun t182 => (if t182 = true then (spec_l13Search.j2 k x1 x2 x3 x4 x5 x6 x7 x17 (rdOf ByteArray.empty x3 x17) true x173000 x173001 x173002) else (if x17 ≤ (x3.length : Int) then ((spec_HasWord.f k (x3.take (x17 : Int).toNat) (rdOf ByteArray.empty x3 x17)).bind fun t187 => (spec_l13Search.j2 k x1 x2 x3 x4 x5 x6 x7 x17 (rdOf ByteArray.empty x3 x17) t187 x173000 x173001 x173002)) else (none)))) else (spec_l13Search.j2 k x1 x2 x3 x4 x5 x6 x7 x17 (rdOf ByteArray.empty x3 x17) true x173000 x173001 x173002))) else (spec_l13Search.j2 k x1 x2 x3 x4 x5 x6 x7 x17 (rdOf ByteArray.empty x3 x17) true x173000 x173001 x173002)) else (none)) else (none)) else (none)) else (none)) else (some x6)
def spec_l13Search.j2 : Nat → List (List Int) → ByteArray → List ByteArray → Int → List ByteArray → List ByteArray → Int → Int → ByteArray → Bool → Int → Int → ByteArray → Option (List ByteArray)
  | 0, _, _, _, _, _, _, _, _, _, _, _, _, _ => none
  | k + 1, x1, x2, x3, x4, x5, x6, x7, x17, x18, x76, x173000, x173001, x173002 => if x76 = true then (spec_l13Search.l0 k x1 x2 x3 x4 x5 x6 x7 (wrap64 (x17 + 1)) x173000 x173001 x173002) else (spec_l13Search.l1 k x1 x2 x3 x4 x5 x6 x7 x17 x18 x2 true 0 x173000 x173001 x173002)
def spec_l13Search.j4 : Nat → List (List Int) → ByteArray → List ByteArray → Int → List ByteArray → List ByteArray → Int → Int → ByteArray → ByteArray → Bool → Int → Int → ByteArray → Option (List ByteArray)
  | 0, _, _, _, _, _, _, _, _, _, _, _, _, _, _ => none
  | k + 1, x1, x2, x3, x4, x5, x6, x7, x17, x18, x19, x20, x173000, x173001, x173002 => if x20 = true then ((spec_l13Open.f k x1 x19 x3 (wrap64 (x4 + 1))).bind fun t190 => (if t190 = true then ((some (([] : List ByteArray) : List ByteArray)).bind fun y191 => (if y191.length + x5.length < 8796093022208 then ((some (y191 ++ x5 : List ByteArray)).bind fun y194 => ((some (([x18] : List ByteArray) : List ByteArray)).bind fun y197 => (if y194.length + y197.length < 8796093022208 then ((spec_l13Search.f k x173000 x173001 x173002 x1 x19 x3 (wrap64 (x4 + 1)) (y194 ++ y197) x6 x7).bind fun t203 => (spec_l13Search.l0 k x1 x2 x3 x4 x5 t203 x7 (wrap64 (x17 + 1)) x173000 x173001 x173002)) else (none)))) else (none))) else (spec_l13Search.l0 k x1 x2 x3 x4 x5 x6 x7 (wrap64 (x17 + 1)) x173000 x173001 x173002))) else (spec_l13Search.l0 k x1 x2 x3 x4 x5 x6 x7 (wrap64 (x17 + 1)) x173000 x173001 x173002)
def spec_l13Search.l1 : Nat → List (List Int) → ByteArray → List ByteArray → Int → List ByteArray → List ByteArray → Int → Int → ByteArray → ByteArray → Bool → Int → Int → Int → ByteArray → Option (List ByteArray)
  | 0, _, _, _, _, _, _, _, _, _, _, _, _, _, _, _ => none
  | k + 1, x1, x2, x3, x4, x5, x6, x7, x17, x18, x19, x20, x21, x173000, x173001, x173002 => if x21 < (x18.size : Int) then (if x20 = true then (if 0 ≤ x4 then (if x4 < (x1.length : Int) then (if 0 ≤ x21 then (if x21 < ((rd_L4 x1 x4).length : Int) then (if 0 ≤ (rd (rd_L4 x1 x4) x21) then (if (rd (rd_L4 x1 x4) x21) < (x19.size : Int) then (if (bt x19 (rd (rd_L4 x1 x4) x21)) = 63 then (if (rd (rd_L4 x1 x4) x21) ≤ (x19.size : Int) then (if x21 ≤ (wrap64 (x21 + 1)) then (if (wrap64 (x21 + 1)) ≤ (x18.size : Int) then (if (x19.extract 0 ((rd (rd_L4 x1 x4) x21) : Int).toNat).size + (x18.extract (x21 : Int).toNat ((wrap64 (x21 + 1)) : Int).toNat).size ≤ 9223372036854775807 then (if 0 ≤ (wrap64 ((rd (rd_L4 x1 x4) x21) + 1)) then (if (wrap64 ((rd (rd_L4 x1 x4) x21) + 1)) ≤ (x19.size : Int) then (if ((x19.extract 0 ((rd (rd_L4 x1 x4) x21) : Int).toNat) ++ (x18.extract (x21 : Int).toNat ((wrap64 (x21 + 1)) : Int).toNat)).size + (x19.extract ((wrap64 ((rd (rd_L4 x1 x4) x21) + 1)) : Int).toNat x19.size).size ≤ 9223372036854775807 then (spec_l13Search.l1 k x1 x2 x3 x4 x5 x6 x7 x17 x18 (((x19.extract 0 ((rd (rd_L4 x1 x4) x21) : Int).toNat) ++ (x18.extract (x21 : Int).toNat ((wrap64 (x21 + 1)) : Int).toNat)) ++ (x19.extract ((wrap64 ((rd (rd_L4 x1 x4) x21) + 1)) : Int).toNat x19.size)) true (wrap64 (x21 + 1)) x173000 x173001 x173002) else (none)) else (none)) else (none)) else (none)) else (none)) else (none)) else (none)) else (if (rd (rd_L4 x1 x4) x21) ≤ (x19.size : Int) then (if x21 ≤ (wrap64 (x21 + 1)) then (if (wrap64 (x21 + 1)) ≤ (x18.size : Int) then (if (x19.extract 0 ((rd (rd_L4 x1 x4) x21) : Int).toNat).size + (x18.extract (x21 : Int).toNat ((wrap64 (x21 + 1)) : Int).toNat).size ≤ 9223372036854775807 then (if 0 ≤ (wrap64 ((rd (rd_L4 x1 x4) x21) + 1)) then (if (wrap64 ((rd (rd_L4 x1 x4) x21) + 1)) ≤ (x19.size : Int) then (if ((x19.extract 0 ((rd (rd_L4 x1 x4) x21) : Int).toNat) ++ (x18.extract (x21 : Int).toNat ((wrap64 (x21 + 1)) : Int).toNat)).size + (x19.extract ((wrap64 ((rd (rd_L4 x1 x4) x21) + 1)) : Int).toNat x19.size).size ≤ 9223372036854775807 then (spec_l13Search.l1 k x1 x2 x3 x4 x5 x6 x7 x17 x18 (((x19.extract 0 ((rd (rd_L4 x1 x4) x21) : Int).toNat) ++ (x18.extract (x21 : Int).toNat ((wrap64 (x21 + 1)) : Int).toNat)) ++ (x19.extract ((wrap64 ((rd (rd_L4 x1 x4) x21) + 1)) : Int).toNat x19.size)) ((bt x19 (rd (rd_L4 x1 x4) x21)) == (bt x18 x21)) (wrap64 (x21 + 1)) x173000 x173001 x173002) else (none)) else (none)) else (none)) else (none)) else (none)) else (none)) else (none))) else (none)) else (none)) else (none)) else (none)) else (none)) else (none)) else (spec_l13Search.j4 k x1 x2 x3 x4 x5 x6 x7 x17 x18 x19 x20 x173000 x173001 x173002)) else (spec_l13Search.j4 k x1 x2 x3 x4 x5 x6 x7 x17 x18 x19 x20 x173000 x173001 x173002)
def spec_l13Search.f : Nat → Int → Int → ByteArray → List (List Int) → ByteArray → List ByteArray → Int → List ByteArray → List ByteArray → Int → Option (List ByteArray)
  | 0, _, _, _, _, _, _, _, _, _, _ => none
  | k + 1, a0_0, a0_1, a0_2, l1, a2, l3, a4, l5, l6, a7 => if (l6.length : Int) ≥ a7 then (some l6) else (if a4 = (l1.length : Int) then ((some (([a2] : List ByteArray) : List ByteArray)).bind fun y173 => (if l6.length + y173.length < 8796093022208 then (some (l6 ++ y173)) else (none))) else (spec_l13Search.l0 k l1 a2 l3 a4 l5 l6 a7 0 a0_0 a0_1 a0_2))
end
theorem spec_l13Search.mono_l : ∀ k, (∀ y0 y1 y2 y3 y4 y5 y6 y7 y8 y9, LeO (spec_l13Search.f k y0 y1 y2 y3 y4 y5 y6 y7 y8 y9) (spec_l13Search.f (k + 1) y0 y1 y2 y3 y4 y5 y6 y7 y8 y9)) ∧ (∀ y0 y1 y2 y3 y4 y5 y6 y7 y8 y9 y10, LeO (spec_l13Search.l0 k y0 y1 y2 y3 y4 y5 y6 y7 y8 y9 y10) (spec_l13Search.l0 (k + 1) y0 y1 y2 y3 y4 y5 y6 y7 y8 y9 y10)) ∧ (∀ y0 y1 y2 y3 y4 y5 y6 y7 y8 y9 y10 y11, LeO (spec_l13Search.j1 k y0 y1 y2 y3 y4 y5 y6 y7 y8 y9 y10 y11) (spec_l13Search.j1 (k + 1) y0 y1 y2 y3 y4 y5 y6 y7 y8 y9 y10 y11)) ∧ (∀ y0 y1 y2 y3 y4 y5 y6 y7 y8 y9 y10 y11 y12, LeO (spec_l13Search.j2 k y0 y1 y2 y3 y4 y5 y6 y7 y8 y9 y10 y11 y12) (spec_l13Search.j2 (k + 1) y0 y1 y2 y3 y4 y5 y6 y7 y8 y9 y10 y11 y12)) ∧ (∀ y0 y1 y2 y3 y4 y5 y6 y7 y8 y9 y10 y11 y12 y13, LeO (spec_l13Search.j4 k y0 y1 y2 y3 y4 y5 y6 y7 y8 y9 y10 y11 y12 y13) (spec_l13Search.j4 (k + 1) y0 y1 y2 y3 y4 y5 y6 y7 y8 y9 y10 y11 y12 y13)) ∧ (∀ y0 y1 y2 y3 y4 y5 y6 y7 y8 y9 y10 y11 y12 y13 y14, LeO (spec_l13Search.l1 k y0 y1 y2 y3 y4 y5 y6 y7 y8 y9 y10 y11 y12 y13 y14) (spec_l13Search.l1 (k + 1) y0 y1 y2 y3 y4 y5 y6 y7 y8 y9 y10 y11 y12 y13 y14))
  | 0 => ⟨fun _ _ _ _ _ _ _ _ _ _ r h => by simp [spec_l13Search.f] at h, fun _ _ _ _ _ _ _ _ _ _ _ r h => by simp [spec_l13Search.l0] at h, fun _ _ _ _ _ _ _ _ _ _ _ _ r h => by simp [spec_l13Search.j1] at h, fun _ _ _ _ _ _ _ _ _ _ _ _ _ r h => by simp [spec_l13Search.j2] at h, fun _ _ _ _ _ _ _ _ _ _ _ _ _ _ r h => by simp [spec_l13Search.j4] at h, fun _ _ _ _ _ _ _ _ _ _ _ _ _ _ _ r h => by simp [spec_l13Search.l1] at h⟩
  | k + 1 => by
   obtain ⟨ih0, ih1, ih2, ih3, ih4, ih5⟩ := spec_l13Search.mono_l k
   refine ⟨?_, ?_, ?_, ?_, ?_, ?_⟩
   ·intro y0 y1 y2 y3 y4 y5 y6 y7 y8 y9
    unfold spec_l13Search.f
    repeat' first
    | (with_reducible exact ih0 _ _ _ _ _ _ _ _ _ _)
    | (with_reducible exact ih1 _ _ _ _ _ _ _ _ _ _ _)
    | (with_reducible exact ih2 _ _ _ _ _ _ _ _ _ _ _ _)
    | (with_reducible exact ih3 _ _ _ _ _ _ _ _ _ _ _ _ _)
    | (with_reducible exact ih4 _ _ _ _ _ _ _ _ _ _ _ _ _ _)
    | (with_reducible exact ih5 _ _ _ _ _ _ _ _ _ _ _ _ _ _ _)
    | (with_reducible exact spec_HasWord.mono _ _ _)
    | (with_reducible exact spec_IsWord.mono _ _)
    | (with_reducible exact spec_l13Open.mono _ _ _ _ _)
    | (with_reducible exact LeO.refl _)
    | (with_reducible exact LeO.none _)
    | (with_reducible refine LeO.ite ?_ ?_)
    | (with_reducible refine LeO.bind ?_ (fun _ => ?_))
    | exact ih0 _ _ _ _ _ _ _ _ _ _
    | exact ih1 _ _ _ _ _ _ _ _ _ _ _
    | exact ih2 _ _ _ _ _ _ _ _ _ _ _ _
    | exact ih3 _ _ _ _ _ _ _ _ _ _ _ _ _
    | exact ih4 _ _ _ _ _ _ _ _ _ _ _ _ _ _
    | exact ih5 _ _ _ _ _ _ _ _ _ _ _ _ _ _ _
    | exact spec_HasWord.mono _ _ _
    | exact spec_IsWord.mono _ _
    | exact spec_l13Open.mono _ _ _ _ _
    | exact LeO.none _
    | refine LeO.ite ?_ ?_
    | refine LeO.bind ?_ (fun _ => ?_)
   ·intro y0 y1 y2 y3 y4 y5 y6 y7 y8 y9 y10
    unfold spec_l13Search.l0
    repeat' first
    | (with_reducible exact ih0 _ _ _ _ _ _ _ _ _ _)
    | (with_reducible exact ih1 _ _ _ _ _ _ _ _ _ _ _)
    | (with_reducible exact ih2 _ _ _ _ _ _ _ _ _ _ _ _)
    | (with_reducible exact ih3 _ _ _ _ _ _ _ _ _ _ _ _ _)
    | (with_reducible exact ih4 _ _ _ _ _ _ _ _ _ _ _ _ _ _)
    | (with_reducible exact ih5 _ _ _ _ _ _ _ _ _ _ _ _ _ _ _)
    | (with_reducible exact spec_HasWord.mono _ _ _)
    | (with_reducible exact spec_IsWord.mono _ _)
    | (with_reducible exact spec_l13Open.mono _ _ _ _ _)
    | (with_reducible exact LeO.refl _)
    | (with_reducible exact LeO.none _)
    | (with_reducible refine LeO.ite ?_ ?_)
    | (with_reducible refine LeO.bind ?_ (fun _ => ?_))
    | exact ih0 _ _ _ _ _ _ _ _ _ _
    | exact ih1 _ _ _ _ _ _ _ _ _ _ _
    | exact ih2 _ _ _ _ _ _ _ _ _ _ _ _
    | exact ih3 _ _ _ _ _ _ _ _ _ _ _ _ _
    | exact ih4 _ _ _ _ _ _ _ _ _ _ _ _ _ _
    | exact ih5 _ _ _ _ _ _ _ _ _ _ _ _ _ _ _
    | exact spec_HasWord.mono _ _ _
    | exact spec_IsWord.mono _ _
    | exact spec_l13Open.mono _ _ _ _ _
    | exact LeO.none _
    | refine LeO.ite ?_ ?_
    | refine LeO.bind ?_ (fun _ => ?_)
   ·intro y0 y1 y2 y3 y4 y5 y6 y7 y8 y9 y10 y11
    unfold spec_l13Search.j1
    repeat' first
    | (with_reducible exact ih0 _ _ _ _ _ _ _ _ _ _)
    | (with_reducible exact ih1 _ _ _ _ _ _ _ _ _ _ _)
    | (with_reducible exact ih2 _ _ _ _ _ _ _ _ _ _ _ _)
    | (with_reducible exact ih3 _ _ _ _ _ _ _ _ _ _ _ _ _)
    | (with_reducible exact ih4 _ _ _ _ _ _ _ _ _ _ _ _ _ _)
    | (with_reducible exact ih5 _ _ _ _ _ _ _ _ _ _ _ _ _ _ _)
    | (with_reducible exact spec_HasWord.mono _ _ _)
    | (with_reducible exact spec_IsWord.mono _ _)
    | (with_reducible exact spec_l13Open.mono _ _ _ _ _)
    | (with_reducible exact LeO.refl _)
    | (with_reducible exact LeO.none _)
    | (with_reducible refine LeO.ite ?_ ?_)
    | (with_reducible refine LeO.bind ?_ (fun _ => ?_))
    | exact ih0 _ _ _ _ _ _ _ _ _ _
    | exact ih1 _ _ _ _ _ _ _ _ _ _ _
    | exact ih2 _ _ _ _ _ _ _ _ _ _ _ _
    | exact ih3 _ _ _ _ _ _ _ _ _ _ _ _ _
    | exact ih4 _ _ _ _ _ _ _ _ _ _ _ _ _ _
    | exact ih5 _ _ _ _ _ _ _ _ _ _ _ _ _ _ _
    | exact spec_HasWord.mono _ _ _
    | exact spec_IsWord.mono _ _
    | exact spec_l13Open.mono _ _ _ _ _
    | exact LeO.none _
    | refine LeO.ite ?_ ?_
    | refine LeO.bind ?_ (fun _ => ?_)
   ·intro y0 y1 y2 y3 y4 y5 y6 y7 y8 y9 y10 y11 y12
    unfold spec_l13Search.j2
    repeat' first
    | (with_reducible exact ih0 _ _ _ _ _ _ _ _ _ _)
    | (with_reducible exact ih1 _ _ _ _ _ _ _ _ _ _ _)
    | (with_reducible exact ih2 _ _ _ _ _ _ _ _ _ _ _ _)
    | (with_reducible exact ih3 _ _ _ _ _ _ _ _ _ _ _ _ _)
    | (with_reducible exact ih4 _ _ _ _ _ _ _ _ _ _ _ _ _ _)
    | (with_reducible exact ih5 _ _ _ _ _ _ _ _ _ _ _ _ _ _ _)
    | (with_reducible exact spec_HasWord.mono _ _ _)
    | (with_reducible exact spec_IsWord.mono _ _)
    | (with_reducible exact spec_l13Open.mono _ _ _ _ _)
    | (with_reducible exact LeO.refl _)
    | (with_reducible exact LeO.none _)
    | (with_reducible refine LeO.ite ?_ ?_)
    | (with_reducible refine LeO.bind ?_ (fun _ => ?_))
    | exact ih0 _ _ _ _ _ _ _ _ _ _
    | exact ih1 _ _ _ _ _ _ _ _ _ _ _
    | exact ih2 _ _ _ _ _ _ _ _ _ _ _ _
    | exact ih3 _ _ _ _ _ _ _ _ _ _ _ _ _
    | exact ih4 _ _ _ _ _ _ _ _ _ _ _ _ _ _
    | exact ih5 _ _ _ _ _ _ _ _ _ _ _ _ _ _ _
    | exact spec_HasWord.mono _ _ _
    | exact spec_IsWord.mono _ _
    | exact spec_l13Open.mono _ _ _ _ _
    | exact LeO.none _
    | refine LeO.ite ?_ ?_
    | refine LeO.bind ?_ (fun _ => ?_)
   ·intro y0 y1 y2 y3 y4 y5 y6 y7 y8 y9 y10 y11 y12 y13
    unfold spec_l13Search.j4
    repeat' first
    | (with_reducible exact ih0 _ _ _ _ _ _ _ _ _ _)
    | (with_reducible exact ih1 _ _ _ _ _ _ _ _ _ _ _)
    | (with_reducible exact ih2 _ _ _ _ _ _ _ _ _ _ _ _)
    | (with_reducible exact ih3 _ _ _ _ _ _ _ _ _ _ _ _ _)
    | (with_reducible exact ih4 _ _ _ _ _ _ _ _ _ _ _ _ _ _)
    | (with_reducible exact ih5 _ _ _ _ _ _ _ _ _ _ _ _ _ _ _)
    | (with_reducible exact spec_HasWord.mono _ _ _)
    | (with_reducible exact spec_IsWord.mono _ _)
    | (with_reducible exact spec_l13Open.mono _ _ _ _ _)
    | (with_reducible exact LeO.refl _)
    | (with_reducible exact LeO.none _)
    | (with_reducible refine LeO.ite ?_ ?_)
    | (with_reducible refine LeO.bind ?_ (fun _ => ?_))
    | exact ih0 _ _ _ _ _ _ _ _ _ _
    | exact ih1 _ _ _ _ _ _ _ _ _ _ _
    | exact ih2 _ _ _ _ _ _ _ _ _ _ _ _
    | exact ih3 _ _ _ _ _ _ _ _ _ _ _ _ _
    | exact ih4 _ _ _ _ _ _ _ _ _ _ _ _ _ _
    | exact ih5 _ _ _ _ _ _ _ _ _ _ _ _ _ _ _
    | exact spec_HasWord.mono _ _ _
    | exact spec_IsWord.mono _ _
    | exact spec_l13Open.mono _ _ _ _ _
    | exact LeO.none _
    | refine LeO.ite ?_ ?_
    | refine LeO.bind ?_ (fun _ => ?_)
   ·intro y0 y1 y2 y3 y4 y5 y6 y7 y8 y9 y10 y11 y12 y13 y14
    unfold spec_l13Search.l1
    repeat' first
    | (with_reducible exact ih0 _ _ _ _ _ _ _ _ _ _)
    | (with_reducible exact ih1 _ _ _ _ _ _ _ _ _ _ _)
    | (with_reducible exact ih2 _ _ _ _ _ _ _ _ _ _ _ _)
    | (with_reducible exact ih3 _ _ _ _ _ _ _ _ _ _ _ _ _)
    | (with_reducible exact ih4 _ _ _ _ _ _ _ _ _ _ _ _ _ _)
    | (with_reducible exact ih5 _ _ _ _ _ _ _ _ _ _ _ _ _ _ _)
    | (with_reducible exact spec_HasWord.mono _ _ _)
    | (with_reducible exact spec_IsWord.mono _ _)
    | (with_reducible exact spec_l13Open.mono _ _ _ _ _)
    | (with_reducible exact LeO.refl _)
    | (with_reducible exact LeO.none _)
    | (with_reducible refine LeO.ite ?_ ?_)
    | (with_reducible refine LeO.bind ?_ (fun _ => ?_))
    | exact ih0 _ _ _ _ _ _ _ _ _ _
    | exact ih1 _ _ _ _ _ _ _ _ _ _ _
    | exact ih2 _ _ _ _ _ _ _ _ _ _ _ _
    | exact ih3 _ _ _ _ _ _ _ _ _ _ _ _ _
    | exact ih4 _ _ _ _ _ _ _ _ _ _ _ _ _ _
    | exact ih5 _ _ _ _ _ _ _ _ _ _ _ _ _ _ _
    | exact spec_HasWord.mono _ _ _
    | exact spec_IsWord.mono _ _
    | exact spec_l13Open.mono _ _ _ _ _
    | exact LeO.none _
    | refine LeO.ite ?_ ?_
    | refine LeO.bind ?_ (fun _ => ?_)
theorem spec_l13Search.mono : ∀ a0 a1 a2 a3 a4 a5 a6 a7 a8 a9 k, LeO (spec_l13Search.f k a0 a1 a2 a3 a4 a5 a6 a7 a8 a9) (spec_l13Search.f (k + 1) a0 a1 a2 a3 a4 a5 a6 a7 a8 a9) := by
  intro a0 a1 a2 a3 a4 a5 a6 a7 a8 a9 k
  obtain ⟨ih0, ih1, ih2, ih3, ih4, ih5⟩ := spec_l13Search.mono_l k
  exact ih0 a0 a1 a2 a3 a4 a5 a6 a7 a8 a9
def spec_l13Search.T16 : Bool × List (List Nat × List Nat) := (true, [([], []), ([], []), ([0, 1], [0, 1]), ([2], [2]), ([3], [3]), ([4], [4]), ([4], [4]), ([5, 6, 4], [4, 5, 6]), ([4], [4]), ([4], [4]), ([8, 9, 4], [4, 8, 9]), ([7, 10, 4], [4, 7, 10]), ([4, 11], [4, 11]), ([12, 4, 0, 1, 2, 3, 4, 5, 6, 7, 8, 9, 10, 11, 12], [12])])
def spec_l13Search.B16 : List Nat := [0, 0, 3, 7, 15, 31, 31, 127, 31, 31, 799, 2047, 4095, 8191]
theorem spec_l13Search.tab16 : rtab .any (opsOf Try.f47 16) = spec_l13Search.T16 := by kernel_rfl
theorem spec_l13Search.bits16 : waitsOk spec_l13Search.T16.2 spec_l13Search.B16 = true := by kernel_rfl
def spec_l13Search.T17 : Bool × List (List Nat × List Nat) := (true, [([], []), ([], []), ([0, 1], [0, 1]), ([], []), ([], []), ([], []), ([5], [5]), ([3, 4, 6], [3, 4, 6]), ([2, 7], [2, 7]), ([], []), ([], []), ([10], [10]), ([9, 11], [9, 11]), ([8, 12], [8, 12]), ([13, 0, 1, 2, 3, 4, 5, 6, 7, 8, 9, 10, 11, 12, 13], [0, 9, 13])])
def spec_l13Search.B17 : List Nat := [0, 0, 3, 0, 0, 0, 32, 120, 255, 0, 0, 1024, 3584, 8191, 16383]
theorem spec_l13Search.tab17 : rtab .any (opsOf Try.f47 17) = spec_l13Search.T17 := by kernel_rfl
theorem spec_l13Search.bits17 : waitsOk spec_l13Search.T17.2 spec_l13Search.B17 = true := by kernel_rfl
def spec_l13Search.T19 : Bool × List (List Nat × List Nat) := (true, [([], []), ([], []), ([], []), ([], []), ([], []), ([4], [4]), ([], []), ([], []), ([6, 7], [6, 7]), ([], []), ([9], [9]), ([8, 10, 8], [8, 10]), ([], []), ([], []), ([0, 1, 2, 3, 5, 11, 12, 13, 11], [0, 1, 2, 3, 5, 11, 12, 13]), ([14, 14, 0, 1, 2, 3, 4, 5, 6, 7, 8, 9, 10, 11, 12, 13, 14], [12, 14])])
def spec_l13Search.B19 : List Nat := [0, 0, 0, 0, 0, 16, 0, 0, 192, 0, 512, 1984, 0, 0, 16383, 32767]
theorem spec_l13Search.tab19 : rtab .any (opsOf Try.f47 19) = spec_l13Search.T19 := by kernel_rfl
theorem spec_l13Search.bits19 : waitsOk spec_l13Search.T19.2 spec_l13Search.B19 = true := by kernel_rfl
set_option maxHeartbeats 8000000 in
set_option maxRecDepth 100000 in
theorem spec_l13Search.calls (k : Nat) : ∀ (a0_0 : Int) (a0_1 : Int) (a0_2 : ByteArray) (A1 : Option Addr) (c1 : Nat) (l1 : List (List Int)) (a2 : ByteArray) (A3 : Option Addr) (c3 : Nat) (l3 : List ByteArray) (a4 : Int) (A5 : Option Addr) (c5 : Nat) (l5 : List ByteArray) (P6_ : Nat → Prop) (u9000_ : Value) (l6 : List ByteArray) (a7 : Int) (r : List ByteArray) (w0 w : World) (hB : Below w0.heap.size w0 w) (hr1 : ∀ W_, Kept w W_ (fun k_ => P6_ k_) → Kd.C (Kd.slice 3 (Kd.int .i64)) W_ A1 l1.length l1) (hc1 : l1.length ≤ c1) (hr3 : ∀ W_, Kept w W_ (fun k_ => P6_ k_) → Kd.C Kd.string W_ A3 l3.length l3) (hc3 : l3.length ≤ c3) (hr5 : ∀ W_, Kept w W_ (fun k_ => P6_ k_) → Kd.C Kd.string W_ A5 l5.length l5) (hc5 : l5.length ≤ c5) (ho6 : Kd.R Kd.string 9 w w0.heap.size P6_ u9000_ l6) (h : spec_l13Search.f k a0_0 a0_1 a0_2 l1 a2 l3 a4 l5 l6 a7 = some r),
   Calls Try.prog 47 #[.agg #[.int .i64 a0_0, .int .i64 a0_1, .string a0_2], .slice A1 l1.length c1, .string a2, .slice A3 l3.length c3, .int .i64 a4, .slice A5 l5.length c5, u9000_, .int .i64 a7] w fun e w' => ∃ v0_ : Value, e = .returned (v0_) ∧ Kd.R Kd.string 9 w' w0.heap.size (fun k_ => (P6_ k_ ∨ w.heap.size ≤ k_)) v0_ r ∧ Below w0.heap.size w0 w' ∧ Kept w w' (fun k_ => P6_ k_) := by
  induction k using Nat.strongRecOn with
  | _ k ih =>
  intro a0_0 a0_1 a0_2 A1 c1 l1 a2 A3 c3 l3 a4 A5 c5 l5 P6_ u9000_ l6 a7 r w0 w hB hr1 hc1 hr3 hc3 hr5 hc5 ho6 h
  cases k with
  | zero => exact absurd h (by simp [spec_l13Search.f])
  | succ k =>
  simp only [spec_l13Search.f] at h
  have hu28 := Try.underlying28
  have HR1 := Aside0.mk hr1
  have HC1 := Aside0.mk hc1
  clear hr1 hc1
  have HR3 := Aside0.mk hr3
  have HC3 := Aside0.mk hc3
  clear hr3 hc3
  have HR5 := Aside0.mk hr5
  have HC5 := Aside0.mk hc5
  clear hr5 hc5
  have HO6 := Aside0.mk (show Kd.R Kd.string 9 w w0.heap.size (fun k_ => (P6_ k_ ∨ w.heap.size ≤ k_)) u9000_ l6 from Kd.R_mono ho6 (fun k_ hk => (.inl hk)))
  have HK := Aside0.mk (Kept.refl w (fun k_ => P6_ k_))
  have HW0 := Aside0.mk hB.size
  have HB := Aside0.mk hB
  clear hB
  have H : (if (l6.length : Int) ≥ a7 then (some l6) else (if a4 = (l1.length : Int) then ((some (([a2] : List ByteArray) : List ByteArray)).bind fun y173 => (if l6.length + y173.length < 8796093022208 then (some (l6 ++ y173)) else (none))) else (spec_l13Search.l0 k l1 a2 l3 a4 l5 l6 a7 0 a0_0 a0_1 a0_2))) = some r := h
  clear h
  by_cases c9 : (l6.length : Int) ≥ a7
  ·rw [if_pos c9] at H
   have c9b0 : decide (a7 ≤ (l6.length : Int)) = true := decide_eq_true c9
   clear c9
   obtain rfl := Option.some.inj H
   go_enter Try.func47, Try.ntmps47
   go_wp2_with (first | ((with_reducible refine gate_dst (N := 8) rfl ?_); (try (refine gate_guard (by rfl) ?_; dsimp only)); refine box_event ?hg (N := 8) ?hd (cs := #[.int .i64 a0_0, .int .i64 a0_1, .string a0_2]) (t := 28) ?hr ?_; (case hd => rfl); (case hg => rfl); (case hr => first | (go_simp; done) | (go_simp; rfl)); intro gb172 hg w10 hbox hb; have n0_ := Aside0.mk (Kd.R_below (by (with_reducible repeat (first | apply Kd.R_alloc | apply Kd.R_drewN | apply Kd.R_drew)); exact HO6.out) hb); have n1_ := Aside0.mk (Kept.below (S := (fun k_ => P6_ k_)) (by repeat (first | (with_reducible first | exact HK.out | apply Kept.alloc | apply Kept.drewN | apply Kept.drew) | exact HK.out)) hb); have n2_ := Aside0.mk (below_step (by repeat (first | (with_reducible first | exact HB.out | apply below_alloc | apply pw_below_drewN | apply below_drew1) | exact HB.out)) hb); have n3_ := Aside0.mk (hbox); have n4_ := Aside0.mk ((by rw [hg]; exact (by first | exact HK.out.1 | exact (show Kept w _ (fun k_ => P6_ k_) from by repeat (first | (with_reducible first | exact HK.out | apply Kept.alloc | apply Kept.drewN | apply Kept.drew) | exact HK.out)).1) : w.heap.size ≤ gb172)); have n5_ := Aside0.mk ((by rw [hg]; exact (below_size (by repeat (first | (with_reducible first | exact HB.out | apply below_alloc | apply pw_below_drewN | apply below_drew1) | exact HB.out))) : w0.heap.size ≤ gb172)); clear HO6; clear HK; clear HB; have HO6 := n0_; have HK := n1_; have HB := n2_; have BK172 := n3_; have GW172 := n4_; have GE172 := n5_; clear n0_ n1_ n2_ n3_ n4_ n5_; clear hb hbox hg; obtain ⟨Ao11, co11, eo11⟩ := Kd.R_slice HO6.out; subst eo11))
   go_ret
   exact ⟨_, by first | rfl | (simp [errW_none, errW_some] <;> rfl) | (simp [*, errW_none, errW_some] <;> rfl), by (with_reducible repeat (first | apply Kd.R_alloc | apply Kd.R_drewN | apply Kd.R_drew)); exact HO6.out, by repeat (first | (with_reducible first | exact HB.out | apply below_alloc | apply pw_below_drewN | apply below_drew1 | refine below_set ?_ GE172.out) | exact HB.out), by repeat (first | (with_reducible first | exact HK.out | apply Kept.alloc | apply Kept.drewN | apply Kept.drew | refine Kept.setCell ?_ (.inr GW172.out) _) | exact HK.out)⟩
  ·rw [if_neg c9] at H
   have c9b0 : decide (a7 ≤ (l6.length : Int)) = false := decide_eq_false c9
   clear c9
   by_cases c12 : a4 = (l1.length : Int)
   ·rw [if_pos c12] at H
    have c12b0 : (a4 == (l1.length : Int)) = true := beq_iff_eq.mpr c12
    have c12b1 : (a4 != (l1.length : Int)) = false := bne_eq_false_iff_eq.mpr c12
    clear c12
    obtain ⟨y173, hy173⟩ : ∃ y_ : List ByteArray, y_ = (([a2] : List ByteArray)) := ⟨_, rfl⟩
    replace H : (if l6.length + y173.length < 8796093022208 then (some (l6 ++ y173)) else (none)) = some r := by first | (rw [hy173]; with_reducible exact H) | (have H2_ := (Option.bind_some _ _).symm.trans H; rw [hy173]; with_reducible exact H2_) | (have H2_ := (Option.bind_some _ _).symm.trans H; with_reducible exact H2_) | with_reducible exact H | (rw [hy173]; exact H) | exact H
    have Ny173 := Aside0.mk hy173
    clear hy173
    by_cases c13 : l6.length + y173.length < 8796093022208
    ·rw [if_pos c13] at H
     have LMc13 := Aside0.mk c13
     clear c13
     obtain ⟨y176, hy176⟩ : ∃ y_ : List ByteArray, y_ = (l6 ++ y173) := ⟨_, rfl⟩
     replace H : (some y176) = some r := by first | (rw [hy176]; with_reducible exact H) | (have H2_ := (Option.bind_some _ _).symm.trans H; rw [hy176]; with_reducible exact H2_) | (have H2_ := (Option.bind_some _ _).symm.trans H; with_reducible exact H2_) | with_reducible exact H | (rw [hy176]; exact H) | exact H
     have Ny176 := Aside0.mk hy176
     clear hy176
     obtain rfl := Option.some.inj H
     go_enter Try.func47, Try.ntmps47
     go_wp2_with (first | ((with_reducible refine gate_dst (N := 8) rfl ?_); (try (refine gate_guard (by rfl) ?_; dsimp only)); refine box_event ?hg (N := 8) ?hd (cs := #[.int .i64 a0_0, .int .i64 a0_1, .string a0_2]) (t := 28) ?hr ?_; (case hd => rfl); (case hg => rfl); (case hr => first | (go_simp; done) | (go_simp; rfl)); intro gb172 hg w14 hbox hb; have n0_ := Aside0.mk (Kd.R_below (by (with_reducible repeat (first | apply Kd.R_alloc | apply Kd.R_drewN | apply Kd.R_drew)); exact HO6.out) hb); have n1_ := Aside0.mk (Kept.below (S := (fun k_ => P6_ k_)) (by repeat (first | (with_reducible first | exact HK.out | apply Kept.alloc | apply Kept.drewN | apply Kept.drew) | exact HK.out)) hb); have n2_ := Aside0.mk (below_step (by repeat (first | (with_reducible first | exact HB.out | apply below_alloc | apply pw_below_drewN | apply below_drew1) | exact HB.out)) hb); have n3_ := Aside0.mk (hbox); have n4_ := Aside0.mk ((by rw [hg]; exact (by first | exact HK.out.1 | exact (show Kept w _ (fun k_ => P6_ k_) from by repeat (first | (with_reducible first | exact HK.out | apply Kept.alloc | apply Kept.drewN | apply Kept.drew) | exact HK.out)).1) : w.heap.size ≤ gb172)); have n5_ := Aside0.mk ((by rw [hg]; exact (below_size (by repeat (first | (with_reducible first | exact HB.out | apply below_alloc | apply pw_below_drewN | apply below_drew1) | exact HB.out))) : w0.heap.size ≤ gb172)); clear HO6; clear HK; clear HB; have HO6 := n0_; have HK := n1_; have HB := n2_; have BK172 := n3_; have GW172 := n4_; have GE172 := n5_; clear n0_ n1_ n2_ n3_ n4_ n5_; clear hb hbox hg; obtain ⟨Ao15, co15, eo15⟩ := Kd.R_slice HO6.out; subst eo15) | ((with_reducible refine gate_dst (N := 34) rfl ?_); (try (refine gate_guard (by rfl) ?_; dsimp only)); refine Kd.R_lit Kd.string _ 9 ?hg (N := 34) ?hd (xs := ([a2] : List ByteArray)) (inner := [.string a2]) (ok := fun _ => True) (okp := fun _ => True) ?hr ?hp (fun _ hk => hk) trivial (Below.refl _ _) (Nat.le_refl _) (by simp) ?_; (case hd => rfl); (case hg => rfl); (case hr => first | (go_simp; done) | (go_simp; rfl)); (case hp => exact (Reps.one (show Kd.M Kd.string _ _ _ a2 [.string a2] from rfl) (Reps.none _ _))); intro v174 w16 ho17 hb hg_ hnew_; clear hg_ hnew_; (first | rw [← Ny173.out] at ho17 | (simp only [Int.reduceToNat] at ho17; rw [← Ny173.out] at ho17)); have n0_ := Aside0.mk (Kd.R_elder' (by (with_reducible repeat (first | apply Kd.R_alloc | apply Kd.R_drewN | apply Kd.R_drew)); exact HO6.out) (Kd.R_base ho17) hb); have n1_ := Aside0.mk (Kd.R_lower (Kd.R_new' (Kd.R_newM (M := fun k_ => (P6_ k_ ∨ w.heap.size ≤ k_)) ho17 (by first | exact HK.out.1 | exact (show Kept w _ (fun k_ => P6_ k_) from by repeat (first | (with_reducible first | exact HK.out | apply Kept.alloc | apply Kept.drewN | apply Kept.drew | refine Kept.setCell ?_ (.inr GW172.out) _) | exact HK.out)).1) (fun k_ h_ => .inr h_)) (Kd.R_lt (by (with_reducible repeat (first | apply Kd.R_alloc | apply Kd.R_drewN | apply Kd.R_drew)); exact HO6.out))) (below_size (by repeat (first | (with_reducible first | exact HB.out | apply below_alloc | apply pw_below_drewN | apply below_drew1 | refine below_set ?_ GE172.out) | exact HB.out)))); have n2_ := Aside0.mk (blk_below (g := gb172) (o := .cells #[.int .i64 a0_0, .int .i64 a0_1, .string a0_2] 28 (0, 0)) (by (with_reducible repeat (first | refine blk_drewN ?_ _ | refine blk_drew ?_ | refine blk_alloc ?_ _)); exact BK172.out) hb); have n3_ := Aside0.mk (Kept.below (S := (fun k_ => P6_ k_)) (by repeat (first | (with_reducible first | exact HK.out | apply Kept.alloc | apply Kept.drewN | apply Kept.drew | refine Kept.setCell ?_ (.inr GW172.out) _) | exact HK.out)) hb); have n4_ := Aside0.mk (below_step (by repeat (first | (with_reducible first | exact HB.out | apply below_alloc | apply pw_below_drewN | apply below_drew1 | refine below_set ?_ GE172.out) | exact HB.out)) hb); clear HO6; clear BK172; clear HK; clear HB; have HO6 := n0_; have HO175 := n1_; have BK172 := n2_; have HK := n3_; have HB := n4_; clear n0_ n1_ n2_ n3_ n4_; clear hb ho17; obtain ⟨Ao19, co19, eo19⟩ := Kd.R_slice HO175.out; subst eo19) | ((with_reducible refine gate_builtin (b := .append) (xs := #[.tmp 32, .tmp 34]) rfl ?_); (try (refine gate_guard (by rfl) ?_; dsimp only)); at_builtin; refine Kd.R_append_rows Kd.string (w0 := w0) w0.heap.size rfl (.tmp 32) (.tmp 34) 24 9 (.string ⟨#[]⟩) 16 rfl Try.underlying24 info9 rfl (by decide) (by omega) (.slice Ao15 l6.length co15) l6 y173 _ _ _ (fun k_ => (P6_ k_ ∨ w.heap.size ≤ k_) ∧ some k_ ≠ (.slice Ao19 y173.length co19 : Value).ownBlock) (fun _ => False) rfl rfl ?aO ?aR (fun _ _ h => h) (fun _ h => h.elim) ?aF ?aB ?aS ?aL ?_; (case aR => repeat (first | exact (Kd.R_reads' HO175.out).2.2 | (with_reducible refine Kd.C_alloc ?_ _) | (with_reducible refine Kd.C_drewN ?_ _) | (with_reducible refine Kd.C_drew ?_))); (case aB => exact (by repeat (first | (with_reducible first | exact HB.out | apply below_alloc | apply pw_below_drewN | apply below_drew1 | refine below_set ?_ GE172.out) | exact HB.out))); (case aF => exact (fun k_ hk => ⟨(.inr (Nat.le_trans (by first | exact HK.out.1 | exact (show Kept w _ (fun k_ => P6_ k_) from by repeat (first | (with_reducible first | exact HK.out | apply Kept.alloc | apply Kept.drewN | apply Kept.drew | refine Kept.setCell ?_ (.inr GW172.out) _) | exact HK.out)).1) hk)), Kd.fresh' (Kd.R_lt (by (with_reducible repeat (first | apply Kd.R_alloc | apply Kd.R_drewN | apply Kd.R_drew)); exact HO175.out)) k_ hk⟩)); (case aO => exact (by (with_reducible repeat (first | apply Kd.R_alloc | apply Kd.R_drewN | apply Kd.R_drew)); exact HO6.out)); (case aS => exact (below_size (by repeat (first | (with_reducible first | exact HB.out | apply below_alloc | apply pw_below_drewN | apply below_drew1 | refine below_set ?_ GE172.out) | exact HB.out)))); (case aL => have := LMc13.out; omega); intro v177 w18 ho hb hg hat; rw [← Ny176.out] at ho; have n0_ := Aside0.mk (blk_grown (g := gb172) (o := .cells #[.int .i64 a0_0, .int .i64 a0_1, .string a0_2] 28 (0, 0)) (by (with_reducible repeat (first | refine blk_drewN ?_ _ | refine blk_drew ?_ | refine blk_alloc ?_ _)); exact BK172.out) hg (Kd.R_ne HO6.out BK172.out (by decide))); have n1_ := Aside0.mk (Kd.R_after (ok := (fun k_ => (P6_ k_ ∨ w.heap.size ≤ k_))) (by (with_reducible repeat (first | apply Kd.R_alloc | apply Kd.R_drewN | apply Kd.R_drew)); exact Kd.R_mono HO175.out (fun _ hk => ⟨hk.1.1, hk.2⟩)) hg hat); have n2_ := Aside0.mk (hb); have n3_ := Aside0.mk (Kept.of_grown (S := (fun k_ => P6_ k_)) hg (by repeat (first | (with_reducible first | exact HK.out | apply Kept.alloc | apply Kept.drewN | apply Kept.drew | refine Kept.setCell ?_ (.inr GW172.out) _) | exact HK.out)) (fun k_ e_ => (HO6.out.1 k_ e_).1)); have n4_ := Aside0.mk (ho); clear BK172; clear HO175; clear HB; clear HK; clear HO6; have BK172 := n0_; have HO175 := n1_; have HB := n2_; have HK := n3_; have HO178 := n4_; clear n0_ n1_ n2_ n3_ n4_; clear ho hb hg hat))
     go_ret
     exact ⟨_, by first | rfl | (simp [errW_none, errW_some] <;> rfl) | (simp [*, errW_none, errW_some] <;> rfl), by (with_reducible repeat (first | apply Kd.R_alloc | apply Kd.R_drewN | apply Kd.R_drew)); exact Kd.R_mono HO178.out (fun _ hk => hk.1), by repeat (first | (with_reducible first | exact HB.out | apply below_alloc | apply pw_below_drewN | apply below_drew1 | refine below_set ?_ GE172.out) | exact HB.out), by repeat (first | (with_reducible first | exact HK.out | apply Kept.alloc | apply Kept.drewN | apply Kept.drew | refine Kept.setCell ?_ (.inr GW172.out) _) | exact HK.out)⟩
    ·rw [if_neg c13] at H
     exact absurd H (by simp)
   ·rw [if_neg c12] at H
    have c12b0 : (a4 == (l1.length : Int)) = false := beq_eq_false_iff_ne.mpr c12
    have c12b1 : (a4 != (l1.length : Int)) = true := bne_iff_ne.mpr c12
    have H' := Aside0.mk H
    clear H
    go_enter Try.func47, Try.ntmps47
    go_wp2_with (first | ((with_reducible refine gate_dst (N := 8) rfl ?_); (try (refine gate_guard (by rfl) ?_; dsimp only)); refine box_event ?hg (N := 8) ?hd (cs := #[.int .i64 a0_0, .int .i64 a0_1, .string a0_2]) (t := 28) ?hr ?_; (case hd => rfl); (case hg => rfl); (case hr => first | (go_simp; done) | (go_simp; rfl)); intro gb172 hg w20 hbox hb; have n0_ := Aside0.mk (Kd.R_below (by (with_reducible repeat (first | apply Kd.R_alloc | apply Kd.R_drewN | apply Kd.R_drew)); exact HO6.out) hb); have n1_ := Aside0.mk (Kept.below (S := (fun k_ => P6_ k_)) (by repeat (first | (with_reducible first | exact HK.out | apply Kept.alloc | apply Kept.drewN | apply Kept.drew) | exact HK.out)) hb); have n2_ := Aside0.mk (below_step (by repeat (first | (with_reducible first | exact HB.out | apply below_alloc | apply pw_below_drewN | apply below_drew1) | exact HB.out)) hb); have n3_ := Aside0.mk (hbox); have n4_ := Aside0.mk ((by rw [hg]; exact (by first | exact HK.out.1 | exact (show Kept w _ (fun k_ => P6_ k_) from by repeat (first | (with_reducible first | exact HK.out | apply Kept.alloc | apply Kept.drewN | apply Kept.drew) | exact HK.out)).1) : w.heap.size ≤ gb172)); have n5_ := Aside0.mk ((by rw [hg]; exact (below_size (by repeat (first | (with_reducible first | exact HB.out | apply below_alloc | apply pw_below_drewN | apply below_drew1) | exact HB.out))) : w0.heap.size ≤ gb172)); clear HO6; clear HK; clear HB; have HO6 := n0_; have HK := n1_; have HB := n2_; have BK172 := n3_; have GW172 := n4_; have GE172 := n5_; clear n0_ n1_ n2_ n3_ n4_ n5_; clear hb hbox hg; obtain ⟨Ao21, co21, eo21⟩ := Kd.R_slice HO6.out; subst eo21))
    go_loopg [6, 17] k (fun kq v6 v17 w' => ∃ (x6_1 : List ByteArray) (x17_1 : Int), v17 = .int .i64 x17_1 ∧ Aside0 (spec_l13Search.l0 kq l1 a2 l3 a4 l5 x6_1 a7 x17_1 a0_0 a0_1 a0_2 = some r) ∧ Aside0 (kq ≤ k) ∧ Aside0 (Kd.R Kd.string 9 w' w0.heap.size (fun k_ => (P6_ k_ ∨ w.heap.size ≤ k_)) v6 x6_1) ∧ Aside0 (w'.heap[gb172]? = some (.cells #[.int .i64 a0_0, .int .i64 a0_1, .string a0_2] 28 (0, 0))) ∧ Aside0 (Kept w w' (fun k_ => P6_ k_)) ∧ Aside0 (Below w0.heap.size w0 w'))
    case atStart => exact ⟨(l6), (0), (by first | rfl | (simp; done) | (simp [*]; done)), H', ⟨Nat.le_refl _⟩, ⟨by (with_reducible repeat (first | apply Kd.R_alloc | apply Kd.R_drewN | apply Kd.R_drew)); exact HO6.out⟩, ⟨by (with_reducible repeat (first | refine blk_drewN ?_ _ | refine blk_drew ?_ | refine blk_alloc ?_ _)); exact BK172.out⟩, ⟨by repeat (first | (with_reducible first | exact HK.out | apply Kept.alloc | apply Kept.drewN | apply Kept.drew | refine Kept.setCell ?_ (.inr GW172.out) _) | exact HK.out)⟩, ⟨by repeat (first | (with_reducible first | exact HB.out | apply below_alloc | apply pw_below_drewN | apply below_drew1 | refine below_set ?_ GE172.out) | exact HB.out)⟩⟩
    case round =>
     clear H'
     try clear c1
     try clear p2
     try clear c3
     try clear c4
     try clear c5
     try clear c9
     try clear c9b0
     try clear c12
     try clear c12b0
     try clear c12b1
     try clear c13
     obtain ⟨x6_1, x17_1, rfl, HA, HK1, HO_6, BK172, HK, HB⟩ := hrel
     cases gk with
     | zero => exact absurd HA.out (by simp [spec_l13Search.l0])
     | succ k1 =>
      have H := HA.out
      clear HA
      simp only [spec_l13Search.l0] at H
      have HC22 := Aside0.mk H
      clear H
      go_upto_region 6 with (fail)
      go_cut [45] (fun v45 wc => ∃ (kq : Nat) (x45_21 : Bool), v45 = .bool x45_21 ∧ Aside0 (spec_l13Search.j1 kq l1 a2 l3 a4 l5 x6_1 a7 x17_1 x45_21 a0_0 a0_1 a0_2 = some r) ∧ Aside0 (kq ≤ k1) ∧ Aside0 (Kd.R Kd.string 9 wc w0.heap.size (fun k_ => (P6_ k_ ∨ w.heap.size ≤ k_)) u6 x6_1) ∧ Aside0 (wc.heap[gb172]? = some (.cells #[.int .i64 a0_0, .int .i64 a0_1, .string a0_2] 28 (0, 0))) ∧ Aside0 (Kept w wc (fun k_ => P6_ k_)) ∧ Aside0 (Below w0.heap.size w0 wc))
      case first =>
       have H := HC22.out
       clear HC22
       by_cases c23 : x17_1 < (l3.length : Int)
       ·rw [if_pos c23] at H
        have c23b0 : decide (x17_1 < (l3.length : Int)) = true := decide_eq_true c23
        clear c23
        (first | rw [c23b0] | (simp only [i64_w, i32_w]; rw [c23b0]) | skip)
        have H' := Aside0.mk H
        clear H
        obtain ⟨Ao24, co24, eo24⟩ := Kd.R_slice HO_6.out
        subst eo24
        go_wp2
        go_meet
        case rel => exact ⟨_, (decide ((x6_1.length : Int) < a7)), (by first | rfl | (simp; done) | (simp [*]; done)), H', ⟨by have := HK1.out; first | omega | exact Nat.le_refl _⟩, ⟨by (with_reducible repeat (first | apply Kd.R_alloc | apply Kd.R_drewN | apply Kd.R_drew)); exact HO_6.out⟩, ⟨by (with_reducible repeat (first | refine blk_drewN ?_ _ | refine blk_drew ?_ | refine blk_alloc ?_ _)); exact BK172.out⟩, ⟨by repeat (first | (with_reducible first | exact HK.out | apply Kept.alloc | apply Kept.drewN | apply Kept.drew | refine Kept.setCell ?_ (.inr GW172.out) _) | exact HK.out)⟩, ⟨by repeat (first | (with_reducible first | exact HB.out | apply below_alloc | apply pw_below_drewN | apply below_drew1 | refine below_set ?_ GE172.out) | exact HB.out)⟩⟩
       ·rw [if_neg c23] at H
        have c23b0 : decide (x17_1 < (l3.length : Int)) = false := decide_eq_false c23
        clear c23
        (first | rw [c23b0] | (simp only [i64_w, i32_w]; rw [c23b0]) | skip)
        have H' := Aside0.mk H
        clear H
        go_wp2
        go_meet
        case rel => exact ⟨_, (false), (by first | rfl | (simp; done) | (simp [*]; done)), H', ⟨by have := HK1.out; first | omega | exact Nat.le_refl _⟩, ⟨by (with_reducible repeat (first | apply Kd.R_alloc | apply Kd.R_drewN | apply Kd.R_drew)); exact HO_6.out⟩, ⟨by (with_reducible repeat (first | refine blk_drewN ?_ _ | refine blk_drew ?_ | refine blk_alloc ?_ _)); exact BK172.out⟩, ⟨by repeat (first | (with_reducible first | exact HK.out | apply Kept.alloc | apply Kept.drewN | apply Kept.drew | refine Kept.setCell ?_ (.inr GW172.out) _) | exact HK.out)⟩, ⟨by repeat (first | (with_reducible first | exact HB.out | apply below_alloc | apply pw_below_drewN | apply below_drew1 | refine below_set ?_ GE172.out) | exact HB.out)⟩⟩
      case rest =>
       clear HC22
       try clear c1
       try clear c2
       try clear p2
       try clear c3
       try clear c4
       try clear c5
       try clear c9
       try clear c9b0
       try clear c12
       try clear c12b0
       try clear c12b1
       try clear c13
       try clear c23
       try clear c23b0
       try clear p2
       obtain ⟨kq, x45_21, rfl, HA, HJ21, HO_6, BK172, HK, HB⟩ := hcut
       cases kq with
       | zero => exact absurd HA.out (by simp [spec_l13Search.j1])
       | succ kj21 =>
        have H := HA.out
        clear HA
        simp only [spec_l13Search.j1] at H
        by_cases c25 : x45_21 = true
        ·subst c25
         have H1 : (if 0 ≤ x17_1 then (if x17_1 < (l3.length : Int) then (if 0 ≤ a4 then (if a4 < (l1.length : Int) then (if ((rdOf ByteArray.empty l3 x17_1).size : Int) = ((rd_L4 l1 a4).length : Int) then ((spec_IsWord.f kj21 (rdOf ByteArray.empty l3 x17_1)).bind fun t181 => (if t181 = true then ((spec_HasWord.f kj21 l5 (rdOf ByteArray.empty l3 x17_1)).bind fun t182 => (if t182 = true then (spec_l13Search.j2 kj21 l1 a2 l3 a4 l5 x6_1 a7 x17_1 (rdOf ByteArray.empty l3 x17_1) true a0_0 a0_1 a0_2) else (if x17_1 ≤ (l3.length : Int) then ((spec_HasWord.f kj21 (l3.take (x17_1 : Int).toNat) (rdOf ByteArray.empty l3 x17_1)).bind fun t187 => (spec_l13Search.j2 kj21 l1 a2 l3 a4 l5 x6_1 a7 x17_1 (rdOf ByteArray.empty l3 x17_1) t187 a0_0 a0_1 a0_2)) else (none)))) else (spec_l13Search.j2 kj21 l1 a2 l3 a4 l5 x6_1 a7 x17_1 (rdOf ByteArray.empty l3 x17_1) true a0_0 a0_1 a0_2))) else (spec_l13Search.j2 kj21 l1 a2 l3 a4 l5 x6_1 a7 x17_1 (rdOf ByteArray.empty l3 x17_1) true a0_0 a0_1 a0_2)) else (none)) else (none)) else (none)) else (none)) = some r := by rw [if_pos rfl] at H; exact H
         clear H
         have H := H1
         clear H1
         by_cases c26 : 0 ≤ x17_1
         ·rw [if_pos c26] at H
          have c26b0 : decide (0 ≤ x17_1) = true := decide_eq_true c26
          clear c26
          by_cases c27 : x17_1 < (l3.length : Int)
          ·rw [if_pos c27] at H
           have c27b0 : decide (x17_1 < (l3.length : Int)) = true := decide_eq_true c27
           clear c27
           have HC28 := Aside0.mk H
           clear H
           have p179 : 0 ≤ (x17_1 : Int) := of_decide_eq_true (by first | (with_reducible assumption) | assumption)
           have q179 : x17_1 < (l3.length : Int) := of_decide_eq_true (by first | (with_reducible assumption) | assumption)
           obtain ⟨ad179, e179, hx179_0⟩ := Kd.at_string (Kd.C_kept_now HR3.out HK.out) x17_1 p179 q179
           cases e179
           replace p179 := eq_true p179
           replace q179 := eq_true q179
           go_upto_region 9 with (fail)
           go_cut [76] (fun v76 wc => ∃ (kq : Nat) (x76_27 : Bool), v76 = .bool x76_27 ∧ Aside0 (spec_l13Search.j2 kq l1 a2 l3 a4 l5 x6_1 a7 x17_1 (rdOf ByteArray.empty l3 x17_1) x76_27 a0_0 a0_1 a0_2 = some r) ∧ Aside0 (kq ≤ kj21) ∧ Aside0 (Kd.R Kd.string 9 wc w0.heap.size (fun k_ => (P6_ k_ ∨ w.heap.size ≤ k_)) u6 x6_1) ∧ Aside0 (wc.heap[gb172]? = some (.cells #[.int .i64 a0_0, .int .i64 a0_1, .string a0_2] 28 (0, 0))) ∧ Aside0 (Kept w wc (fun k_ => P6_ k_)) ∧ Aside0 (Below w0.heap.size w0 wc))
           case first =>
            have H := HC28.out
            clear HC28
            by_cases c29 : 0 ≤ a4
            ·rw [if_pos c29] at H
             have c29b0 : decide (0 ≤ a4) = true := decide_eq_true c29
             clear c29
             (first | rw [c29b0] | (simp only [i64_w, i32_w]; rw [c29b0]) | skip)
             by_cases c30 : a4 < (l1.length : Int)
             ·rw [if_pos c30] at H
              have c30b0 : decide (a4 < (l1.length : Int)) = true := decide_eq_true c30
              clear c30
              by_cases c31 : ((rdOf ByteArray.empty l3 x17_1).size : Int) = ((rd_L4 l1 a4).length : Int)
              ·rw [if_pos c31] at H
               have c31b0 : (((rdOf ByteArray.empty l3 x17_1).size : Int) == ((rd_L4 l1 a4).length : Int)) = true := beq_iff_eq.mpr c31
               have c31b1 : (((rdOf ByteArray.empty l3 x17_1).size : Int) != ((rd_L4 l1 a4).length : Int)) = false := bne_eq_false_iff_eq.mpr c31
               have c31b2 : ((rdOf ByteArray.empty l3 x17_1).size == (rd_L4 l1 a4).length) = true := by first | simpa using c31 | (simp at c31 ⊢; omega)
               clear c31
               replace H := Option.bind_eq_some_iff.mp H
               obtain ⟨t181, A320, H⟩ := H
               replace H : (if t181 = true then ((spec_HasWord.f kj21 l5 (rdOf ByteArray.empty l3 x17_1)).bind fun t182 => (if t182 = true then (spec_l13Search.j2 kj21 l1 a2 l3 a4 l5 x6_1 a7 x17_1 (rdOf ByteArray.empty l3 x17_1) true a0_0 a0_1 a0_2) else (if x17_1 ≤ (l3.length : Int) then ((spec_HasWord.f kj21 (l3.take (x17_1 : Int).toNat) (rdOf ByteArray.empty l3 x17_1)).bind fun t187 => (spec_l13Search.j2 kj21 l1 a2 l3 a4 l5 x6_1 a7 x17_1 (rdOf ByteArray.empty l3 x17_1) t187 a0_0 a0_1 a0_2)) else (none)))) else (spec_l13Search.j2 kj21 l1 a2 l3 a4 l5 x6_1 a7 x17_1 (rdOf ByteArray.empty l3 x17_1) true a0_0 a0_1 a0_2)) = some r := H
               have A32 := Aside0.mk A320
               clear A320
               by_cases c33 : t181 = true
               ·subst c33
                have H1 : ((spec_HasWord.f kj21 l5 (rdOf ByteArray.empty l3 x17_1)).bind fun t182 => (if t182 = true then (spec_l13Search.j2 kj21 l1 a2 l3 a4 l5 x6_1 a7 x17_1 (rdOf ByteArray.empty l3 x17_1) true a0_0 a0_1 a0_2) else (if x17_1 ≤ (l3.length : Int) then ((spec_HasWord.f kj21 (l3.take (x17_1 : Int).toNat) (rdOf ByteArray.empty l3 x17_1)).bind fun t187 => (spec_l13Search.j2 kj21 l1 a2 l3 a4 l5 x6_1 a7 x17_1 (rdOf ByteArray.empty l3 x17_1) t187 a0_0 a0_1 a0_2)) else (none)))) = some r := by rw [if_pos rfl] at H; exact H
                clear H
                have H := H1
                clear H1
                replace H := Option.bind_eq_some_iff.mp H
                obtain ⟨t182, A340, H⟩ := H
                replace H : (if t182 = true then (spec_l13Search.j2 kj21 l1 a2 l3 a4 l5 x6_1 a7 x17_1 (rdOf ByteArray.empty l3 x17_1) true a0_0 a0_1 a0_2) else (if x17_1 ≤ (l3.length : Int) then ((spec_HasWord.f kj21 (l3.take (x17_1 : Int).toNat) (rdOf ByteArray.empty l3 x17_1)).bind fun t187 => (spec_l13Search.j2 kj21 l1 a2 l3 a4 l5 x6_1 a7 x17_1 (rdOf ByteArray.empty l3 x17_1) t187 a0_0 a0_1 a0_2)) else (none))) = some r := H
                have A34 := Aside0.mk A340
                clear A340
                by_cases c35 : t182 = true
                ·subst c35
                 have H1 : (spec_l13Search.j2 kj21 l1 a2 l3 a4 l5 x6_1 a7 x17_1 (rdOf ByteArray.empty l3 x17_1) true a0_0 a0_1 a0_2) = some r := by rw [if_pos rfl] at H; exact H
                 clear H
                 have H := H1
                 clear H1
                 have H' := Aside0.mk H
                 clear H
                 have p180 : 0 ≤ (a4 : Int) := of_decide_eq_true (by first | (with_reducible assumption) | assumption)
                 have q180 : a4 < (l1.length : Int) := of_decide_eq_true (by first | (with_reducible assumption) | assumption)
                 obtain ⟨ad180, A180_0, c180_0, e180, hx180_0, hl180_0, hi180_0⟩ := at_L4 (Kd.C_kept_now HR1.out HK.out) a4 p180 q180
                 cases e180
                 have HR180_0 := Aside0.mk hi180_0
                 have HC180_0 := Aside0.mk hl180_0
                 clear hi180_0 hl180_0
                 replace p180 := eq_true p180
                 replace q180 := eq_true q180
                 go_wp2_with (first | (go_at_call 83; (with_reducible refine (spec_IsWord.calls kj21 (rdOf ByteArray.empty l3 x17_1) true _ A32.out).mono ?_); rintro e w' ⟨rfl, ⟨nd, rfl⟩⟩) | (go_at_call 84; (with_reducible refine (spec_HasWord.calls kj21 _ _ l5 (rdOf ByteArray.empty l3 x17_1) true _ ?side1 ?side2 A34.out).mono ?_); (case side1 => exact Kd.C_kept_now HR5.out (by repeat (first | (with_reducible first | exact HK.out | apply Kept.alloc | apply Kept.drewN | apply Kept.drew | refine Kept.setCell ?_ (.inr GW172.out) _) | exact HK.out))); (case side2 => exact HC5.out); rintro e w' ⟨rfl, ⟨nd, rfl⟩⟩))
                 go_meet
                 case rel => exact ⟨_, (true), (by first | rfl | (simp; done) | (simp [*]; done)), H', ⟨by have := HK1.out; have := HJ21.out; first | omega | exact Nat.le_refl _⟩, ⟨by (with_reducible repeat (first | apply Kd.R_alloc | apply Kd.R_drewN | apply Kd.R_drew)); exact HO_6.out⟩, ⟨by (with_reducible repeat (first | refine blk_drewN ?_ _ | refine blk_drew ?_ | refine blk_alloc ?_ _)); exact BK172.out⟩, ⟨by repeat (first | (with_reducible first | exact HK.out | apply Kept.alloc | apply Kept.drewN | apply Kept.drew | refine Kept.setCell ?_ (.inr GW172.out) _) | exact HK.out)⟩, ⟨by repeat (first | (with_reducible first | exact HB.out | apply below_alloc | apply pw_below_drewN | apply below_drew1 | refine below_set ?_ GE172.out) | exact HB.out)⟩⟩
                ·replace c35 := Bool.eq_false_iff.mpr c35
                 subst c35
                 have H1 : (if x17_1 ≤ (l3.length : Int) then ((spec_HasWord.f kj21 (l3.take (x17_1 : Int).toNat) (rdOf ByteArray.empty l3 x17_1)).bind fun t187 => (spec_l13Search.j2 kj21 l1 a2 l3 a4 l5 x6_1 a7 x17_1 (rdOf ByteArray.empty l3 x17_1) t187 a0_0 a0_1 a0_2)) else (none)) = some r := by rw [if_neg (show ¬ (false = true) by decide)] at H; exact H
                 clear H
                 have H := H1
                 clear H1
                 have c36b0 := eq_true (of_decide_eq_true (by first | (with_reducible assumption) | assumption) : 0 ≤ x17_1)
                 by_cases c37 : x17_1 ≤ (l3.length : Int)
                 ·rw [if_pos c37] at H
                  have c37b0 := eq_true c37
                  have c37b1 : decide (x17_1 ≤ (l3.length : Int)) = true := decide_eq_true c37
                  clear c37
                  obtain ⟨y183, hy183⟩ : ∃ y_ : List ByteArray, y_ = (l3.take (x17_1 : Int).toNat) := ⟨_, rfl⟩
                  replace H : ((spec_HasWord.f kj21 y183 (rdOf ByteArray.empty l3 x17_1)).bind fun t187 => (spec_l13Search.j2 kj21 l1 a2 l3 a4 l5 x6_1 a7 x17_1 (rdOf ByteArray.empty l3 x17_1) t187 a0_0 a0_1 a0_2)) = some r := by first | (rw [hy183]; with_reducible exact H) | (have H2_ := (Option.bind_some _ _).symm.trans H; rw [hy183]; with_reducible exact H2_) | (have H2_ := (Option.bind_some _ _).symm.trans H; with_reducible exact H2_) | with_reducible exact H | (rw [hy183]; exact H) | exact H
                  have Ny183 := Aside0.mk hy183
                  clear hy183
                  replace H := Option.bind_eq_some_iff.mp H
                  obtain ⟨t187, A380, H⟩ := H
                  replace H : (spec_l13Search.j2 kj21 l1 a2 l3 a4 l5 x6_1 a7 x17_1 (rdOf ByteArray.empty l3 x17_1) t187 a0_0 a0_1 a0_2) = some r := H
                  have A38 := Aside0.mk A380
                  clear A380
                  have H' := Aside0.mk H
                  clear H
                  have p180 : 0 ≤ (a4 : Int) := of_decide_eq_true (by first | (with_reducible assumption) | assumption)
                  have q180 : a4 < (l1.length : Int) := of_decide_eq_true (by first | (with_reducible assumption) | assumption)
                  obtain ⟨ad180, A180_0, c180_0, e180, hx180_0, hl180_0, hi180_0⟩ := at_L4 (Kd.C_kept_now HR1.out HK.out) a4 p180 q180
                  cases e180
                  have HR180_0 := Aside0.mk hi180_0
                  have HC180_0 := Aside0.mk hl180_0
                  clear hi180_0 hl180_0
                  replace p180 := eq_true p180
                  replace q180 := eq_true q180
                  go_wp2_with (first | (go_at_call 83; (with_reducible refine (spec_IsWord.calls kj21 (rdOf ByteArray.empty l3 x17_1) true _ A32.out).mono ?_); rintro e w' ⟨rfl, ⟨nd, rfl⟩⟩) | (go_at_call 84; (with_reducible refine (spec_HasWord.calls kj21 _ _ l5 (rdOf ByteArray.empty l3 x17_1) false _ ?side1 ?side2 A34.out).mono ?_); (case side1 => exact Kd.C_kept_now HR5.out (by repeat (first | (with_reducible first | exact HK.out | apply Kept.alloc | apply Kept.drewN | apply Kept.drew | refine Kept.setCell ?_ (.inr GW172.out) _) | exact HK.out))); (case side2 => exact HC5.out); rintro e w' ⟨rfl, ⟨nd, rfl⟩⟩; have q39 : (x17_1 : Int) ≤ ((l3.length : Int) : Int) := of_decide_eq_true (by first | (with_reducible assumption) | assumption); obtain ⟨i039, hi039, _, hsz39, _⟩ := info_parts info9; have hroom39 : l3.length ≤ c3 := HC3.out; have hC39 : Kd.C Kd.string _ (some ad179) l3.length l3 := (Kd.C_kept_now HR3.out HK.out); have hcut39 := cut_to (P := Try.prog) 24 9 .i64 Try.underlying24 hi039 (some ad179) l3.length c3 x17_1 (of_decide_eq_true (by first | (with_reducible assumption) | assumption)) q39 hroom39; have hr39 := Kd.C_take (m := (x17_1 : Int).toNat) hC39 (by omega); have hy39 : y183.length = (x17_1 : Int).toNat := (by rw [Ny183.out, List.length_take]; omega); rw [← Ny183.out] at hr39; rw [← hy39] at hcut39; have HR186 := Aside0.mk hr39; have HC186 := Aside0.mk (show y183.length ≤ c3 from by omega); clear hr39 hC39 hroom39 hi039 hsz39; have KY39 := Aside0.mk hy39; clear hy39; have KL39 := Aside0.mk (show (x17_1 : Int).toNat ≤ l3.length from by omega); replace q39 := eq_true q39) | (go_at_call 84; (with_reducible refine (spec_HasWord.calls kj21 _ _ y183 (rdOf ByteArray.empty l3 x17_1) t187 _ ?side1 ?side2 A38.out).mono ?_); (case side1 => repeat (first | exact (by repeat (first | (with_reducible exact HR186.out) | (with_reducible refine Kd.C_alloc ?_ _) | (with_reducible refine Kd.C_drewN ?_ _) | (with_reducible refine Kd.C_drew ?_) | exact HR186.out)) | (with_reducible refine Kd.C_alloc ?_ _) | (with_reducible refine Kd.C_drewN ?_ _) | (with_reducible refine Kd.C_drew ?_))); (case side2 => exact HC186.out); rintro e w' ⟨rfl, ⟨nd, rfl⟩⟩))
                  go_meet
                  case rel => exact ⟨_, (t187), (by first | rfl | (simp; done) | (simp [*]; done)), H', ⟨by have := HK1.out; have := HJ21.out; first | omega | exact Nat.le_refl _⟩, ⟨by (with_reducible repeat (first | apply Kd.R_alloc | apply Kd.R_drewN | apply Kd.R_drew)); exact HO_6.out⟩, ⟨by (with_reducible repeat (first | refine blk_drewN ?_ _ | refine blk_drew ?_ | refine blk_alloc ?_ _)); exact BK172.out⟩, ⟨by repeat (first | (with_reducible first | exact HK.out | apply Kept.alloc | apply Kept.drewN | apply Kept.drew | refine Kept.setCell ?_ (.inr GW172.out) _) | exact HK.out)⟩, ⟨by repeat (first | (with_reducible first | exact HB.out | apply below_alloc | apply pw_below_drewN | apply below_drew1 | refine below_set ?_ GE172.out) | exact HB.out)⟩⟩
                 ·rw [if_neg c37] at H
                  exact absurd H (by simp)
               ·replace c33 := Bool.eq_false_iff.mpr c33
                subst c33
                have H1 : (spec_l13Search.j2 kj21 l1 a2 l3 a4 l5 x6_1 a7 x17_1 (rdOf ByteArray.empty l3 x17_1) true a0_0 a0_1 a0_2) = some r := by rw [if_neg (show ¬ (false = true) by decide)] at H; exact H
                clear H
                have H := H1
                clear H1
                have H' := Aside0.mk H
                clear H
                have p180 : 0 ≤ (a4 : Int) := of_decide_eq_true (by first | (with_reducible assumption) | assumption)
                have q180 : a4 < (l1.length : Int) := of_decide_eq_true (by first | (with_reducible assumption) | assumption)
                obtain ⟨ad180, A180_0, c180_0, e180, hx180_0, hl180_0, hi180_0⟩ := at_L4 (Kd.C_kept_now HR1.out HK.out) a4 p180 q180
                cases e180
                have HR180_0 := Aside0.mk hi180_0
                have HC180_0 := Aside0.mk hl180_0
                clear hi180_0 hl180_0
                replace p180 := eq_true p180
                replace q180 := eq_true q180
                go_wp2_with (first | (go_at_call 83; (with_reducible refine (spec_IsWord.calls kj21 (rdOf ByteArray.empty l3 x17_1) false _ A32.out).mono ?_); rintro e w' ⟨rfl, ⟨nd, rfl⟩⟩))
                go_meet
                case rel => exact ⟨_, (true), (by first | rfl | (simp; done) | (simp [*]; done)), H', ⟨by have := HK1.out; have := HJ21.out; first | omega | exact Nat.le_refl _⟩, ⟨by (with_reducible repeat (first | apply Kd.R_alloc | apply Kd.R_drewN | apply Kd.R_drew)); exact HO_6.out⟩, ⟨by (with_reducible repeat (first | refine blk_drewN ?_ _ | refine blk_drew ?_ | refine blk_alloc ?_ _)); exact BK172.out⟩, ⟨by repeat (first | (with_reducible first | exact HK.out | apply Kept.alloc | apply Kept.drewN | apply Kept.drew | refine Kept.setCell ?_ (.inr GW172.out) _) | exact HK.out)⟩, ⟨by repeat (first | (with_reducible first | exact HB.out | apply below_alloc | apply pw_below_drewN | apply below_drew1 | refine below_set ?_ GE172.out) | exact HB.out)⟩⟩
              ·rw [if_neg c31] at H
               have c31b0 : (((rdOf ByteArray.empty l3 x17_1).size : Int) == ((rd_L4 l1 a4).length : Int)) = false := beq_eq_false_iff_ne.mpr c31
               have c31b1 : (((rdOf ByteArray.empty l3 x17_1).size : Int) != ((rd_L4 l1 a4).length : Int)) = true := bne_iff_ne.mpr c31
               have c31b2 : ((rdOf ByteArray.empty l3 x17_1).size == (rd_L4 l1 a4).length) = false := by first | simpa using c31 | (simp at c31 ⊢; omega)
               have H' := Aside0.mk H
               clear H
               have p180 : 0 ≤ (a4 : Int) := of_decide_eq_true (by first | (with_reducible assumption) | assumption)
               have q180 : a4 < (l1.length : Int) := of_decide_eq_true (by first | (with_reducible assumption) | assumption)
               obtain ⟨ad180, A180_0, c180_0, e180, hx180_0, hl180_0, hi180_0⟩ := at_L4 (Kd.C_kept_now HR1.out HK.out) a4 p180 q180
               cases e180
               have HR180_0 := Aside0.mk hi180_0
               have HC180_0 := Aside0.mk hl180_0
               clear hi180_0 hl180_0
               replace p180 := eq_true p180
               replace q180 := eq_true q180
               go_wp2
               go_meet
               case rel => exact ⟨_, (true), (by first | rfl | (simp; done) | (simp [*]; done)), H', ⟨by have := HK1.out; have := HJ21.out; first | omega | exact Nat.le_refl _⟩, ⟨by (with_reducible repeat (first | apply Kd.R_alloc | apply Kd.R_drewN | apply Kd.R_drew)); exact HO_6.out⟩, ⟨by (with_reducible repeat (first | refine blk_drewN ?_ _ | refine blk_drew ?_ | refine blk_alloc ?_ _)); exact BK172.out⟩, ⟨by repeat (first | (with_reducible first | exact HK.out | apply Kept.alloc | apply Kept.drewN | apply Kept.drew | refine Kept.setCell ?_ (.inr GW172.out) _) | exact HK.out)⟩, ⟨by repeat (first | (with_reducible first | exact HB.out | apply below_alloc | apply pw_below_drewN | apply below_drew1 | refine below_set ?_ GE172.out) | exact HB.out)⟩⟩
             ·rw [if_neg c30] at H
              exact absurd H (by simp)
            ·rw [if_neg c29] at H
             exact absurd H (by simp)
           case rest =>
            clear HC28
            try clear c1
            try clear p1
            try clear q1
            try clear hx1
            try clear c2
            try clear p2
            try clear c3
            try clear q3
            try clear c4
            try clear c5
            try clear c9
            try clear c9b0
            try clear c12
            try clear c12b0
            try clear c12b1
            try clear c13
            try clear p17
            try clear q17
            try clear hx17
            try clear c18
            try clear p18
            try clear q18
            try clear hx18
            try clear c23
            try clear c23b0
            try clear c25
            try clear c26
            try clear c26b0
            try clear c27
            try clear c27b0
            try clear c29
            try clear c29b0
            try clear c30
            try clear c30b0
            try clear c31
            try clear c31b0
            try clear c31b1
            try clear c31b2
            try clear c33
            try clear c35
            try clear c36
            try clear c36b0
            try clear c37
            try clear c37b0
            try clear c37b1
            try clear q39
            try clear hx179_0
            try clear hx180_0
            try clear p179
            try clear p180
            try clear p2
            try clear q179
            try clear q180
            try clear q39
            obtain ⟨kq, x76_27, rfl, HA, HJ27, HO_6, BK172, HK, HB⟩ := hcut
            cases kq with
            | zero => exact absurd HA.out (by simp [spec_l13Search.j2])
            | succ kj27 =>
             have H := HA.out
             clear HA
             simp only [spec_l13Search.j2] at H
             by_cases c40 : x76_27 = true
             ·subst c40
              have H1 : (spec_l13Search.l0 kj27 l1 a2 l3 a4 l5 x6_1 a7 (wrap64 (x17_1 + 1)) a0_0 a0_1 a0_2) = some r := by rw [if_pos rfl] at H; exact H
              clear H
              have H := H1
              clear H1
              have H' := Aside0.mk H
              clear H
              go_wp2
              go_roundg kj27
              case measure => have := HK1.out; have := HJ21.out; have := HJ27.out; omega
              case rel => exact ⟨(x6_1), (wrap64 (x17_1 + 1)), (by first | rfl | (simp; done) | (simp [*]; done)), H', ⟨by have := HK1.out; have := HJ21.out; have := HJ27.out; omega⟩, ⟨by (with_reducible repeat (first | apply Kd.R_alloc | apply Kd.R_drewN | apply Kd.R_drew)); exact HO_6.out⟩, ⟨by (with_reducible repeat (first | refine blk_drewN ?_ _ | refine blk_drew ?_ | refine blk_alloc ?_ _)); exact BK172.out⟩, ⟨by repeat (first | (with_reducible first | exact HK.out | apply Kept.alloc | apply Kept.drewN | apply Kept.drew | refine Kept.setCell ?_ (.inr GW172.out) _) | exact HK.out)⟩, ⟨by repeat (first | (with_reducible first | exact HB.out | apply below_alloc | apply pw_below_drewN | apply below_drew1 | refine below_set ?_ GE172.out) | exact HB.out)⟩⟩
             ·replace c40 := Bool.eq_false_iff.mpr c40
              subst c40
              have H1 : (spec_l13Search.l1 kj27 l1 a2 l3 a4 l5 x6_1 a7 x17_1 (rdOf ByteArray.empty l3 x17_1) a2 true 0 a0_0 a0_1 a0_2) = some r := by rw [if_neg (show ¬ (false = true) by decide)] at H; exact H
              clear H
              have H := H1
              clear H1
              have HC41 := Aside0.mk H
              clear H
              go_upto_block 2 with (fail)
              go_cut [19, 20] (fun v19 v20 wc => ∃ (kq : Nat) (x19_40 : ByteArray) (x20_40 : Bool), v19 = .string x19_40 ∧ v20 = .bool x20_40 ∧ Aside0 (spec_l13Search.j4 kq l1 a2 l3 a4 l5 x6_1 a7 x17_1 (rdOf ByteArray.empty l3 x17_1) x19_40 x20_40 a0_0 a0_1 a0_2 = some r) ∧ Aside0 (kq ≤ kj27) ∧ Aside0 (Kd.R Kd.string 9 wc w0.heap.size (fun k_ => (P6_ k_ ∨ w.heap.size ≤ k_)) u6 x6_1) ∧ Aside0 (wc.heap[gb172]? = some (.cells #[.int .i64 a0_0, .int .i64 a0_1, .string a0_2] 28 (0, 0))) ∧ Aside0 (Kept w wc (fun k_ => P6_ k_)) ∧ Aside0 (Below w0.heap.size w0 wc))
              case first =>
               have H := HC41.out
               clear HC41
               have H' := Aside0.mk H
               clear H
               go_wp2
               go_loopg [19, 20, 21] kj27 (fun kq v19 v20 v21 w' => ∃ (x19_4 : ByteArray) (x20_4 : Bool) (x21_4 : Int), v19 = .string x19_4 ∧ v20 = .bool x20_4 ∧ v21 = .int .i64 x21_4 ∧ Aside0 (spec_l13Search.l1 kq l1 a2 l3 a4 l5 x6_1 a7 x17_1 (rdOf ByteArray.empty l3 x17_1) x19_4 x20_4 x21_4 a0_0 a0_1 a0_2 = some r) ∧ Aside0 (kq ≤ kj27) ∧ Aside0 (Kd.R Kd.string 9 w' w0.heap.size (fun k_ => (P6_ k_ ∨ w.heap.size ≤ k_)) u6 x6_1) ∧ Aside0 (w'.heap[gb172]? = some (.cells #[.int .i64 a0_0, .int .i64 a0_1, .string a0_2] 28 (0, 0))) ∧ Aside0 (Kept w w' (fun k_ => P6_ k_)) ∧ Aside0 (Below w0.heap.size w0 w'))
               case atStart => exact ⟨(a2), (true), (0), (by first | rfl | (simp; done) | (simp [*]; done)), (by first | rfl | (simp; done) | (simp [*]; done)), (by first | rfl | (simp; done) | (simp [*]; done)), H', ⟨Nat.le_refl _⟩, ⟨by (with_reducible repeat (first | apply Kd.R_alloc | apply Kd.R_drewN | apply Kd.R_drew)); exact HO_6.out⟩, ⟨by (with_reducible repeat (first | refine blk_drewN ?_ _ | refine blk_drew ?_ | refine blk_alloc ?_ _)); exact BK172.out⟩, ⟨by repeat (first | (with_reducible first | exact HK.out | apply Kept.alloc | apply Kept.drewN | apply Kept.drew | refine Kept.setCell ?_ (.inr GW172.out) _) | exact HK.out)⟩, ⟨by repeat (first | (with_reducible first | exact HB.out | apply below_alloc | apply pw_below_drewN | apply below_drew1 | refine below_set ?_ GE172.out) | exact HB.out)⟩⟩
               case round =>
                clear H'
                try clear c1
                try clear p1
                try clear q1
                try clear hx1
                try clear c2
                try clear p2
                try clear c3
                try clear q3
                try clear c4
                try clear c5
                try clear p6
                try clear c9
                try clear c9b0
                try clear c12
                try clear c12b0
                try clear c12b1
                try clear c13
                try clear p17
                try clear q17
                try clear hx17
                try clear c18
                try clear p18
                try clear q18
                try clear hx18
                try clear c23
                try clear c23b0
                try clear c25
                try clear c26
                try clear c26b0
                try clear c27
                try clear c27b0
                try clear c29
                try clear c29b0
                try clear c30
                try clear c30b0
                try clear c31
                try clear c31b0
                try clear c31b1
                try clear c31b2
                try clear c33
                try clear c35
                try clear c36
                try clear c36b0
                try clear c37
                try clear c37b0
                try clear c37b1
                try clear q39
                try clear c40
                try clear hx179_0
                try clear hx180_0
                try clear p1
                try clear p17
                try clear p179
                try clear p18
                try clear p180
                try clear p2
                try clear q1
                try clear q17
                try clear q179
                try clear q18
                try clear q180
                try clear q3
                try clear q39
                obtain ⟨x19_4, x20_4, x21_4, rfl, rfl, rfl, HA, HK4, HO_6, BK172, HK, HB⟩ := hrel
                cases gk with
                | zero => exact absurd HA.out (by simp [spec_l13Search.l1])
                | succ k4 =>
                 have H := HA.out
                 clear HA
                 simp only [spec_l13Search.l1] at H
                 by_cases c42 : x21_4 < ((rdOf ByteArray.empty l3 x17_1).size : Int)
                 ·rw [if_pos c42] at H
                  have c42b0 : decide (x21_4 < ((rdOf ByteArray.empty l3 x17_1).size : Int)) = true := decide_eq_true c42
                  clear c42
                  (first | rw [c42b0] | (simp only [i64_w, i32_w]; rw [c42b0]) | skip)
                  by_cases c43 : x20_4 = true
                  ·subst c43
                   have H1 : (if 0 ≤ a4 then (if a4 < (l1.length : Int) then (if 0 ≤ x21_4 then (if x21_4 < ((rd_L4 l1 a4).length : Int) then (if 0 ≤ (rd (rd_L4 l1 a4) x21_4) then (if (rd (rd_L4 l1 a4) x21_4) < (x19_4.size : Int) then (if (bt x19_4 (rd (rd_L4 l1 a4) x21_4)) = 63 then (if (rd (rd_L4 l1 a4) x21_4) ≤ (x19_4.size : Int) then (if x21_4 ≤ (wrap64 (x21_4 + 1)) then (if (wrap64 (x21_4 + 1)) ≤ ((rdOf ByteArray.empty l3 x17_1).size : Int) then (if (x19_4.extract 0 ((rd (rd_L4 l1 a4) x21_4) : Int).toNat).size + ((rdOf ByteArray.empty l3 x17_1).extract (x21_4 : Int).toNat ((wrap64 (x21_4 + 1)) : Int).toNat).size ≤ 9223372036854775807 then (if 0 ≤ (wrap64 ((rd (rd_L4 l1 a4) x21_4) + 1)) then (if (wrap64 ((rd (rd_L4 l1 a4) x21_4) + 1)) ≤ (x19_4.size : Int) then (if ((x19_4.extract 0 ((rd (rd_L4 l1 a4) x21_4) : Int).toNat) ++ ((rdOf ByteArray.empty l3 x17_1).extract (x21_4 : Int).toNat ((wrap64 (x21_4 + 1)) : Int).toNat)).size + (x19_4.extract ((wrap64 ((rd (rd_L4 l1 a4) x21_4) + 1)) : Int).toNat x19_4.size).size ≤ 9223372036854775807 then (spec_l13Search.l1 k4 l1 a2 l3 a4 l5 x6_1 a7 x17_1 (rdOf ByteArray.empty l3 x17_1) (((x19_4.extract 0 ((rd (rd_L4 l1 a4) x21_4) : Int).toNat) ++ ((rdOf ByteArray.empty l3 x17_1).extract (x21_4 : Int).toNat ((wrap64 (x21_4 + 1)) : Int).toNat)) ++ (x19_4.extract ((wrap64 ((rd (rd_L4 l1 a4) x21_4) + 1)) : Int).toNat x19_4.size)) true (wrap64 (x21_4 + 1)) a0_0 a0_1 a0_2) else (none)) else (none)) else (none)) else (none)) else (none)) else (none)) else (none)) else (if (rd (rd_L4 l1 a4) x21_4) ≤ (x19_4.size : Int) then (if x21_4 ≤ (wrap64 (x21_4 + 1)) then (if (wrap64 (x21_4 + 1)) ≤ ((rdOf ByteArray.empty l3 x17_1).size : Int) then (if (x19_4.extract 0 ((rd (rd_L4 l1 a4) x21_4) : Int).toNat).size + ((rdOf ByteArray.empty l3 x17_1).extract (x21_4 : Int).toNat ((wrap64 (x21_4 + 1)) : Int).toNat).size ≤ 9223372036854775807 then (if 0 ≤ (wrap64 ((rd (rd_L4 l1 a4) x21_4) + 1)) then (if (wrap64 ((rd (rd_L4 l1 a4) x21_4) + 1)) ≤ (x19_4.size : Int) then (if ((x19_4.extract 0 ((rd (rd_L4 l1 a4) x21_4) : Int).toNat) ++ ((rdOf ByteArray.empty l3 x17_1).extract (x21_4 : Int).toNat ((wrap64 (x21_4 + 1)) : Int).toNat)).size + (x19_4.extract ((wrap64 ((rd (rd_L4 l1 a4) x21_4) + 1)) : Int).toNat x19_4.size).size ≤ 9223372036854775807 then (spec_l13Search.l1 k4 l1 a2 l3 a4 l5 x6_1 a7 x17_1 (rdOf ByteArray.empty l3 x17_1) (((x19_4.extract 0 ((rd (rd_L4 l1 a4) x21_4) : Int).toNat) ++ ((rdOf ByteArray.empty l3 x17_1).extract (x21_4 : Int).toNat ((wrap64 (x21_4 + 1)) : Int).toNat)) ++ (x19_4.extract ((wrap64 ((rd (rd_L4 l1 a4) x21_4) + 1)) : Int).toNat x19_4.size)) ((bt x19_4 (rd (rd_L4 l1 a4) x21_4)) == (bt (rdOf ByteArray.empty l3 x17_1) x21_4)) (wrap64 (x21_4 + 1)) a0_0 a0_1 a0_2) else (none)) else (none)) else (none)) else (none)) else (none)) else (none)) else (none))) else (none)) else (none)) else (none)) else (none)) else (none)) else (none)) = some r := by rw [if_pos rfl] at H; exact H
                   clear H
                   have H := H1
                   clear H1
                   by_cases c44 : 0 ≤ a4
                   ·rw [if_pos c44] at H
                    have c44b0 : decide (0 ≤ a4) = true := decide_eq_true c44
                    clear c44
                    by_cases c45 : a4 < (l1.length : Int)
                    ·rw [if_pos c45] at H
                     have c45b0 : decide (a4 < (l1.length : Int)) = true := decide_eq_true c45
                     clear c45
                     by_cases c46 : 0 ≤ x21_4
                     ·rw [if_pos c46] at H
                      have c46b0 : decide (0 ≤ x21_4) = true := decide_eq_true c46
                      clear c46
                      by_cases c47 : x21_4 < ((rd_L4 l1 a4).length : Int)
                      ·rw [if_pos c47] at H
                       have c47b0 : decide (x21_4 < ((rd_L4 l1 a4).length : Int)) = true := decide_eq_true c47
                       clear c47
                       by_cases c48 : 0 ≤ (rd (rd_L4 l1 a4) x21_4)
                       ·rw [if_pos c48] at H
                        have c48b0 : decide (0 ≤ (rd (rd_L4 l1 a4) x21_4)) = true := decide_eq_true c48
                        clear c48
                        by_cases c49 : (rd (rd_L4 l1 a4) x21_4) < (x19_4.size : Int)
                        ·rw [if_pos c49] at H
                         have c49b0 : decide ((rd (rd_L4 l1 a4) x21_4) < (x19_4.size : Int)) = true := decide_eq_true c49
                         clear c49
                         by_cases c51 : (bt x19_4 (rd (rd_L4 l1 a4) x21_4)) = 63
                         ·rw [if_pos c51] at H
                          have c51b0 : ((bt x19_4 (rd (rd_L4 l1 a4) x21_4)) == 63) = true := beq_iff_eq.mpr c51
                          have c51b1 : ((bt x19_4 (rd (rd_L4 l1 a4) x21_4)) != 63) = false := bne_eq_false_iff_eq.mpr c51
                          clear c51
                          have c52b0 := eq_true (of_decide_eq_true (by first | (with_reducible assumption) | assumption) : 0 ≤ (rd (rd_L4 l1 a4) x21_4))
                          by_cases c53 : (rd (rd_L4 l1 a4) x21_4) ≤ (x19_4.size : Int)
                          ·rw [if_pos c53] at H
                           have c53b0 := eq_true c53
                           have c53b1 : decide ((rd (rd_L4 l1 a4) x21_4) ≤ (x19_4.size : Int)) = true := decide_eq_true c53
                           clear c53
                           have c54b0 := eq_true (of_decide_eq_true (by first | (with_reducible assumption) | assumption) : 0 ≤ x21_4)
                           by_cases c55 : x21_4 ≤ (wrap64 (x21_4 + 1))
                           ·rw [if_pos c55] at H
                            have c55b0 := eq_true c55
                            have c55b1 : decide (x21_4 ≤ (wrap64 (x21_4 + 1))) = true := decide_eq_true c55
                            by_cases c56 : (wrap64 (x21_4 + 1)) ≤ ((rdOf ByteArray.empty l3 x17_1).size : Int)
                            ·rw [if_pos c56] at H
                             have c56b0 := eq_true c56
                             have c56b1 : decide ((wrap64 (x21_4 + 1)) ≤ ((rdOf ByteArray.empty l3 x17_1).size : Int)) = true := decide_eq_true c56
                             by_cases c57 : (x19_4.extract 0 ((rd (rd_L4 l1 a4) x21_4) : Int).toNat).size + ((rdOf ByteArray.empty l3 x17_1).extract (x21_4 : Int).toNat ((wrap64 (x21_4 + 1)) : Int).toNat).size ≤ 9223372036854775807
                             ·rw [if_pos c57] at H
                              have c57b0 := eq_true c57
                              have c57b1 : decide ((x19_4.extract 0 ((rd (rd_L4 l1 a4) x21_4) : Int).toNat).size + ((rdOf ByteArray.empty l3 x17_1).extract (x21_4 : Int).toNat ((wrap64 (x21_4 + 1)) : Int).toNat).size ≤ 9223372036854775807) = true := decide_eq_true c57
                              try have c57b2 : (9223372036854775807 < (x19_4.extract 0 ((rd (rd_L4 l1 a4) x21_4) : Int).toNat).size + ((rdOf ByteArray.empty l3 x17_1).extract (x21_4 : Int).toNat ((wrap64 (x21_4 + 1)) : Int).toNat).size) = False := eq_false (Nat.not_lt.2 c57)
                              try have c57b3 : (9223372036854775807 < (rd (rd_L4 l1 a4) x21_4).toNat + ((wrap64 (x21_4 + 1)).toNat - x21_4.toNat)) = False := eq_false (by have q0_ : (wrap64 (x21_4 + 1) : Int) ≤ ((rdOf ByteArray.empty l3 x17_1).size : Int) := of_decide_eq_true (by first | (with_reducible assumption) | assumption); have q1_ : (rd (rd_L4 l1 a4) x21_4 : Int) ≤ (x19_4.size : Int) := of_decide_eq_true (by first | (with_reducible assumption) | assumption); have h_ := c57; simp only [ByteArray.size_append, ByteArray.size_extract] at h_; omega)
                              obtain ⟨ji58, hji58⟩ : ∃ j_ : Int, (wrap64 ((rd (rd_L4 l1 a4) x21_4) + 1)) = j_ := ⟨_, rfl⟩
                              replace H : (if 0 ≤ (ji58) then (if (ji58) ≤ (x19_4.size : Int) then (if ((x19_4.extract 0 ((rd (rd_L4 l1 a4) x21_4) : Int).toNat) ++ ((rdOf ByteArray.empty l3 x17_1).extract (x21_4 : Int).toNat ((wrap64 (x21_4 + 1)) : Int).toNat)).size + (x19_4.extract ((ji58) : Int).toNat x19_4.size).size ≤ 9223372036854775807 then (spec_l13Search.l1 k4 l1 a2 l3 a4 l5 x6_1 a7 x17_1 (rdOf ByteArray.empty l3 x17_1) (((x19_4.extract 0 ((rd (rd_L4 l1 a4) x21_4) : Int).toNat) ++ ((rdOf ByteArray.empty l3 x17_1).extract (x21_4 : Int).toNat ((wrap64 (x21_4 + 1)) : Int).toNat)) ++ (x19_4.extract ((ji58) : Int).toNat x19_4.size)) true (wrap64 (x21_4 + 1)) a0_0 a0_1 a0_2) else (none)) else (none)) else (none)) = some r := by first | (rw [hji58] at H; exact H) | (simp only [hji58] at H ⊢; exact H)
                              have hji58w : (IntKind.i64.wrap ((rd (rd_L4 l1 a4) x21_4) + 1)) = ji58 := (i64_w _).trans hji58
                              by_cases c59 : 0 ≤ (ji58)
                              ·rw [if_pos c59] at H
                               have c59b0 := eq_true c59
                               have c59b1 : decide (0 ≤ (ji58)) = true := decide_eq_true c59
                               clear c59
                               by_cases c60 : (ji58) ≤ (x19_4.size : Int)
                               ·rw [if_pos c60] at H
                                have c60b0 := eq_true c60
                                have c60b1 : decide ((ji58) ≤ (x19_4.size : Int)) = true := decide_eq_true c60
                                clear c60
                                by_cases c61 : ((x19_4.extract 0 ((rd (rd_L4 l1 a4) x21_4) : Int).toNat) ++ ((rdOf ByteArray.empty l3 x17_1).extract (x21_4 : Int).toNat ((wrap64 (x21_4 + 1)) : Int).toNat)).size + (x19_4.extract ((ji58) : Int).toNat x19_4.size).size ≤ 9223372036854775807
                                ·rw [if_pos c61] at H
                                 have c61b0 := eq_true c61
                                 have c61b1 : decide (((x19_4.extract 0 ((rd (rd_L4 l1 a4) x21_4) : Int).toNat) ++ ((rdOf ByteArray.empty l3 x17_1).extract (x21_4 : Int).toNat ((wrap64 (x21_4 + 1)) : Int).toNat)).size + (x19_4.extract ((ji58) : Int).toNat x19_4.size).size ≤ 9223372036854775807) = true := decide_eq_true c61
                                 try have c61b2 : (9223372036854775807 < ((x19_4.extract 0 ((rd (rd_L4 l1 a4) x21_4) : Int).toNat) ++ ((rdOf ByteArray.empty l3 x17_1).extract (x21_4 : Int).toNat ((wrap64 (x21_4 + 1)) : Int).toNat)).size + (x19_4.extract ((ji58) : Int).toNat x19_4.size).size) = False := eq_false (Nat.not_lt.2 c61)
                                 try have c61b3 : (9223372036854775807 < (rd (rd_L4 l1 a4) x21_4).toNat + ((wrap64 (x21_4 + 1)).toNat - x21_4.toNat) + (x19_4.size - ji58.toNat)) = False := eq_false (by have q0_ : (wrap64 (x21_4 + 1) : Int) ≤ ((rdOf ByteArray.empty l3 x17_1).size : Int) := of_decide_eq_true (by first | (with_reducible assumption) | assumption); have q1_ : (ji58 : Int) ≤ (x19_4.size : Int) := of_decide_eq_true (by first | (with_reducible assumption) | assumption); have q2_ : (rd (rd_L4 l1 a4) x21_4 : Int) ≤ (x19_4.size : Int) := of_decide_eq_true (by first | (with_reducible assumption) | assumption); have h_ := c61; simp only [ByteArray.size_append, ByteArray.size_extract] at h_; omega)
                                 have H' := Aside0.mk H
                                 clear H
                                 have p188 : 0 ≤ (a4 : Int) := of_decide_eq_true (by first | (with_reducible assumption) | assumption)
                                 have q188 : a4 < (l1.length : Int) := of_decide_eq_true (by first | (with_reducible assumption) | assumption)
                                 obtain ⟨ad188, A188_0, c188_0, e188, hx188_0, hl188_0, hi188_0⟩ := at_L4 (Kd.C_kept_now HR1.out HK.out) a4 p188 q188
                                 cases e188
                                 have HR188_0 := Aside0.mk hi188_0
                                 have HC188_0 := Aside0.mk hl188_0
                                 clear hi188_0 hl188_0
                                 replace p188 := eq_true p188
                                 replace q188 := eq_true q188
                                 have p189 : 0 ≤ (x21_4 : Int) := of_decide_eq_true (by first | (with_reducible assumption) | assumption)
                                 have q189 : x21_4 < ((rd_L4 l1 a4).length : Int) := of_decide_eq_true (by first | (with_reducible assumption) | assumption)
                                 obtain ⟨ad189, e189, hx189_0⟩ := Kd.at_int (by repeat (first | (with_reducible exact HR188_0.out) | (with_reducible refine Kd.C_alloc ?_ _) | (with_reducible refine Kd.C_drewN ?_ _) | (with_reducible refine Kd.C_drew ?_) | exact HR188_0.out)) x21_4 p189 q189
                                 cases e189
                                 replace p189 := eq_true p189
                                 replace q189 := eq_true q189
                                 try go_wp2
                                 have n0_ := Aside0.mk (Kd.R_drew HO_6.out)
                                 have n1_ := Aside0.mk (blk_drew BK172.out)
                                 have n2_ := Aside0.mk (Kd.C_drew HR188_0.out)
                                 have n3_ := Aside0.mk (Kept.drew HK.out)
                                 have n4_ := Aside0.mk (below_drew1 HB.out)
                                 clear HO_6
                                 clear BK172
                                 clear HR188_0
                                 clear HK
                                 clear HB
                                 have HO_6 := n0_
                                 have BK172 := n1_
                                 have HR188_0 := n2_
                                 have HK := n3_
                                 have HB := n4_
                                 clear n0_ n1_ n2_ n3_ n4_
                                 have p50 : 0 ≤ ((rd (rd_L4 l1 a4) x21_4) : Int) := of_decide_eq_true (by first | (with_reducible assumption) | assumption)
                                 have q50 : (rd (rd_L4 l1 a4) x21_4) < (x19_4.size : Int) := of_decide_eq_true (by first | (with_reducible assumption) | assumption)
                                 have hx50 := bt_at x19_4 (rd (rd_L4 l1 a4) x21_4)
                                 replace p50 := eq_true p50
                                 replace q50 := eq_true q50
                                 refine start_ (n := 14) (S := fun w' => True) (ds := []) #[false, false, false, false, false, false, false, false, false, false, false, false, false, false] (by kernel_rfl) rfl rfl trivial (fun hHeld => ?_); refine with_tabW spec_l13Search.tab16 spec_l13Search.bits16 (fun HT_ HW_ => ?_)
                                 generalize wr.drew = w62 at HO_6 BK172 HR188_0 HK HB hHeld ⊢
                                 refine pure_ (i := 0) (N := some 94) (v := ?_) (a' := ?_) #[true, false, false, false, false, false, false, false, false, false, false, false, false, false] rfl rfl (any_of HT_.out (by kernel_rfl)) (fun _ _ _ h => h) (Or.inl ⟨by rfl, ?_⟩) ?_ ?_
                                 rotate_left
                                 ·intro w'
                                  go_simp
                                  with_reducible rfl
                                 rotate_left
                                 ·simp only [Act.put, List.setIfInBounds_toArray, List.set_cons_zero, List.set_cons_succ, i64_w, i32_w]
                                  rfl
                                 refine pure_ (i := 1) (N := some 95) (v := ?_) (a' := ?_) #[true, true, false, false, false, false, false, false, false, false, false, false, false, false] rfl rfl (any_of HT_.out (by kernel_rfl)) (fun _ _ _ h => h) (Or.inl ⟨by rfl, ?_⟩) ?_ ?_
                                 rotate_left
                                 ·intro w'
                                  go_simp
                                  with_reducible rfl
                                 rotate_left
                                 ·simp only [Act.put, List.setIfInBounds_toArray, List.set_cons_zero, List.set_cons_succ, i64_w, i32_w]
                                  rfl
                                 refine take_ (i := 2) (N := some 96) (v := ?_) (a' := ?_) #[true, true, true, false, false, false, false, false, false, false, false, false, false, false] rfl rfl (take_ofW HT_.out HW_.out (by kernel_rfl)) (fun _ _ _ h => h) (Or.inl ⟨by rfl, ?_⟩) hHeld ?_ ?_
                                 rotate_left
                                 ·intro w' _
                                  go_simp
                                  with_reducible rfl
                                 rotate_left
                                 ·simp only [Act.put, List.setIfInBounds_toArray, List.set_cons_zero, List.set_cons_succ, i64_w, i32_w]
                                  rfl
                                 refine pure_ (i := 3) (N := some 97) (v := ?_) (a' := ?_) #[true, true, true, true, false, false, false, false, false, false, false, false, false, false] rfl rfl (any_of HT_.out (by kernel_rfl)) (fun _ _ _ h => h) (Or.inl ⟨by rfl, ?_⟩) ?_ ?_
                                 rotate_left
                                 ·intro w'
                                  go_simp
                                  with_reducible rfl
                                 rotate_left
                                 ·simp only [Act.put, List.setIfInBounds_toArray, List.set_cons_zero, List.set_cons_succ, i64_w, i32_w]
                                  rfl
                                 refine pure_ (i := 4) (N := some 98) (v := ?_) (a' := ?_) #[true, true, true, true, true, false, false, false, false, false, false, false, false, false] rfl rfl (any_of HT_.out (by kernel_rfl)) (fun _ _ _ h => h) (Or.inl ⟨by rfl, ?_⟩) ?_ ?_
                                 rotate_left
                                 ·intro w'
                                  go_simp
                                  with_reducible rfl
                                 rotate_left
                                 ·simp only [Act.put, List.setIfInBounds_toArray, List.set_cons_zero, List.set_cons_succ, i64_w, i32_w]
                                  rfl
                                 refine pure_ (i := 5) (N := some 99) (v := undef) (a' := ?_) #[true, true, true, true, true, true, false, false, false, false, false, false, false, false] rfl rfl (any_of HT_.out (by kernel_rfl)) (fun _ _ _ h => h) (Or.inr ⟨by rfl, rfl⟩) ?_ ?_
                                 rotate_left
                                 ·simp only [Act.put, List.setIfInBounds_toArray, List.set_cons_zero, List.set_cons_succ, i64_w, i32_w]
                                  rfl
                                 refine pure_ (i := 6) (N := some 100) (v := undef) (a' := ?_) #[true, true, true, true, true, true, true, false, false, false, false, false, false, false] rfl rfl (any_of HT_.out (by kernel_rfl)) (fun _ _ _ h => h) (Or.inr ⟨by rfl, rfl⟩) ?_ ?_
                                 rotate_left
                                 ·simp only [Act.put, List.setIfInBounds_toArray, List.set_cons_zero, List.set_cons_succ, i64_w, i32_w]
                                  rfl
                                 refine pure_ (i := 7) (N := some 101) (v := undef) (a' := ?_) #[true, true, true, true, true, true, true, true, false, false, false, false, false, false] rfl rfl (any_of HT_.out (by kernel_rfl)) (fun _ _ _ h => h) (Or.inr ⟨by rfl, rfl⟩) ?_ ?_
                                 rotate_left
                                 ·simp only [Act.put, List.setIfInBounds_toArray, List.set_cons_zero, List.set_cons_succ, i64_w, i32_w]
                                  rfl
                                 refine pure_ (i := 8) (N := some 102) (v := undef) (a' := ?_) #[true, true, true, true, true, true, true, true, true, false, false, false, false, false] rfl rfl (any_of HT_.out (by kernel_rfl)) (fun _ _ _ h => h) (Or.inr ⟨by rfl, rfl⟩) ?_ ?_
                                 rotate_left
                                 ·simp only [Act.put, List.setIfInBounds_toArray, List.set_cons_zero, List.set_cons_succ, i64_w, i32_w]
                                  rfl
                                 refine pure_ (i := 9) (N := some 103) (v := undef) (a' := ?_) #[true, true, true, true, true, true, true, true, true, true, false, false, false, false] rfl rfl (any_of HT_.out (by kernel_rfl)) (fun _ _ _ h => h) (Or.inr ⟨by rfl, rfl⟩) ?_ ?_
                                 rotate_left
                                 ·simp only [Act.put, List.setIfInBounds_toArray, List.set_cons_zero, List.set_cons_succ, i64_w, i32_w]
                                  rfl
                                 refine pure_ (i := 10) (N := some 104) (v := undef) (a' := ?_) #[true, true, true, true, true, true, true, true, true, true, true, false, false, false] rfl rfl (any_of HT_.out (by kernel_rfl)) (fun _ _ _ h => h) (Or.inr ⟨by rfl, rfl⟩) ?_ ?_
                                 rotate_left
                                 ·simp only [Act.put, List.setIfInBounds_toArray, List.set_cons_zero, List.set_cons_succ, i64_w, i32_w]
                                  rfl
                                 refine pure_ (i := 11) (N := some 105) (v := undef) (a' := ?_) #[true, true, true, true, true, true, true, true, true, true, true, true, false, false] rfl rfl (any_of HT_.out (by kernel_rfl)) (fun _ _ _ h => h) (Or.inr ⟨by rfl, rfl⟩) ?_ ?_
                                 rotate_left
                                 ·simp only [Act.put, List.setIfInBounds_toArray, List.set_cons_zero, List.set_cons_succ, i64_w, i32_w]
                                  rfl
                                 refine pure_ (i := 12) (N := some 106) (v := ?_) (a' := ?_) #[true, true, true, true, true, true, true, true, true, true, true, true, true, false] rfl rfl (any_of HT_.out (by kernel_rfl)) (fun _ _ _ h => h) (Or.inl ⟨by rfl, ?_⟩) ?_ ?_
                                 rotate_left
                                 ·intro w'
                                  go_simp
                                  with_reducible rfl
                                 rotate_left
                                 ·simp only [Act.put, List.setIfInBounds_toArray, List.set_cons_zero, List.set_cons_succ, i64_w, i32_w]
                                  rfl
                                 refine pure_ (i := 13) (N := some 20) (v := ?_) (a' := ?_) #[true, true, true, true, true, true, true, true, true, true, true, true, true, true] rfl rfl (any_of HT_.out (by kernel_rfl)) (fun _ _ _ h => h) (Or.inl ⟨by rfl, ?_⟩) ?_ ?_
                                 rotate_left
                                 ·intro w'
                                  go_simp
                                  with_reducible rfl
                                 rotate_left
                                 ·simp only [Act.put, List.setIfInBounds_toArray, List.set_cons_zero, List.set_cons_succ, i64_w, i32_w]
                                  rfl
                                 refine done_ (done_of HT_.out (by kernel_rfl)) ?_
                                 try go_wp2
                                 have n0_ := Aside0.mk (Kd.R_drew HO_6.out)
                                 have n1_ := Aside0.mk (blk_drew BK172.out)
                                 have n2_ := Aside0.mk (Kd.C_drew HR188_0.out)
                                 have n3_ := Aside0.mk (Kept.drew HK.out)
                                 have n4_ := Aside0.mk (below_drew1 HB.out)
                                 clear HO_6
                                 clear BK172
                                 clear HR188_0
                                 clear HK
                                 clear HB
                                 have HO_6 := n0_
                                 have BK172 := n1_
                                 have HR188_0 := n2_
                                 have HK := n3_
                                 have HB := n4_
                                 clear n0_ n1_ n2_ n3_ n4_
                                 refine start_ (n := 15) (S := fun w' => True) (ds := []) #[false, false, false, false, false, false, false, false, false, false, false, false, false, false, false] (by kernel_rfl) rfl rfl trivial (fun hHeld => ?_); refine with_tabW spec_l13Search.tab17 spec_l13Search.bits17 (fun HT_ HW_ => ?_)
                                 generalize w62.drew = w63 at HO_6 BK172 HR188_0 HK HB hHeld ⊢
                                 refine pure_ (i := 0) (N := some 107) (v := ?_) (a' := ?_) #[true, false, false, false, false, false, false, false, false, false, false, false, false, false, false] rfl rfl (any_of HT_.out (by kernel_rfl)) (fun _ _ _ h => h) (Or.inl ⟨by rfl, ?_⟩) ?_ ?_
                                 rotate_left
                                 ·intro w'
                                  go_simp
                                  with_reducible rfl
                                 rotate_left
                                 ·simp only [Act.put, List.setIfInBounds_toArray, List.set_cons_zero, List.set_cons_succ, i64_w, i32_w]
                                  rfl
                                 refine pure_ (i := 1) (N := some 108) (v := ?_) (a' := ?_) #[true, true, false, false, false, false, false, false, false, false, false, false, false, false, false] rfl rfl (any_of HT_.out (by kernel_rfl)) (fun _ _ _ h => h) (Or.inl ⟨by rfl, ?_⟩) ?_ ?_
                                 rotate_left
                                 ·intro w'
                                  go_simp
                                  with_reducible rfl
                                 rotate_left
                                 ·simp only [Act.put, List.setIfInBounds_toArray, List.set_cons_zero, List.set_cons_succ, i64_w, i32_w]
                                  rfl
                                 refine pure_ (i := 2) (N := some 109) (v := ?_) (a' := ?_) #[true, true, true, false, false, false, false, false, false, false, false, false, false, false, false] rfl rfl (any_of HT_.out (by kernel_rfl)) (fun _ _ _ h => h) (Or.inl ⟨by rfl, ?_⟩) ?_ ?_
                                 rotate_left
                                 ·intro w'
                                  go_simp
                                  with_reducible rfl
                                 rotate_left
                                 ·simp only [Act.put, List.setIfInBounds_toArray, List.set_cons_zero, List.set_cons_succ, i64_w, i32_w]
                                  rfl
                                 refine pure_ (i := 3) (N := some 110) (v := ?_) (a' := ?_) #[true, true, true, true, false, false, false, false, false, false, false, false, false, false, false] rfl rfl (any_of HT_.out (by kernel_rfl)) (fun _ _ _ h => h) (Or.inl ⟨by rfl, ?_⟩) ?_ ?_
                                 rotate_left
                                 ·intro w'
                                  go_simp
                                  with_reducible rfl
                                 rotate_left
                                 ·simp only [Act.put, List.setIfInBounds_toArray, List.set_cons_zero, List.set_cons_succ, i64_w, i32_w]
                                  rfl
                                 refine pure_ (i := 4) (N := some 111) (v := ?_) (a' := ?_) #[true, true, true, true, true, false, false, false, false, false, false, false, false, false, false] rfl rfl (any_of HT_.out (by kernel_rfl)) (fun _ _ _ h => h) (Or.inl ⟨by rfl, ?_⟩) ?_ ?_
                                 rotate_left
                                 ·intro w'
                                  go_simp
                                  with_reducible rfl
                                 rotate_left
                                 ·simp only [Act.put, List.setIfInBounds_toArray, List.set_cons_zero, List.set_cons_succ, i64_w, i32_w]
                                  rfl
                                 refine pure_ (i := 5) (N := some 112) (v := ?_) (a' := ?_) #[true, true, true, true, true, true, false, false, false, false, false, false, false, false, false] rfl rfl (any_of HT_.out (by kernel_rfl)) (fun _ _ _ h => h) (Or.inl ⟨by rfl, ?_⟩) ?_ ?_
                                 rotate_left
                                 ·intro w'
                                  go_simp
                                  with_reducible rfl
                                 rotate_left
                                 ·simp only [Act.put, List.setIfInBounds_toArray, List.set_cons_zero, List.set_cons_succ, i64_w, i32_w]
                                  rfl
                                 refine pure_ (i := 6) (N := some 113) (v := ?_) (a' := ?_) #[true, true, true, true, true, true, true, false, false, false, false, false, false, false, false] rfl rfl (any_of HT_.out (by kernel_rfl)) (fun _ _ _ h => h) (Or.inl ⟨by rfl, ?_⟩) ?_ ?_
                                 rotate_left
                                 ·intro w'
                                  go_simp
                                  with_reducible rfl
                                 rotate_left
                                 ·simp only [Act.put, List.setIfInBounds_toArray, List.set_cons_zero, List.set_cons_succ, i64_w, i32_w]
                                  rfl
                                 refine pure_ (i := 7) (N := some 114) (v := ?_) (a' := ?_) #[true, true, true, true, true, true, true, true, false, false, false, false, false, false, false] rfl rfl (any_of HT_.out (by kernel_rfl)) (fun _ _ _ h => h) (Or.inl ⟨by rfl, ?_⟩) ?_ ?_
                                 rotate_left
                                 ·intro w'
                                  go_simp
                                  with_reducible rfl
                                 rotate_left
                                 ·simp only [Act.put, List.setIfInBounds_toArray, List.set_cons_zero, List.set_cons_succ, i64_w, i32_w]
                                  rfl
                                 refine pure_ (i := 8) (N := some 115) (v := ?_) (a' := ?_) #[true, true, true, true, true, true, true, true, true, false, false, false, false, false, false] rfl rfl (any_of HT_.out (by kernel_rfl)) (fun _ _ _ h => h) (Or.inl ⟨by rfl, ?_⟩) ?_ ?_
                                 rotate_left
                                 ·intro w'
                                  go_simp
                                  with_reducible rfl
                                 rotate_left
                                 ·simp only [Act.put, List.setIfInBounds_toArray, List.set_cons_zero, List.set_cons_succ, i64_w, i32_w]
                                  rfl
                                 refine pure_ (i := 9) (N := some 116) (v := ?_) (a' := ?_) #[true, true, true, true, true, true, true, true, true, true, false, false, false, false, false] rfl rfl (any_of HT_.out (by kernel_rfl)) (fun _ _ _ h => h) (Or.inl ⟨by rfl, ?_⟩) ?_ ?_
                                 rotate_left
                                 ·intro w'
                                  go_simp
                                  with_reducible rfl
                                 rotate_left
                                 ·simp only [Act.put, List.setIfInBounds_toArray, List.set_cons_zero, List.set_cons_succ, i64_w, i32_w]
                                  rfl
                                 refine pure_ (i := 10) (N := some 117) (v := ?_) (a' := ?_) #[true, true, true, true, true, true, true, true, true, true, true, false, false, false, false] rfl rfl (any_of HT_.out (by kernel_rfl)) (fun _ _ _ h => h) (Or.inl ⟨by rfl, ?_⟩) ?_ ?_
                                 rotate_left
                                 ·intro w'
                                  go_simp
                                  with_reducible rfl
                                 rotate_left
                                 ·simp only [Act.put, List.setIfInBounds_toArray, List.set_cons_zero, List.set_cons_succ, i64_w, i32_w]
                                  rfl
                                 refine pure_ (i := 11) (N := some 118) (v := ?_) (a' := ?_) #[true, true, true, true, true, true, true, true, true, true, true, true, false, false, false] rfl rfl (any_of HT_.out (by kernel_rfl)) (fun _ _ _ h => h) (Or.inl ⟨by rfl, ?_⟩) ?_ ?_
                                 rotate_left
                                 ·intro w'
                                  go_simp
                                  with_reducible rfl
                                 rotate_left
                                 ·simp only [Act.put, List.setIfInBounds_toArray, List.set_cons_zero, List.set_cons_succ, i64_w, i32_w]
                                  rfl
                                 refine pure_ (i := 12) (N := some 119) (v := ?_) (a' := ?_) #[true, true, true, true, true, true, true, true, true, true, true, true, true, false, false] rfl rfl (any_of HT_.out (by kernel_rfl)) (fun _ _ _ h => h) (Or.inl ⟨by rfl, ?_⟩) ?_ ?_
                                 rotate_left
                                 ·intro w'
                                  go_simp
                                  with_reducible rfl
                                 rotate_left
                                 ·simp only [Act.put, List.setIfInBounds_toArray, List.set_cons_zero, List.set_cons_succ, i64_w, i32_w]
                                  rfl
                                 refine pure_ (i := 13) (N := some 120) (v := ?_) (a' := ?_) #[true, true, true, true, true, true, true, true, true, true, true, true, true, true, false] rfl rfl (any_of HT_.out (by kernel_rfl)) (fun _ _ _ h => h) (Or.inl ⟨by rfl, ?_⟩) ?_ ?_
                                 rotate_left
                                 ·intro w'
                                  go_simp
                                  with_reducible rfl
                                 rotate_left
                                 ·simp only [Act.put, List.setIfInBounds_toArray, List.set_cons_zero, List.set_cons_succ, i64_w, i32_w]
                                  rfl
                                 refine pure_ (i := 14) (N := some 19) (v := ?_) (a' := ?_) #[true, true, true, true, true, true, true, true, true, true, true, true, true, true, true] rfl rfl (any_of HT_.out (by kernel_rfl)) (fun _ _ _ h => h) (Or.inl ⟨by rfl, ?_⟩) ?_ ?_
                                 rotate_left
                                 ·intro w'
                                  go_simp
                                  with_reducible rfl
                                 rotate_left
                                 ·simp only [Act.put, List.setIfInBounds_toArray, List.set_cons_zero, List.set_cons_succ, i64_w, i32_w]
                                  rfl
                                 refine done_ (done_of HT_.out (by kernel_rfl)) ?_
                                 try go_wp2
                                 go_roundg k4
                                 case measure => have := HK1.out; have := HJ21.out; have := HJ27.out; have := HK4.out; omega
                                 case rel => exact ⟨(((x19_4.extract 0 ((rd (rd_L4 l1 a4) x21_4) : Int).toNat) ++ ((rdOf ByteArray.empty l3 x17_1).extract (x21_4 : Int).toNat ((wrap64 (x21_4 + 1)) : Int).toNat)) ++ (x19_4.extract ((ji58) : Int).toNat x19_4.size)), (true), (wrap64 (x21_4 + 1)), (by first | rfl | (simp; done) | (simp only [← hji58] <;> (first | rfl | simp)) | (simp [*]; done)), (by first | rfl | (simp; done) | (simp [*]; done)), (by first | rfl | (simp; done) | (simp [*]; done)), H', ⟨by have := HK1.out; have := HJ21.out; have := HJ27.out; have := HK4.out; omega⟩, ⟨by (with_reducible repeat (first | apply Kd.R_alloc | apply Kd.R_drewN | apply Kd.R_drew)); exact HO_6.out⟩, ⟨by (with_reducible repeat (first | refine blk_drewN ?_ _ | refine blk_drew ?_ | refine blk_alloc ?_ _)); exact BK172.out⟩, ⟨by repeat (first | (with_reducible first | exact HK.out | apply Kept.alloc | apply Kept.drewN | apply Kept.drew | refine Kept.setCell ?_ (.inr GW172.out) _) | exact HK.out)⟩, ⟨by repeat (first | (with_reducible first | exact HB.out | apply below_alloc | apply pw_below_drewN | apply below_drew1 | refine below_set ?_ GE172.out) | exact HB.out)⟩⟩
                                ·rw [if_neg c61] at H
                                 exact absurd H (by simp)
                               ·rw [if_neg c60] at H
                                exact absurd H (by simp)
                              ·rw [if_neg c59] at H
                               exact absurd H (by simp)
                             ·rw [if_neg c57] at H
                              exact absurd H (by simp)
                            ·rw [if_neg c56] at H
                             exact absurd H (by simp)
                           ·rw [if_neg c55] at H
                            exact absurd H (by simp)
                          ·rw [if_neg c53] at H
                           exact absurd H (by simp)
                         ·rw [if_neg c51] at H
                          have c51b0 : ((bt x19_4 (rd (rd_L4 l1 a4) x21_4)) == 63) = false := beq_eq_false_iff_ne.mpr c51
                          have c51b1 : ((bt x19_4 (rd (rd_L4 l1 a4) x21_4)) != 63) = true := bne_iff_ne.mpr c51
                          have c66b0 := eq_true (of_decide_eq_true (by first | (with_reducible assumption) | assumption) : 0 ≤ (rd (rd_L4 l1 a4) x21_4))
                          by_cases c67 : (rd (rd_L4 l1 a4) x21_4) ≤ (x19_4.size : Int)
                          ·rw [if_pos c67] at H
                           have c67b0 := eq_true c67
                           have c67b1 : decide ((rd (rd_L4 l1 a4) x21_4) ≤ (x19_4.size : Int)) = true := decide_eq_true c67
                           clear c67
                           have c68b0 := eq_true (of_decide_eq_true (by first | (with_reducible assumption) | assumption) : 0 ≤ x21_4)
                           by_cases c69 : x21_4 ≤ (wrap64 (x21_4 + 1))
                           ·rw [if_pos c69] at H
                            have c69b0 := eq_true c69
                            have c69b1 : decide (x21_4 ≤ (wrap64 (x21_4 + 1))) = true := decide_eq_true c69
                            by_cases c70 : (wrap64 (x21_4 + 1)) ≤ ((rdOf ByteArray.empty l3 x17_1).size : Int)
                            ·rw [if_pos c70] at H
                             have c70b0 := eq_true c70
                             have c70b1 : decide ((wrap64 (x21_4 + 1)) ≤ ((rdOf ByteArray.empty l3 x17_1).size : Int)) = true := decide_eq_true c70
                             by_cases c71 : (x19_4.extract 0 ((rd (rd_L4 l1 a4) x21_4) : Int).toNat).size + ((rdOf ByteArray.empty l3 x17_1).extract (x21_4 : Int).toNat ((wrap64 (x21_4 + 1)) : Int).toNat).size ≤ 9223372036854775807
                             ·rw [if_pos c71] at H
                              have c71b0 := eq_true c71
                              have c71b1 : decide ((x19_4.extract 0 ((rd (rd_L4 l1 a4) x21_4) : Int).toNat).size + ((rdOf ByteArray.empty l3 x17_1).extract (x21_4 : Int).toNat ((wrap64 (x21_4 + 1)) : Int).toNat).size ≤ 9223372036854775807) = true := decide_eq_true c71
                              try have c71b2 : (9223372036854775807 < (x19_4.extract 0 ((rd (rd_L4 l1 a4) x21_4) : Int).toNat).size + ((rdOf ByteArray.empty l3 x17_1).extract (x21_4 : Int).toNat ((wrap64 (x21_4 + 1)) : Int).toNat).size) = False := eq_false (Nat.not_lt.2 c71)
                              try have c71b3 : (9223372036854775807 < (rd (rd_L4 l1 a4) x21_4).toNat + ((wrap64 (x21_4 + 1)).toNat - x21_4.toNat)) = False := eq_false (by have q0_ : (wrap64 (x21_4 + 1) : Int) ≤ ((rdOf ByteArray.empty l3 x17_1).size : Int) := of_decide_eq_true (by first | (with_reducible assumption) | assumption); have q1_ : (rd (rd_L4 l1 a4) x21_4 : Int) ≤ (x19_4.size : Int) := of_decide_eq_true (by first | (with_reducible assumption) | assumption); have h_ := c71; simp only [ByteArray.size_append, ByteArray.size_extract] at h_; omega)
                              obtain ⟨ji72, hji72⟩ : ∃ j_ : Int, (wrap64 ((rd (rd_L4 l1 a4) x21_4) + 1)) = j_ := ⟨_, rfl⟩
                              replace H : (if 0 ≤ (ji72) then (if (ji72) ≤ (x19_4.size : Int) then (if ((x19_4.extract 0 ((rd (rd_L4 l1 a4) x21_4) : Int).toNat) ++ ((rdOf ByteArray.empty l3 x17_1).extract (x21_4 : Int).toNat ((wrap64 (x21_4 + 1)) : Int).toNat)).size + (x19_4.extract ((ji72) : Int).toNat x19_4.size).size ≤ 9223372036854775807 then (spec_l13Search.l1 k4 l1 a2 l3 a4 l5 x6_1 a7 x17_1 (rdOf ByteArray.empty l3 x17_1) (((x19_4.extract 0 ((rd (rd_L4 l1 a4) x21_4) : Int).toNat) ++ ((rdOf ByteArray.empty l3 x17_1).extract (x21_4 : Int).toNat ((wrap64 (x21_4 + 1)) : Int).toNat)) ++ (x19_4.extract ((ji72) : Int).toNat x19_4.size)) ((bt x19_4 (rd (rd_L4 l1 a4) x21_4)) == (bt (rdOf ByteArray.empty l3 x17_1) x21_4)) (wrap64 (x21_4 + 1)) a0_0 a0_1 a0_2) else (none)) else (none)) else (none)) = some r := by first | (rw [hji72] at H; exact H) | (simp only [hji72] at H ⊢; exact H)
                              have hji72w : (IntKind.i64.wrap ((rd (rd_L4 l1 a4) x21_4) + 1)) = ji72 := (i64_w _).trans hji72
                              by_cases c73 : 0 ≤ (ji72)
                              ·rw [if_pos c73] at H
                               have c73b0 := eq_true c73
                               have c73b1 : decide (0 ≤ (ji72)) = true := decide_eq_true c73
                               clear c73
                               by_cases c74 : (ji72) ≤ (x19_4.size : Int)
                               ·rw [if_pos c74] at H
                                have c74b0 := eq_true c74
                                have c74b1 : decide ((ji72) ≤ (x19_4.size : Int)) = true := decide_eq_true c74
                                clear c74
                                by_cases c75 : ((x19_4.extract 0 ((rd (rd_L4 l1 a4) x21_4) : Int).toNat) ++ ((rdOf ByteArray.empty l3 x17_1).extract (x21_4 : Int).toNat ((wrap64 (x21_4 + 1)) : Int).toNat)).size + (x19_4.extract ((ji72) : Int).toNat x19_4.size).size ≤ 9223372036854775807
                                ·rw [if_pos c75] at H
                                 have c75b0 := eq_true c75
                                 have c75b1 : decide (((x19_4.extract 0 ((rd (rd_L4 l1 a4) x21_4) : Int).toNat) ++ ((rdOf ByteArray.empty l3 x17_1).extract (x21_4 : Int).toNat ((wrap64 (x21_4 + 1)) : Int).toNat)).size + (x19_4.extract ((ji72) : Int).toNat x19_4.size).size ≤ 9223372036854775807) = true := decide_eq_true c75
                                 try have c75b2 : (9223372036854775807 < ((x19_4.extract 0 ((rd (rd_L4 l1 a4) x21_4) : Int).toNat) ++ ((rdOf ByteArray.empty l3 x17_1).extract (x21_4 : Int).toNat ((wrap64 (x21_4 + 1)) : Int).toNat)).size + (x19_4.extract ((ji72) : Int).toNat x19_4.size).size) = False := eq_false (Nat.not_lt.2 c75)
                                 try have c75b3 : (9223372036854775807 < (rd (rd_L4 l1 a4) x21_4).toNat + ((wrap64 (x21_4 + 1)).toNat - x21_4.toNat) + (x19_4.size - ji72.toNat)) = False := eq_false (by have q0_ : (wrap64 (x21_4 + 1) : Int) ≤ ((rdOf ByteArray.empty l3 x17_1).size : Int) := of_decide_eq_true (by first | (with_reducible assumption) | assumption); have q1_ : (ji72 : Int) ≤ (x19_4.size : Int) := of_decide_eq_true (by first | (with_reducible assumption) | assumption); have q2_ : (rd (rd_L4 l1 a4) x21_4 : Int) ≤ (x19_4.size : Int) := of_decide_eq_true (by first | (with_reducible assumption) | assumption); have h_ := c75; simp only [ByteArray.size_append, ByteArray.size_extract] at h_; omega)
                                 have H' := Aside0.mk H
                                 clear H
                                 have p188 : 0 ≤ (a4 : Int) := of_decide_eq_true (by first | (with_reducible assumption) | assumption)
                                 have q188 : a4 < (l1.length : Int) := of_decide_eq_true (by first | (with_reducible assumption) | assumption)
                                 obtain ⟨ad188, A188_0, c188_0, e188, hx188_0, hl188_0, hi188_0⟩ := at_L4 (Kd.C_kept_now HR1.out HK.out) a4 p188 q188
                                 cases e188
                                 have HR188_0 := Aside0.mk hi188_0
                                 have HC188_0 := Aside0.mk hl188_0
                                 clear hi188_0 hl188_0
                                 replace p188 := eq_true p188
                                 replace q188 := eq_true q188
                                 have p189 : 0 ≤ (x21_4 : Int) := of_decide_eq_true (by first | (with_reducible assumption) | assumption)
                                 have q189 : x21_4 < ((rd_L4 l1 a4).length : Int) := of_decide_eq_true (by first | (with_reducible assumption) | assumption)
                                 obtain ⟨ad189, e189, hx189_0⟩ := Kd.at_int (by repeat (first | (with_reducible exact HR188_0.out) | (with_reducible refine Kd.C_alloc ?_ _) | (with_reducible refine Kd.C_drewN ?_ _) | (with_reducible refine Kd.C_drew ?_) | exact HR188_0.out)) x21_4 p189 q189
                                 cases e189
                                 replace p189 := eq_true p189
                                 replace q189 := eq_true q189
                                 try go_wp2
                                 have n0_ := Aside0.mk (Kd.R_drew HO_6.out)
                                 have n1_ := Aside0.mk (blk_drew BK172.out)
                                 have n2_ := Aside0.mk (Kd.C_drew HR188_0.out)
                                 have n3_ := Aside0.mk (Kept.drew HK.out)
                                 have n4_ := Aside0.mk (below_drew1 HB.out)
                                 clear HO_6
                                 clear BK172
                                 clear HR188_0
                                 clear HK
                                 clear HB
                                 have HO_6 := n0_
                                 have BK172 := n1_
                                 have HR188_0 := n2_
                                 have HK := n3_
                                 have HB := n4_
                                 clear n0_ n1_ n2_ n3_ n4_
                                 have p50 : 0 ≤ ((rd (rd_L4 l1 a4) x21_4) : Int) := of_decide_eq_true (by first | (with_reducible assumption) | assumption)
                                 have q50 : (rd (rd_L4 l1 a4) x21_4) < (x19_4.size : Int) := of_decide_eq_true (by first | (with_reducible assumption) | assumption)
                                 have hx50 := bt_at x19_4 (rd (rd_L4 l1 a4) x21_4)
                                 replace p50 := eq_true p50
                                 replace q50 := eq_true q50
                                 have p64 : 0 ≤ ((rd (rd_L4 l1 a4) x21_4) : Int) := of_decide_eq_true (by first | (with_reducible assumption) | assumption)
                                 have q64 : (rd (rd_L4 l1 a4) x21_4) < (x19_4.size : Int) := of_decide_eq_true (by first | (with_reducible assumption) | assumption)
                                 have hx64 := bt_at x19_4 (rd (rd_L4 l1 a4) x21_4)
                                 replace p64 := eq_true p64
                                 replace q64 := eq_true q64
                                 have p65 : 0 ≤ (x21_4 : Int) := of_decide_eq_true (by first | (with_reducible assumption) | assumption)
                                 have q65 : x21_4 < ((rdOf ByteArray.empty l3 x17_1).size : Int) := of_decide_eq_true (by first | (with_reducible assumption) | assumption)
                                 have hx65 := bt_at (rdOf ByteArray.empty l3 x17_1) x21_4
                                 replace p65 := eq_true p65
                                 replace q65 := eq_true q65
                                 refine start_ (n := 14) (S := fun w' => True) (ds := []) #[false, false, false, false, false, false, false, false, false, false, false, false, false, false] (by kernel_rfl) rfl rfl trivial (fun hHeld => ?_); refine with_tabW spec_l13Search.tab16 spec_l13Search.bits16 (fun HT_ HW_ => ?_)
                                 generalize wr.drew = w76 at HO_6 BK172 HR188_0 HK HB hHeld ⊢
                                 refine pure_ (i := 0) (N := some 94) (v := ?_) (a' := ?_) #[true, false, false, false, false, false, false, false, false, false, false, false, false, false] rfl rfl (any_of HT_.out (by kernel_rfl)) (fun _ _ _ h => h) (Or.inl ⟨by rfl, ?_⟩) ?_ ?_
                                 rotate_left
                                 ·intro w'
                                  go_simp
                                  with_reducible rfl
                                 rotate_left
                                 ·simp only [Act.put, List.setIfInBounds_toArray, List.set_cons_zero, List.set_cons_succ, i64_w, i32_w]
                                  rfl
                                 refine pure_ (i := 1) (N := some 95) (v := ?_) (a' := ?_) #[true, true, false, false, false, false, false, false, false, false, false, false, false, false] rfl rfl (any_of HT_.out (by kernel_rfl)) (fun _ _ _ h => h) (Or.inl ⟨by rfl, ?_⟩) ?_ ?_
                                 rotate_left
                                 ·intro w'
                                  go_simp
                                  with_reducible rfl
                                 rotate_left
                                 ·simp only [Act.put, List.setIfInBounds_toArray, List.set_cons_zero, List.set_cons_succ, i64_w, i32_w]
                                  rfl
                                 refine take_ (i := 2) (N := some 96) (v := ?_) (a' := ?_) #[true, true, true, false, false, false, false, false, false, false, false, false, false, false] rfl rfl (take_ofW HT_.out HW_.out (by kernel_rfl)) (fun _ _ _ h => h) (Or.inl ⟨by rfl, ?_⟩) hHeld ?_ ?_
                                 rotate_left
                                 ·intro w' _
                                  go_simp
                                  with_reducible rfl
                                 rotate_left
                                 ·simp only [Act.put, List.setIfInBounds_toArray, List.set_cons_zero, List.set_cons_succ, i64_w, i32_w]
                                  rfl
                                 refine pure_ (i := 3) (N := some 97) (v := ?_) (a' := ?_) #[true, true, true, true, false, false, false, false, false, false, false, false, false, false] rfl rfl (any_of HT_.out (by kernel_rfl)) (fun _ _ _ h => h) (Or.inl ⟨by rfl, ?_⟩) ?_ ?_
                                 rotate_left
                                 ·intro w'
                                  go_simp
                                  with_reducible rfl
                                 rotate_left
                                 ·simp only [Act.put, List.setIfInBounds_toArray, List.set_cons_zero, List.set_cons_succ, i64_w, i32_w]
                                  rfl
                                 refine pure_ (i := 4) (N := some 98) (v := ?_) (a' := ?_) #[true, true, true, true, true, false, false, false, false, false, false, false, false, false] rfl rfl (any_of HT_.out (by kernel_rfl)) (fun _ _ _ h => h) (Or.inl ⟨by rfl, ?_⟩) ?_ ?_
                                 rotate_left
                                 ·intro w'
                                  go_simp
                                  with_reducible rfl
                                 rotate_left
                                 ·simp only [Act.put, List.setIfInBounds_toArray, List.set_cons_zero, List.set_cons_succ, i64_w, i32_w]
                                  rfl
                                 refine pure_ (i := 5) (N := some 99) (v := ?_) (a' := ?_) #[true, true, true, true, true, true, false, false, false, false, false, false, false, false] rfl rfl (any_of HT_.out (by kernel_rfl)) (fun _ _ _ h => h) (Or.inl ⟨by rfl, ?_⟩) ?_ ?_
                                 rotate_left
                                 ·intro w'
                                  go_simp
                                  with_reducible rfl
                                 rotate_left
                                 ·simp only [Act.put, List.setIfInBounds_toArray, List.set_cons_zero, List.set_cons_succ, i64_w, i32_w]
                                  rfl
                                 refine pure_ (i := 6) (N := some 100) (v := ?_) (a' := ?_) #[true, true, true, true, true, true, true, false, false, false, false, false, false, false] rfl rfl (any_of HT_.out (by kernel_rfl)) (fun _ _ _ h => h) (Or.inl ⟨by rfl, ?_⟩) ?_ ?_
                                 rotate_left
                                 ·intro w'
                                  go_simp
                                  with_reducible rfl
                                 rotate_left
                                 ·simp only [Act.put, List.setIfInBounds_toArray, List.set_cons_zero, List.set_cons_succ, i64_w, i32_w]
                                  rfl
                                 refine pure_ (i := 8) (N := some 102) (v := ?_) (a' := ?_) #[true, true, true, true, true, true, true, false, true, false, false, false, false, false] rfl rfl (any_of HT_.out (by kernel_rfl)) (fun _ _ _ h => h) (Or.inl ⟨by rfl, ?_⟩) ?_ ?_
                                 rotate_left
                                 ·intro w'
                                  go_simp
                                  with_reducible rfl
                                 rotate_left
                                 ·simp only [Act.put, List.setIfInBounds_toArray, List.set_cons_zero, List.set_cons_succ, i64_w, i32_w]
                                  rfl
                                 refine pure_ (i := 9) (N := some 103) (v := ?_) (a' := ?_) #[true, true, true, true, true, true, true, false, true, true, false, false, false, false] rfl rfl (any_of HT_.out (by kernel_rfl)) (fun _ _ _ h => h) (Or.inl ⟨by rfl, ?_⟩) ?_ ?_
                                 rotate_left
                                 ·intro w'
                                  go_simp
                                  with_reducible rfl
                                 rotate_left
                                 ·simp only [Act.put, List.setIfInBounds_toArray, List.set_cons_zero, List.set_cons_succ, i64_w, i32_w]
                                  rfl
                                 refine take_ (i := 7) (N := some 101) (v := ?_) (a' := ?_) #[true, true, true, true, true, true, true, true, true, true, false, false, false, false] rfl rfl (take_ofW HT_.out HW_.out (by kernel_rfl)) (fun _ _ _ h => h) (Or.inl ⟨by rfl, ?_⟩) hHeld ?_ ?_
                                 rotate_left
                                 ·intro w' _
                                  go_simp
                                  with_reducible rfl
                                 rotate_left
                                 ·simp only [Act.put, List.setIfInBounds_toArray, List.set_cons_zero, List.set_cons_succ, i64_w, i32_w]
                                  rfl
                                 refine take_ (i := 10) (N := some 104) (v := ?_) (a' := ?_) #[true, true, true, true, true, true, true, true, true, true, true, false, false, false] rfl rfl (take_ofW HT_.out HW_.out (by kernel_rfl)) (fun _ _ _ h => h) (Or.inl ⟨by rfl, ?_⟩) hHeld ?_ ?_
                                 rotate_left
                                 ·intro w' _
                                  go_simp
                                  with_reducible rfl
                                 rotate_left
                                 ·simp only [Act.put, List.setIfInBounds_toArray, List.set_cons_zero, List.set_cons_succ, i64_w, i32_w]
                                  rfl
                                 refine pure_ (i := 11) (N := some 105) (v := ?_) (a' := ?_) #[true, true, true, true, true, true, true, true, true, true, true, true, false, false] rfl rfl (any_of HT_.out (by kernel_rfl)) (fun _ _ _ h => h) (Or.inl ⟨by rfl, ?_⟩) ?_ ?_
                                 rotate_left
                                 ·intro w'
                                  go_simp
                                  with_reducible rfl
                                 rotate_left
                                 ·simp only [Act.put, List.setIfInBounds_toArray, List.set_cons_zero, List.set_cons_succ, i64_w, i32_w]
                                  rfl
                                 refine pure_ (i := 12) (N := some 106) (v := ?_) (a' := ?_) #[true, true, true, true, true, true, true, true, true, true, true, true, true, false] rfl rfl (any_of HT_.out (by kernel_rfl)) (fun _ _ _ h => h) (Or.inl ⟨by rfl, ?_⟩) ?_ ?_
                                 rotate_left
                                 ·intro w'
                                  go_simp
                                  with_reducible rfl
                                 rotate_left
                                 ·simp only [Act.put, List.setIfInBounds_toArray, List.set_cons_zero, List.set_cons_succ, i64_w, i32_w]
                                  rfl
                                 refine pure_ (i := 13) (N := some 20) (v := ?_) (a' := ?_) #[true, true, true, true, true, true, true, true, true, true, true, true, true, true] rfl rfl (any_of HT_.out (by kernel_rfl)) (fun _ _ _ h => h) (Or.inl ⟨by rfl, ?_⟩) ?_ ?_
                                 rotate_left
                                 ·intro w'
                                  go_simp
                                  with_reducible rfl
                                 rotate_left
                                 ·simp only [Act.put, List.setIfInBounds_toArray, List.set_cons_zero, List.set_cons_succ, i64_w, i32_w]
                                  rfl
                                 refine done_ (done_of HT_.out (by kernel_rfl)) ?_
                                 try go_wp2
                                 have n0_ := Aside0.mk (Kd.R_drew HO_6.out)
                                 have n1_ := Aside0.mk (blk_drew BK172.out)
                                 have n2_ := Aside0.mk (Kd.C_drew HR188_0.out)
                                 have n3_ := Aside0.mk (Kept.drew HK.out)
                                 have n4_ := Aside0.mk (below_drew1 HB.out)
                                 clear HO_6
                                 clear BK172
                                 clear HR188_0
                                 clear HK
                                 clear HB
                                 have HO_6 := n0_
                                 have BK172 := n1_
                                 have HR188_0 := n2_
                                 have HK := n3_
                                 have HB := n4_
                                 clear n0_ n1_ n2_ n3_ n4_
                                 refine start_ (n := 15) (S := fun w' => True) (ds := []) #[false, false, false, false, false, false, false, false, false, false, false, false, false, false, false] (by kernel_rfl) rfl rfl trivial (fun hHeld => ?_); refine with_tabW spec_l13Search.tab17 spec_l13Search.bits17 (fun HT_ HW_ => ?_)
                                 generalize w76.drew = w77 at HO_6 BK172 HR188_0 HK HB hHeld ⊢
                                 refine pure_ (i := 0) (N := some 107) (v := ?_) (a' := ?_) #[true, false, false, false, false, false, false, false, false, false, false, false, false, false, false] rfl rfl (any_of HT_.out (by kernel_rfl)) (fun _ _ _ h => h) (Or.inl ⟨by rfl, ?_⟩) ?_ ?_
                                 rotate_left
                                 ·intro w'
                                  go_simp
                                  with_reducible rfl
                                 rotate_left
                                 ·simp only [Act.put, List.setIfInBounds_toArray, List.set_cons_zero, List.set_cons_succ, i64_w, i32_w]
                                  rfl
                                 refine pure_ (i := 1) (N := some 108) (v := ?_) (a' := ?_) #[true, true, false, false, false, false, false, false, false, false, false, false, false, false, false] rfl rfl (any_of HT_.out (by kernel_rfl)) (fun _ _ _ h => h) (Or.inl ⟨by rfl, ?_⟩) ?_ ?_
                                 rotate_left
                                 ·intro w'
                                  go_simp
                                  with_reducible rfl
                                 rotate_left
                                 ·simp only [Act.put, List.setIfInBounds_toArray, List.set_cons_zero, List.set_cons_succ, i64_w, i32_w]
                                  rfl
                                 refine pure_ (i := 2) (N := some 109) (v := ?_) (a' := ?_) #[true, true, true, false, false, false, false, false, false, false, false, false, false, false, false] rfl rfl (any_of HT_.out (by kernel_rfl)) (fun _ _ _ h => h) (Or.inl ⟨by rfl, ?_⟩) ?_ ?_
                                 rotate_left
                                 ·intro w'
                                  go_simp
                                  with_reducible rfl
                                 rotate_left
                                 ·simp only [Act.put, List.setIfInBounds_toArray, List.set_cons_zero, List.set_cons_succ, i64_w, i32_w]
                                  rfl
                                 refine pure_ (i := 3) (N := some 110) (v := ?_) (a' := ?_) #[true, true, true, true, false, false, false, false, false, false, false, false, false, false, false] rfl rfl (any_of HT_.out (by kernel_rfl)) (fun _ _ _ h => h) (Or.inl ⟨by rfl, ?_⟩) ?_ ?_
                                 rotate_left
                                 ·intro w'
                                  go_simp
                                  with_reducible rfl
                                 rotate_left
                                 ·simp only [Act.put, List.setIfInBounds_toArray, List.set_cons_zero, List.set_cons_succ, i64_w, i32_w]
                                  rfl
                                 refine pure_ (i := 4) (N := some 111) (v := ?_) (a' := ?_) #[true, true, true, true, true, false, false, false, false, false, false, false, false, false, false] rfl rfl (any_of HT_.out (by kernel_rfl)) (fun _ _ _ h => h) (Or.inl ⟨by rfl, ?_⟩) ?_ ?_
                                 rotate_left
                                 ·intro w'
                                  go_simp
                                  with_reducible rfl
                                 rotate_left
                                 ·simp only [Act.put, List.setIfInBounds_toArray, List.set_cons_zero, List.set_cons_succ, i64_w, i32_w]
                                  rfl
                                 refine pure_ (i := 5) (N := some 112) (v := ?_) (a' := ?_) #[true, true, true, true, true, true, false, false, false, false, false, false, false, false, false] rfl rfl (any_of HT_.out (by kernel_rfl)) (fun _ _ _ h => h) (Or.inl ⟨by rfl, ?_⟩) ?_ ?_
                                 rotate_left
                                 ·intro w'
                                  go_simp
                                  with_reducible rfl
                                 rotate_left
                                 ·simp only [Act.put, List.setIfInBounds_toArray, List.set_cons_zero, List.set_cons_succ, i64_w, i32_w]
                                  rfl
                                 refine pure_ (i := 6) (N := some 113) (v := ?_) (a' := ?_) #[true, true, true, true, true, true, true, false, false, false, false, false, false, false, false] rfl rfl (any_of HT_.out (by kernel_rfl)) (fun _ _ _ h => h) (Or.inl ⟨by rfl, ?_⟩) ?_ ?_
                                 rotate_left
                                 ·intro w'
                                  go_simp
                                  with_reducible rfl
                                 rotate_left
                                 ·simp only [Act.put, List.setIfInBounds_toArray, List.set_cons_zero, List.set_cons_succ, i64_w, i32_w]
                                  rfl
                                 refine pure_ (i := 7) (N := some 114) (v := ?_) (a' := ?_) #[true, true, true, true, true, true, true, true, false, false, false, false, false, false, false] rfl rfl (any_of HT_.out (by kernel_rfl)) (fun _ _ _ h => h) (Or.inl ⟨by rfl, ?_⟩) ?_ ?_
                                 rotate_left
                                 ·intro w'
                                  go_simp
                                  with_reducible rfl
                                 rotate_left
                                 ·simp only [Act.put, List.setIfInBounds_toArray, List.set_cons_zero, List.set_cons_succ, i64_w, i32_w]
                                  rfl
                                 refine pure_ (i := 8) (N := some 115) (v := ?_) (a' := ?_) #[true, true, true, true, true, true, true, true, true, false, false, false, false, false, false] rfl rfl (any_of HT_.out (by kernel_rfl)) (fun _ _ _ h => h) (Or.inl ⟨by rfl, ?_⟩) ?_ ?_
                                 rotate_left
                                 ·intro w'
                                  go_simp
                                  with_reducible rfl
                                 rotate_left
                                 ·simp only [Act.put, List.setIfInBounds_toArray, List.set_cons_zero, List.set_cons_succ, i64_w, i32_w]
                                  rfl
                                 refine pure_ (i := 9) (N := some 116) (v := ?_) (a' := ?_) #[true, true, true, true, true, true, true, true, true, true, false, false, false, false, false] rfl rfl (any_of HT_.out (by kernel_rfl)) (fun _ _ _ h => h) (Or.inl ⟨by rfl, ?_⟩) ?_ ?_
                                 rotate_left
                                 ·intro w'
                                  go_simp
                                  with_reducible rfl
                                 rotate_left
                                 ·simp only [Act.put, List.setIfInBounds_toArray, List.set_cons_zero, List.set_cons_succ, i64_w, i32_w]
                                  rfl
                                 refine pure_ (i := 10) (N := some 117) (v := ?_) (a' := ?_) #[true, true, true, true, true, true, true, true, true, true, true, false, false, false, false] rfl rfl (any_of HT_.out (by kernel_rfl)) (fun _ _ _ h => h) (Or.inl ⟨by rfl, ?_⟩) ?_ ?_
                                 rotate_left
                                 ·intro w'
                                  go_simp
                                  with_reducible rfl
                                 rotate_left
                                 ·simp only [Act.put, List.setIfInBounds_toArray, List.set_cons_zero, List.set_cons_succ, i64_w, i32_w]
                                  rfl
                                 refine pure_ (i := 11) (N := some 118) (v := ?_) (a' := ?_) #[true, true, true, true, true, true, true, true, true, true, true, true, false, false, false] rfl rfl (any_of HT_.out (by kernel_rfl)) (fun _ _ _ h => h) (Or.inl ⟨by rfl, ?_⟩) ?_ ?_
                                 rotate_left
                                 ·intro w'
                                  go_simp
                                  with_reducible rfl
                                 rotate_left
                                 ·simp only [Act.put, List.setIfInBounds_toArray, List.set_cons_zero, List.set_cons_succ, i64_w, i32_w]
                                  rfl
                                 refine pure_ (i := 12) (N := some 119) (v := ?_) (a' := ?_) #[true, true, true, true, true, true, true, true, true, true, true, true, true, false, false] rfl rfl (any_of HT_.out (by kernel_rfl)) (fun _ _ _ h => h) (Or.inl ⟨by rfl, ?_⟩) ?_ ?_
                                 rotate_left
                                 ·intro w'
                                  go_simp
                                  with_reducible rfl
                                 rotate_left
                                 ·simp only [Act.put, List.setIfInBounds_toArray, List.set_cons_zero, List.set_cons_succ, i64_w, i32_w]
                                  rfl
                                 refine pure_ (i := 13) (N := some 120) (v := ?_) (a' := ?_) #[true, true, true, true, true, true, true, true, true, true, true, true, true, true, false] rfl rfl (any_of HT_.out (by kernel_rfl)) (fun _ _ _ h => h) (Or.inl ⟨by rfl, ?_⟩) ?_ ?_
                                 rotate_left
                                 ·intro w'
                                  go_simp
                                  with_reducible rfl
                                 rotate_left
                                 ·simp only [Act.put, List.setIfInBounds_toArray, List.set_cons_zero, List.set_cons_succ, i64_w, i32_w]
                                  rfl
                                 refine pure_ (i := 14) (N := some 19) (v := ?_) (a' := ?_) #[true, true, true, true, true, true, true, true, true, true, true, true, true, true, true] rfl rfl (any_of HT_.out (by kernel_rfl)) (fun _ _ _ h => h) (Or.inl ⟨by rfl, ?_⟩) ?_ ?_
                                 rotate_left
                                 ·intro w'
                                  go_simp
                                  with_reducible rfl
                                 rotate_left
                                 ·simp only [Act.put, List.setIfInBounds_toArray, List.set_cons_zero, List.set_cons_succ, i64_w, i32_w]
                                  rfl
                                 refine done_ (done_of HT_.out (by kernel_rfl)) ?_
                                 try go_wp2
                                 go_roundg k4
                                 case measure => have := HK1.out; have := HJ21.out; have := HJ27.out; have := HK4.out; omega
                                 case rel => exact ⟨(((x19_4.extract 0 ((rd (rd_L4 l1 a4) x21_4) : Int).toNat) ++ ((rdOf ByteArray.empty l3 x17_1).extract (x21_4 : Int).toNat ((wrap64 (x21_4 + 1)) : Int).toNat)) ++ (x19_4.extract ((ji72) : Int).toNat x19_4.size)), (((bt x19_4 (rd (rd_L4 l1 a4) x21_4)) == (bt (rdOf ByteArray.empty l3 x17_1) x21_4))), (wrap64 (x21_4 + 1)), (by first | rfl | (simp; done) | (simp only [← hji72] <;> (first | rfl | simp)) | (simp [*]; done)), (by first | rfl | (simp; done) | (simp [*]; done)), (by first | rfl | (simp; done) | (simp [*]; done)), H', ⟨by have := HK1.out; have := HJ21.out; have := HJ27.out; have := HK4.out; omega⟩, ⟨by (with_reducible repeat (first | apply Kd.R_alloc | apply Kd.R_drewN | apply Kd.R_drew)); exact HO_6.out⟩, ⟨by (with_reducible repeat (first | refine blk_drewN ?_ _ | refine blk_drew ?_ | refine blk_alloc ?_ _)); exact BK172.out⟩, ⟨by repeat (first | (with_reducible first | exact HK.out | apply Kept.alloc | apply Kept.drewN | apply Kept.drew | refine Kept.setCell ?_ (.inr GW172.out) _) | exact HK.out)⟩, ⟨by repeat (first | (with_reducible first | exact HB.out | apply below_alloc | apply pw_below_drewN | apply below_drew1 | refine below_set ?_ GE172.out) | exact HB.out)⟩⟩
                                ·rw [if_neg c75] at H
                                 exact absurd H (by simp)
                               ·rw [if_neg c74] at H
                                exact absurd H (by simp)
                              ·rw [if_neg c73] at H
                               exact absurd H (by simp)
                             ·rw [if_neg c71] at H
                              exact absurd H (by simp)
                            ·rw [if_neg c70] at H
                             exact absurd H (by simp)
                           ·rw [if_neg c69] at H
                            exact absurd H (by simp)
                          ·rw [if_neg c67] at H
                           exact absurd H (by simp)
                        ·rw [if_neg c49] at H
                         exact absurd H (by simp)
                       ·rw [if_neg c48] at H
                        exact absurd H (by simp)
                      ·rw [if_neg c47] at H
                       exact absurd H (by simp)
                     ·rw [if_neg c46] at H
                      exact absurd H (by simp)
                    ·rw [if_neg c45] at H
                     exact absurd H (by simp)
                   ·rw [if_neg c44] at H
                    exact absurd H (by simp)
                  ·replace c43 := Bool.eq_false_iff.mpr c43
                   subst c43
                   have H1 : (spec_l13Search.j4 k4 l1 a2 l3 a4 l5 x6_1 a7 x17_1 (rdOf ByteArray.empty l3 x17_1) x19_4 false a0_0 a0_1 a0_2) = some r := by rw [if_neg (show ¬ (false = true) by decide)] at H; exact H
                   clear H
                   have H := H1
                   clear H1
                   have H' := Aside0.mk H
                   clear H
                   go_wp2
                   go_meet
                   case rel => exact ⟨_, (x19_4), (false), (by first | rfl | (simp; done) | (simp [*]; done)), (by first | rfl | (simp; done) | (simp [*]; done)), H', ⟨by have := HK1.out; have := HJ21.out; have := HJ27.out; have := HK4.out; first | omega | exact Nat.le_refl _⟩, ⟨by (with_reducible repeat (first | apply Kd.R_alloc | apply Kd.R_drewN | apply Kd.R_drew)); exact HO_6.out⟩, ⟨by (with_reducible repeat (first | refine blk_drewN ?_ _ | refine blk_drew ?_ | refine blk_alloc ?_ _)); exact BK172.out⟩, ⟨by repeat (first | (with_reducible first | exact HK.out | apply Kept.alloc | apply Kept.drewN | apply Kept.drew | refine Kept.setCell ?_ (.inr GW172.out) _) | exact HK.out)⟩, ⟨by repeat (first | (with_reducible first | exact HB.out | apply below_alloc | apply pw_below_drewN | apply below_drew1 | refine below_set ?_ GE172.out) | exact HB.out)⟩⟩
                 ·rw [if_neg c42] at H
                  have c42b0 : decide (x21_4 < ((rdOf ByteArray.empty l3 x17_1).size : Int)) = false := decide_eq_false c42
                  clear c42
                  (first | rw [c42b0] | (simp only [i64_w, i32_w]; rw [c42b0]) | skip)
                  have H' := Aside0.mk H
                  clear H
                  go_wp2
                  go_meet
                  case rel => exact ⟨_, (x19_4), (x20_4), (by first | rfl | (simp; done) | (simp [*]; done)), (by first | rfl | (simp; done) | (simp [*]; done)), H', ⟨by have := HK1.out; have := HJ21.out; have := HJ27.out; have := HK4.out; first | omega | exact Nat.le_refl _⟩, ⟨by (with_reducible repeat (first | apply Kd.R_alloc | apply Kd.R_drewN | apply Kd.R_drew)); exact HO_6.out⟩, ⟨by (with_reducible repeat (first | refine blk_drewN ?_ _ | refine blk_drew ?_ | refine blk_alloc ?_ _)); exact BK172.out⟩, ⟨by repeat (first | (with_reducible first | exact HK.out | apply Kept.alloc | apply Kept.drewN | apply Kept.drew | refine Kept.setCell ?_ (.inr GW172.out) _) | exact HK.out)⟩, ⟨by repeat (first | (with_reducible first | exact HB.out | apply below_alloc | apply pw_below_drewN | apply below_drew1 | refine below_set ?_ GE172.out) | exact HB.out)⟩⟩
              case rest =>
               clear HC41
               try clear c1
               try clear p1
               try clear q1
               try clear hx1
               try clear p2
               try clear q2
               try clear c4
               try clear c5
               try clear p5
               try clear q5
               try clear hx5
               try clear c6
               try clear p6
               try clear q6
               try clear hx6
               try clear c7
               try clear c18
               try clear p18
               try clear q18
               try clear hx18
               try clear c42
               try clear c42b0
               try clear c43
               try clear c44
               try clear c45
               try clear c46
               try clear c47
               try clear c48
               try clear c49
               try clear p50
               try clear q50
               try clear hx50
               try clear c51
               try clear c51b0
               try clear c51b1
               try clear c53
               try clear c55
               try clear c56
               try clear c57
               try clear c59
               try clear c60
               try clear c61
               try clear p64
               try clear q64
               try clear hx64
               try clear p65
               try clear q65
               try clear hx65
               try clear c66
               try clear c66b0
               try clear c67
               try clear c67b0
               try clear c67b1
               try clear c68
               try clear c68b0
               try clear c69
               try clear c69b0
               try clear c69b1
               try clear c70
               try clear c70b0
               try clear c70b1
               try clear c71
               try clear c71b0
               try clear c71b1
               try clear c71b2
               try clear c73
               try clear c73b0
               try clear c73b1
               try clear c74
               try clear c74b0
               try clear c74b1
               try clear c75
               try clear c75b0
               try clear c75b1
               try clear c75b2
               try clear hx188_0
               try clear hx189_0
               try clear p188
               try clear p189
               try clear p50
               try clear p64
               try clear p65
               try clear q188
               try clear q189
               try clear q50
               try clear q64
               try clear q65
               obtain ⟨kq, x19_40, x20_40, rfl, rfl, HA, HJ40, HO_6, BK172, HK, HB⟩ := hcut
               cases kq with
               | zero => exact absurd HA.out (by simp [spec_l13Search.j4])
               | succ kj40 =>
                have H := HA.out
                clear HA
                simp only [spec_l13Search.j4] at H
                by_cases c78 : x20_40 = true
                ·subst c78
                 have H1 : ((spec_l13Open.f kj40 l1 x19_40 l3 (wrap64 (a4 + 1))).bind fun t190 => (if t190 = true then ((some (([] : List ByteArray) : List ByteArray)).bind fun y191 => (if y191.length + l5.length < 8796093022208 then ((some (y191 ++ l5 : List ByteArray)).bind fun y194 => ((some (([(rdOf ByteArray.empty l3 x17_1)] : List ByteArray) : List ByteArray)).bind fun y197 => (if y194.length + y197.length < 8796093022208 then ((spec_l13Search.f kj40 a0_0 a0_1 a0_2 l1 x19_40 l3 (wrap64 (a4 + 1)) (y194 ++ y197) x6_1 a7).bind fun t203 => (spec_l13Search.l0 kj40 l1 a2 l3 a4 l5 t203 a7 (wrap64 (x17_1 + 1)) a0_0 a0_1 a0_2)) else (none)))) else (none))) else (spec_l13Search.l0 kj40 l1 a2 l3 a4 l5 x6_1 a7 (wrap64 (x17_1 + 1)) a0_0 a0_1 a0_2))) = some r := by rw [if_pos rfl] at H; exact H
                 clear H
                 have H := H1
                 clear H1
                 replace H := Option.bind_eq_some_iff.mp H
                 obtain ⟨t190, A790, H⟩ := H
                 replace H : (if t190 = true then ((some (([] : List ByteArray) : List ByteArray)).bind fun y191 => (if y191.length + l5.length < 8796093022208 then ((some (y191 ++ l5 : List ByteArray)).bind fun y194 => ((some (([(rdOf ByteArray.empty l3 x17_1)] : List ByteArray) : List ByteArray)).bind fun y197 => (if y194.length + y197.length < 8796093022208 then ((spec_l13Search.f kj40 a0_0 a0_1 a0_2 l1 x19_40 l3 (wrap64 (a4 + 1)) (y194 ++ y197) x6_1 a7).bind fun t203 => (spec_l13Search.l0 kj40 l1 a2 l3 a4 l5 t203 a7 (wrap64 (x17_1 + 1)) a0_0 a0_1 a0_2)) else (none)))) else (none))) else (spec_l13Search.l0 kj40 l1 a2 l3 a4 l5 x6_1 a7 (wrap64 (x17_1 + 1)) a0_0 a0_1 a0_2)) = some r := H
                 have A79 := Aside0.mk A790
                 clear A790
                 by_cases c80 : t190 = true
                 ·subst c80
                  have H1 : ((some (([] : List ByteArray) : List ByteArray)).bind fun y191 => (if y191.length + l5.length < 8796093022208 then ((some (y191 ++ l5 : List ByteArray)).bind fun y194 => ((some (([(rdOf ByteArray.empty l3 x17_1)] : List ByteArray) : List ByteArray)).bind fun y197 => (if y194.length + y197.length < 8796093022208 then ((spec_l13Search.f kj40 a0_0 a0_1 a0_2 l1 x19_40 l3 (wrap64 (a4 + 1)) (y194 ++ y197) x6_1 a7).bind fun t203 => (spec_l13Search.l0 kj40 l1 a2 l3 a4 l5 t203 a7 (wrap64 (x17_1 + 1)) a0_0 a0_1 a0_2)) else (none)))) else (none))) = some r := by rw [if_pos rfl] at H; exact H
                  clear H
                  have H := H1
                  clear H1
                  obtain ⟨y191, hy191⟩ : ∃ y_ : List ByteArray, y_ = (([] : List ByteArray)) := ⟨_, rfl⟩
                  replace H : (if y191.length + l5.length < 8796093022208 then ((some (y191 ++ l5 : List ByteArray)).bind fun y194 => ((some (([(rdOf ByteArray.empty l3 x17_1)] : List ByteArray) : List ByteArray)).bind fun y197 => (if y194.length + y197.length < 8796093022208 then ((spec_l13Search.f kj40 a0_0 a0_1 a0_2 l1 x19_40 l3 (wrap64 (a4 + 1)) (y194 ++ y197) x6_1 a7).bind fun t203 => (spec_l13Search.l0 kj40 l1 a2 l3 a4 l5 t203 a7 (wrap64 (x17_1 + 1)) a0_0 a0_1 a0_2)) else (none)))) else (none)) = some r := by first | (rw [hy191]; with_reducible exact H) | (have H2_ := (Option.bind_some _ _).symm.trans H; rw [hy191]; with_reducible exact H2_) | (have H2_ := (Option.bind_some _ _).symm.trans H; with_reducible exact H2_) | with_reducible exact H | (rw [hy191]; exact H) | exact H
                  have Ny191 := Aside0.mk hy191
                  clear hy191
                  by_cases c81 : y191.length + l5.length < 8796093022208
                  ·rw [if_pos c81] at H
                   have LMc81 := Aside0.mk c81
                   clear c81
                   obtain ⟨y194, hy194⟩ : ∃ y_ : List ByteArray, y_ = (y191 ++ l5) := ⟨_, rfl⟩
                   replace H : ((some (([(rdOf ByteArray.empty l3 x17_1)] : List ByteArray) : List ByteArray)).bind fun y197 => (if y194.length + y197.length < 8796093022208 then ((spec_l13Search.f kj40 a0_0 a0_1 a0_2 l1 x19_40 l3 (wrap64 (a4 + 1)) (y194 ++ y197) x6_1 a7).bind fun t203 => (spec_l13Search.l0 kj40 l1 a2 l3 a4 l5 t203 a7 (wrap64 (x17_1 + 1)) a0_0 a0_1 a0_2)) else (none))) = some r := by first | (rw [hy194]; with_reducible exact H) | (have H2_ := (Option.bind_some _ _).symm.trans H; rw [hy194]; with_reducible exact H2_) | (have H2_ := (Option.bind_some _ _).symm.trans H; with_reducible exact H2_) | with_reducible exact H | (rw [hy194]; exact H) | exact H
                   have Ny194 := Aside0.mk hy194
                   clear hy194
                   obtain ⟨y197, hy197⟩ : ∃ y_ : List ByteArray, y_ = (([(rdOf ByteArray.empty l3 x17_1)] : List ByteArray)) := ⟨_, rfl⟩
                   replace H : (if y194.length + y197.length < 8796093022208 then ((spec_l13Search.f kj40 a0_0 a0_1 a0_2 l1 x19_40 l3 (wrap64 (a4 + 1)) (y194 ++ y197) x6_1 a7).bind fun t203 => (spec_l13Search.l0 kj40 l1 a2 l3 a4 l5 t203 a7 (wrap64 (x17_1 + 1)) a0_0 a0_1 a0_2)) else (none)) = some r := by first | (rw [hy197]; with_reducible exact H) | (have H2_ := (Option.bind_some _ _).symm.trans H; rw [hy197]; with_reducible exact H2_) | (have H2_ := (Option.bind_some _ _).symm.trans H; with_reducible exact H2_) | with_reducible exact H | (rw [hy197]; exact H) | exact H
                   have Ny197 := Aside0.mk hy197
                   clear hy197
                   by_cases c82 : y194.length + y197.length < 8796093022208
                   ·rw [if_pos c82] at H
                    have LMc82 := Aside0.mk c82
                    clear c82
                    obtain ⟨y200, hy200⟩ : ∃ y_ : List ByteArray, y_ = (y194 ++ y197) := ⟨_, rfl⟩
                    replace H : ((spec_l13Search.f kj40 a0_0 a0_1 a0_2 l1 x19_40 l3 (wrap64 (a4 + 1)) y200 x6_1 a7).bind fun t203 => (spec_l13Search.l0 kj40 l1 a2 l3 a4 l5 t203 a7 (wrap64 (x17_1 + 1)) a0_0 a0_1 a0_2)) = some r := by first | (rw [hy200]; with_reducible exact H) | (have H2_ := (Option.bind_some _ _).symm.trans H; rw [hy200]; with_reducible exact H2_) | (have H2_ := (Option.bind_some _ _).symm.trans H; with_reducible exact H2_) | with_reducible exact H | (rw [hy200]; exact H) | exact H
                    have Ny200 := Aside0.mk hy200
                    clear hy200
                    replace H := Option.bind_eq_some_iff.mp H
                    obtain ⟨t203, A830, H⟩ := H
                    replace H : (spec_l13Search.l0 kj40 l1 a2 l3 a4 l5 t203 a7 (wrap64 (x17_1 + 1)) a0_0 a0_1 a0_2) = some r := H
                    have A83 := Aside0.mk A830
                    clear A830
                    have H' := Aside0.mk H
                    clear H
                    try go_wp2_with (first | (go_at_call 85; (with_reducible refine (spec_l13Open.calls kj40 _ _ l1 x19_40 _ _ l3 (wrap64 (a4 + 1)) true _ ?side1 ?side2 ?side3 ?side4 A79.out).mono ?_); (case side1 => exact Kd.C_kept_now HR1.out (by repeat (first | (with_reducible first | exact HK.out | apply Kept.alloc | apply Kept.drewN | apply Kept.drew | refine Kept.setCell ?_ (.inr GW172.out) _) | exact HK.out))); (case side2 => exact HC1.out); (case side3 => exact Kd.C_kept_now HR3.out (by repeat (first | (with_reducible first | exact HK.out | apply Kept.alloc | apply Kept.drewN | apply Kept.drew | refine Kept.setCell ?_ (.inr GW172.out) _) | exact HK.out))); (case side4 => exact HC3.out); rintro e w' ⟨rfl, ⟨nd, rfl⟩⟩; obtain ⟨Ao84, co84, eo84⟩ := Kd.R_slice HO_6.out; subst eo84))
                    (try (rw [drewN_self wc]; generalize hq_ : World.drewN wc _ = wc; have n0_ : Aside0 (Kd.R Kd.string 9 wc w0.heap.size (fun k_ => (P6_ k_ ∨ w.heap.size ≤ k_)) (.slice Ao84 x6_1.length co84) x6_1) := ⟨by rw [← hq_]; exact (by (with_reducible repeat (first | apply Kd.R_alloc | apply Kd.R_drewN | apply Kd.R_drew)); exact HO_6.out)⟩; have n1_ : Aside0 (wc.heap[gb172]? = some (.cells #[.int .i64 a0_0, .int .i64 a0_1, .string a0_2] 28 (0, 0))) := ⟨by rw [← hq_]; exact (by (with_reducible repeat (first | refine blk_drewN ?_ _ | refine blk_drew ?_ | refine blk_alloc ?_ _)); exact BK172.out)⟩; have n2_ : Aside0 (Kept w wc (fun k_ => P6_ k_)) := ⟨by rw [← hq_]; exact (by repeat (first | (with_reducible first | exact HK.out | apply Kept.alloc | apply Kept.drewN | apply Kept.drew | refine Kept.setCell ?_ (.inr GW172.out) _) | exact HK.out))⟩; have n3_ : Aside0 (Below w0.heap.size w0 wc) := ⟨by rw [← hq_]; exact (by repeat (first | (with_reducible first | exact HB.out | apply below_alloc | apply pw_below_drewN | apply below_drew1 | refine below_set ?_ GE172.out) | exact HB.out))⟩; clear HO_6 BK172 HK HB hq_; have HO_6 := n0_; have BK172 := n1_; have HK := n2_; have HB := n3_; clear n0_ n1_ n2_ n3_))
                    have n0_ := Aside0.mk (Kd.R_drew HO_6.out)
                    have n1_ := Aside0.mk (blk_drew BK172.out)
                    have n2_ := Aside0.mk (Kept.drew HK.out)
                    have n3_ := Aside0.mk (below_drew1 HB.out)
                    clear HO_6
                    clear BK172
                    clear HK
                    clear HB
                    have HO_6 := n0_
                    have BK172 := n1_
                    have HK := n2_
                    have HB := n3_
                    clear n0_ n1_ n2_ n3_
                    refine start_ (n := 16) (S := fun w' => w'.cell? ⟨gb172, 0, none⟩ = some (.int .i64 a0_0) ∧ w'.cell? ⟨gb172, 1, none⟩ = some (.int .i64 a0_1) ∧ w'.cell? ⟨gb172, 2, none⟩ = some (.string a0_2)) (ds := []) #[false, false, false, false, false, false, false, false, false, false, false, false, false, false, false, false] (by kernel_rfl) rfl rfl ⟨(blk_cell BK172.out 0).trans rfl, (blk_cell BK172.out 1).trans rfl, (blk_cell BK172.out 2).trans rfl⟩ (fun hHeld => ?_); refine with_tabW spec_l13Search.tab19 spec_l13Search.bits19 (fun HT_ HW_ => ?_)
                    generalize wc.drew = w85 at HO_6 BK172 HK HB hHeld ⊢
                    refine pure_ (i := 1) (N := some 131) (v := ?_) (a' := ?_) #[false, true, false, false, false, false, false, false, false, false, false, false, false, false, false, false] rfl rfl (any_of HT_.out (by kernel_rfl)) (fun _ _ _ h => h) (Or.inl ⟨by rfl, ?_⟩) ?_ ?_
                    rotate_left
                    ·intro w'
                     go_simp
                     with_reducible rfl
                    rotate_left
                    ·simp only [Act.put, List.setIfInBounds_toArray, List.set_cons_zero, List.set_cons_succ, i64_w, i32_w]
                     rfl
                    refine pure_ (i := 2) (N := some 132) (v := ?_) (a' := ?_) #[false, true, true, false, false, false, false, false, false, false, false, false, false, false, false, false] rfl rfl (any_of HT_.out (by kernel_rfl)) (fun _ _ _ h => h) (Or.inl ⟨by rfl, ?_⟩) ?_ ?_
                    rotate_left
                    ·intro w'
                     go_simp
                     with_reducible rfl
                    rotate_left
                    ·simp only [Act.put, List.setIfInBounds_toArray, List.set_cons_zero, List.set_cons_succ, i64_w, i32_w]
                     rfl
                    refine pure_ (i := 3) (N := some 133) (v := ?_) (a' := ?_) #[false, true, true, true, false, false, false, false, false, false, false, false, false, false, false, false] rfl rfl (any_of HT_.out (by kernel_rfl)) (fun _ _ _ h => h) (Or.inl ⟨by rfl, ?_⟩) ?_ ?_
                    rotate_left
                    ·intro w'
                     go_simp
                     with_reducible rfl
                    rotate_left
                    ·simp only [Act.put, List.setIfInBounds_toArray, List.set_cons_zero, List.set_cons_succ, i64_w, i32_w]
                     rfl
                    refine pure_ (i := 4) (N := some 134) (v := ?_) (a' := ?_) #[false, true, true, true, true, false, false, false, false, false, false, false, false, false, false, false] rfl rfl (any_of HT_.out (by kernel_rfl)) (fun _ _ _ h => h) (Or.inl ⟨by rfl, ?_⟩) ?_ ?_
                    rotate_left
                    ·intro w'
                     go_simp
                     with_reducible rfl
                    rotate_left
                    ·simp only [Act.put, List.setIfInBounds_toArray, List.set_cons_zero, List.set_cons_succ, i64_w, i32_w]
                     rfl
                    refine pure_ (i := 5) (N := some 135) (v := ?_) (a' := ?_) #[false, true, true, true, true, true, false, false, false, false, false, false, false, false, false, false] rfl rfl (any_of HT_.out (by kernel_rfl)) (fun _ _ _ h => h) (Or.inl ⟨by rfl, ?_⟩) ?_ ?_
                    rotate_left
                    ·intro w'
                     go_simp
                     with_reducible rfl
                    rotate_left
                    ·simp only [Act.put, List.setIfInBounds_toArray, List.set_cons_zero, List.set_cons_succ, i64_w, i32_w]
                     rfl
                    refine pure_ (i := 7) (N := some 137) (v := ?_) (a' := ?_) #[false, true, true, true, true, true, false, true, false, false, false, false, false, false, false, false] rfl rfl (any_of HT_.out (by kernel_rfl)) (fun _ _ _ h => h) (Or.inl ⟨by rfl, ?_⟩) ?_ ?_
                    rotate_left
                    ·intro w'
                     go_simp
                     with_reducible rfl
                    rotate_left
                    ·simp only [Act.put, List.setIfInBounds_toArray, List.set_cons_zero, List.set_cons_succ, i64_w, i32_w]
                     rfl
                    refine pure_ (i := 9) (N := some 139) (v := ?_) (a' := ?_) #[false, true, true, true, true, true, false, true, false, true, false, false, false, false, false, false] rfl rfl (any_of HT_.out (by kernel_rfl)) (fun _ _ _ h => h) (Or.inl ⟨by rfl, ?_⟩) ?_ ?_
                    rotate_left
                    ·intro w'
                     go_simp
                     with_reducible rfl
                    rotate_left
                    ·simp only [Act.put, List.setIfInBounds_toArray, List.set_cons_zero, List.set_cons_succ, i64_w, i32_w]
                     rfl
                    refine pure_ (i := 12) (N := some 142) (v := ?_) (a' := ?_) #[false, true, true, true, true, true, false, true, false, true, false, false, true, false, false, false] rfl rfl (any_of HT_.out (by kernel_rfl)) (fun _ _ _ h => h) (Or.inl ⟨by rfl, ?_⟩) ?_ ?_
                    rotate_left
                    ·intro w'
                     go_simp
                     with_reducible rfl
                    rotate_left
                    ·simp only [Act.put, List.setIfInBounds_toArray, List.set_cons_zero, List.set_cons_succ, i64_w, i32_w]
                     rfl
                    refine pure_ (i := 13) (N := some 143) (v := ?_) (a' := ?_) #[false, true, true, true, true, true, false, true, false, true, false, false, true, true, false, false] rfl rfl (any_of HT_.out (by kernel_rfl)) (fun _ _ _ h => h) (Or.inl ⟨by rfl, ?_⟩) ?_ ?_
                    rotate_left
                    ·intro w'
                     go_simp
                     with_reducible rfl
                    rotate_left
                    ·simp only [Act.put, List.setIfInBounds_toArray, List.set_cons_zero, List.set_cons_succ, i64_w, i32_w]
                     rfl
                    refine take_ (i := 0) (N := some 130) (v := ?_) (a' := ?_) #[true, true, true, true, true, true, false, true, false, true, false, false, true, true, false, false] rfl rfl (take_ofW HT_.out HW_.out (by kernel_rfl)) (fun _ _ _ h => h) (Or.inl ⟨by rfl, ?_⟩) hHeld ?_ ?_
                    rotate_left
                    ·rintro w' ⟨s0, s1, s2⟩
                     go_simp
                     with_reducible rfl
                    rotate_left
                    ·simp only [Act.put, List.setIfInBounds_toArray, List.set_cons_zero, List.set_cons_succ, i64_w, i32_w]
                     rfl
                    refine join_ (σ := Value × Value × Value) 3 #[true, true, true, true, true, true, true, true, true, true, true, false, true, true, false, false] (fun s_ => [(136, s_.1), (138, s_.2.1), (140, s_.2.2)]) (fun s_ w' => (w'.cell? ⟨gb172, 0, none⟩ = some (.int .i64 a0_0) ∧ w'.cell? ⟨gb172, 1, none⟩ = some (.int .i64 a0_1) ∧ w'.cell? ⟨gb172, 2, none⟩ = some (.string a0_2)) ∧ (Kd.R Kd.string 9 w' w0.heap.size (fun k_ => (P6_ k_ ∨ w.heap.size ≤ k_) ∧ some k_ ≠ (s_.2.2 : Value).ownBlock ∧ some k_ ≠ (.slice Ao84 x6_1.length co84 : Value).ownBlock) s_.2.1 y194) ∧ (Kd.R Kd.string 9 w' w0.heap.size (fun k_ => (P6_ k_ ∨ w.heap.size ≤ k_) ∧ some k_ ≠ (s_.2.1 : Value).ownBlock ∧ some k_ ≠ (.slice Ao84 x6_1.length co84 : Value).ownBlock) s_.2.2 y197) ∧ (Kd.R Kd.string 9 w' w0.heap.size (fun k_ => (P6_ k_ ∨ w.heap.size ≤ k_) ∧ some k_ ≠ (s_.2.1 : Value).ownBlock ∧ some k_ ≠ (s_.2.2 : Value).ownBlock) (.slice Ao84 x6_1.length co84) x6_1) ∧ (w'.heap[gb172]? = some (.cells #[.int .i64 a0_0, .int .i64 a0_1, .string a0_2] 28 (0, 0))) ∧ (Kept w w' (fun k_ => P6_ k_)) ∧ (Below w0.heap.size w0 w')) ?_ ?_
                    rotate_left
                    ·intro hCont
                     refine two_ (i := 6) (j := 10) (Ni := some 136) (Nj := some 140) #[true, true, true, true, true, true, true, true, false, true, false, false, true, true, false, false] #[true, true, true, true, true, true, false, true, false, true, true, false, true, true, false, false] rfl rfl rfl rfl (two_of HT_.out (by kernel_rfl)) (by decide) (by decide) (fun K hK => ?_) (fun K hK => ?_)
                     ·skip
                      refine Kd.R_lit_step Kd.string _ 9 ?hg (N := 136) ?hd (xs := ([] : List ByteArray)) (inner := []) (ok := fun _ => True) (okp := fun _ => True) ?hr ?hp (fun _ hk => hk) trivial (Below.refl _ _) (Nat.le_refl _) (by simp) ?_; (case hd => rfl); (case hg => rfl); (case hr => first | (go_simp; done) | (go_simp; rfl)); (case hp => exact (Reps.none _ _))
                      intro v192 w86 ho87 hb hg_ hnew_
                      clear hg_ hnew_
                      (first | rw [← Ny191.out] at ho87 | (simp only [Int.reduceToNat] at ho87; rw [← Ny191.out] at ho87))
                      have n0_ := Aside0.mk (Kd.R_elder' (by (with_reducible repeat (first | apply Kd.R_alloc | apply Kd.R_drewN | apply Kd.R_drew)); exact HO_6.out) (Kd.R_base ho87) hb)
                      have n1_ := Aside0.mk (Kd.R_lower (Kd.R_new' (Kd.R_newM (M := fun k_ => (P6_ k_ ∨ w.heap.size ≤ k_)) ho87 (by first | exact HK.out.1 | exact (show Kept w _ (fun k_ => P6_ k_) from by repeat (first | (with_reducible first | exact HK.out | apply Kept.alloc | apply Kept.drewN | apply Kept.drew | refine Kept.setCell ?_ (.inr GW172.out) _) | exact HK.out)).1) (fun k_ h_ => .inr h_)) (Kd.R_lt (by (with_reducible repeat (first | apply Kd.R_alloc | apply Kd.R_drewN | apply Kd.R_drew)); exact HO_6.out))) (below_size (by repeat (first | (with_reducible first | exact HB.out | apply below_alloc | apply pw_below_drewN | apply below_drew1 | refine below_set ?_ GE172.out) | exact HB.out))))
                      have n2_ := Aside0.mk (blk_below (g := gb172) (o := .cells #[.int .i64 a0_0, .int .i64 a0_1, .string a0_2] 28 (0, 0)) (by (with_reducible repeat (first | refine blk_drewN ?_ _ | refine blk_drew ?_ | refine blk_alloc ?_ _)); exact BK172.out) hb)
                      have n3_ := Aside0.mk (Kept.below (S := (fun k_ => P6_ k_)) (by repeat (first | (with_reducible first | exact HK.out | apply Kept.alloc | apply Kept.drewN | apply Kept.drew | refine Kept.setCell ?_ (.inr GW172.out) _) | exact HK.out)) hb)
                      have n4_ := Aside0.mk (below_step (by repeat (first | (with_reducible first | exact HB.out | apply below_alloc | apply pw_below_drewN | apply below_drew1 | refine below_set ?_ GE172.out) | exact HB.out)) hb)
                      clear HO_6
                      clear BK172
                      clear HK
                      clear HB
                      have HO_6 := n0_
                      have HO193 := n1_
                      have BK172 := n2_
                      have HK := n3_
                      have HB := n4_
                      clear n0_ n1_ n2_ n3_ n4_
                      clear hb ho87
                      refine hK.out _ _ ⟨(blk_cell BK172.out 0).trans rfl, (blk_cell BK172.out 1).trans rfl, (blk_cell BK172.out 2).trans rfl⟩ (fun hHeld => ?_)
                      clear hK K
                      refine norm_ (a' := ?_) ?_ ?_
                      rotate_left
                      ·show Act.put _ (some 136) _ = _
                       simp only [Act.put, List.setIfInBounds_toArray, List.set_cons_zero, List.set_cons_succ, i64_w, i32_w]
                       rfl
                      refine two_ (i := 8) (j := 10) (Ni := some 138) (Nj := some 140) #[true, true, true, true, true, true, true, true, true, true, false, false, true, true, false, false] #[true, true, true, true, true, true, true, true, false, true, true, false, true, true, false, false] rfl rfl rfl rfl (two_of HT_.out (by kernel_rfl)) (by decide) (by decide) (fun K hK => ?_) (fun K hK => ?_)
                      ·skip
                       refine Kd.R_append_rows_step Kd.string (w0 := w0) w0.heap.size (by rfl) (.tmp 136) (.tmp 137) 24 9 (.string ⟨#[]⟩) 16 rfl Try.underlying24 info9 rfl (by decide) (by omega) v192 y191 l5 _ _ _ (fun k_ => (P6_ k_ ∨ w.heap.size ≤ k_) ∧ some k_ ≠ (.slice Ao84 x6_1.length co84 : Value).ownBlock) (fun _ => False) rfl rfl ?aO ?aR (fun _ _ h => h) (fun _ h => h.elim) ?aF ?aB ?aS ?aL ?_
                       (case aR => exact Kd.C_kept_now HR5.out (by repeat (first | (with_reducible first | exact HK.out | apply Kept.alloc | apply Kept.drewN | apply Kept.drew | refine Kept.setCell ?_ (.inr GW172.out) _) | exact HK.out)))
                       (case aB => exact (by repeat (first | (with_reducible first | exact HB.out | apply below_alloc | apply pw_below_drewN | apply below_drew1 | refine below_set ?_ GE172.out) | exact HB.out)))
                       (case aF => exact (fun k_ hk => ⟨(.inr (Nat.le_trans (by first | exact HK.out.1 | exact (show Kept w _ (fun k_ => P6_ k_) from by repeat (first | (with_reducible first | exact HK.out | apply Kept.alloc | apply Kept.drewN | apply Kept.drew | refine Kept.setCell ?_ (.inr GW172.out) _) | exact HK.out)).1) hk)), Kd.fresh' (Kd.R_lt (by (with_reducible repeat (first | apply Kd.R_alloc | apply Kd.R_drewN | apply Kd.R_drew)); exact HO_6.out)) k_ hk⟩))
                       (case aO => exact (by (with_reducible repeat (first | apply Kd.R_alloc | apply Kd.R_drewN | apply Kd.R_drew)); exact Kd.R_mono HO193.out (fun _ hk => ⟨hk.1.1, hk.2⟩)))
                       (case aS => exact (below_size (by repeat (first | (with_reducible first | exact HB.out | apply below_alloc | apply pw_below_drewN | apply below_drew1 | refine below_set ?_ GE172.out) | exact HB.out))))
                       (case aL => have := LMc81.out; omega)
                       intro v195 w88 ho hb hg hat
                       rw [← Ny194.out] at ho
                       have n0_ := Aside0.mk (Kd.R_after (ok := (fun k_ => (P6_ k_ ∨ w.heap.size ≤ k_))) (by (with_reducible repeat (first | apply Kd.R_alloc | apply Kd.R_drewN | apply Kd.R_drew)); exact HO_6.out) hg hat)
                       have n1_ := Aside0.mk (blk_grown (g := gb172) (o := .cells #[.int .i64 a0_0, .int .i64 a0_1, .string a0_2] 28 (0, 0)) (by (with_reducible repeat (first | refine blk_drewN ?_ _ | refine blk_drew ?_ | refine blk_alloc ?_ _)); exact BK172.out) hg (Kd.R_ne HO193.out BK172.out (by decide)))
                       have n2_ := Aside0.mk (hb)
                       have n3_ := Aside0.mk (Kept.of_grown (S := (fun k_ => P6_ k_)) hg (by repeat (first | (with_reducible first | exact HK.out | apply Kept.alloc | apply Kept.drewN | apply Kept.drew | refine Kept.setCell ?_ (.inr GW172.out) _) | exact HK.out)) (fun k_ e_ => (HO193.out.1 k_ e_).1.1))
                       have n4_ := Aside0.mk (ho)
                       clear HO_6
                       clear BK172
                       clear HB
                       clear HK
                       clear HO193
                       have HO_6 := n0_
                       have BK172 := n1_
                       have HB := n2_
                       have HK := n3_
                       have HO196 := n4_
                       clear n0_ n1_ n2_ n3_ n4_
                       clear ho hb hg hat
                       refine hK.out _ _ ⟨(blk_cell BK172.out 0).trans rfl, (blk_cell BK172.out 1).trans rfl, (blk_cell BK172.out 2).trans rfl⟩ (fun hHeld => ?_)
                       clear hK K
                       refine norm_ (a' := ?_) ?_ ?_
                       rotate_left
                       ·show Act.put _ (some 138) _ = _
                        simp only [Act.put, List.setIfInBounds_toArray, List.set_cons_zero, List.set_cons_succ, i64_w, i32_w]
                        rfl
                       refine one_ (i := 10) (N := some 140) #[true, true, true, true, true, true, true, true, true, true, true, false, true, true, false, false] rfl rfl (one_of HT_.out (by kernel_rfl)) (by decide) (fun K hK => ?_)
                       refine Kd.R_lit_step Kd.string _ 9 ?hg (N := 140) ?hd (xs := ([(rdOf ByteArray.empty l3 x17_1)] : List ByteArray)) (inner := [.string (rdOf ByteArray.empty l3 x17_1)]) (ok := fun _ => True) (okp := fun _ => True) ?hr ?hp (fun _ hk => hk) trivial (Below.refl _ _) (Nat.le_refl _) (by simp) ?_; (case hd => rfl); (case hg => rfl); (case hr => first | (go_simp; done) | (go_simp; rfl)); (case hp => exact (Reps.one (show Kd.M Kd.string _ _ _ (rdOf ByteArray.empty l3 x17_1) [.string (rdOf ByteArray.empty l3 x17_1)] from rfl) (Reps.none _ _)))
                       intro v198 w89 ho90 hb hg_ hnew_
                       clear hg_ hnew_
                       (first | rw [← Ny197.out] at ho90 | (simp only [Int.reduceToNat] at ho90; rw [← Ny197.out] at ho90))
                       have n0_ := Aside0.mk (Kd.R_elder' (by (with_reducible repeat (first | apply Kd.R_alloc | apply Kd.R_drewN | apply Kd.R_drew)); exact HO_6.out) (Kd.R_base ho90) hb)
                       have n1_ := Aside0.mk (Kd.R_elder' (by (with_reducible repeat (first | apply Kd.R_alloc | apply Kd.R_drewN | apply Kd.R_drew)); exact HO196.out) (Kd.R_base ho90) hb)
                       have n2_ := Aside0.mk (Kd.R_lower (Kd.R_new' (Kd.R_new' (Kd.R_newM (M := fun k_ => (P6_ k_ ∨ w.heap.size ≤ k_)) ho90 (by first | exact HK.out.1 | exact (show Kept w _ (fun k_ => P6_ k_) from by repeat (first | (with_reducible first | exact HK.out | apply Kept.alloc | apply Kept.drewN | apply Kept.drew | refine Kept.setCell ?_ (.inr GW172.out) _) | exact HK.out)).1) (fun k_ h_ => .inr h_)) (Kd.R_lt (by (with_reducible repeat (first | apply Kd.R_alloc | apply Kd.R_drewN | apply Kd.R_drew)); exact HO_6.out))) (Kd.R_lt (by (with_reducible repeat (first | apply Kd.R_alloc | apply Kd.R_drewN | apply Kd.R_drew)); exact HO196.out))) (below_size (by repeat (first | (with_reducible first | exact HB.out | apply below_alloc | apply pw_below_drewN | apply below_drew1 | refine below_set ?_ GE172.out) | exact HB.out))))
                       have n3_ := Aside0.mk (blk_below (g := gb172) (o := .cells #[.int .i64 a0_0, .int .i64 a0_1, .string a0_2] 28 (0, 0)) (by (with_reducible repeat (first | refine blk_drewN ?_ _ | refine blk_drew ?_ | refine blk_alloc ?_ _)); exact BK172.out) hb)
                       have n4_ := Aside0.mk (Kept.below (S := (fun k_ => P6_ k_)) (by repeat (first | (with_reducible first | exact HK.out | apply Kept.alloc | apply Kept.drewN | apply Kept.drew | refine Kept.setCell ?_ (.inr GW172.out) _) | exact HK.out)) hb)
                       have n5_ := Aside0.mk (below_step (by repeat (first | (with_reducible first | exact HB.out | apply below_alloc | apply pw_below_drewN | apply below_drew1 | refine below_set ?_ GE172.out) | exact HB.out)) hb)
                       clear HO_6
                       clear HO196
                       clear BK172
                       clear HK
                       clear HB
                       have HO_6 := n0_
                       have HO196 := n1_
                       have HO199 := n2_
                       have BK172 := n3_
                       have HK := n4_
                       have HB := n5_
                       clear n0_ n1_ n2_ n3_ n4_ n5_
                       clear hb ho90
                       refine hK.out _ _ ⟨(blk_cell BK172.out 0).trans rfl, (blk_cell BK172.out 1).trans rfl, (blk_cell BK172.out 2).trans rfl⟩ (fun hHeld => ?_)
                       clear hK K
                       refine norm_ (a' := ?_) ?_ ?_
                       rotate_left
                       ·show Act.put _ (some 140) _ = _
                        simp only [Act.put, List.setIfInBounds_toArray, List.set_cons_zero, List.set_cons_succ, i64_w, i32_w]
                        rfl
                       exact norm_ (by simp only [putAll, Act.put, List.setIfInBounds_toArray, List.set_cons_zero, List.set_cons_succ]) (hCont (v192, v195, v198) _ ⟨hHeld, (by (with_reducible repeat (first | apply Kd.R_alloc | apply Kd.R_drewN | apply Kd.R_drew)); exact Kd.R_mono HO196.out (fun _ hk => ⟨hk.1.1, ⟨hk.2, hk.1.2⟩⟩)), (by (with_reducible repeat (first | apply Kd.R_alloc | apply Kd.R_drewN | apply Kd.R_drew)); exact Kd.R_mono HO199.out (fun _ hk => ⟨hk.1.1.1, ⟨hk.2, hk.1.2⟩⟩)), (by (with_reducible repeat (first | apply Kd.R_alloc | apply Kd.R_drewN | apply Kd.R_drew)); exact Kd.R_mono HO_6.out (fun _ hk => ⟨hk.1.1, ⟨hk.1.2, hk.2⟩⟩)), (by (with_reducible repeat (first | refine blk_drewN ?_ _ | refine blk_drew ?_ | refine blk_alloc ?_ _)); exact BK172.out), (by repeat (first | (with_reducible first | exact HK.out | apply Kept.alloc | apply Kept.drewN | apply Kept.drew | refine Kept.setCell ?_ (.inr GW172.out) _) | exact HK.out)), (by repeat (first | (with_reducible first | exact HB.out | apply below_alloc | apply pw_below_drewN | apply below_drew1 | refine below_set ?_ GE172.out) | exact HB.out))⟩)
                      ·skip
                       refine Kd.R_lit_step Kd.string _ 9 ?hg (N := 140) ?hd (xs := ([(rdOf ByteArray.empty l3 x17_1)] : List ByteArray)) (inner := [.string (rdOf ByteArray.empty l3 x17_1)]) (ok := fun _ => True) (okp := fun _ => True) ?hr ?hp (fun _ hk => hk) trivial (Below.refl _ _) (Nat.le_refl _) (by simp) ?_; (case hd => rfl); (case hg => rfl); (case hr => first | (go_simp; done) | (go_simp; rfl)); (case hp => exact (Reps.one (show Kd.M Kd.string _ _ _ (rdOf ByteArray.empty l3 x17_1) [.string (rdOf ByteArray.empty l3 x17_1)] from rfl) (Reps.none _ _)))
                       intro v198 w88 ho89 hb hg_ hnew_
                       clear hg_ hnew_
                       (first | rw [← Ny197.out] at ho89 | (simp only [Int.reduceToNat] at ho89; rw [← Ny197.out] at ho89))
                       have n0_ := Aside0.mk (Kd.R_elder' (by (with_reducible repeat (first | apply Kd.R_alloc | apply Kd.R_drewN | apply Kd.R_drew)); exact HO_6.out) (Kd.R_base ho89) hb)
                       have n1_ := Aside0.mk (Kd.R_elder' (by (with_reducible repeat (first | apply Kd.R_alloc | apply Kd.R_drewN | apply Kd.R_drew)); exact HO193.out) (Kd.R_base ho89) hb)
                       have n2_ := Aside0.mk (Kd.R_lower (Kd.R_new' (Kd.R_new' (Kd.R_newM (M := fun k_ => (P6_ k_ ∨ w.heap.size ≤ k_)) ho89 (by first | exact HK.out.1 | exact (show Kept w _ (fun k_ => P6_ k_) from by repeat (first | (with_reducible first | exact HK.out | apply Kept.alloc | apply Kept.drewN | apply Kept.drew | refine Kept.setCell ?_ (.inr GW172.out) _) | exact HK.out)).1) (fun k_ h_ => .inr h_)) (Kd.R_lt (by (with_reducible repeat (first | apply Kd.R_alloc | apply Kd.R_drewN | apply Kd.R_drew)); exact HO_6.out))) (Kd.R_lt (by (with_reducible repeat (first | apply Kd.R_alloc | apply Kd.R_drewN | apply Kd.R_drew)); exact HO193.out))) (below_size (by repeat (first | (with_reducible first | exact HB.out | apply below_alloc | apply pw_below_drewN | apply below_drew1 | refine below_set ?_ GE172.out) | exact HB.out))))
                       have n3_ := Aside0.mk (blk_below (g := gb172) (o := .cells #[.int .i64 a0_0, .int .i64 a0_1, .string a0_2] 28 (0, 0)) (by (with_reducible repeat (first | refine blk_drewN ?_ _ | refine blk_drew ?_ | refine blk_alloc ?_ _)); exact BK172.out) hb)
                       have n4_ := Aside0.mk (Kept.below (S := (fun k_ => P6_ k_)) (by repeat (first | (with_reducible first | exact HK.out | apply Kept.alloc | apply Kept.drewN | apply Kept.drew | refine Kept.setCell ?_ (.inr GW172.out) _) | exact HK.out)) hb)
                       have n5_ := Aside0.mk (below_step (by repeat (first | (with_reducible first | exact HB.out | apply below_alloc | apply pw_below_drewN | apply below_drew1 | refine below_set ?_ GE172.out) | exact HB.out)) hb)
                       clear HO_6
                       clear HO193
                       clear BK172
                       clear HK
                       clear HB
                       have HO_6 := n0_
                       have HO193 := n1_
                       have HO199 := n2_
                       have BK172 := n3_
                       have HK := n4_
                       have HB := n5_
                       clear n0_ n1_ n2_ n3_ n4_ n5_
                       clear hb ho89
                       refine hK.out _ _ ⟨(blk_cell BK172.out 0).trans rfl, (blk_cell BK172.out 1).trans rfl, (blk_cell BK172.out 2).trans rfl⟩ (fun hHeld => ?_)
                       clear hK K
                       refine norm_ (a' := ?_) ?_ ?_
                       rotate_left
                       ·show Act.put _ (some 140) _ = _
                        simp only [Act.put, List.setIfInBounds_toArray, List.set_cons_zero, List.set_cons_succ, i64_w, i32_w]
                        rfl
                       refine one_ (i := 8) (N := some 138) #[true, true, true, true, true, true, true, true, true, true, true, false, true, true, false, false] rfl rfl (one_of HT_.out (by kernel_rfl)) (by decide) (fun K hK => ?_)
                       refine Kd.R_append_rows_step Kd.string (w0 := w0) w0.heap.size (by rfl) (.tmp 136) (.tmp 137) 24 9 (.string ⟨#[]⟩) 16 rfl Try.underlying24 info9 rfl (by decide) (by omega) v192 y191 l5 _ _ _ (fun k_ => (P6_ k_ ∨ w.heap.size ≤ k_) ∧ some k_ ≠ (.slice Ao84 x6_1.length co84 : Value).ownBlock ∧ some k_ ≠ (v198 : Value).ownBlock) (fun _ => False) rfl rfl ?aO ?aR (fun _ _ h => h) (fun _ h => h.elim) ?aF ?aB ?aS ?aL ?_
                       (case aR => exact Kd.C_kept_now HR5.out (by repeat (first | (with_reducible first | exact HK.out | apply Kept.alloc | apply Kept.drewN | apply Kept.drew | refine Kept.setCell ?_ (.inr GW172.out) _) | exact HK.out)))
                       (case aB => exact (by repeat (first | (with_reducible first | exact HB.out | apply below_alloc | apply pw_below_drewN | apply below_drew1 | refine below_set ?_ GE172.out) | exact HB.out)))
                       (case aF => exact (fun k_ hk => ⟨(.inr (Nat.le_trans (by first | exact HK.out.1 | exact (show Kept w _ (fun k_ => P6_ k_) from by repeat (first | (with_reducible first | exact HK.out | apply Kept.alloc | apply Kept.drewN | apply Kept.drew | refine Kept.setCell ?_ (.inr GW172.out) _) | exact HK.out)).1) hk)), Kd.fresh' (Kd.R_lt (by (with_reducible repeat (first | apply Kd.R_alloc | apply Kd.R_drewN | apply Kd.R_drew)); exact HO_6.out)) k_ hk, Kd.fresh' (Kd.R_lt (by (with_reducible repeat (first | apply Kd.R_alloc | apply Kd.R_drewN | apply Kd.R_drew)); exact HO199.out)) k_ hk⟩))
                       (case aO => exact (by (with_reducible repeat (first | apply Kd.R_alloc | apply Kd.R_drewN | apply Kd.R_drew)); exact Kd.R_mono HO193.out (fun _ hk => ⟨hk.1.1.1, ⟨hk.1.2, hk.2⟩⟩)))
                       (case aS => exact (below_size (by repeat (first | (with_reducible first | exact HB.out | apply below_alloc | apply pw_below_drewN | apply below_drew1 | refine below_set ?_ GE172.out) | exact HB.out))))
                       (case aL => have := LMc81.out; omega)
                       intro v195 w90 ho hb hg hat
                       rw [← Ny194.out] at ho
                       have n0_ := Aside0.mk (Kd.R_after (ok := (fun k_ => (P6_ k_ ∨ w.heap.size ≤ k_) ∧ some k_ ≠ (v198 : Value).ownBlock)) (by (with_reducible repeat (first | apply Kd.R_alloc | apply Kd.R_drewN | apply Kd.R_drew)); exact Kd.R_mono HO_6.out (fun _ hk => ⟨⟨hk.1.1, hk.2⟩, hk.1.2⟩)) hg hat)
                       have n1_ := Aside0.mk (blk_grown (g := gb172) (o := .cells #[.int .i64 a0_0, .int .i64 a0_1, .string a0_2] 28 (0, 0)) (by (with_reducible repeat (first | refine blk_drewN ?_ _ | refine blk_drew ?_ | refine blk_alloc ?_ _)); exact BK172.out) hg (Kd.R_ne HO193.out BK172.out (by decide)))
                       have n2_ := Aside0.mk (Kd.R_after (ok := (fun k_ => (P6_ k_ ∨ w.heap.size ≤ k_) ∧ some k_ ≠ (.slice Ao84 x6_1.length co84 : Value).ownBlock)) (by (with_reducible repeat (first | apply Kd.R_alloc | apply Kd.R_drewN | apply Kd.R_drew)); exact Kd.R_mono HO199.out (fun _ hk => ⟨⟨hk.1.1.1, hk.1.2⟩, hk.2⟩)) hg hat)
                       have n3_ := Aside0.mk (hb)
                       have n4_ := Aside0.mk (Kept.of_grown (S := (fun k_ => P6_ k_)) hg (by repeat (first | (with_reducible first | exact HK.out | apply Kept.alloc | apply Kept.drewN | apply Kept.drew | refine Kept.setCell ?_ (.inr GW172.out) _) | exact HK.out)) (fun k_ e_ => (HO193.out.1 k_ e_).1.1.1))
                       have n5_ := Aside0.mk (ho)
                       clear HO_6
                       clear BK172
                       clear HO199
                       clear HB
                       clear HK
                       clear HO193
                       have HO_6 := n0_
                       have BK172 := n1_
                       have HO199 := n2_
                       have HB := n3_
                       have HK := n4_
                       have HO196 := n5_
                       clear n0_ n1_ n2_ n3_ n4_ n5_
                       clear ho hb hg hat
                       refine hK.out _ _ ⟨(blk_cell BK172.out 0).trans rfl, (blk_cell BK172.out 1).trans rfl, (blk_cell BK172.out 2).trans rfl⟩ (fun hHeld => ?_)
                       clear hK K
                       refine norm_ (a' := ?_) ?_ ?_
                       rotate_left
                       ·show Act.put _ (some 138) _ = _
                        simp only [Act.put, List.setIfInBounds_toArray, List.set_cons_zero, List.set_cons_succ, i64_w, i32_w]
                        rfl
                       exact norm_ (by simp only [putAll, Act.put, List.setIfInBounds_toArray, List.set_cons_zero, List.set_cons_succ]) (hCont (v192, v195, v198) _ ⟨hHeld, (by (with_reducible repeat (first | apply Kd.R_alloc | apply Kd.R_drewN | apply Kd.R_drew)); exact Kd.R_mono HO196.out (fun _ hk => ⟨hk.1, ⟨hk.2.2, hk.2.1⟩⟩)), (by (with_reducible repeat (first | apply Kd.R_alloc | apply Kd.R_drewN | apply Kd.R_drew)); exact Kd.R_mono HO199.out (fun _ hk => ⟨hk.1.1, ⟨hk.2, hk.1.2⟩⟩)), (by (with_reducible repeat (first | apply Kd.R_alloc | apply Kd.R_drewN | apply Kd.R_drew)); exact Kd.R_mono HO_6.out (fun _ hk => ⟨hk.1.1, ⟨hk.2, hk.1.2⟩⟩)), (by (with_reducible repeat (first | refine blk_drewN ?_ _ | refine blk_drew ?_ | refine blk_alloc ?_ _)); exact BK172.out), (by repeat (first | (with_reducible first | exact HK.out | apply Kept.alloc | apply Kept.drewN | apply Kept.drew | refine Kept.setCell ?_ (.inr GW172.out) _) | exact HK.out)), (by repeat (first | (with_reducible first | exact HB.out | apply below_alloc | apply pw_below_drewN | apply below_drew1 | refine below_set ?_ GE172.out) | exact HB.out))⟩)
                     ·skip
                      refine Kd.R_lit_step Kd.string _ 9 ?hg (N := 140) ?hd (xs := ([(rdOf ByteArray.empty l3 x17_1)] : List ByteArray)) (inner := [.string (rdOf ByteArray.empty l3 x17_1)]) (ok := fun _ => True) (okp := fun _ => True) ?hr ?hp (fun _ hk => hk) trivial (Below.refl _ _) (Nat.le_refl _) (by simp) ?_; (case hd => rfl); (case hg => rfl); (case hr => first | (go_simp; done) | (go_simp; rfl)); (case hp => exact (Reps.one (show Kd.M Kd.string _ _ _ (rdOf ByteArray.empty l3 x17_1) [.string (rdOf ByteArray.empty l3 x17_1)] from rfl) (Reps.none _ _)))
                      intro v198 w86 ho87 hb hg_ hnew_
                      clear hg_ hnew_
                      (first | rw [← Ny197.out] at ho87 | (simp only [Int.reduceToNat] at ho87; rw [← Ny197.out] at ho87))
                      have n0_ := Aside0.mk (Kd.R_elder' (by (with_reducible repeat (first | apply Kd.R_alloc | apply Kd.R_drewN | apply Kd.R_drew)); exact HO_6.out) (Kd.R_base ho87) hb)
                      have n1_ := Aside0.mk (Kd.R_lower (Kd.R_new' (Kd.R_newM (M := fun k_ => (P6_ k_ ∨ w.heap.size ≤ k_)) ho87 (by first | exact HK.out.1 | exact (show Kept w _ (fun k_ => P6_ k_) from by repeat (first | (with_reducible first | exact HK.out | apply Kept.alloc | apply Kept.drewN | apply Kept.drew | refine Kept.setCell ?_ (.inr GW172.out) _) | exact HK.out)).1) (fun k_ h_ => .inr h_)) (Kd.R_lt (by (with_reducible repeat (first | apply Kd.R_alloc | apply Kd.R_drewN | apply Kd.R_drew)); exact HO_6.out))) (below_size (by repeat (first | (with_reducible first | exact HB.out | apply below_alloc | apply pw_below_drewN | apply below_drew1 | refine below_set ?_ GE172.out) | exact HB.out))))
                      have n2_ := Aside0.mk (blk_below (g := gb172) (o := .cells #[.int .i64 a0_0, .int .i64 a0_1, .string a0_2] 28 (0, 0)) (by (with_reducible repeat (first | refine blk_drewN ?_ _ | refine blk_drew ?_ | refine blk_alloc ?_ _)); exact BK172.out) hb)
                      have n3_ := Aside0.mk (Kept.below (S := (fun k_ => P6_ k_)) (by repeat (first | (with_reducible first | exact HK.out | apply Kept.alloc | apply Kept.drewN | apply Kept.drew | refine Kept.setCell ?_ (.inr GW172.out) _) | exact HK.out)) hb)
                      have n4_ := Aside0.mk (below_step (by repeat (first | (with_reducible first | exact HB.out | apply below_alloc | apply pw_below_drewN | apply below_drew1 | refine below_set ?_ GE172.out) | exact HB.out)) hb)
                      clear HO_6
                      clear BK172
                      clear HK
                      clear HB
                      have HO_6 := n0_
                      have HO199 := n1_
                      have BK172 := n2_
                      have HK := n3_
                      have HB := n4_
                      clear n0_ n1_ n2_ n3_ n4_
                      clear hb ho87
                      refine hK.out _ _ ⟨(blk_cell BK172.out 0).trans rfl, (blk_cell BK172.out 1).trans rfl, (blk_cell BK172.out 2).trans rfl⟩ (fun hHeld => ?_)
                      clear hK K
                      refine norm_ (a' := ?_) ?_ ?_
                      rotate_left
                      ·show Act.put _ (some 140) _ = _
                       simp only [Act.put, List.setIfInBounds_toArray, List.set_cons_zero, List.set_cons_succ, i64_w, i32_w]
                       rfl
                      refine one_ (i := 6) (N := some 136) #[true, true, true, true, true, true, true, true, false, true, true, false, true, true, false, false] rfl rfl (one_of HT_.out (by kernel_rfl)) (by decide) (fun K hK => ?_)
                      refine Kd.R_lit_step Kd.string _ 9 ?hg (N := 136) ?hd (xs := ([] : List ByteArray)) (inner := []) (ok := fun _ => True) (okp := fun _ => True) ?hr ?hp (fun _ hk => hk) trivial (Below.refl _ _) (Nat.le_refl _) (by simp) ?_; (case hd => rfl); (case hg => rfl); (case hr => first | (go_simp; done) | (go_simp; rfl)); (case hp => exact (Reps.none _ _))
                      intro v192 w88 ho89 hb hg_ hnew_
                      clear hg_ hnew_
                      (first | rw [← Ny191.out] at ho89 | (simp only [Int.reduceToNat] at ho89; rw [← Ny191.out] at ho89))
                      have n0_ := Aside0.mk (Kd.R_elder' (by (with_reducible repeat (first | apply Kd.R_alloc | apply Kd.R_drewN | apply Kd.R_drew)); exact HO_6.out) (Kd.R_base ho89) hb)
                      have n1_ := Aside0.mk (Kd.R_elder' (by (with_reducible repeat (first | apply Kd.R_alloc | apply Kd.R_drewN | apply Kd.R_drew)); exact HO199.out) (Kd.R_base ho89) hb)
                      have n2_ := Aside0.mk (Kd.R_lower (Kd.R_new' (Kd.R_new' (Kd.R_newM (M := fun k_ => (P6_ k_ ∨ w.heap.size ≤ k_)) ho89 (by first | exact HK.out.1 | exact (show Kept w _ (fun k_ => P6_ k_) from by repeat (first | (with_reducible first | exact HK.out | apply Kept.alloc | apply Kept.drewN | apply Kept.drew | refine Kept.setCell ?_ (.inr GW172.out) _) | exact HK.out)).1) (fun k_ h_ => .inr h_)) (Kd.R_lt (by (with_reducible repeat (first | apply Kd.R_alloc | apply Kd.R_drewN | apply Kd.R_drew)); exact HO_6.out))) (Kd.R_lt (by (with_reducible repeat (first | apply Kd.R_alloc | apply Kd.R_drewN | apply Kd.R_drew)); exact HO199.out))) (below_size (by repeat (first | (with_reducible first | exact HB.out | apply below_alloc | apply pw_below_drewN | apply below_drew1 | refine below_set ?_ GE172.out) | exact HB.out))))
                      have n3_ := Aside0.mk (blk_below (g := gb172) (o := .cells #[.int .i64 a0_0, .int .i64 a0_1, .string a0_2] 28 (0, 0)) (by (with_reducible repeat (first | refine blk_drewN ?_ _ | refine blk_drew ?_ | refine blk_alloc ?_ _)); exact BK172.out) hb)
                      have n4_ := Aside0.mk (Kept.below (S := (fun k_ => P6_ k_)) (by repeat (first | (with_reducible first | exact HK.out | apply Kept.alloc | apply Kept.drewN | apply Kept.drew | refine Kept.setCell ?_ (.inr GW172.out) _) | exact HK.out)) hb)
                      have n5_ := Aside0.mk (below_step (by repeat (first | (with_reducible first | exact HB.out | apply below_alloc | apply pw_below_drewN | apply below_drew1 | refine below_set ?_ GE172.out) | exact HB.out)) hb)
                      clear HO_6
                      clear HO199
                      clear BK172
                      clear HK
                      clear HB
                      have HO_6 := n0_
                      have HO199 := n1_
                      have HO193 := n2_
                      have BK172 := n3_
                      have HK := n4_
                      have HB := n5_
                      clear n0_ n1_ n2_ n3_ n4_ n5_
                      clear hb ho89
                      refine hK.out _ _ ⟨(blk_cell BK172.out 0).trans rfl, (blk_cell BK172.out 1).trans rfl, (blk_cell BK172.out 2).trans rfl⟩ (fun hHeld => ?_)
                      clear hK K
                      refine norm_ (a' := ?_) ?_ ?_
                      rotate_left
                      ·show Act.put _ (some 136) _ = _
                       simp only [Act.put, List.setIfInBounds_toArray, List.set_cons_zero, List.set_cons_succ, i64_w, i32_w]
                       rfl
                      refine one_ (i := 8) (N := some 138) #[true, true, true, true, true, true, true, true, true, true, true, false, true, true, false, false] rfl rfl (one_of HT_.out (by kernel_rfl)) (by decide) (fun K hK => ?_)
                      refine Kd.R_append_rows_step Kd.string (w0 := w0) w0.heap.size (by rfl) (.tmp 136) (.tmp 137) 24 9 (.string ⟨#[]⟩) 16 rfl Try.underlying24 info9 rfl (by decide) (by omega) v192 y191 l5 _ _ _ (fun k_ => (P6_ k_ ∨ w.heap.size ≤ k_) ∧ some k_ ≠ (.slice Ao84 x6_1.length co84 : Value).ownBlock ∧ some k_ ≠ (v198 : Value).ownBlock) (fun _ => False) rfl rfl ?aO ?aR (fun _ _ h => h) (fun _ h => h.elim) ?aF ?aB ?aS ?aL ?_
                      (case aR => exact Kd.C_kept_now HR5.out (by repeat (first | (with_reducible first | exact HK.out | apply Kept.alloc | apply Kept.drewN | apply Kept.drew | refine Kept.setCell ?_ (.inr GW172.out) _) | exact HK.out)))
                      (case aB => exact (by repeat (first | (with_reducible first | exact HB.out | apply below_alloc | apply pw_below_drewN | apply below_drew1 | refine below_set ?_ GE172.out) | exact HB.out)))
                      (case aF => exact (fun k_ hk => ⟨(.inr (Nat.le_trans (by first | exact HK.out.1 | exact (show Kept w _ (fun k_ => P6_ k_) from by repeat (first | (with_reducible first | exact HK.out | apply Kept.alloc | apply Kept.drewN | apply Kept.drew | refine Kept.setCell ?_ (.inr GW172.out) _) | exact HK.out)).1) hk)), Kd.fresh' (Kd.R_lt (by (with_reducible repeat (first | apply Kd.R_alloc | apply Kd.R_drewN | apply Kd.R_drew)); exact HO_6.out)) k_ hk, Kd.fresh' (Kd.R_lt (by (with_reducible repeat (first | apply Kd.R_alloc | apply Kd.R_drewN | apply Kd.R_drew)); exact HO199.out)) k_ hk⟩))
                      (case aO => exact (by (with_reducible repeat (first | apply Kd.R_alloc | apply Kd.R_drewN | apply Kd.R_drew)); exact Kd.R_mono HO193.out (fun _ hk => ⟨hk.1.1.1, ⟨hk.1.2, hk.2⟩⟩)))
                      (case aS => exact (below_size (by repeat (first | (with_reducible first | exact HB.out | apply below_alloc | apply pw_below_drewN | apply below_drew1 | refine below_set ?_ GE172.out) | exact HB.out))))
                      (case aL => have := LMc81.out; omega)
                      intro v195 w90 ho hb hg hat
                      rw [← Ny194.out] at ho
                      have n0_ := Aside0.mk (Kd.R_after (ok := (fun k_ => (P6_ k_ ∨ w.heap.size ≤ k_) ∧ some k_ ≠ (v198 : Value).ownBlock)) (by (with_reducible repeat (first | apply Kd.R_alloc | apply Kd.R_drewN | apply Kd.R_drew)); exact HO_6.out) hg hat)
                      have n1_ := Aside0.mk (blk_grown (g := gb172) (o := .cells #[.int .i64 a0_0, .int .i64 a0_1, .string a0_2] 28 (0, 0)) (by (with_reducible repeat (first | refine blk_drewN ?_ _ | refine blk_drew ?_ | refine blk_alloc ?_ _)); exact BK172.out) hg (Kd.R_ne HO193.out BK172.out (by decide)))
                      have n2_ := Aside0.mk (Kd.R_after (ok := (fun k_ => (P6_ k_ ∨ w.heap.size ≤ k_) ∧ some k_ ≠ (.slice Ao84 x6_1.length co84 : Value).ownBlock)) (by (with_reducible repeat (first | apply Kd.R_alloc | apply Kd.R_drewN | apply Kd.R_drew)); exact Kd.R_mono HO199.out (fun _ hk => ⟨⟨hk.1.1.1, hk.1.2⟩, hk.2⟩)) hg hat)
                      have n3_ := Aside0.mk (hb)
                      have n4_ := Aside0.mk (Kept.of_grown (S := (fun k_ => P6_ k_)) hg (by repeat (first | (with_reducible first | exact HK.out | apply Kept.alloc | apply Kept.drewN | apply Kept.drew | refine Kept.setCell ?_ (.inr GW172.out) _) | exact HK.out)) (fun k_ e_ => (HO193.out.1 k_ e_).1.1.1))
                      have n5_ := Aside0.mk (ho)
                      clear HO_6
                      clear BK172
                      clear HO199
                      clear HB
                      clear HK
                      clear HO193
                      have HO_6 := n0_
                      have BK172 := n1_
                      have HO199 := n2_
                      have HB := n3_
                      have HK := n4_
                      have HO196 := n5_
                      clear n0_ n1_ n2_ n3_ n4_ n5_
                      clear ho hb hg hat
                      refine hK.out _ _ ⟨(blk_cell BK172.out 0).trans rfl, (blk_cell BK172.out 1).trans rfl, (blk_cell BK172.out 2).trans rfl⟩ (fun hHeld => ?_)
                      clear hK K
                      refine norm_ (a' := ?_) ?_ ?_
                      rotate_left
                      ·show Act.put _ (some 138) _ = _
                       simp only [Act.put, List.setIfInBounds_toArray, List.set_cons_zero, List.set_cons_succ, i64_w, i32_w]
                       rfl
                      exact norm_ (by simp only [putAll, Act.put, List.setIfInBounds_toArray, List.set_cons_zero, List.set_cons_succ]) (hCont (v192, v195, v198) _ ⟨hHeld, (by (with_reducible repeat (first | apply Kd.R_alloc | apply Kd.R_drewN | apply Kd.R_drew)); exact Kd.R_mono HO196.out (fun _ hk => ⟨hk.1, ⟨hk.2.2, hk.2.1⟩⟩)), (by (with_reducible repeat (first | apply Kd.R_alloc | apply Kd.R_drewN | apply Kd.R_drew)); exact Kd.R_mono HO199.out (fun _ hk => ⟨hk.1.1, ⟨hk.2, hk.1.2⟩⟩)), (by (with_reducible repeat (first | apply Kd.R_alloc | apply Kd.R_drewN | apply Kd.R_drew)); exact Kd.R_mono HO_6.out (fun _ hk => ⟨hk.1.1, ⟨hk.2, hk.1.2⟩⟩)), (by (with_reducible repeat (first | refine blk_drewN ?_ _ | refine blk_drew ?_ | refine blk_alloc ?_ _)); exact BK172.out), (by repeat (first | (with_reducible first | exact HK.out | apply Kept.alloc | apply Kept.drewN | apply Kept.drew | refine Kept.setCell ?_ (.inr GW172.out) _) | exact HK.out)), (by repeat (first | (with_reducible first | exact HB.out | apply below_alloc | apply pw_below_drewN | apply below_drew1 | refine below_set ?_ GE172.out) | exact HB.out))⟩)
                    rintro ⟨v192, v195, v198⟩ w91 ⟨hS_, h0_, h1_, h2_, h3_, h4_, h5_⟩
                    have n0_ : Aside0 (Kd.R Kd.string 9 w91 w0.heap.size (fun k_ => (P6_ k_ ∨ w.heap.size ≤ k_) ∧ some k_ ≠ (v198 : Value).ownBlock ∧ some k_ ≠ (.slice Ao84 x6_1.length co84 : Value).ownBlock) v195 y194) := ⟨h0_⟩
                    have n1_ : Aside0 (Kd.R Kd.string 9 w91 w0.heap.size (fun k_ => (P6_ k_ ∨ w.heap.size ≤ k_) ∧ some k_ ≠ (v195 : Value).ownBlock ∧ some k_ ≠ (.slice Ao84 x6_1.length co84 : Value).ownBlock) v198 y197) := ⟨h1_⟩
                    have n2_ : Aside0 (Kd.R Kd.string 9 w91 w0.heap.size (fun k_ => (P6_ k_ ∨ w.heap.size ≤ k_) ∧ some k_ ≠ (v195 : Value).ownBlock ∧ some k_ ≠ (v198 : Value).ownBlock) (.slice Ao84 x6_1.length co84) x6_1) := ⟨h2_⟩
                    have n3_ : Aside0 (w91.heap[gb172]? = some (.cells #[.int .i64 a0_0, .int .i64 a0_1, .string a0_2] 28 (0, 0))) := ⟨h3_⟩
                    have n4_ : Aside0 (Kept w w91 (fun k_ => P6_ k_)) := ⟨h4_⟩
                    have n5_ : Aside0 (Below w0.heap.size w0 w91) := ⟨h5_⟩
                    clear HO_6
                    clear BK172
                    clear HK
                    clear HB
                    clear h0_ h1_ h2_ h3_ h4_ h5_
                    have HO196 := n0_
                    have HO199 := n1_
                    have HO_6 := n2_
                    have BK172 := n3_
                    have HK := n4_
                    have HB := n5_
                    clear n0_ n1_ n2_ n3_ n4_ n5_
                    have hHeld : w91.cell? ⟨gb172, 0, none⟩ = some (.int .i64 a0_0) ∧ w91.cell? ⟨gb172, 1, none⟩ = some (.int .i64 a0_1) ∧ w91.cell? ⟨gb172, 2, none⟩ = some (.string a0_2) := hS_
                    obtain ⟨Ao93, co93, eo93⟩ := Kd.R_slice HO199.out
                    (first | subst eo93 | (injection eo93 with f1_ f2_ f3_; have f4_ := f1_.symm; have f5_ := f3_.symm; clear f1_ f2_ f3_; subst f4_; subst f5_))
                    refine norm_ (a' := ?_) ?_ ?_
                    rotate_left
                    ·simp only [putAll, Act.put, List.setIfInBounds_toArray, List.set_cons_zero, List.set_cons_succ]
                     rfl
                    refine one_ (i := 11) (N := some 141) #[true, true, true, true, true, true, true, true, true, true, true, true, true, true, false, false] rfl rfl (one_of HT_.out (by kernel_rfl)) (by decide) (fun K hK => ?_)
                    refine Kd.R_append_rows_step Kd.string (w0 := w0) w0.heap.size (by rfl) (.tmp 138) (.tmp 140) 24 9 (.string ⟨#[]⟩) 16 rfl Try.underlying24 info9 rfl (by decide) (by omega) v195 y194 y197 _ _ _ (fun k_ => (P6_ k_ ∨ w.heap.size ≤ k_) ∧ some k_ ≠ (.slice Ao84 x6_1.length co84 : Value).ownBlock ∧ some k_ ≠ (.slice Ao93 y197.length co93 : Value).ownBlock) (fun _ => False) rfl rfl ?aO ?aR (fun _ _ h => h) (fun _ h => h.elim) ?aF ?aB ?aS ?aL ?_
                    (case aR => repeat (first | exact (Kd.R_reads' HO199.out).2.2 | (with_reducible refine Kd.C_alloc ?_ _) | (with_reducible refine Kd.C_drewN ?_ _) | (with_reducible refine Kd.C_drew ?_)))
                    (case aB => exact (by repeat (first | (with_reducible first | exact HB.out | apply below_alloc | apply pw_below_drewN | apply below_drew1 | refine below_set ?_ GE172.out) | exact HB.out)))
                    (case aF => exact (fun k_ hk => ⟨(.inr (Nat.le_trans (by first | exact HK.out.1 | exact (show Kept w _ (fun k_ => P6_ k_) from by repeat (first | (with_reducible first | exact HK.out | apply Kept.alloc | apply Kept.drewN | apply Kept.drew | refine Kept.setCell ?_ (.inr GW172.out) _) | exact HK.out)).1) hk)), Kd.fresh' (Kd.R_lt (by (with_reducible repeat (first | apply Kd.R_alloc | apply Kd.R_drewN | apply Kd.R_drew)); exact HO_6.out)) k_ hk, Kd.fresh' (Kd.R_lt (by (with_reducible repeat (first | apply Kd.R_alloc | apply Kd.R_drewN | apply Kd.R_drew)); exact HO199.out)) k_ hk⟩))
                    (case aO => exact (by (with_reducible repeat (first | apply Kd.R_alloc | apply Kd.R_drewN | apply Kd.R_drew)); exact Kd.R_mono HO196.out (fun _ hk => ⟨hk.1, ⟨hk.2.2, hk.2.1⟩⟩)))
                    (case aS => exact (below_size (by repeat (first | (with_reducible first | exact HB.out | apply below_alloc | apply pw_below_drewN | apply below_drew1 | refine below_set ?_ GE172.out) | exact HB.out))))
                    (case aL => have := LMc82.out; omega)
                    intro v201 w92 ho hb hg hat
                    rw [← Ny200.out] at ho
                    have n0_ := Aside0.mk (Kd.R_after (ok := (fun k_ => (P6_ k_ ∨ w.heap.size ≤ k_) ∧ some k_ ≠ (.slice Ao93 y197.length co93 : Value).ownBlock)) (by (with_reducible repeat (first | apply Kd.R_alloc | apply Kd.R_drewN | apply Kd.R_drew)); exact Kd.R_mono HO_6.out (fun _ hk => ⟨⟨hk.1, hk.2.2⟩, hk.2.1⟩)) hg hat)
                    have n1_ := Aside0.mk (blk_grown (g := gb172) (o := .cells #[.int .i64 a0_0, .int .i64 a0_1, .string a0_2] 28 (0, 0)) (by (with_reducible repeat (first | refine blk_drewN ?_ _ | refine blk_drew ?_ | refine blk_alloc ?_ _)); exact BK172.out) hg (Kd.R_ne HO196.out BK172.out (by decide)))
                    have n2_ := Aside0.mk (Kd.R_after (ok := (fun k_ => (P6_ k_ ∨ w.heap.size ≤ k_) ∧ some k_ ≠ (.slice Ao84 x6_1.length co84 : Value).ownBlock)) (by (with_reducible repeat (first | apply Kd.R_alloc | apply Kd.R_drewN | apply Kd.R_drew)); exact Kd.R_mono HO199.out (fun _ hk => ⟨⟨hk.1, hk.2.2⟩, hk.2.1⟩)) hg hat)
                    have n3_ := Aside0.mk (hb)
                    have n4_ := Aside0.mk (Kept.of_grown (S := (fun k_ => P6_ k_)) hg (by repeat (first | (with_reducible first | exact HK.out | apply Kept.alloc | apply Kept.drewN | apply Kept.drew | refine Kept.setCell ?_ (.inr GW172.out) _) | exact HK.out)) (fun k_ e_ => (HO196.out.1 k_ e_).1))
                    have n5_ := Aside0.mk (ho)
                    clear HO_6
                    clear BK172
                    clear HO199
                    clear HB
                    clear HK
                    clear HO196
                    have HO_6 := n0_
                    have BK172 := n1_
                    have HO199 := n2_
                    have HB := n3_
                    have HK := n4_
                    have HO202 := n5_
                    clear n0_ n1_ n2_ n3_ n4_ n5_
                    clear ho hb hg hat
                    obtain ⟨Ao94, co94, eo94⟩ := Kd.R_slice HO202.out
                    (first | subst eo94 | (injection eo94 with f1_ f2_ f3_; have f4_ := f1_.symm; have f5_ := f3_.symm; clear f1_ f2_ f3_; subst f4_; subst f5_))
                    refine hK.out _ _ ⟨(blk_cell BK172.out 0).trans rfl, (blk_cell BK172.out 1).trans rfl, (blk_cell BK172.out 2).trans rfl⟩ (fun hHeld => ?_)
                    clear hK K
                    refine norm_ (a' := ?_) ?_ ?_
                    rotate_left
                    ·show Act.put _ (some 141) _ = _
                     simp only [Act.put, List.setIfInBounds_toArray, List.set_cons_zero, List.set_cons_succ, i64_w, i32_w]
                     rfl
                    refine one_ (i := 14) (N := some 144) #[true, true, true, true, true, true, true, true, true, true, true, true, true, true, true, false] rfl rfl (one_of HT_.out (by kernel_rfl)) (by decide) (fun K hK => ?_)
                    refine goes_ Try.func47 (by kernel_rfl) rfl #[.agg #[.int .i64 a0_0, .int .i64 a0_1, .string a0_2], .slice A1 l1.length c1, .string x19_40, .slice (some ad179) l3.length c3, .int .i64 (wrap64 (a4 + 1)), .slice Ao94 y200.length co94, .slice Ao84 x6_1.length co84, .int .i64 a7] (by rfl) rfl rfl (by (try simp only [List.map_toArray, List.map_cons, List.map_nil]); first | done | rfl | (simp only [List.length_drop, List.length_take]; rfl)) ?_
                    with_reducible refine (ih kj40 (by have := HK1.out; have := HJ21.out; have := HJ27.out; have := HJ40.out; omega) a0_0 a0_1 a0_2 _ _ l1 x19_40 _ _ l3 (wrap64 (a4 + 1)) _ _ y200 (fun k_ => some k_ = (.slice Ao84 x6_1.length co84 : Value).ownBlock) (.slice Ao84 x6_1.length co84) x6_1 a7 t203 w0 _ ?side1 ?side2 ?side3 ?side4 ?side5 ?side6 ?side7 ?side8 A83.out).mono ?_
                    (case side1 => repeat (first | (with_reducible first | exact HB.out | apply below_alloc | apply pw_below_drewN | apply below_drew1 | refine below_set ?_ GE172.out) | exact HB.out))
                    (case side2 => exact Kd.C_kept_call HR1.out (by repeat (first | (with_reducible first | exact HK.out | apply Kept.alloc | apply Kept.drewN | apply Kept.drew | refine Kept.setCell ?_ (.inr GW172.out) _) | exact HK.out)) (fun k_ hs_ => (fun e_ => (HO_6.out.1 k_ e_.symm).1.1) hs_))
                    (case side3 => exact HC1.out)
                    (case side4 => exact Kd.C_kept_call HR3.out (by repeat (first | (with_reducible first | exact HK.out | apply Kept.alloc | apply Kept.drewN | apply Kept.drew | refine Kept.setCell ?_ (.inr GW172.out) _) | exact HK.out)) (fun k_ hs_ => (fun e_ => (HO_6.out.1 k_ e_.symm).1.1) hs_))
                    (case side5 => exact HC3.out)
                    (case side6 => exact Kd.C_kept_own (HO202.out) (fun k_ hk_ hs_ => (hk_.2.1) hs_))
                    (case side7 => exact (Kd.R_reads' HO202.out).2.1)
                    (case side8 => exact Kd.R_tight rfl HO_6.out)
                    rintro e w95 ⟨v204, rfl, ho0, hb, hkp⟩
                    refine ⟨_, rfl, ?_⟩
                    have n0_ := Aside0.mk (blk_kept (by (with_reducible repeat (first | refine blk_drewN ?_ _ | refine blk_drew ?_ | refine blk_alloc ?_ _)); exact BK172.out) hkp (fun hs_ => (fun e_ => (Kd.R_ne HO_6.out BK172.out (by decide)) e_) hs_))
                    have n1_ := Aside0.mk (Kd.R_mono (ok' := fun k_ => (P6_ k_ ∨ w.heap.size ≤ k_) ∧ some k_ ≠ (.slice Ao94 y200.length co94 : Value).ownBlock ∧ some k_ ≠ (v204 : Value).ownBlock) (Kd.R_keptB (HO199.out) hkp (fun k_ hk_ hs_ => (hk_.1.2) hs_)) (fun k_ hk_ => ⟨hk_.1.1.1, hk_.1.2, fun e_ => Or.elim (ho0.1 k_ e_.symm) (fun hs_ => hk_.2.1 hs_) (fun hn_ => Nat.not_le.2 hk_.2.2 hn_)⟩))
                    have n2_ := Aside0.mk (Kd.R_mono (ok' := fun k_ => (P6_ k_ ∨ w.heap.size ≤ k_) ∧ some k_ ≠ (.slice Ao93 y197.length co93 : Value).ownBlock ∧ some k_ ≠ (v204 : Value).ownBlock) (Kd.R_keptB (HO202.out) hkp (fun k_ hk_ hs_ => (hk_.2.1) hs_)) (fun k_ hk_ => ⟨hk_.1.1, hk_.1.2.2, fun e_ => Or.elim (ho0.1 k_ e_.symm) (fun hs_ => hk_.2.1 hs_) (fun hn_ => Nat.not_le.2 hk_.2.2 hn_)⟩))
                    have n3_ := Aside0.mk (Kd.R_mono (ok' := fun k_ => (P6_ k_ ∨ w.heap.size ≤ k_) ∧ some k_ ≠ (.slice Ao93 y197.length co93 : Value).ownBlock ∧ some k_ ≠ (.slice Ao94 y200.length co94 : Value).ownBlock) ho0 (fun k_ hk_ => ⟨Or.elim hk_ (fun hs_ => (HO_6.out.1 k_ (hs_).symm).1.1) (fun hn_ => (.inr (Nat.le_trans (by first | exact HK.out.1 | exact (show Kept w _ (fun k_ => P6_ k_) from by repeat (first | (with_reducible first | exact HK.out | apply Kept.alloc | apply Kept.drewN | apply Kept.drew | refine Kept.setCell ?_ (.inr GW172.out) _) | exact HK.out)).1) hn_))), Or.elim hk_ (fun hs_ => fun e_ => (((HO199.out).1 k_ e_.symm).1.2) hs_) (fun hn_ => (Kd.fresh' (Kd.R_lt (by (with_reducible repeat (first | apply Kd.R_alloc | apply Kd.R_drewN | apply Kd.R_drew)); exact HO199.out)) k_ hn_)), Or.elim hk_ (fun hs_ => fun e_ => (((HO202.out).1 k_ e_.symm).2.1) hs_) (fun hn_ => (Kd.fresh' (Kd.R_lt (by (with_reducible repeat (first | apply Kd.R_alloc | apply Kd.R_drewN | apply Kd.R_drew)); exact HO202.out)) k_ hn_))⟩))
                    have n4_ := Aside0.mk (Kept.then_ (S := (fun k_ => P6_ k_)) (by repeat (first | (with_reducible first | exact HK.out | apply Kept.alloc | apply Kept.drewN | apply Kept.drew | refine Kept.setCell ?_ (.inr GW172.out) _) | exact HK.out)) hkp (fun k_ hs_ => (fun e_ => (HO_6.out.1 k_ e_.symm).1.1) hs_))
                    have n5_ := Aside0.mk (hb)
                    clear BK172
                    clear HO199
                    clear HO202
                    clear HK
                    clear HB
                    clear HO_6
                    have BK172 := n0_
                    have HO199 := n1_
                    have HO202 := n2_
                    have HO205 := n3_
                    have HK := n4_
                    have HB := n5_
                    clear n0_ n1_ n2_ n3_ n4_ n5_
                    (try clear hb)
                    (try clear hkp)
                    (try clear ho0)
                    refine hK.out _ _ ⟨(blk_cell BK172.out 0).trans rfl, (blk_cell BK172.out 1).trans rfl, (blk_cell BK172.out 2).trans rfl⟩ (fun hHeld => ?_)
                    clear hK K
                    refine norm_ (a' := ?_) ?_ ?_
                    rotate_left
                    ·show Act.put _ (some 144) _ = _
                     simp only [Act.put, List.setIfInBounds_toArray, List.set_cons_zero, List.set_cons_succ, i64_w, i32_w]
                     rfl
                    refine pure_ (i := 15) (N := some 6) (v := ?_) (a' := ?_) #[true, true, true, true, true, true, true, true, true, true, true, true, true, true, true, true] rfl rfl (any_of HT_.out (by kernel_rfl)) (fun _ _ _ h => h) (Or.inl ⟨by rfl, ?_⟩) ?_ ?_
                    rotate_left
                    ·intro w'
                     go_simp
                     with_reducible rfl
                    rotate_left
                    ·simp only [Act.put, List.setIfInBounds_toArray, List.set_cons_zero, List.set_cons_succ, i64_w, i32_w]
                     rfl
                    refine done_ (done_of HT_.out (by kernel_rfl)) ?_
                    try go_wp2
                    go_roundg kj40
                    case measure => have := HK1.out; have := HJ21.out; have := HJ27.out; have := HJ40.out; omega
                    case rel => exact ⟨(t203), (wrap64 (x17_1 + 1)), (by first | rfl | (simp; done) | (simp [*]; done)), H', ⟨by have := HK1.out; have := HJ21.out; have := HJ27.out; have := HJ40.out; omega⟩, ⟨by (with_reducible repeat (first | apply Kd.R_alloc | apply Kd.R_drewN | apply Kd.R_drew)); exact Kd.R_mono HO205.out (fun _ hk => hk.1)⟩, ⟨by (with_reducible repeat (first | refine blk_drewN ?_ _ | refine blk_drew ?_ | refine blk_alloc ?_ _)); exact BK172.out⟩, ⟨by repeat (first | (with_reducible first | exact HK.out | apply Kept.alloc | apply Kept.drewN | apply Kept.drew | refine Kept.setCell ?_ (.inr GW172.out) _) | exact HK.out)⟩, ⟨by repeat (first | (with_reducible first | exact HB.out | apply below_alloc | apply pw_below_drewN | apply below_drew1 | refine below_set ?_ GE172.out) | exact HB.out)⟩⟩
                   ·rw [if_neg c82] at H
                    exact absurd H (by simp)
                  ·rw [if_neg c81] at H
                   exact absurd H (by simp)
                 ·replace c80 := Bool.eq_false_iff.mpr c80
                  subst c80
                  have H1 : (spec_l13Search.l0 kj40 l1 a2 l3 a4 l5 x6_1 a7 (wrap64 (x17_1 + 1)) a0_0 a0_1 a0_2) = some r := by rw [if_neg (show ¬ (false = true) by decide)] at H; exact H
                  clear H
                  have H := H1
                  clear H1
                  have H' := Aside0.mk H
                  clear H
                  go_wp2_with (first | (go_at_call 85; (with_reducible refine (spec_l13Open.calls kj40 _ _ l1 x19_40 _ _ l3 (wrap64 (a4 + 1)) false _ ?side1 ?side2 ?side3 ?side4 A79.out).mono ?_); (case side1 => exact Kd.C_kept_now HR1.out (by repeat (first | (with_reducible first | exact HK.out | apply Kept.alloc | apply Kept.drewN | apply Kept.drew | refine Kept.setCell ?_ (.inr GW172.out) _) | exact HK.out))); (case side2 => exact HC1.out); (case side3 => exact Kd.C_kept_now HR3.out (by repeat (first | (with_reducible first | exact HK.out | apply Kept.alloc | apply Kept.drewN | apply Kept.drew | refine Kept.setCell ?_ (.inr GW172.out) _) | exact HK.out))); (case side4 => exact HC3.out); rintro e w' ⟨rfl, ⟨nd, rfl⟩⟩))
                  go_roundg kj40
                  case measure => have := HK1.out; have := HJ21.out; have := HJ27.out; have := HJ40.out; omega
                  case rel => exact ⟨(x6_1), (wrap64 (x17_1 + 1)), (by first | rfl | (simp; done) | (simp [*]; done)), H', ⟨by have := HK1.out; have := HJ21.out; have := HJ27.out; have := HJ40.out; omega⟩, ⟨by (with_reducible repeat (first | apply Kd.R_alloc | apply Kd.R_drewN | apply Kd.R_drew)); exact HO_6.out⟩, ⟨by (with_reducible repeat (first | refine blk_drewN ?_ _ | refine blk_drew ?_ | refine blk_alloc ?_ _)); exact BK172.out⟩, ⟨by repeat (first | (with_reducible first | exact HK.out | apply Kept.alloc | apply Kept.drewN | apply Kept.drew | refine Kept.setCell ?_ (.inr GW172.out) _) | exact HK.out)⟩, ⟨by repeat (first | (with_reducible first | exact HB.out | apply below_alloc | apply pw_below_drewN | apply below_drew1 | refine below_set ?_ GE172.out) | exact HB.out)⟩⟩
                ·replace c78 := Bool.eq_false_iff.mpr c78
                 subst c78
                 have H1 : (spec_l13Search.l0 kj40 l1 a2 l3 a4 l5 x6_1 a7 (wrap64 (x17_1 + 1)) a0_0 a0_1 a0_2) = some r := by rw [if_neg (show ¬ (false = true) by decide)] at H; exact H
                 clear H
                 have H := H1
                 clear H1
                 have H' := Aside0.mk H
                 clear H
                 go_wp2
                 go_roundg kj40
                 case measure => have := HK1.out; have := HJ21.out; have := HJ27.out; have := HJ40.out; omega
                 case rel => exact ⟨(x6_1), (wrap64 (x17_1 + 1)), (by first | rfl | (simp; done) | (simp [*]; done)), H', ⟨by have := HK1.out; have := HJ21.out; have := HJ27.out; have := HJ40.out; omega⟩, ⟨by (with_reducible repeat (first | apply Kd.R_alloc | apply Kd.R_drewN | apply Kd.R_drew)); exact HO_6.out⟩, ⟨by (with_reducible repeat (first | refine blk_drewN ?_ _ | refine blk_drew ?_ | refine blk_alloc ?_ _)); exact BK172.out⟩, ⟨by repeat (first | (with_reducible first | exact HK.out | apply Kept.alloc | apply Kept.drewN | apply Kept.drew | refine Kept.setCell ?_ (.inr GW172.out) _) | exact HK.out)⟩, ⟨by repeat (first | (with_reducible first | exact HB.out | apply below_alloc | apply pw_below_drewN | apply below_drew1 | refine below_set ?_ GE172.out) | exact HB.out)⟩⟩
          ·rw [if_neg c27] at H
           exact absurd H (by simp)
         ·rw [if_neg c26] at H
          exact absurd H (by simp)
        ·replace c25 := Bool.eq_false_iff.mpr c25
         subst c25
         have H1 : (some x6_1) = some r := by rw [if_neg (show ¬ (false = true) by decide)] at H; exact H
         clear H
         have H := H1
         clear H1
         obtain rfl := Option.some.inj H
         go_wp2
         go_ret
         exact ⟨_, by first | rfl | (simp [errW_none, errW_some] <;> rfl) | (simp [*, errW_none, errW_some] <;> rfl), by (with_reducible repeat (first | apply Kd.R_alloc | apply Kd.R_drewN | apply Kd.R_drew)); exact HO_6.out, by repeat (first | (with_reducible first | exact HB.out | apply below_alloc | apply pw_below_drewN | apply below_drew1 | refine below_set ?_ GE172.out) | exact HB.out), by repeat (first | (with_reducible first | exact HK.out | apply Kept.alloc | apply Kept.drewN | apply Kept.drew | refine Kept.setCell ?_ (.inr GW172.out) _) | exact HK.out)⟩

end Go.Proofs.Ytodcckiphdnjeaa.QFnExactIsUniqueFill
