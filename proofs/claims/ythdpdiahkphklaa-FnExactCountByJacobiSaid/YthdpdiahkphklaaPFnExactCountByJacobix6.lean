/- The functions that the law reaches, as plain functions, each with the proof that the program comes to it; no condition. Written by a program of this session (wip/mp.py) over the printing of the kit; what is marked HAND is told by hand. -/
import Derived.Test.YthdpdiahkphklaaPFnExactCountByJacobix0
import Derived.Test.YthdpdiahkphklaaPFnExactCountByJacobix3
namespace Go.Proofs.Ythdpdiahkphklaa.PFnExactCountByJacobi
open Go.RowKit Go.Proofs.YthdpdiahkphklaaW.PrintWords Go.Proofs.YthdpdiahkphklaaW.PrintLast Go.Proofs.YthdpdiahkphklaaW.PrintMore
attribute [local go_sem] max2_int min2_int max_two min_two max_three min_three max_four min_four   -- for this text's walks alone
set_option linter.unusedVariables false
set_option linter.unusedSimpArgs false

/-! ### spec_l04Sum_body: function 122 -/
mutual
def spec_l04Sum_body.l0 : Nat → List (S37) → Int → Int → List (List Int) → Int → List (List Int) → Int → Option ((List (List Int)))
  | 0, _, _, _, _, _, _, _ => none
  | k + 1, x0, x5, x6, x7, x10, x11, x12 => if x12 < x5 then (if 0 ≤ x6 then (if (x6 : Int).toNat ≤ 35184372088832 then (if x11.length < 5864062014805 then (spec_l04Sum_body.l0 k x0 x5 x6 x7 x10 (x11 ++ [(List.replicate (x6 : Int).toNat 0)]) (wrap64 (x12 + 1))) else (none)) else (none)) else (none)) else (spec_l04Sum_body.l1 k x0 x5 x6 x7 x10 x11 1)
def spec_l04Sum_body.l1 : Nat → List (S37) → Int → Int → List (List Int) → Int → List (List Int) → Int → Option ((List (List Int)))
  | 0, _, _, _, _, _, _, _ => none
  | k + 1, x0, x5, x6, x7, x10, x11, x13 => if x13 < x5 then (if 0 ≤ x10 then (if x10 < (x0.length : Int) then ((spec_l03Exponent.f k ((rd_T37 x0 x10).f0) ((rd_T37 x0 x10).f1) ((rd_T37 x0 x10).f2) x13).bind fun t179 => (spec_l04Sum_body.l2 k x0 x5 x6 x7 x10 x11 x13 t179 0)) else (none)) else (none)) else (some x11)
def spec_l04Sum_body.l2 : Nat → List (S37) → Int → Int → List (List Int) → Int → List (List Int) → Int → Int → Int → Option ((List (List Int)))
  | 0, _, _, _, _, _, _, _, _, _ => none
  | k + 1, x0, x5, x6, x7, x10, x11, x13, x14, x15 => if x15 < x5 then (if x5 = 0 then (none) else (if 0 ≤ (Int.tmod (wrap64 (x15 + x13)) x5) then (if (Int.tmod (wrap64 (x15 + x13)) x5) < (x11.length : Int) then (spec_l04Sum_body.l3 k x0 x5 x6 x7 x10 x11 x13 x14 x15 0 (Int.tmod (wrap64 (x15 + x13)) x5)) else (none)) else (none))) else (spec_l04Sum_body.l1 k x0 x5 x6 x7 x10 x11 (wrap64 (x13 + 1)))
def spec_l04Sum_body.l3 : Nat → List (S37) → Int → Int → List (List Int) → Int → List (List Int) → Int → Int → Int → Int → Int → Option ((List (List Int)))
  | 0, _, _, _, _, _, _, _, _, _, _, _ => none
  | k + 1, x0, x5, x6, x7, x10, x11, x13, x14, x15, x17, x80 => if x17 < x6 then (if 0 ≤ x80 then (if x80 < (x11.length : Int) then (if x6 = 0 then (none) else (if 0 ≤ (Int.tmod (wrap64 (x17 + x14)) x6) then (if (Int.tmod (wrap64 (x17 + x14)) x6) < ((rd_L2 x11 x80).length : Int) then (if 0 ≤ x15 then (if x15 < (x7.length : Int) then (if 0 ≤ x17 then (if x17 < ((rd_L2 x7 x15).length : Int) then (spec_l04Sum_body.l3 k x0 x5 x6 x7 x10 (x11.set (x80 : Int).toNat ((rd_L2 x11 x80).set ((Int.tmod (wrap64 (x17 + x14)) x6) : Int).toNat (wrap64 ((rd (rd_L2 x11 x80) (Int.tmod (wrap64 (x17 + x14)) x6)) + (rd (rd_L2 x7 x15) x17))))) x13 x14 x15 (wrap64 (x17 + 1)) x80) else (none)) else (none)) else (none)) else (none)) else (none)) else (none))) else (none)) else (none)) else (spec_l04Sum_body.l2 k x0 x5 x6 x7 x10 x11 x13 x14 (wrap64 (x15 + 1)))
end
def spec_l04Sum_body.f (k : Nat) (l0 : List (S37)) (a1 : Int) (l2 : List (List Int)) (a3 : Int) (a4 : Int) : Option ((List (List Int))) := spec_l04Sum_body.l0 k l0 a3 a4 l2 a1 (([] : List (List Int))) 0
theorem spec_l04Sum_body.mono_l : ∀ k, (∀ y0 y1 y2 y3 y4 y5 y6, LeO (spec_l04Sum_body.l0 k y0 y1 y2 y3 y4 y5 y6) (spec_l04Sum_body.l0 (k + 1) y0 y1 y2 y3 y4 y5 y6)) ∧ (∀ y0 y1 y2 y3 y4 y5 y6, LeO (spec_l04Sum_body.l1 k y0 y1 y2 y3 y4 y5 y6) (spec_l04Sum_body.l1 (k + 1) y0 y1 y2 y3 y4 y5 y6)) ∧ (∀ y0 y1 y2 y3 y4 y5 y6 y7 y8, LeO (spec_l04Sum_body.l2 k y0 y1 y2 y3 y4 y5 y6 y7 y8) (spec_l04Sum_body.l2 (k + 1) y0 y1 y2 y3 y4 y5 y6 y7 y8)) ∧ (∀ y0 y1 y2 y3 y4 y5 y6 y7 y8 y9 y10, LeO (spec_l04Sum_body.l3 k y0 y1 y2 y3 y4 y5 y6 y7 y8 y9 y10) (spec_l04Sum_body.l3 (k + 1) y0 y1 y2 y3 y4 y5 y6 y7 y8 y9 y10))
  | 0 => ⟨fun _ _ _ _ _ _ _ r h => by simp [spec_l04Sum_body.l0] at h, fun _ _ _ _ _ _ _ r h => by simp [spec_l04Sum_body.l1] at h, fun _ _ _ _ _ _ _ _ _ r h => by simp [spec_l04Sum_body.l2] at h, fun _ _ _ _ _ _ _ _ _ _ _ r h => by simp [spec_l04Sum_body.l3] at h⟩
  | k + 1 => by
    obtain ⟨ih0, ih1, ih2, ih3⟩ := spec_l04Sum_body.mono_l k
    refine ⟨?_, ?_, ?_, ?_⟩
    · intro y0 y1 y2 y3 y4 y5 y6
      unfold spec_l04Sum_body.l0
      repeat' first
      | (with_reducible exact ih0 _ _ _ _ _ _ _)
      | (with_reducible exact ih1 _ _ _ _ _ _ _)
      | (with_reducible exact ih2 _ _ _ _ _ _ _ _ _)
      | (with_reducible exact ih3 _ _ _ _ _ _ _ _ _ _ _)
      | (with_reducible exact spec_l03Exponent.mono _ _ _ _ _)
      | (with_reducible exact LeO.refl _)
      | (with_reducible exact LeO.none _)
      | (with_reducible refine LeO.ite ?_ ?_)
      | (with_reducible refine LeO.bind ?_ (fun _ => ?_))
      | exact ih0 _ _ _ _ _ _ _
      | exact ih1 _ _ _ _ _ _ _
      | exact ih2 _ _ _ _ _ _ _ _ _
      | exact ih3 _ _ _ _ _ _ _ _ _ _ _
      | exact spec_l03Exponent.mono _ _ _ _ _
      | exact LeO.none _
      | refine LeO.ite ?_ ?_
      | refine LeO.bind ?_ (fun _ => ?_)
    · intro y0 y1 y2 y3 y4 y5 y6
      unfold spec_l04Sum_body.l1
      repeat' first
      | (with_reducible exact ih0 _ _ _ _ _ _ _)
      | (with_reducible exact ih1 _ _ _ _ _ _ _)
      | (with_reducible exact ih2 _ _ _ _ _ _ _ _ _)
      | (with_reducible exact ih3 _ _ _ _ _ _ _ _ _ _ _)
      | (with_reducible exact spec_l03Exponent.mono _ _ _ _ _)
      | (with_reducible exact LeO.refl _)
      | (with_reducible exact LeO.none _)
      | (with_reducible refine LeO.ite ?_ ?_)
      | (with_reducible refine LeO.bind ?_ (fun _ => ?_))
      | exact ih0 _ _ _ _ _ _ _
      | exact ih1 _ _ _ _ _ _ _
      | exact ih2 _ _ _ _ _ _ _ _ _
      | exact ih3 _ _ _ _ _ _ _ _ _ _ _
      | exact spec_l03Exponent.mono _ _ _ _ _
      | exact LeO.none _
      | refine LeO.ite ?_ ?_
      | refine LeO.bind ?_ (fun _ => ?_)
    · intro y0 y1 y2 y3 y4 y5 y6 y7 y8
      unfold spec_l04Sum_body.l2
      repeat' first
      | (with_reducible exact ih0 _ _ _ _ _ _ _)
      | (with_reducible exact ih1 _ _ _ _ _ _ _)
      | (with_reducible exact ih2 _ _ _ _ _ _ _ _ _)
      | (with_reducible exact ih3 _ _ _ _ _ _ _ _ _ _ _)
      | (with_reducible exact spec_l03Exponent.mono _ _ _ _ _)
      | (with_reducible exact LeO.refl _)
      | (with_reducible exact LeO.none _)
      | (with_reducible refine LeO.ite ?_ ?_)
      | (with_reducible refine LeO.bind ?_ (fun _ => ?_))
      | exact ih0 _ _ _ _ _ _ _
      | exact ih1 _ _ _ _ _ _ _
      | exact ih2 _ _ _ _ _ _ _ _ _
      | exact ih3 _ _ _ _ _ _ _ _ _ _ _
      | exact spec_l03Exponent.mono _ _ _ _ _
      | exact LeO.none _
      | refine LeO.ite ?_ ?_
      | refine LeO.bind ?_ (fun _ => ?_)
    · intro y0 y1 y2 y3 y4 y5 y6 y7 y8 y9 y10
      unfold spec_l04Sum_body.l3
      repeat' first
      | (with_reducible exact ih0 _ _ _ _ _ _ _)
      | (with_reducible exact ih1 _ _ _ _ _ _ _)
      | (with_reducible exact ih2 _ _ _ _ _ _ _ _ _)
      | (with_reducible exact ih3 _ _ _ _ _ _ _ _ _ _ _)
      | (with_reducible exact spec_l03Exponent.mono _ _ _ _ _)
      | (with_reducible exact LeO.refl _)
      | (with_reducible exact LeO.none _)
      | (with_reducible refine LeO.ite ?_ ?_)
      | (with_reducible refine LeO.bind ?_ (fun _ => ?_))
      | exact ih0 _ _ _ _ _ _ _
      | exact ih1 _ _ _ _ _ _ _
      | exact ih2 _ _ _ _ _ _ _ _ _
      | exact ih3 _ _ _ _ _ _ _ _ _ _ _
      | exact spec_l03Exponent.mono _ _ _ _ _
      | exact LeO.none _
      | refine LeO.ite ?_ ?_
      | refine LeO.bind ?_ (fun _ => ?_)
theorem spec_l04Sum_body.mono : ∀ a0 a1 a2 a3 a4 k, LeO (spec_l04Sum_body.f k a0 a1 a2 a3 a4) (spec_l04Sum_body.f (k + 1) a0 a1 a2 a3 a4) := by
  intro a0 a1 a2 a3 a4 k
  obtain ⟨ih0, ih1, ih2, ih3⟩ := spec_l04Sum_body.mono_l k
  unfold spec_l04Sum_body.f
  repeat' first
      | (with_reducible exact ih0 _ _ _ _ _ _ _)
      | (with_reducible exact ih1 _ _ _ _ _ _ _)
      | (with_reducible exact ih2 _ _ _ _ _ _ _ _ _)
      | (with_reducible exact ih3 _ _ _ _ _ _ _ _ _ _ _)
      | (with_reducible exact spec_l03Exponent.mono _ _ _ _ _)
      | (with_reducible exact LeO.refl _)
      | (with_reducible exact LeO.none _)
      | (with_reducible refine LeO.ite ?_ ?_)
      | (with_reducible refine LeO.bind ?_ (fun _ => ?_))
      | exact ih0 _ _ _ _ _ _ _
      | exact ih1 _ _ _ _ _ _ _
      | exact ih2 _ _ _ _ _ _ _ _ _
      | exact ih3 _ _ _ _ _ _ _ _ _ _ _
      | exact spec_l03Exponent.mono _ _ _ _ _
      | exact LeO.none _
      | refine LeO.ite ?_ ?_
      | refine LeO.bind ?_ (fun _ => ?_)

end Go.Proofs.Ythdpdiahkphklaa.PFnExactCountByJacobi
