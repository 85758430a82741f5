/- The functions that the law reaches, as plain functions, each with the proof that the program comes to it; no condition. Written by a program of this session (wip/mp.py) over the printing of the kit; what is marked HAND is told by hand. -/
import Derived.Test.YthdpdiahkphklaaPFnExactCountByJacobix0
import Derived.Test.YthdpdiahkphklaaPFnExactCountByJacobix1
import Derived.Test.YthdpdiahkphklaaPFnExactCountByJacobix2
import Derived.Test.YthdpdiahkphklaaPFnExactCountByJacobix8
namespace Go.Proofs.Ythdpdiahkphklaa.PFnExactCountByJacobi
open Go.RowKit Go.Proofs.YthdpdiahkphklaaW.PrintWords Go.Proofs.YthdpdiahkphklaaW.PrintLast Go.Proofs.YthdpdiahkphklaaW.PrintMore
attribute [local go_sem] max2_int min2_int max_two min_two max_three min_three max_four min_four   -- for this text's walks alone
set_option linter.unusedVariables false
set_option linter.unusedSimpArgs false

/-! ### spec_CountByJacobi: function 10 -/
mutual
def spec_CountByJacobi.j0 : Nat → Int → Int → Int → Bool → Option (Int × Int)
  | 0, _, _, _, _ => none
  | k + 1, x0, x1, x2, x44 => if x44 = true then (some (0, 2)) else ((spec_l01Gcd.f k x1 x2).bind fun t241 => (if t241 = 0 then (none) else (if (wrap64 ((wrap64 (Int.tdiv x1 t241)) * x2)) > 16 then (some (0, 2)) else ((spec_l01Zero.f k (wrap64 ((wrap64 (Int.tdiv x1 t241)) * x2))).bind fun bt242 => (spec_CountByJacobi.l0 k x0 x1 x2 (wrap64 ((wrap64 (Int.tdiv x1 t241)) * x2)) 0 bt242.1 bt242.2)))))
def spec_CountByJacobi.l0 : Nat → Int → Int → Int → Int → Int → Int → List Int → Option (Int × Int)
  | 0, _, _, _, _, _, _, _ => none
  | k + 1, x0, x1, x2, x8, x10, x247000, x247001 => if x10 < x1 then (spec_CountByJacobi.l1 k x0 x1 x2 x8 x10 0 x247000 x247001) else (if 0 < (x247001.length : Int) then (some (rd x247001 0, 0)) else (none))
def spec_CountByJacobi.l1 : Nat → Int → Int → Int → Int → Int → Int → Int → List Int → Option (Int × Int)
  | 0, _, _, _, _, _, _, _, _ => none
  | k + 1, x0, x1, x2, x8, x10, x11, x247000, x247001 => if x11 < x2 then (if x1 = 0 then (none) else (if x2 = 0 then (none) else ((spec_l04Jacobi.f k x0 x8 (wrap64 (x10 * (wrap64 (Int.tdiv x8 x1)))) x0 x8 (wrap64 (x11 * (wrap64 (Int.tdiv x8 x2))))).bind fun bt250 => ((spec_l01Plus.f k x247000 x247001 bt250.1 bt250.2 1).bind fun bt254 => (if (wrap64 (x10 * (wrap64 (Int.tdiv x8 x1)))) = 0 then ((spec_l01One.f k x8).bind fun bt258 => ((spec_l01Plus.f k bt254.1 bt254.2 bt258.1 bt258.2 1).bind fun bt262 => (spec_CountByJacobi.j3 k x0 x1 x2 x8 x10 x11 bt262.1 bt262.2 x0 x8 (wrap64 (x11 * (wrap64 (Int.tdiv x8 x2))))))) else (spec_CountByJacobi.j3 k x0 x1 x2 x8 x10 x11 bt254.1 bt254.2 x0 x8 (wrap64 (x11 * (wrap64 (Int.tdiv x8 x2)))))))))) else (spec_CountByJacobi.l0 k x0 x1 x2 x8 (wrap64 (x10 + 1)) x247000 x247001)
def spec_CountByJacobi.j3 : Nat → Int → Int → Int → Int → Int → Int → Int → List Int → Int → Int → Int → Option (Int × Int)
  | 0, _, _, _, _, _, _, _, _, _, _, _ => none
  | k + 1, x0, x1, x2, x8, x10, x11, x247000, x247001, x250000, x250001, x250002 => if x250002 = 0 then ((spec_l01One.f k x8).bind fun bt266 => ((spec_l01Plus.f k x247000 x247001 bt266.1 bt266.2 1).bind fun bt270 => (spec_CountByJacobi.l1 k x0 x1 x2 x8 x10 (wrap64 (x11 + 1)) bt270.1 bt270.2))) else (spec_CountByJacobi.l1 k x0 x1 x2 x8 x10 (wrap64 (x11 + 1)) x247000 x247001)
end
def spec_CountByJacobi.f (k : Nat) (a0 : Int) (a1 : Int) (a2 : Int) : Option (Int × Int) := (spec_l03Prime.f k a0).bind fun t238 => (if t238 = true then ((spec_l01In.f a1 1 (wrap64 (a0 - 1))).bind fun t239 => (if t239 = true then ((spec_l01In.f a2 1 (wrap64 (a0 - 1))).bind fun t240 => (if t240 = true then (if a1 = 0 then (none) else (if (Int.tmod (wrap64 (a0 - 1)) a1) = 0 then (if a2 = 0 then (none) else (spec_CountByJacobi.j0 k a0 a1 a2 ((Int.tmod (wrap64 (a0 - 1)) a2) != 0))) else (spec_CountByJacobi.j0 k a0 a1 a2 true))) else (spec_CountByJacobi.j0 k a0 a1 a2 true))) else (spec_CountByJacobi.j0 k a0 a1 a2 true))) else (spec_CountByJacobi.j0 k a0 a1 a2 true))
theorem spec_CountByJacobi.mono_l : ∀ k, (∀ y0 y1 y2 y3, LeO (spec_CountByJacobi.j0 k y0 y1 y2 y3) (spec_CountByJacobi.j0 (k + 1) y0 y1 y2 y3)) ∧ (∀ y0 y1 y2 y3 y4 y5 y6, LeO (spec_CountByJacobi.l0 k y0 y1 y2 y3 y4 y5 y6) (spec_CountByJacobi.l0 (k + 1) y0 y1 y2 y3 y4 y5 y6)) ∧ (∀ y0 y1 y2 y3 y4 y5 y6 y7, LeO (spec_CountByJacobi.l1 k y0 y1 y2 y3 y4 y5 y6 y7) (spec_CountByJacobi.l1 (k + 1) y0 y1 y2 y3 y4 y5 y6 y7)) ∧ (∀ y0 y1 y2 y3 y4 y5 y6 y7 y8 y9 y10, LeO (spec_CountByJacobi.j3 k y0 y1 y2 y3 y4 y5 y6 y7 y8 y9 y10) (spec_CountByJacobi.j3 (k + 1) y0 y1 y2 y3 y4 y5 y6 y7 y8 y9 y10))
  | 0 => ⟨fun _ _ _ _ r h => by simp [spec_CountByJacobi.j0] at h, fun _ _ _ _ _ _ _ r h => by simp [spec_CountByJacobi.l0] at h, fun _ _ _ _ _ _ _ _ r h => by simp [spec_CountByJacobi.l1] at h, fun _ _ _ _ _ _ _ _ _ _ _ r h => by simp [spec_CountByJacobi.j3] at h⟩
  | k + 1 => by
    obtain ⟨ih0, ih1, ih2, ih3⟩ := spec_CountByJacobi.mono_l k
    refine ⟨?_, ?_, ?_, ?_⟩
    · intro y0 y1 y2 y3
      unfold spec_CountByJacobi.j0
      repeat' first
      | (with_reducible exact ih0 _ _ _ _)
      | (with_reducible exact ih1 _ _ _ _ _ _ _)
      | (with_reducible exact ih2 _ _ _ _ _ _ _ _)
      | (with_reducible exact ih3 _ _ _ _ _ _ _ _ _ _ _)
      | (with_reducible exact spec_l01Gcd.mono _ _ _)
      | (with_reducible exact spec_l01One.mono _ _)
      | (with_reducible exact spec_l01Plus.mono _ _ _ _ _ _)
      | (with_reducible exact spec_l01Zero.mono _ _)
      | (with_reducible exact spec_l03Prime.mono _ _)
      | (with_reducible exact spec_l04Jacobi.mono _ _ _ _ _ _ _)
      | (with_reducible exact LeO.refl _)
      | (with_reducible exact LeO.none _)
      | (with_reducible refine LeO.ite ?_ ?_)
      | (with_reducible refine LeO.bind ?_ (fun _ => ?_))
      | exact ih0 _ _ _ _
      | exact ih1 _ _ _ _ _ _ _
      | exact ih2 _ _ _ _ _ _ _ _
      | exact ih3 _ _ _ _ _ _ _ _ _ _ _
      | exact spec_l01Gcd.mono _ _ _
      | exact spec_l01One.mono _ _
      | exact spec_l01Plus.mono _ _ _ _ _ _
      | exact spec_l01Zero.mono _ _
      | exact spec_l03Prime.mono _ _
      | exact spec_l04Jacobi.mono _ _ _ _ _ _ _
      | exact LeO.none _
      | refine LeO.ite ?_ ?_
      | refine LeO.bind ?_ (fun _ => ?_)
    · intro y0 y1 y2 y3 y4 y5 y6
      unfold spec_CountByJacobi.l0
      repeat' first
      | (with_reducible exact ih0 _ _ _ _)
      | (with_reducible exact ih1 _ _ _ _ _ _ _)
      | (with_reducible exact ih2 _ _ _ _ _ _ _ _)
      | (with_reducible exact ih3 _ _ _ _ _ _ _ _ _ _ _)
      | (with_reducible exact spec_l01Gcd.mono _ _ _)
      | (with_reducible exact spec_l01One.mono _ _)
      | (with_reducible exact spec_l01Plus.mono _ _ _ _ _ _)
      | (with_reducible exact spec_l01Zero.mono _ _)
      | (with_reducible exact spec_l03Prime.mono _ _)
      | (with_reducible exact spec_l04Jacobi.mono _ _ _ _ _ _ _)
      | (with_reducible exact LeO.refl _)
      | (with_reducible exact LeO.none _)
      | (with_reducible refine LeO.ite ?_ ?_)
      | (with_reducible refine LeO.bind ?_ (fun _ => ?_))
      | exact ih0 _ _ _ _
      | exact ih1 _ _ _ _ _ _ _
      | exact ih2 _ _ _ _ _ _ _ _
      | exact ih3 _ _ _ _ _ _ _ _ _ _ _
      | exact spec_l01Gcd.mono _ _ _
      | exact spec_l01One.mono _ _
      | exact spec_l01Plus.mono _ _ _ _ _ _
      | exact spec_l01Zero.mono _ _
      | exact spec_l03Prime.mono _ _
      | exact spec_l04Jacobi.mono _ _ _ _ _ _ _
      | exact LeO.none _
      | refine LeO.ite ?_ ?_
      | refine LeO.bind ?_ (fun _ => ?_)
    · intro y0 y1 y2 y3 y4 y5 y6 y7
      unfold spec_CountByJacobi.l1
      repeat' first
      | (with_reducible exact ih0 _ _ _ _)
      | (with_reducible exact ih1 _ _ _ _ _ _ _)
      | (with_reducible exact ih2 _ _ _ _ _ _ _ _)
      | (with_reducible exact ih3 _ _ _ _ _ _ _ _ _ _ _)
      | (with_reducible exact spec_l01Gcd.mono _ _ _)
      | (with_reducible exact spec_l01One.mono _ _)
      | (with_reducible exact spec_l01Plus.mono _ _ _ _ _ _)
      | (with_reducible exact spec_l01Zero.mono _ _)
      | (with_reducible exact spec_l03Prime.mono _ _)
      | (with_reducible exact spec_l04Jacobi.mono _ _ _ _ _ _ _)
      | (with_reducible exact LeO.refl _)
      | (with_reducible exact LeO.none _)
      | (with_reducible refine LeO.ite ?_ ?_)
      | (with_reducible refine LeO.bind ?_ (fun _ => ?_))
      | exact ih0 _ _ _ _
      | exact ih1 _ _ _ _ _ _ _
      | exact ih2 _ _ _ _ _ _ _ _
      | exact ih3 _ _ _ _ _ _ _ _ _ _ _
      | exact spec_l01Gcd.mono _ _ _
      | exact spec_l01One.mono _ _
      | exact spec_l01Plus.mono _ _ _ _ _ _
      | exact spec_l01Zero.mono _ _
      | exact spec_l03Prime.mono _ _
      | exact spec_l04Jacobi.mono _ _ _ _ _ _ _
      | exact LeO.none _
      | refine LeO.ite ?_ ?_
      | refine LeO.bind ?_ (fun _ => ?_)
    · intro y0 y1 y2 y3 y4 y5 y6 y7 y8 y9 y10
      unfold spec_CountByJacobi.j3
      repeat' first
      | (with_reducible exact ih0 _ _ _ _)
      | (with_reducible exact ih1 _ _ _ _ _ _ _)
      | (with_reducible exact ih2 _ _ _ _ _ _ _ _)
      | (with_reducible exact ih3 _ _ _ _ _ _ _ _ _ _ _)
      | (with_reducible exact spec_l01Gcd.mono _ _ _)
      | (with_reducible exact spec_l01One.mono _ _)
      | (with_reducible exact spec_l01Plus.mono _ _ _ _ _ _)
      | (with_reducible exact spec_l01Zero.mono _ _)
      | (with_reducible exact spec_l03Prime.mono _ _)
      | (with_reducible exact spec_l04Jacobi.mono _ _ _ _ _ _ _)
      | (with_reducible exact LeO.refl _)
      | (with_reducible exact LeO.none _)
      | (with_reducible refine LeO.ite ?_ ?_)
      | (with_reducible refine LeO.bind ?_ (fun _ => ?_))
      | exact ih0 _ _ _ _
      | exact ih1 _ _ _ _ _ _ _
      | exact ih2 _ _ _ _ _ _ _ _
      | exact ih3 _ _ _ _ _ _ _ _ _ _ _
      | exact spec_l01Gcd.mono _ _ _
      | exact spec_l01One.mono _ _
      | exact spec_l01Plus.mono _ _ _ _ _ _
      | exact spec_l01Zero.mono _ _
      | exact spec_l03Prime.mono _ _
      | exact spec_l04Jacobi.mono _ _ _ _ _ _ _
      | exact LeO.none _
      | refine LeO.ite ?_ ?_
      | refine LeO.bind ?_ (fun _ => ?_)
theorem spec_CountByJacobi.mono : ∀ a0 a1 a2 k, LeO (spec_CountByJacobi.f k a0 a1 a2) (spec_CountByJacobi.f (k + 1) a0 a1 a2) := by
  intro a0 a1 a2 k
  obtain ⟨ih0, ih1, ih2, ih3⟩ := spec_CountByJacobi.mono_l k
  unfold spec_CountByJacobi.f
  repeat' first
      | (with_reducible exact ih0 _ _ _ _)
      | (with_reducible exact ih1 _ _ _ _ _ _ _)
      | (with_reducible exact ih2 _ _ _ _ _ _ _ _)
      | (with_reducible exact ih3 _ _ _ _ _ _ _ _ _ _ _)
      | (with_reducible exact spec_l01Gcd.mono _ _ _)
      | (with_reducible exact spec_l01One.mono _ _)
      | (with_reducible exact spec_l01Plus.mono _ _ _ _ _ _)
      | (with_reducible exact spec_l01Zero.mono _ _)
      | (with_reducible exact spec_l03Prime.mono _ _)
      | (with_reducible exact spec_l04Jacobi.mono _ _ _ _ _ _ _)
      | (with_reducible exact LeO.refl _)
      | (with_reducible exact LeO.none _)
      | (with_reducible refine LeO.ite ?_ ?_)
      | (with_reducible refine LeO.bind ?_ (fun _ => ?_))
      | exact ih0 _ _ _ _
      | exact ih1 _ _ _ _ _ _ _
      | exact ih2 _ _ _ _ _ _ _ _
      | exact ih3 _ _ _ _ _ _ _ _ _ _ _
      | exact spec_l01Gcd.mono _ _ _
      | exact spec_l01One.mono _ _
      | exact spec_l01Plus.mono _ _ _ _ _ _
      | exact spec_l01Zero.mono _ _
      | exact spec_l03Prime.mono _ _
      | exact spec_l04Jacobi.mono _ _ _ _ _ _ _
      | exact LeO.none _
      | refine LeO.ite ?_ ?_
      | refine LeO.bind ?_ (fun _ => ?_)
set_option maxHeartbeats 8000000 in
set_option maxRecDepth 100000 in
theorem spec_CountByJacobi.calls (k : Nat) (a0 : Int) (a1 : Int) (a2 : Int) (r1 : Int) (r2 : Int) (w : World) (h : spec_CountByJacobi.f k a0 a1 a2 = some (r1, r2)) :
    Calls Try.prog 10 #[.int .i64 a0, .int .i64 a1, .int .i64 a2] w fun e w' => e = .returned (.tuple #[.int .i64 r1, .int .i64 r2]) ∧ Below w.heap.size w w' := by
  have hu34 := Try.underlying34
  have hu37 := Try.underlying37
  have HB := Aside0.mk (Below.refl w.heap.size w)
  have H : ((spec_l03Prime.f k a0).bind fun t238 => (if t238 = true then ((spec_l01In.f a1 1 (wrap64 (a0 - 1))).bind fun t239 => (if t239 = true then ((spec_l01In.f a2 1 (wrap64 (a0 - 1))).bind fun t240 => (if t240 = true then (if a1 = 0 then (none) else (if (Int.tmod (wrap64 (a0 - 1)) a1) = 0 then (if a2 = 0 then (none) else (spec_CountByJacobi.j0 k a0 a1 a2 ((Int.tmod (wrap64 (a0 - 1)) a2) != 0))) else (spec_CountByJacobi.j0 k a0 a1 a2 true))) else (spec_CountByJacobi.j0 k a0 a1 a2 true))) else (spec_CountByJacobi.j0 k a0 a1 a2 true))) else (spec_CountByJacobi.j0 k a0 a1 a2 true))) = some (r1, r2) := h
  clear h
  have HC4 := Aside0.mk H
  clear H
  go_enter Try.func10, Try.ntmps10
  go_upto_region 1 with (fail)
  go_cut [44] (fun v44 wc => ∃ (kq : Nat) (x44_3 : Bool), v44 = .bool x44_3 ∧ Aside0 (spec_CountByJacobi.j0 kq a0 a1 a2 x44_3 = some (r1, r2)) ∧ Aside0 (kq ≤ k) ∧ Aside0 (Below w.heap.size w wc))
  case first =>
    have H := HC4.out
    clear HC4
    replace H := Option.bind_eq_some_iff.mp H
    obtain ⟨t238, A50, H⟩ := H
    replace H : (if t238 = true then ((spec_l01In.f a1 1 (wrap64 (a0 - 1))).bind fun t239 => (if t239 = true then ((spec_l01In.f a2 1 (wrap64 (a0 - 1))).bind fun t240 => (if t240 = true then (if a1 = 0 then (none) else (if (Int.tmod (wrap64 (a0 - 1)) a1) = 0 then (if a2 = 0 then (none) else (spec_CountByJacobi.j0 k a0 a1 a2 ((Int.tmod (wrap64 (a0 - 1)) a2) != 0))) else (spec_CountByJacobi.j0 k a0 a1 a2 true))) else (spec_CountByJacobi.j0 k a0 a1 a2 true))) else (spec_CountByJacobi.j0 k a0 a1 a2 true))) else (spec_CountByJacobi.j0 k a0 a1 a2 true)) = some (r1, r2) := H
    have A5 := Aside0.mk A50
    clear A50
    by_cases c6 : t238 = true
    · subst c6
      have H1 : ((spec_l01In.f a1 1 (wrap64 (a0 - 1))).bind fun t239 => (if t239 = true then ((spec_l01In.f a2 1 (wrap64 (a0 - 1))).bind fun t240 => (if t240 = true then (if a1 = 0 then (none) else (if (Int.tmod (wrap64 (a0 - 1)) a1) = 0 then (if a2 = 0 then (none) else (spec_CountByJacobi.j0 k a0 a1 a2 ((Int.tmod (wrap64 (a0 - 1)) a2) != 0))) else (spec_CountByJacobi.j0 k a0 a1 a2 true))) else (spec_CountByJacobi.j0 k a0 a1 a2 true))) else (spec_CountByJacobi.j0 k a0 a1 a2 true))) = some (r1, r2) := by rw [if_pos rfl] at H; exact H
      clear H
      have H := H1
      clear H1
      replace H := Option.bind_eq_some_iff.mp H
      obtain ⟨t239, A70, H⟩ := H
      replace H : (if t239 = true then ((spec_l01In.f a2 1 (wrap64 (a0 - 1))).bind fun t240 => (if t240 = true then (if a1 = 0 then (none) else (if (Int.tmod (wrap64 (a0 - 1)) a1) = 0 then (if a2 = 0 then (none) else (spec_CountByJacobi.j0 k a0 a1 a2 ((Int.tmod (wrap64 (a0 - 1)) a2) != 0))) else (spec_CountByJacobi.j0 k a0 a1 a2 true))) else (spec_CountByJacobi.j0 k a0 a1 a2 true))) else (spec_CountByJacobi.j0 k a0 a1 a2 true)) = some (r1, r2) := H
      have A7 := Aside0.mk A70
      clear A70
      by_cases c8 : t239 = true
      · subst c8
        have H1 : ((spec_l01In.f a2 1 (wrap64 (a0 - 1))).bind fun t240 => (if t240 = true then (if a1 = 0 then (none) else (if (Int.tmod (wrap64 (a0 - 1)) a1) = 0 then (if a2 = 0 then (none) else (spec_CountByJacobi.j0 k a0 a1 a2 ((Int.tmod (wrap64 (a0 - 1)) a2) != 0))) else (spec_CountByJacobi.j0 k a0 a1 a2 true))) else (spec_CountByJacobi.j0 k a0 a1 a2 true))) = some (r1, r2) := by rw [if_pos rfl] at H; exact H
        clear H
        have H := H1
        clear H1
        replace H := Option.bind_eq_some_iff.mp H
        obtain ⟨t240, A90, H⟩ := H
        replace H : (if t240 = true then (if a1 = 0 then (none) else (if (Int.tmod (wrap64 (a0 - 1)) a1) = 0 then (if a2 = 0 then (none) else (spec_CountByJacobi.j0 k a0 a1 a2 ((Int.tmod (wrap64 (a0 - 1)) a2) != 0))) else (spec_CountByJacobi.j0 k a0 a1 a2 true))) else (spec_CountByJacobi.j0 k a0 a1 a2 true)) = some (r1, r2) := H
        have A9 := Aside0.mk A90
        clear A90
        by_cases c10 : t240 = true
        · subst c10
          have H1 : (if a1 = 0 then (none) else (if (Int.tmod (wrap64 (a0 - 1)) a1) = 0 then (if a2 = 0 then (none) else (spec_CountByJacobi.j0 k a0 a1 a2 ((Int.tmod (wrap64 (a0 - 1)) a2) != 0))) else (spec_CountByJacobi.j0 k a0 a1 a2 true))) = some (r1, r2) := by rw [if_pos rfl] at H; exact H
          clear H
          have H := H1
          clear H1
          by_cases c11 : a1 = 0
          · rw [if_pos c11] at H
            exact absurd H (by simp)
          · rw [if_neg c11] at H
            have c11b0 : (a1 == 0) = false := beq_eq_false_iff_ne.mpr c11
            have c11b1 : (a1 != 0) = true := bne_iff_ne.mpr c11
            (first | rw [c11b0] | (simp only [i64_w, i32_w]; rw [c11b0]) | skip)
            by_cases c12 : (Int.tmod (wrap64 (a0 - 1)) a1) = 0
            · rw [if_pos c12] at H
              have c12b0 : ((Int.tmod (wrap64 (a0 - 1)) a1) == 0) = true := beq_iff_eq.mpr c12
              have c12b1 : ((Int.tmod (wrap64 (a0 - 1)) a1) != 0) = false := bne_eq_false_iff_eq.mpr c12
              clear c12
              by_cases c13 : a2 = 0
              · rw [if_pos c13] at H
                exact absurd H (by simp)
              · rw [if_neg c13] at H
                have c13b0 : (a2 == 0) = false := beq_eq_false_iff_ne.mpr c13
                have c13b1 : (a2 != 0) = true := bne_iff_ne.mpr c13
                have H' := Aside0.mk H
                clear H
                go_wp2_with (first | ((with_reducible refine gate_callee (f := 39) rfl ?_); refine goesL_ (some 15) rfl rfl Try.func39 (by kernel_rfl) rfl #[.int .i64 a0] rfl qB21 ?_; (with_reducible refine (spec_l03Prime.calls k a0 true _ A5.out).mono ?_); rintro e w' ⟨rfl, ⟨nd, rfl⟩⟩; refine ⟨_, rfl, ?_⟩) | (go_at_call 40; (with_reducible refine (spec_l01In.calls a1 1 (wrap64 (a0 - 1)) true _ A7.out).mono ?_); rintro e w' ⟨rfl, ⟨nd, rfl⟩⟩) | (go_at_call 40; (with_reducible refine (spec_l01In.calls a2 1 (wrap64 (a0 - 1)) true _ A9.out).mono ?_); rintro e w' ⟨rfl, ⟨nd, rfl⟩⟩))
                go_meet
                case rel => exact ⟨_, (((Int.tmod (wrap64 (a0 - 1)) a2) != 0)), qB56, H', ⟨by first | omega | exact Nat.le_refl _⟩, ⟨by repeat (first | (with_reducible first | exact HB.out | apply below_alloc | apply pw_below_drewN | apply below_drew1) | exact HB.out)⟩⟩
            · rw [if_neg c12] at H
              have c12b0 : ((Int.tmod (wrap64 (a0 - 1)) a1) == 0) = false := beq_eq_false_iff_ne.mpr c12
              have c12b1 : ((Int.tmod (wrap64 (a0 - 1)) a1) != 0) = true := bne_iff_ne.mpr c12
              have H' := Aside0.mk H
              clear H
              go_wp2_with (first | ((with_reducible refine gate_callee (f := 39) rfl ?_); refine goesL_ (some 15) rfl rfl Try.func39 (by kernel_rfl) rfl #[.int .i64 a0] rfl qB21 ?_; (with_reducible refine (spec_l03Prime.calls k a0 true _ A5.out).mono ?_); rintro e w' ⟨rfl, ⟨nd, rfl⟩⟩; refine ⟨_, rfl, ?_⟩) | (go_at_call 40; (with_reducible refine (spec_l01In.calls a1 1 (wrap64 (a0 - 1)) true _ A7.out).mono ?_); rintro e w' ⟨rfl, ⟨nd, rfl⟩⟩) | (go_at_call 40; (with_reducible refine (spec_l01In.calls a2 1 (wrap64 (a0 - 1)) true _ A9.out).mono ?_); rintro e w' ⟨rfl, ⟨nd, rfl⟩⟩))
              go_meet
              case rel => exact ⟨_, (true), qB56, H', ⟨by first | omega | exact Nat.le_refl _⟩, ⟨by repeat (first | (with_reducible first | exact HB.out | apply below_alloc | apply pw_below_drewN | apply below_drew1) | exact HB.out)⟩⟩
        · replace c10 := Bool.eq_false_iff.mpr c10
          subst c10
          have H1 : (spec_CountByJacobi.j0 k a0 a1 a2 true) = some (r1, r2) := by rw [if_neg (show ¬ (false = true) by decide)] at H; exact H
          clear H
          have H := H1
          clear H1
          have H' := Aside0.mk H
          clear H
          go_wp2_with (first | ((with_reducible refine gate_callee (f := 39) rfl ?_); refine goesL_ (some 15) rfl rfl Try.func39 (by kernel_rfl) rfl #[.int .i64 a0] rfl qB21 ?_; (with_reducible refine (spec_l03Prime.calls k a0 true _ A5.out).mono ?_); rintro e w' ⟨rfl, ⟨nd, rfl⟩⟩; refine ⟨_, rfl, ?_⟩) | (go_at_call 40; (with_reducible refine (spec_l01In.calls a1 1 (wrap64 (a0 - 1)) true _ A7.out).mono ?_); rintro e w' ⟨rfl, ⟨nd, rfl⟩⟩) | (go_at_call 40; (with_reducible refine (spec_l01In.calls a2 1 (wrap64 (a0 - 1)) false _ A9.out).mono ?_); rintro e w' ⟨rfl, ⟨nd, rfl⟩⟩))
          go_meet
          case rel => exact ⟨_, (true), qB56, H', ⟨by first | omega | exact Nat.le_refl _⟩, ⟨by repeat (first | (with_reducible first | exact HB.out | apply below_alloc | apply pw_below_drewN | apply below_drew1) | exact HB.out)⟩⟩
      · replace c8 := Bool.eq_false_iff.mpr c8
        subst c8
        have H1 : (spec_CountByJacobi.j0 k a0 a1 a2 true) = some (r1, r2) := by rw [if_neg (show ¬ (false = true) by decide)] at H; exact H
        clear H
        have H := H1
        clear H1
        have H' := Aside0.mk H
        clear H
        go_wp2_with (first | ((with_reducible refine gate_callee (f := 39) rfl ?_); refine goesL_ (some 15) rfl rfl Try.func39 (by kernel_rfl) rfl #[.int .i64 a0] rfl qB21 ?_; (with_reducible refine (spec_l03Prime.calls k a0 true _ A5.out).mono ?_); rintro e w' ⟨rfl, ⟨nd, rfl⟩⟩; refine ⟨_, rfl, ?_⟩) | (go_at_call 40; (with_reducible refine (spec_l01In.calls a1 1 (wrap64 (a0 - 1)) false _ A7.out).mono ?_); rintro e w' ⟨rfl, ⟨nd, rfl⟩⟩))
        go_meet
        case rel => exact ⟨_, (true), qB56, H', ⟨by first | omega | exact Nat.le_refl _⟩, ⟨by repeat (first | (with_reducible first | exact HB.out | apply below_alloc | apply pw_below_drewN | apply below_drew1) | exact HB.out)⟩⟩
    · replace c6 := Bool.eq_false_iff.mpr c6
      subst c6
      have H1 : (spec_CountByJacobi.j0 k a0 a1 a2 true) = some (r1, r2) := by rw [if_neg (show ¬ (false = true) by decide)] at H; exact H
      clear H
      have H := H1
      clear H1
      have H' := Aside0.mk H
      clear H
      go_wp2_with (first | ((with_reducible refine gate_callee (f := 39) rfl ?_); refine goesL_ (some 15) rfl rfl Try.func39 (by kernel_rfl) rfl #[.int .i64 a0] rfl qB21 ?_; (with_reducible refine (spec_l03Prime.calls k a0 false _ A5.out).mono ?_); rintro e w' ⟨rfl, ⟨nd, rfl⟩⟩; refine ⟨_, rfl, ?_⟩))
      go_meet
      case rel => exact ⟨_, (true), qB56, H', ⟨by first | omega | exact Nat.le_refl _⟩, ⟨by repeat (first | (with_reducible first | exact HB.out | apply below_alloc | apply pw_below_drewN | apply below_drew1) | exact HB.out)⟩⟩
  case rest =>
    clear HC4
    try clear c1
    try clear p2
    try clear c3
    try clear c6
    try clear p6
    try clear c8
    try clear c10
    try clear c11
    try clear c11b0
    try clear c11b1
    try clear c12
    try clear c12b0
    try clear c12b1
    try clear c13
    try clear c13b0
    try clear c13b1
    obtain ⟨kq, x44_3, rfl, HA, HJ3, HB⟩ := hcut
    cases kq with
    | zero => exact absurd HA.out (by simp [spec_CountByJacobi.j0])
    | succ kj3 =>
      have H := HA.out
      clear HA
      simp only [spec_CountByJacobi.j0] at H
      by_cases c14 : x44_3 = true
      · subst c14
        have H1 : (some (0, 2)) = some (r1, r2) := by rw [if_pos rfl] at H; exact H
        clear H
        have H := H1
        clear H1
        simp only [Option.some.injEq, Prod.mk.injEq] at H
        obtain ⟨rfl, rfl⟩ := H
        go_wp2
        go_ret2
        exact ⟨by first | rfl | (simp [errW_none, errW_some] <;> rfl) | (simp [*, errW_none, errW_some] <;> rfl), by repeat (first | (with_reducible first | exact HB.out | apply below_alloc | apply pw_below_drewN | apply below_drew1) | exact HB.out)⟩
      · replace c14 := Bool.eq_false_iff.mpr c14
        subst c14
        have H1 : ((spec_l01Gcd.f kj3 a1 a2).bind fun t241 => (if t241 = 0 then (none) else (if (wrap64 ((wrap64 (Int.tdiv a1 t241)) * a2)) > 16 then (some (0, 2)) else ((spec_l01Zero.f kj3 (wrap64 ((wrap64 (Int.tdiv a1 t241)) * a2))).bind fun bt242 => (spec_CountByJacobi.l0 kj3 a0 a1 a2 (wrap64 ((wrap64 (Int.tdiv a1 t241)) * a2)) 0 bt242.1 bt242.2))))) = some (r1, r2) := by rw [if_neg (show ¬ (false = true) by decide)] at H; exact H
        clear H
        have H := H1
        clear H1
        replace H := Option.bind_eq_some_iff.mp H
        obtain ⟨t241, A150, H⟩ := H
        replace H : (if t241 = 0 then (none) else (if (wrap64 ((wrap64 (Int.tdiv a1 t241)) * a2)) > 16 then (some (0, 2)) else ((spec_l01Zero.f kj3 (wrap64 ((wrap64 (Int.tdiv a1 t241)) * a2))).bind fun bt242 => (spec_CountByJacobi.l0 kj3 a0 a1 a2 (wrap64 ((wrap64 (Int.tdiv a1 t241)) * a2)) 0 bt242.1 bt242.2)))) = some (r1, r2) := H
        have A15 := Aside0.mk A150
        clear A150
        by_cases c16 : t241 = 0
        · rw [if_pos c16] at H
          exact absurd H (by simp)
        · rw [if_neg c16] at H
          have c16b0 : (t241 == 0) = false := beq_eq_false_iff_ne.mpr c16
          have c16b1 : (t241 != 0) = true := bne_iff_ne.mpr c16
          by_cases c17 : (wrap64 ((wrap64 (Int.tdiv a1 t241)) * a2)) > 16
          · rw [if_pos c17] at H
            have c17b0 : decide (16 < (wrap64 ((wrap64 (Int.tdiv a1 t241)) * a2))) = true := decide_eq_true c17
            clear c17
            simp only [Option.some.injEq, Prod.mk.injEq] at H
            obtain ⟨rfl, rfl⟩ := H
            go_wp2_with (first | ((with_reducible refine gate_callee (f := 41) rfl ?_); refine goesL_ (some 48) rfl rfl Try.func41 (by kernel_rfl) rfl #[.int .i64 a1, .int .i64 a2] rfl qB21 ?_; (with_reducible refine (spec_l01Gcd.calls kj3 a1 a2 t241 _ A15.out).mono ?_); rintro e w18 ⟨rfl, hb⟩; refine ⟨_, rfl, ?_⟩; have n0_ := Aside0.mk (below_step qB22 hb); clear HB; have HB := n0_; clear n0_; (try clear hb); (try clear hb2); (try clear hk); (try clear hi)))
            go_ret2
            exact ⟨by first | rfl | (simp [errW_none, errW_some] <;> rfl) | (simp [*, errW_none, errW_some] <;> rfl), by repeat (first | (with_reducible first | exact HB.out | apply below_alloc | apply pw_below_drewN | apply below_drew1) | exact HB.out)⟩
          · rw [if_neg c17] at H
            have c17b0 : decide (16 < (wrap64 ((wrap64 (Int.tdiv a1 t241)) * a2))) = false := decide_eq_false c17
            clear c17
            replace H := Option.bind_eq_some_iff.mp H
            obtain ⟨⟨t242, t243⟩, A190, H⟩ := H
            replace H : (spec_CountByJacobi.l0 kj3 a0 a1 a2 (wrap64 ((wrap64 (Int.tdiv a1 t241)) * a2)) 0 t242 t243) = some (r1, r2) := H
            have A19 := Aside0.mk A190
            clear A190
            have H' := Aside0.mk H
            clear H
            go_wp2_with (first | ((with_reducible refine gate_callee (f := 41) rfl ?_); refine goesL_ (some 48) rfl rfl Try.func41 (by kernel_rfl) rfl #[.int .i64 a1, .int .i64 a2] rfl qB21 ?_; (with_reducible refine (spec_l01Gcd.calls kj3 a1 a2 t241 _ A15.out).mono ?_); rintro e w20 ⟨rfl, hb⟩; refine ⟨_, rfl, ?_⟩; have n0_ := Aside0.mk (below_step qB22 hb); clear HB; have HB := n0_; clear n0_; (try clear hb); (try clear hb2); (try clear hk); (try clear hi)) | ((with_reducible refine gate_callee (f := 42) rfl ?_); refine goesL_ (some 55) rfl rfl Try.func42 (by kernel_rfl) rfl #[.int .i64 (wrap64 ((wrap64 (Int.tdiv a1 t241)) * a2))] rfl qB21 ?_; (with_reducible refine (spec_l01Zero.calls kj3 (wrap64 ((wrap64 (Int.tdiv a1 t241)) * a2)) t242 t243 _ A19.out).mono ?_); rintro e w21 ⟨v244, rfl, ho0, hb⟩; refine ⟨_, rfl, ?_⟩; have n0_ := Aside0.mk (Kd.R_lower ho0 (below_size qB22)); have n1_ := Aside0.mk (below_step qB22 hb); clear HB; have HO245 := n0_; have HB := n1_; clear n0_ n1_; (try clear hb); (try clear hb2); (try clear hk); (try clear hi); (try clear ho0)) | ((with_reducible refine gate_dst (N := 9) rfl ?_); refine box_event ?hg (N := 9) ?hd (cs := #[.int .i64 0, .slice none 0 0]) (t := 34) ?hr ?_; (case hd => rfl); (case hg => rfl); (case hr => first | (go_simp; done) | (go_simp; rfl)); intro gb246 hg w22 hbox hb; have n0_ := Aside0.mk (Kd.R_below (by (with_reducible repeat (first | apply Kd.R_alloc | apply Kd.R_drewN | apply Kd.R_drew)); exact HO245.out) hb); have n1_ := Aside0.mk (below_step qB22 hb); have n2_ := Aside0.mk (hbox); have n3_ := Aside0.mk ((by rw [hg]; exact (below_size qB22) : w.heap.size ≤ gb246)); have n4_ := Aside0.mk ((by rw [hg]; exact (below_size qB22) : w.heap.size ≤ gb246)); clear HO245; clear HB; have HO245 := n0_; have HB := n1_; have BK246 := n2_; have GW246 := n3_; have GE246 := n4_; clear n0_ n1_ n2_ n3_ n4_; clear hb hbox hg; have hcz23_0 : w22.cell? ⟨gb246, 0, none⟩ = some (.int .i64 0) := (blk_cell BK246.out 0).trans rfl; have hcz23_1 : w22.cell? ⟨gb246, 1, none⟩ = some (.slice none 0 0) := (blk_cell BK246.out 1).trans rfl; have hfz23_0 := blk_frozen BK246.out 0; have hfz23_1 := blk_frozen BK246.out 1; obtain ⟨Ao24, co24, eo24⟩ := Kd.R_slice HO245.out; subst eo24))
            try simp only [Act.put, List.setIfInBounds_toArray, List.set_cons_succ, List.set_cons_zero]
            go_loopg [10] kj3 (fun kq v10 w' => ∃ (x10_2 : Int) (x247000_2 : Int) (x247001_2 : List Int) (u247001 : Value), v10 = .int .i64 x10_2 ∧ Aside0 (spec_CountByJacobi.l0 kq a0 a1 a2 (wrap64 ((wrap64 (Int.tdiv a1 t241)) * a2)) x10_2 x247000_2 x247001_2 = some (r1, r2)) ∧ Aside0 (kq ≤ kj3) ∧ Aside0 (Kd.R (Kd.int .i64) 2 w' w.heap.size (fun _ => True) u247001 x247001_2) ∧ Aside0 (w'.heap[gb246]? = some (.cells #[.int .i64 x247000_2, u247001] 34 (0, 0))) ∧ Aside0 (Below w.heap.size w w'))
            case atStart => exact ⟨(0), (t242), (t243), (.slice Ao24 t243.length co24), qB56, H', ⟨Nat.le_refl _⟩, ⟨by (with_reducible repeat (first | apply Kd.R_alloc | apply Kd.R_drewN | apply Kd.R_drew)); exact Kd.R_mono (Kd.R_far (p := ⟨gb246, 1, none⟩) (Kd.R_far (p := ⟨gb246, 0, none⟩) (Kd.R_types HO245.out BK246.out (by decide)) (fun _ hk => hk.2) (.int .i64 t242)) (fun _ hk => hk.2) (.slice Ao24 t243.length co24)) (fun _ hk => trivial)⟩, ⟨by (with_reducible repeat (first | refine blk_drewN ?_ _ | refine blk_drew ?_ | refine blk_alloc ?_ _)); refine blk_put (cs := #[.int .i64 t242, .slice none 0 0]) ?_ 1 _ rfl; (with_reducible repeat (first | refine blk_drewN ?_ _ | refine blk_drew ?_ | refine blk_alloc ?_ _)); refine blk_put (cs := #[.int .i64 0, .slice none 0 0]) ?_ 0 _ rfl; (with_reducible repeat (first | refine blk_drewN ?_ _ | refine blk_drew ?_ | refine blk_alloc ?_ _)); exact BK246.out⟩, ⟨by repeat (first | (with_reducible first | exact HB.out | apply below_alloc | apply pw_below_drewN | apply below_drew1 | refine below_set ?_ GE246.out) | exact HB.out)⟩⟩
            case round =>
              clear H'
              try clear c1
              try clear p2
              try clear c3
              try clear c4
              try clear c6
              try clear p6
              try clear c8
              try clear c10
              try clear c11
              try clear c11b0
              try clear c11b1
              try clear c12
              try clear c12b0
              try clear c12b1
              try clear c13
              try clear c13b0
              try clear c13b1
              try clear c14
              try clear c16
              try clear c16b0
              try clear c16b1
              try clear c17
              try clear c17b0
              try clear hcz23_0
              try clear hcz23_1
              try clear hfz23_0
              try clear hfz23_1
              try clear p2
              try clear p6
              obtain ⟨x10_2, x247000_2, x247001_2, u247001, rfl, HA, HK2, HO_247001, BK246, HB⟩ := hrel
              cases gk with
              | zero => exact absurd HA.out (by simp [spec_CountByJacobi.l0])
              | succ k2 =>
                have H := HA.out
                clear HA
                simp only [spec_CountByJacobi.l0] at H
                by_cases c25 : x10_2 < a1
                · rw [if_pos c25] at H
                  have c25b0 : decide (x10_2 < a1) = true := decide_eq_true c25
                  clear c25
                  have H' := Aside0.mk H
                  clear H
                  go_wp2
                  try simp only [Act.put, List.setIfInBounds_toArray, List.set_cons_succ, List.set_cons_zero]
                  go_loopg [11] k2 (fun kq v11 w' => ∃ (x11_3 : Int) (x247000_3 : Int) (x247001_3 : List Int) (u247001 : Value), v11 = .int .i64 x11_3 ∧ Aside0 (spec_CountByJacobi.l1 kq a0 a1 a2 (wrap64 ((wrap64 (Int.tdiv a1 t241)) * a2)) x10_2 x11_3 x247000_3 x247001_3 = some (r1, r2)) ∧ Aside0 (kq ≤ k2) ∧ Aside0 (Kd.R (Kd.int .i64) 2 w' w.heap.size (fun _ => True) u247001 x247001_3) ∧ Aside0 (w'.heap[gb246]? = some (.cells #[.int .i64 x247000_3, u247001] 34 (0, 0))) ∧ Aside0 (Below w.heap.size w w'))
                  case atStart => exact ⟨(0), (x247000_2), (x247001_2), (u247001), qB56, H', ⟨Nat.le_refl _⟩, ⟨by (with_reducible repeat (first | apply Kd.R_alloc | apply Kd.R_drewN | apply Kd.R_drew)); exact HO_247001.out⟩, ⟨by (with_reducible repeat (first | refine blk_drewN ?_ _ | refine blk_drew ?_ | refine blk_alloc ?_ _)); exact BK246.out⟩, ⟨by repeat (first | (with_reducible first | exact HB.out | apply below_alloc | apply pw_below_drewN | apply below_drew1 | refine below_set ?_ GE246.out) | exact HB.out)⟩⟩
                  case round =>
                    clear H'
                    try clear c1
                    try clear c2
                    try clear p2
                    try clear c3
                    try clear c4
                    try clear c6
                    try clear p6
                    try clear c8
                    try clear c10
                    try clear c11
                    try clear c11b0
                    try clear c11b1
                    try clear c12
                    try clear c12b0
                    try clear c12b1
                    try clear c13
                    try clear c13b0
                    try clear c13b1
                    try clear c14
                    try clear c16
                    try clear c16b0
                    try clear c16b1
                    try clear c17
                    try clear c17b0
                    try clear c25
                    try clear c25b0
                    try clear hcz23_0
                    try clear hcz23_1
                    try clear hfz23_0
                    try clear hfz23_1
                    try clear p2
                    try clear p6
                    obtain ⟨x11_3, x247000_3, x247001_3, u247001, rfl, HA, HK3, HO_247001, BK246, HB⟩ := hrel
                    cases gk with
                    | zero => exact absurd HA.out (by simp [spec_CountByJacobi.l1])
                    | succ k3 =>
                      have H := HA.out
                      clear HA
                      simp only [spec_CountByJacobi.l1] at H
                      by_cases c26 : x11_3 < a2
                      · rw [if_pos c26] at H
                        have c26b0 : decide (x11_3 < a2) = true := decide_eq_true c26
                        clear c26
                        by_cases c27 : a1 = 0
                        · rw [if_pos c27] at H
                          exact absurd H (by simp)
                        · rw [if_neg c27] at H
                          have c27b0 : (a1 == 0) = false := beq_eq_false_iff_ne.mpr c27
                          have c27b1 : (a1 != 0) = true := bne_iff_ne.mpr c27
                          by_cases c28 : a2 = 0
                          · rw [if_pos c28] at H
                            exact absurd H (by simp)
                          · rw [if_neg c28] at H
                            have c28b0 : (a2 == 0) = false := beq_eq_false_iff_ne.mpr c28
                            have c28b1 : (a2 != 0) = true := bne_iff_ne.mpr c28
                            replace H := Option.bind_eq_some_iff.mp H
                            obtain ⟨⟨t250, t251⟩, A290, H⟩ := H
                            replace H : ((spec_l01Plus.f k3 x247000_3 x247001_3 t250 t251 1).bind fun bt254 => (if (wrap64 (x10_2 * (wrap64 (Int.tdiv (wrap64 ((wrap64 (Int.tdiv a1 t241)) * a2)) a1)))) = 0 then ((spec_l01One.f k3 (wrap64 ((wrap64 (Int.tdiv a1 t241)) * a2))).bind fun bt258 => ((spec_l01Plus.f k3 bt254.1 bt254.2 bt258.1 bt258.2 1).bind fun bt262 => (spec_CountByJacobi.j3 k3 a0 a1 a2 (wrap64 ((wrap64 (Int.tdiv a1 t241)) * a2)) x10_2 x11_3 bt262.1 bt262.2 a0 (wrap64 ((wrap64 (Int.tdiv a1 t241)) * a2)) (wrap64 (x11_3 * (wrap64 (Int.tdiv (wrap64 ((wrap64 (Int.tdiv a1 t241)) * a2)) a2))))))) else (spec_CountByJacobi.j3 k3 a0 a1 a2 (wrap64 ((wrap64 (Int.tdiv a1 t241)) * a2)) x10_2 x11_3 bt254.1 bt254.2 a0 (wrap64 ((wrap64 (Int.tdiv a1 t241)) * a2)) (wrap64 (x11_3 * (wrap64 (Int.tdiv (wrap64 ((wrap64 (Int.tdiv a1 t241)) * a2)) a2))))))) = some (r1, r2) := H
                            have A29 := Aside0.mk A290
                            clear A290
                            replace H := Option.bind_eq_some_iff.mp H
                            obtain ⟨⟨t254, t255⟩, A300, H⟩ := H
                            replace H : (if (wrap64 (x10_2 * (wrap64 (Int.tdiv (wrap64 ((wrap64 (Int.tdiv a1 t241)) * a2)) a1)))) = 0 then ((spec_l01One.f k3 (wrap64 ((wrap64 (Int.tdiv a1 t241)) * a2))).bind fun bt258 => ((spec_l01Plus.f k3 t254 t255 bt258.1 bt258.2 1).bind fun bt262 => (spec_CountByJacobi.j3 k3 a0 a1 a2 (wrap64 ((wrap64 (Int.tdiv a1 t241)) * a2)) x10_2 x11_3 bt262.1 bt262.2 a0 (wrap64 ((wrap64 (Int.tdiv a1 t241)) * a2)) (wrap64 (x11_3 * (wrap64 (Int.tdiv (wrap64 ((wrap64 (Int.tdiv a1 t241)) * a2)) a2))))))) else (spec_CountByJacobi.j3 k3 a0 a1 a2 (wrap64 ((wrap64 (Int.tdiv a1 t241)) * a2)) x10_2 x11_3 t254 t255 a0 (wrap64 ((wrap64 (Int.tdiv a1 t241)) * a2)) (wrap64 (x11_3 * (wrap64 (Int.tdiv (wrap64 ((wrap64 (Int.tdiv a1 t241)) * a2)) a2)))))) = some (r1, r2) := H
                            have A30 := Aside0.mk A300
                            clear A300
                            have HC31 := Aside0.mk H
                            clear H
                            try go_wp2_with (first | ((with_reducible refine gate_dst (N := 12) rfl ?_); refine box_event ?hg (N := 12) ?hd (cs := #[.int .i64 0, .int .i64 0, .int .i64 0]) (t := 37) ?hr ?_; (case hd => rfl); (case hg => rfl); (case hr => first | (go_simp; done) | (go_simp; rfl)); intro gb248 hg w32 hbox hb; have n0_ := Aside0.mk (Kd.R_below qB38 hb); have n1_ := Aside0.mk (blk_below (g := gb246) (o := .cells #[.int .i64 x247000_3, u247001] 34 (0, 0)) qB34 hb); have n2_ := Aside0.mk (below_step qB19 hb); have n3_ := Aside0.mk (hbox); have n4_ := Aside0.mk ((by rw [hg]; exact (below_size qB19) : w.heap.size ≤ gb248)); have n5_ := Aside0.mk ((by rw [hg]; exact (below_size qB19) : w.heap.size ≤ gb248)); have n6_ := Aside0.mk ((by rw [hg]; exact Nat.ne_of_lt (blk_lt (g := gb246) (o := .cells #[.int .i64 x247000_3, u247001] 34 (0, 0)) qB34) : gb246 ≠ gb248)); have n7_ := Aside0.mk ((by rw [hg]; exact Nat.ne_of_gt (blk_lt (g := gb246) (o := .cells #[.int .i64 x247000_3, u247001] 34 (0, 0)) qB34) : gb248 ≠ gb246)); clear HO_247001; clear BK246; clear HB; have HO_247001 := n0_; have BK246 := n1_; have HB := n2_; have BK248 := n3_; have GW248 := n4_; have GE248 := n5_; have NB246_248 := n6_; have NB248_246 := n7_; clear n0_ n1_ n2_ n3_ n4_ n5_ n6_ n7_; clear hb hbox hg; have hnb33 := NB248_246.out; have hnc33 := NB246_248.out; have hcz34_0 : w32.cell? ⟨gb248, 0, none⟩ = some (.int .i64 0) := (blk_cell BK248.out 0).trans rfl; have hcz34_1 : w32.cell? ⟨gb248, 1, none⟩ = some (.int .i64 0) := (blk_cell BK248.out 1).trans rfl; have hcz34_2 : w32.cell? ⟨gb248, 2, none⟩ = some (.int .i64 0) := (blk_cell BK248.out 2).trans rfl; have hfz34_0 := blk_frozen BK248.out 0; have hfz34_1 := blk_frozen BK248.out 1; have hfz34_2 := blk_frozen BK248.out 2) | ((with_reducible refine gate_dst (N := 13) rfl ?_); refine box_event ?hg (N := 13) ?hd (cs := #[.int .i64 0, .int .i64 0, .int .i64 0]) (t := 37) ?hr ?_; (case hd => rfl); (case hg => rfl); (case hr => first | (go_simp; done) | (go_simp; rfl)); intro gb249 hg w35 hbox hb; have n0_ := Aside0.mk (Kd.R_below (by (with_reducible repeat (first | apply Kd.R_alloc | apply Kd.R_drewN | apply Kd.R_drew)); exact (Kd.R_mono (Kd.R_far (p := ⟨gb248, 2, none⟩) (Kd.R_far (p := ⟨gb248, 1, none⟩) (Kd.R_far (p := ⟨gb248, 0, none⟩) (Kd.R_types HO_247001.out BK248.out (by decide)) (fun _ hk => hk.2) (.int .i64 a0)) (fun _ hk => hk.2) (.int .i64 (wrap64 ((wrap64 (Int.tdiv a1 t241)) * a2)))) (fun _ hk => hk.2) (.int .i64 (wrap64 (x10_2 * (wrap64 (Int.tdiv (wrap64 ((wrap64 (Int.tdiv a1 t241)) * a2)) a1)))))) (fun _ h_ => h_.1))) hb); have n1_ := Aside0.mk (blk_below (g := gb246) (o := .cells #[.int .i64 x247000_3, u247001] 34 (0, 0)) qB2 hb); have n2_ := Aside0.mk (blk_below (g := gb248) (o := .cells #[.int .i64 a0, .int .i64 (wrap64 ((wrap64 (Int.tdiv a1 t241)) * a2)), .int .i64 (wrap64 (x10_2 * (wrap64 (Int.tdiv (wrap64 ((wrap64 (Int.tdiv a1 t241)) * a2)) a1))))] 37 (0, 0)) qB1 hb); have n3_ := Aside0.mk (below_step qB10 hb); have n4_ := Aside0.mk (hbox); have n5_ := Aside0.mk ((by rw [hg]; exact (below_size qB10) : w.heap.size ≤ gb249)); have n6_ := Aside0.mk ((by rw [hg]; exact (below_size qB10) : w.heap.size ≤ gb249)); have n7_ := Aside0.mk ((by rw [hg]; exact Nat.ne_of_lt (blk_lt (g := gb246) (o := .cells #[.int .i64 x247000_3, u247001] 34 (0, 0)) qB2) : gb246 ≠ gb249)); have n8_ := Aside0.mk ((by rw [hg]; exact Nat.ne_of_gt (blk_lt (g := gb246) (o := .cells #[.int .i64 x247000_3, u247001] 34 (0, 0)) qB2) : gb249 ≠ gb246)); have n9_ := Aside0.mk ((by rw [hg]; exact Nat.ne_of_lt (blk_lt (g := gb248) (o := .cells #[.int .i64 a0, .int .i64 (wrap64 ((wrap64 (Int.tdiv a1 t241)) * a2)), .int .i64 (wrap64 (x10_2 * (wrap64 (Int.tdiv (wrap64 ((wrap64 (Int.tdiv a1 t241)) * a2)) a1))))] 37 (0, 0)) qB1) : gb248 ≠ gb249)); have n10_ := Aside0.mk ((by rw [hg]; exact Nat.ne_of_gt (blk_lt (g := gb248) (o := .cells #[.int .i64 a0, .int .i64 (wrap64 ((wrap64 (Int.tdiv a1 t241)) * a2)), .int .i64 (wrap64 (x10_2 * (wrap64 (Int.tdiv (wrap64 ((wrap64 (Int.tdiv a1 t241)) * a2)) a1))))] 37 (0, 0)) qB1) : gb249 ≠ gb248)); clear HO_247001; clear BK246; clear BK248; clear HB; have HO_247001 := n0_; have BK246 := n1_; have BK248 := n2_; have HB := n3_; have BK249 := n4_; have GW249 := n5_; have GE249 := n6_; have NB246_249 := n7_; have NB249_246 := n8_; have NB248_249 := n9_; have NB249_248 := n10_; clear n0_ n1_ n2_ n3_ n4_ n5_ n6_ n7_ n8_ n9_ n10_; clear hb hbox hg; have hnb36 := NB249_246.out; have hnc36 := NB246_249.out; have hnb37 := NB249_248.out; have hnc37 := NB248_249.out; have hcz38_0 : w35.cell? ⟨gb249, 0, none⟩ = some (.int .i64 0) := (blk_cell BK249.out 0).trans rfl; have hcz38_1 : w35.cell? ⟨gb249, 1, none⟩ = some (.int .i64 0) := (blk_cell BK249.out 1).trans rfl; have hcz38_2 : w35.cell? ⟨gb249, 2, none⟩ = some (.int .i64 0) := (blk_cell BK249.out 2).trans rfl; have hfz38_0 := blk_frozen BK249.out 0; have hfz38_1 := blk_frozen BK249.out 1; have hfz38_2 := blk_frozen BK249.out 2))
                            have n0_ : Aside0 (Kd.R (Kd.int .i64) 2 (((w35.setCell ⟨gb249, 0, none⟩ (.int .i64 a0)).setCell ⟨gb249, 1, none⟩ (.int .i64 (wrap64 ((wrap64 (Int.tdiv a1 t241)) * a2)))).setCell ⟨gb249, 2, none⟩ (.int .i64 (wrap64 (x11_3 * (wrap64 (Int.tdiv (wrap64 ((wrap64 (Int.tdiv a1 t241)) * a2)) a2)))))) w.heap.size (fun _ => True) u247001 x247001_3) := ⟨by (with_reducible repeat (first | apply Kd.R_alloc | apply Kd.R_drewN | apply Kd.R_drew)); exact Kd.R_mono (Kd.R_far (p := ⟨gb249, 2, none⟩) (Kd.R_far (p := ⟨gb249, 1, none⟩) (Kd.R_far (p := ⟨gb249, 0, none⟩) (Kd.R_types HO_247001.out BK249.out (by decide)) (fun _ hk => hk.2) (.int .i64 a0)) (fun _ hk => hk.2) (.int .i64 (wrap64 ((wrap64 (Int.tdiv a1 t241)) * a2)))) (fun _ hk => hk.2) (.int .i64 (wrap64 (x11_3 * (wrap64 (Int.tdiv (wrap64 ((wrap64 (Int.tdiv a1 t241)) * a2)) a2)))))) (fun _ hk => trivial)⟩
                            have n1_ : Aside0 ((((w35.setCell ⟨gb249, 0, none⟩ (.int .i64 a0)).setCell ⟨gb249, 1, none⟩ (.int .i64 (wrap64 ((wrap64 (Int.tdiv a1 t241)) * a2)))).setCell ⟨gb249, 2, none⟩ (.int .i64 (wrap64 (x11_3 * (wrap64 (Int.tdiv (wrap64 ((wrap64 (Int.tdiv a1 t241)) * a2)) a2)))))).heap[gb246]? = some (.cells #[.int .i64 x247000_3, u247001] 34 (0, 0))) := ⟨by (with_reducible repeat (first | refine blk_drewN ?_ _ | refine blk_drew ?_ | refine blk_alloc ?_ _)); refine blk_far ?_ NB246_249.out _; (with_reducible repeat (first | refine blk_drewN ?_ _ | refine blk_drew ?_ | refine blk_alloc ?_ _)); refine blk_far ?_ NB246_249.out _; (with_reducible repeat (first | refine blk_drewN ?_ _ | refine blk_drew ?_ | refine blk_alloc ?_ _)); refine blk_far ?_ NB246_249.out _; (with_reducible repeat (first | refine blk_drewN ?_ _ | refine blk_drew ?_ | refine blk_alloc ?_ _)); exact BK246.out⟩
                            have n2_ : Aside0 ((((w35.setCell ⟨gb249, 0, none⟩ (.int .i64 a0)).setCell ⟨gb249, 1, none⟩ (.int .i64 (wrap64 ((wrap64 (Int.tdiv a1 t241)) * a2)))).setCell ⟨gb249, 2, none⟩ (.int .i64 (wrap64 (x11_3 * (wrap64 (Int.tdiv (wrap64 ((wrap64 (Int.tdiv a1 t241)) * a2)) a2)))))).heap[gb248]? = some (.cells #[.int .i64 a0, .int .i64 (wrap64 ((wrap64 (Int.tdiv a1 t241)) * a2)), .int .i64 (wrap64 (x10_2 * (wrap64 (Int.tdiv (wrap64 ((wrap64 (Int.tdiv a1 t241)) * a2)) a1))))] 37 (0, 0))) := ⟨by (with_reducible repeat (first | refine blk_drewN ?_ _ | refine blk_drew ?_ | refine blk_alloc ?_ _)); refine blk_far ?_ NB248_249.out _; (with_reducible repeat (first | refine blk_drewN ?_ _ | refine blk_drew ?_ | refine blk_alloc ?_ _)); refine blk_far ?_ NB248_249.out _; (with_reducible repeat (first | refine blk_drewN ?_ _ | refine blk_drew ?_ | refine blk_alloc ?_ _)); refine blk_far ?_ NB248_249.out _; (with_reducible repeat (first | refine blk_drewN ?_ _ | refine blk_drew ?_ | refine blk_alloc ?_ _)); exact BK248.out⟩
                            have n3_ : Aside0 ((((w35.setCell ⟨gb249, 0, none⟩ (.int .i64 a0)).setCell ⟨gb249, 1, none⟩ (.int .i64 (wrap64 ((wrap64 (Int.tdiv a1 t241)) * a2)))).setCell ⟨gb249, 2, none⟩ (.int .i64 (wrap64 (x11_3 * (wrap64 (Int.tdiv (wrap64 ((wrap64 (Int.tdiv a1 t241)) * a2)) a2)))))).heap[gb249]? = some (.cells #[.int .i64 a0, .int .i64 (wrap64 ((wrap64 (Int.tdiv a1 t241)) * a2)), .int .i64 (wrap64 (x11_3 * (wrap64 (Int.tdiv (wrap64 ((wrap64 (Int.tdiv a1 t241)) * a2)) a2))))] 37 (0, 0))) := ⟨by (with_reducible repeat (first | refine blk_drewN ?_ _ | refine blk_drew ?_ | refine blk_alloc ?_ _)); refine blk_put (cs := #[.int .i64 a0, .int .i64 (wrap64 ((wrap64 (Int.tdiv a1 t241)) * a2)), .int .i64 0]) ?_ 2 _ rfl; (with_reducible repeat (first | refine blk_drewN ?_ _ | refine blk_drew ?_ | refine blk_alloc ?_ _)); refine blk_put (cs := #[.int .i64 a0, .int .i64 0, .int .i64 0]) ?_ 1 _ rfl; (with_reducible repeat (first | refine blk_drewN ?_ _ | refine blk_drew ?_ | refine blk_alloc ?_ _)); refine blk_put (cs := #[.int .i64 0, .int .i64 0, .int .i64 0]) ?_ 0 _ rfl; (with_reducible repeat (first | refine blk_drewN ?_ _ | refine blk_drew ?_ | refine blk_alloc ?_ _)); exact BK249.out⟩
                            have n4_ : Aside0 (Below w.heap.size w (((w35.setCell ⟨gb249, 0, none⟩ (.int .i64 a0)).setCell ⟨gb249, 1, none⟩ (.int .i64 (wrap64 ((wrap64 (Int.tdiv a1 t241)) * a2)))).setCell ⟨gb249, 2, none⟩ (.int .i64 (wrap64 (x11_3 * (wrap64 (Int.tdiv (wrap64 ((wrap64 (Int.tdiv a1 t241)) * a2)) a2))))))) := ⟨by repeat (first | (with_reducible first | exact HB.out | apply below_alloc | apply pw_below_drewN | apply below_drew1 | refine below_set ?_ GE246.out | refine below_set ?_ GE248.out | refine below_set ?_ GE249.out) | exact HB.out)⟩
                            (try clear HO_247001)
                            (try clear BK246)
                            (try clear BK248)
                            (try clear BK249)
                            (try clear HB)
                            generalize (((w35.setCell ⟨gb249, 0, none⟩ (.int .i64 a0)).setCell ⟨gb249, 1, none⟩ (.int .i64 (wrap64 ((wrap64 (Int.tdiv a1 t241)) * a2)))).setCell ⟨gb249, 2, none⟩ (.int .i64 (wrap64 (x11_3 * (wrap64 (Int.tdiv (wrap64 ((wrap64 (Int.tdiv a1 t241)) * a2)) a2)))))) = w39 at n0_ n1_ n2_ n3_ n4_ ⊢
                            have HO_247001 := n0_
                            have BK246 := n1_
                            have BK248 := n2_
                            have BK249 := n3_
                            have HB := n4_
                            clear n0_ n1_ n2_ n3_ n4_
                            have n0_ := Aside0.mk (Kd.R_drew HO_247001.out)
                            have n1_ := Aside0.mk (blk_drew BK246.out)
                            have n2_ := Aside0.mk (blk_drew BK248.out)
                            have n3_ := Aside0.mk (blk_drew BK249.out)
                            have n4_ := Aside0.mk (below_drew1 HB.out)
                            clear HO_247001
                            clear BK246
                            clear BK248
                            clear BK249
                            clear HB
                            have HO_247001 := n0_
                            have BK246 := n1_
                            have BK248 := n2_
                            have BK249 := n3_
                            have HB := n4_
                            clear n0_ n1_ n2_ n3_ n4_
                            refine start_ (n := 6) (S := fun w' => w'.cell? ⟨gb246, 0, none⟩ = some (.int .i64 x247000_3) ∧ w'.cell? ⟨gb246, 1, none⟩ = some (u247001) ∧ w'.cell? ⟨gb248, 0, none⟩ = some (.int .i64 a0) ∧ w'.cell? ⟨gb248, 1, none⟩ = some (.int .i64 (wrap64 ((wrap64 (Int.tdiv a1 t241)) * a2))) ∧ w'.cell? ⟨gb248, 2, none⟩ = some (.int .i64 (wrap64 (x10_2 * (wrap64 (Int.tdiv (wrap64 ((wrap64 (Int.tdiv a1 t241)) * a2)) a1))))) ∧ w'.cell? ⟨gb249, 0, none⟩ = some (.int .i64 a0) ∧ w'.cell? ⟨gb249, 1, none⟩ = some (.int .i64 (wrap64 ((wrap64 (Int.tdiv a1 t241)) * a2))) ∧ w'.cell? ⟨gb249, 2, none⟩ = some (.int .i64 (wrap64 (x11_3 * (wrap64 (Int.tdiv (wrap64 ((wrap64 (Int.tdiv a1 t241)) * a2)) a2)))))) (ds := [5]) #[false, false, false, false, false, false] (by kernel_rfl) rfl rfl ⟨(blk_cell BK246.out 0).trans rfl, (blk_cell BK246.out 1).trans rfl, (blk_cell BK248.out 0).trans rfl, (blk_cell BK248.out 1).trans rfl, (blk_cell BK248.out 2).trans rfl, (blk_cell BK249.out 0).trans rfl, (blk_cell BK249.out 1).trans rfl, (blk_cell BK249.out 2).trans rfl⟩ (fun hHeld => ?_)
                            generalize w39.drew = w40 at HO_247001 BK246 BK248 BK249 HB hHeld ⊢
                            refine take_ (i := 0) (N := some 82) (v := ?_) (a' := ?_) #[true, false, false, false, false, false] rfl rfl (by kernel_rfl) (fun _ _ _ h => h) (Or.inl ⟨by rfl, ?_⟩) hHeld ?_ ?_
                            rotate_left
                            · rintro w' ⟨s0, s1, s2, s3, s4, s5, s6, s7⟩
                              go_simp
                              with_reducible rfl
                            rotate_left
                            · simp only [Act.put, List.setIfInBounds_toArray, List.set_cons_zero, List.set_cons_succ, i64_w, i32_w]
                              rfl
                            refine take_ (i := 1) (N := some 83) (v := ?_) (a' := ?_) #[true, true, false, false, false, false] rfl rfl (by kernel_rfl) (fun _ _ _ h => h) (Or.inl ⟨by rfl, ?_⟩) hHeld ?_ ?_
                            rotate_left
                            · rintro w' ⟨s0, s1, s2, s3, s4, s5, s6, s7⟩
                              go_simp
                              with_reducible rfl
                            rotate_left
                            · simp only [Act.put, List.setIfInBounds_toArray, List.set_cons_zero, List.set_cons_succ, i64_w, i32_w]
                              rfl
                            refine take_ (i := 2) (N := some 84) (v := ?_) (a' := ?_) #[true, true, true, false, false, false] rfl rfl (by kernel_rfl) (fun _ _ _ h => h) (Or.inl ⟨by rfl, ?_⟩) hHeld ?_ ?_
                            rotate_left
                            · rintro w' ⟨s0, s1, s2, s3, s4, s5, s6, s7⟩
                              go_simp
                              with_reducible rfl
                            rotate_left
                            · simp only [Act.put, List.setIfInBounds_toArray, List.set_cons_zero, List.set_cons_succ, i64_w, i32_w]
                              rfl
                            refine one_ (i := 3) (N := some 85) #[true, true, true, true, false, false] rfl rfl (by kernel_rfl) (by decide) (fun K hK => ?_)
                            refine goes_ Try.func44 (by kernel_rfl) rfl #[.agg #[.int .i64 a0, .int .i64 (wrap64 ((wrap64 (Int.tdiv a1 t241)) * a2)), .int .i64 (wrap64 (x10_2 * (wrap64 (Int.tdiv (wrap64 ((wrap64 (Int.tdiv a1 t241)) * a2)) a1))))], .agg #[.int .i64 a0, .int .i64 (wrap64 ((wrap64 (Int.tdiv a1 t241)) * a2)), .int .i64 (wrap64 (x11_3 * (wrap64 (Int.tdiv (wrap64 ((wrap64 (Int.tdiv a1 t241)) * a2)) a2))))]] (by rfl) rfl rfl qB21 ?_
                            with_reducible refine (spec_l04Jacobi.calls k3 a0 (wrap64 ((wrap64 (Int.tdiv a1 t241)) * a2)) (wrap64 (x10_2 * (wrap64 (Int.tdiv (wrap64 ((wrap64 (Int.tdiv a1 t241)) * a2)) a1)))) a0 (wrap64 ((wrap64 (Int.tdiv a1 t241)) * a2)) (wrap64 (x11_3 * (wrap64 (Int.tdiv (wrap64 ((wrap64 (Int.tdiv a1 t241)) * a2)) a2)))) t250 t251 _ A29.out).mono ?_
                            rintro e w41 ⟨v252, rfl, ho0, hb⟩
                            refine ⟨_, rfl, ?_⟩
                            have n0_ := Aside0.mk (Kd.R_elder' qB38 (Kd.R_base ho0) hb)
                            have n1_ := Aside0.mk (Kd.R_lower (Kd.R_new' ho0 (Kd.R_lt qB38)) (below_size qB7))
                            have n2_ := Aside0.mk (blk_below (g := gb246) (o := .cells #[.int .i64 x247000_3, u247001] 34 (0, 0)) qB34 hb)
                            have n3_ := Aside0.mk (blk_below (g := gb248) (o := .cells #[.int .i64 a0, .int .i64 (wrap64 ((wrap64 (Int.tdiv a1 t241)) * a2)), .int .i64 (wrap64 (x10_2 * (wrap64 (Int.tdiv (wrap64 ((wrap64 (Int.tdiv a1 t241)) * a2)) a1))))] 37 (0, 0)) qB35 hb)
                            have n4_ := Aside0.mk (blk_below (g := gb249) (o := .cells #[.int .i64 a0, .int .i64 (wrap64 ((wrap64 (Int.tdiv a1 t241)) * a2)), .int .i64 (wrap64 (x11_3 * (wrap64 (Int.tdiv (wrap64 ((wrap64 (Int.tdiv a1 t241)) * a2)) a2))))] 37 (0, 0)) qB36 hb)
                            have n5_ := Aside0.mk (below_step qB7 hb)
                            clear HO_247001
                            clear BK246
                            clear BK248
                            clear BK249
                            clear HB
                            have HO_247001 := n0_
                            have HO253 := n1_
                            have BK246 := n2_
                            have BK248 := n3_
                            have BK249 := n4_
                            have HB := n5_
                            clear n0_ n1_ n2_ n3_ n4_ n5_
                            (try clear hb)
                            (try clear hb2)
                            (try clear hk)
                            (try clear hi)
                            (try clear ho0)
                            obtain ⟨Ao42, co42, eo42⟩ := Kd.R_slice HO_247001.out
                            (first | subst eo42 | (injection eo42 with f1_ f2_ f3_; have f4_ := f1_.symm; have f5_ := f3_.symm; clear f1_ f2_ f3_; subst f4_; subst f5_))
                            obtain ⟨Ao43, co43, eo43⟩ := Kd.R_slice HO253.out
                            (first | subst eo43 | (injection eo43 with f1_ f2_ f3_; have f4_ := f1_.symm; have f5_ := f3_.symm; clear f1_ f2_ f3_; subst f4_; subst f5_))
                            refine hK.out _ _ ⟨(blk_cell BK246.out 0).trans rfl, (blk_cell BK246.out 1).trans rfl, (blk_cell BK248.out 0).trans rfl, (blk_cell BK248.out 1).trans rfl, (blk_cell BK248.out 2).trans rfl, (blk_cell BK249.out 0).trans rfl, (blk_cell BK249.out 1).trans rfl, (blk_cell BK249.out 2).trans rfl⟩ (fun hHeld => ?_)
                            clear hK K
                            refine norm_ (a' := ?_) ?_ ?_
                            rotate_left
                            · show Act.put _ (some 85) _ = _
                              simp only [Act.put, List.setIfInBounds_toArray, List.set_cons_zero, List.set_cons_succ, i64_w, i32_w]
                              rfl
                            refine one_ (i := 4) (N := some 86) #[true, true, true, true, true, false] rfl rfl (by kernel_rfl) (by decide) (fun K hK => ?_)
                            refine goes_ Try.func43 (by kernel_rfl) rfl #[.agg #[.int .i64 x247000_3, .slice Ao42 x247001_3.length co42], .agg #[.int .i64 t250, .slice Ao43 t251.length co43], .int .i64 1] (by rfl) rfl rfl qB21 ?_
                            with_reducible refine (spec_l01Plus.calls k3 x247000_3 _ _ x247001_3 t250 _ _ t251 1 t254 t255 _ ?side1 ?side2 ?side3 ?side4 A30.out).mono ?_
                            (case side1 => repeat (first | exact (Kd.R_reads' HO_247001.out).2.2 | (with_reducible refine Kd.C_alloc ?_ _) | (with_reducible refine Kd.C_drewN ?_ _) | (with_reducible refine Kd.C_drew ?_)))
                            (case side2 => exact (Kd.R_reads' HO_247001.out).2.1)
                            (case side3 => repeat (first | exact (Kd.R_reads' HO253.out).2.2 | (with_reducible refine Kd.C_alloc ?_ _) | (with_reducible refine Kd.C_drewN ?_ _) | (with_reducible refine Kd.C_drew ?_)))
                            (case side4 => exact (Kd.R_reads' HO253.out).2.1)
                            rintro e w44 ⟨v256, rfl, ho0, hb⟩
                            refine ⟨_, rfl, ?_⟩
                            have n0_ := Aside0.mk (Kd.R_elder' qB38 (Kd.R_base ho0) hb)
                            have n1_ := Aside0.mk (Kd.R_elder' qB46 (Kd.R_base ho0) hb)
                            have n2_ := Aside0.mk (Kd.R_lower (Kd.R_new' (Kd.R_new' ho0 (Kd.R_lt qB38)) (Kd.R_lt qB46)) (below_size qB7))
                            have n3_ := Aside0.mk (blk_below (g := gb246) (o := .cells #[.int .i64 x247000_3, .slice Ao42 x247001_3.length co42] 34 (0, 0)) qB34 hb)
                            have n4_ := Aside0.mk (blk_below (g := gb248) (o := .cells #[.int .i64 a0, .int .i64 (wrap64 ((wrap64 (Int.tdiv a1 t241)) * a2)), .int .i64 (wrap64 (x10_2 * (wrap64 (Int.tdiv (wrap64 ((wrap64 (Int.tdiv a1 t241)) * a2)) a1))))] 37 (0, 0)) qB35 hb)
                            have n5_ := Aside0.mk (blk_below (g := gb249) (o := .cells #[.int .i64 a0, .int .i64 (wrap64 ((wrap64 (Int.tdiv a1 t241)) * a2)), .int .i64 (wrap64 (x11_3 * (wrap64 (Int.tdiv (wrap64 ((wrap64 (Int.tdiv a1 t241)) * a2)) a2))))] 37 (0, 0)) qB36 hb)
                            have n6_ := Aside0.mk (below_step qB7 hb)
                            clear HO_247001
                            clear HO253
                            clear BK246
                            clear BK248
                            clear BK249
                            clear HB
                            have HO_247001 := n0_
                            have HO253 := n1_
                            have HO257 := n2_
                            have BK246 := n3_
                            have BK248 := n4_
                            have BK249 := n5_
                            have HB := n6_
                            clear n0_ n1_ n2_ n3_ n4_ n5_ n6_
                            (try clear hb)
                            (try clear hb2)
                            (try clear hk)
                            (try clear hi)
                            (try clear ho0)
                            obtain ⟨Ao46, co46, eo46⟩ := Kd.R_slice HO257.out
                            (first | subst eo46 | (injection eo46 with f1_ f2_ f3_; have f4_ := f1_.symm; have f5_ := f3_.symm; clear f1_ f2_ f3_; subst f4_; subst f5_))
                            refine hK.out _ _ ⟨(blk_cell BK246.out 0).trans rfl, (blk_cell BK246.out 1).trans rfl, (blk_cell BK248.out 0).trans rfl, (blk_cell BK248.out 1).trans rfl, (blk_cell BK248.out 2).trans rfl, (blk_cell BK249.out 0).trans rfl, (blk_cell BK249.out 1).trans rfl, (blk_cell BK249.out 2).trans rfl⟩ (fun hHeld => ?_)
                            clear hK K
                            refine norm_ (a' := ?_) ?_ ?_
                            rotate_left
                            · show Act.put _ (some 86) _ = _
                              simp only [Act.put, List.setIfInBounds_toArray, List.set_cons_zero, List.set_cons_succ, i64_w, i32_w]
                              rfl
                            refine last_ (i := 5) (N := none) #[true, true, true, true, true, true] rfl rfl (by kernel_rfl) (by decide) (fun K hK => ?_)
                            have hs45 : w44.cell? ⟨gb246, 0, none⟩ = some (.int .i64 x247000_3) := (blk_cell BK246.out 0).trans rfl
                            have hfs45 := blk_frozen BK246.out 0
                            have hns45_1 := NB248_246.out
                            have hns45_2 := NB249_246.out
                            have hms45_1 := NB246_248.out
                            have hms45_2 := NB246_249.out
                            have hs47 : w44.cell? ⟨gb246, 1, none⟩ = some (.slice Ao42 x247001_3.length co42) := (blk_cell BK246.out 1).trans rfl
                            have hfs47 := blk_frozen BK246.out 1
                            have hns47_1 := NB248_246.out
                            have hns47_2 := NB249_246.out
                            have hms47_1 := NB246_248.out
                            have hms47_2 := NB246_249.out
                            refine skip_ (w1 := ?_) (by rfl) rfl ?_ ?_
                            rotate_left
                            · go_simp
                              rfl
                            refine hK.out _ _ ?_
                            clear hK K
                            refine done_ (by kernel_rfl) ?_
                            have hcz48_0 : w44.cell? ⟨gb248, 0, none⟩ = some (.int .i64 a0) := (blk_cell BK248.out 0).trans rfl
                            have hcz48_1 : w44.cell? ⟨gb248, 1, none⟩ = some (.int .i64 (wrap64 ((wrap64 (Int.tdiv a1 t241)) * a2))) := (blk_cell BK248.out 1).trans rfl
                            have hcz48_2 : w44.cell? ⟨gb248, 2, none⟩ = some (.int .i64 (wrap64 (x10_2 * (wrap64 (Int.tdiv (wrap64 ((wrap64 (Int.tdiv a1 t241)) * a2)) a1))))) := (blk_cell BK248.out 2).trans rfl
                            have hfz48_0 := blk_frozen BK248.out 0
                            have hfz48_1 := blk_frozen BK248.out 1
                            have hfz48_2 := blk_frozen BK248.out 2
                            go_upto_if 89 with (fail)
                            go_cut [] (fun wc => ∃ (kq : Nat) (x247000_30 : Int) (x247001_30 : List Int) (u247001 : Value), Aside0 (spec_CountByJacobi.j3 kq a0 a1 a2 (wrap64 ((wrap64 (Int.tdiv a1 t241)) * a2)) x10_2 x11_3 x247000_30 x247001_30 a0 (wrap64 ((wrap64 (Int.tdiv a1 t241)) * a2)) (wrap64 (x11_3 * (wrap64 (Int.tdiv (wrap64 ((wrap64 (Int.tdiv a1 t241)) * a2)) a2)))) = some (r1, r2)) ∧ Aside0 (kq ≤ k3) ∧ Aside0 (Kd.R (Kd.int .i64) 2 wc w.heap.size (fun _ => True) u247001 x247001_30) ∧ Aside0 (wc.heap[gb246]? = some (.cells #[.int .i64 x247000_30, u247001] 34 (0, 0))) ∧ Aside0 (wc.heap[gb248]? = some (.cells #[.int .i64 a0, .int .i64 (wrap64 ((wrap64 (Int.tdiv a1 t241)) * a2)), .int .i64 (wrap64 (x10_2 * (wrap64 (Int.tdiv (wrap64 ((wrap64 (Int.tdiv a1 t241)) * a2)) a1))))] 37 (0, 0))) ∧ Aside0 (wc.heap[gb249]? = some (.cells #[.int .i64 a0, .int .i64 (wrap64 ((wrap64 (Int.tdiv a1 t241)) * a2)), .int .i64 (wrap64 (x11_3 * (wrap64 (Int.tdiv (wrap64 ((wrap64 (Int.tdiv a1 t241)) * a2)) a2))))] 37 (0, 0))) ∧ Aside0 (Below w.heap.size w wc))
                            case first =>
                              have H := HC31.out
                              clear HC31
                              by_cases c49 : (wrap64 (x10_2 * (wrap64 (Int.tdiv (wrap64 ((wrap64 (Int.tdiv a1 t241)) * a2)) a1)))) = 0
                              · rw [if_pos c49] at H
                                have c49b0 : ((wrap64 (x10_2 * (wrap64 (Int.tdiv (wrap64 ((wrap64 (Int.tdiv a1 t241)) * a2)) a1)))) == 0) = true := beq_iff_eq.mpr c49
                                have c49b1 : ((wrap64 (x10_2 * (wrap64 (Int.tdiv (wrap64 ((wrap64 (Int.tdiv a1 t241)) * a2)) a1)))) != 0) = false := bne_eq_false_iff_eq.mpr c49
                                clear c49
                                (first | rw [c49b0] | (simp only [i64_w, i32_w]; rw [c49b0]) | skip)
                                replace H := Option.bind_eq_some_iff.mp H
                                obtain ⟨⟨t258, t259⟩, A500, H⟩ := H
                                replace H : ((spec_l01Plus.f k3 t254 t255 t258 t259 1).bind fun bt262 => (spec_CountByJacobi.j3 k3 a0 a1 a2 (wrap64 ((wrap64 (Int.tdiv a1 t241)) * a2)) x10_2 x11_3 bt262.1 bt262.2 a0 (wrap64 ((wrap64 (Int.tdiv a1 t241)) * a2)) (wrap64 (x11_3 * (wrap64 (Int.tdiv (wrap64 ((wrap64 (Int.tdiv a1 t241)) * a2)) a2)))))) = some (r1, r2) := H
                                have A50 := Aside0.mk A500
                                clear A500
                                replace H := Option.bind_eq_some_iff.mp H
                                obtain ⟨⟨t262, t263⟩, A510, H⟩ := H
                                replace H : (spec_CountByJacobi.j3 k3 a0 a1 a2 (wrap64 ((wrap64 (Int.tdiv a1 t241)) * a2)) x10_2 x11_3 t262 t263 a0 (wrap64 ((wrap64 (Int.tdiv a1 t241)) * a2)) (wrap64 (x11_3 * (wrap64 (Int.tdiv (wrap64 ((wrap64 (Int.tdiv a1 t241)) * a2)) a2))))) = some (r1, r2) := H
                                have A51 := Aside0.mk A510
                                clear A510
                                have H' := Aside0.mk H
                                clear H
                                try go_wp2
                                have n0_ : Aside0 (Kd.R (Kd.int .i64) 2 ((w44.setCell ⟨gb246, 0, none⟩ (.int .i64 t254)).setCell ⟨gb246, 1, none⟩ (.slice Ao46 t255.length co46)) w.heap.size (fun k_ => some k_ ≠ (.slice Ao43 t251.length co43 : Value).ownBlock ∧ some k_ ≠ (.slice Ao46 t255.length co46 : Value).ownBlock) (.slice Ao42 x247001_3.length co42) x247001_3) := ⟨by (with_reducible repeat (first | apply Kd.R_alloc | apply Kd.R_drewN | apply Kd.R_drew)); exact Kd.R_mono (Kd.R_far (p := ⟨gb246, 1, none⟩) (Kd.R_far (p := ⟨gb246, 0, none⟩) (Kd.R_types HO_247001.out BK246.out (by decide)) (fun _ hk => hk.2) (.int .i64 t254)) (fun _ hk => hk.2) (.slice Ao46 t255.length co46)) (fun _ hk => ⟨hk.1.1.2, hk.1.2⟩)⟩
                                have n1_ : Aside0 (Kd.R (Kd.int .i64) 2 ((w44.setCell ⟨gb246, 0, none⟩ (.int .i64 t254)).setCell ⟨gb246, 1, none⟩ (.slice Ao46 t255.length co46)) w.heap.size (fun k_ => some k_ ≠ (.slice Ao42 x247001_3.length co42 : Value).ownBlock ∧ some k_ ≠ (.slice Ao46 t255.length co46 : Value).ownBlock) (.slice Ao43 t251.length co43) t251) := ⟨by (with_reducible repeat (first | apply Kd.R_alloc | apply Kd.R_drewN | apply Kd.R_drew)); exact Kd.R_mono (Kd.R_far (p := ⟨gb246, 1, none⟩) (Kd.R_far (p := ⟨gb246, 0, none⟩) (Kd.R_types HO253.out BK246.out (by decide)) (fun _ hk => hk.2) (.int .i64 t254)) (fun _ hk => hk.2) (.slice Ao46 t255.length co46)) (fun _ hk => ⟨hk.1.1.2, hk.1.2⟩)⟩
                                have n2_ : Aside0 (Kd.R (Kd.int .i64) 2 ((w44.setCell ⟨gb246, 0, none⟩ (.int .i64 t254)).setCell ⟨gb246, 1, none⟩ (.slice Ao46 t255.length co46)) w.heap.size (fun k_ => some k_ ≠ (.slice Ao42 x247001_3.length co42 : Value).ownBlock ∧ some k_ ≠ (.slice Ao43 t251.length co43 : Value).ownBlock) (.slice Ao46 t255.length co46) t255) := ⟨by (with_reducible repeat (first | apply Kd.R_alloc | apply Kd.R_drewN | apply Kd.R_drew)); exact Kd.R_mono (Kd.R_far (p := ⟨gb246, 1, none⟩) (Kd.R_far (p := ⟨gb246, 0, none⟩) (Kd.R_types HO257.out BK246.out (by decide)) (fun _ hk => hk.2) (.int .i64 t254)) (fun _ hk => hk.2) (.slice Ao46 t255.length co46)) (fun _ hk => ⟨hk.1.1.2, hk.1.2⟩)⟩
                                have n3_ : Aside0 (((w44.setCell ⟨gb246, 0, none⟩ (.int .i64 t254)).setCell ⟨gb246, 1, none⟩ (.slice Ao46 t255.length co46)).heap[gb246]? = some (.cells #[.int .i64 t254, .slice Ao46 t255.length co46] 34 (0, 0))) := ⟨by (with_reducible repeat (first | refine blk_drewN ?_ _ | refine blk_drew ?_ | refine blk_alloc ?_ _)); refine blk_put (cs := #[.int .i64 t254, .slice Ao42 x247001_3.length co42]) ?_ 1 _ rfl; (with_reducible repeat (first | refine blk_drewN ?_ _ | refine blk_drew ?_ | refine blk_alloc ?_ _)); refine blk_put (cs := #[.int .i64 x247000_3, .slice Ao42 x247001_3.length co42]) ?_ 0 _ rfl; (with_reducible repeat (first | refine blk_drewN ?_ _ | refine blk_drew ?_ | refine blk_alloc ?_ _)); exact BK246.out⟩
                                have n4_ : Aside0 (((w44.setCell ⟨gb246, 0, none⟩ (.int .i64 t254)).setCell ⟨gb246, 1, none⟩ (.slice Ao46 t255.length co46)).heap[gb248]? = some (.cells #[.int .i64 a0, .int .i64 (wrap64 ((wrap64 (Int.tdiv a1 t241)) * a2)), .int .i64 (wrap64 (x10_2 * (wrap64 (Int.tdiv (wrap64 ((wrap64 (Int.tdiv a1 t241)) * a2)) a1))))] 37 (0, 0))) := ⟨by (with_reducible repeat (first | refine blk_drewN ?_ _ | refine blk_drew ?_ | refine blk_alloc ?_ _)); refine blk_far ?_ NB248_246.out _; (with_reducible repeat (first | refine blk_drewN ?_ _ | refine blk_drew ?_ | refine blk_alloc ?_ _)); refine blk_far ?_ NB248_246.out _; (with_reducible repeat (first | refine blk_drewN ?_ _ | refine blk_drew ?_ | refine blk_alloc ?_ _)); exact BK248.out⟩
                                have n5_ : Aside0 (((w44.setCell ⟨gb246, 0, none⟩ (.int .i64 t254)).setCell ⟨gb246, 1, none⟩ (.slice Ao46 t255.length co46)).heap[gb249]? = some (.cells #[.int .i64 a0, .int .i64 (wrap64 ((wrap64 (Int.tdiv a1 t241)) * a2)), .int .i64 (wrap64 (x11_3 * (wrap64 (Int.tdiv (wrap64 ((wrap64 (Int.tdiv a1 t241)) * a2)) a2))))] 37 (0, 0))) := ⟨by (with_reducible repeat (first | refine blk_drewN ?_ _ | refine blk_drew ?_ | refine blk_alloc ?_ _)); refine blk_far ?_ NB249_246.out _; (with_reducible repeat (first | refine blk_drewN ?_ _ | refine blk_drew ?_ | refine blk_alloc ?_ _)); refine blk_far ?_ NB249_246.out _; (with_reducible repeat (first | refine blk_drewN ?_ _ | refine blk_drew ?_ | refine blk_alloc ?_ _)); exact BK249.out⟩
                                have n6_ : Aside0 (Below w.heap.size w ((w44.setCell ⟨gb246, 0, none⟩ (.int .i64 t254)).setCell ⟨gb246, 1, none⟩ (.slice Ao46 t255.length co46))) := ⟨by repeat (first | (with_reducible first | exact HB.out | apply below_alloc | apply pw_below_drewN | apply below_drew1 | refine below_set ?_ GE246.out | refine below_set ?_ GE248.out | refine below_set ?_ GE249.out) | exact HB.out)⟩
                                (try clear HO_247001)
                                (try clear HO253)
                                (try clear HO257)
                                (try clear BK246)
                                (try clear BK248)
                                (try clear BK249)
                                (try clear HB)
                                generalize ((w44.setCell ⟨gb246, 0, none⟩ (.int .i64 t254)).setCell ⟨gb246, 1, none⟩ (.slice Ao46 t255.length co46)) = w52 at n0_ n1_ n2_ n3_ n4_ n5_ n6_ ⊢
                                have HO_247001 := n0_
                                have HO253 := n1_
                                have HO257 := n2_
                                have BK246 := n3_
                                have BK248 := n4_
                                have BK249 := n5_
                                have HB := n6_
                                clear n0_ n1_ n2_ n3_ n4_ n5_ n6_
                                have n0_ := Aside0.mk (Kd.R_drew HO_247001.out)
                                have n1_ := Aside0.mk (Kd.R_drew HO253.out)
                                have n2_ := Aside0.mk (Kd.R_drew HO257.out)
                                have n3_ := Aside0.mk (blk_drew BK246.out)
                                have n4_ := Aside0.mk (blk_drew BK248.out)
                                have n5_ := Aside0.mk (blk_drew BK249.out)
                                have n6_ := Aside0.mk (below_drew1 HB.out)
                                clear HO_247001
                                clear HO253
                                clear HO257
                                clear BK246
                                clear BK248
                                clear BK249
                                clear HB
                                have HO_247001 := n0_
                                have HO253 := n1_
                                have HO257 := n2_
                                have BK246 := n3_
                                have BK248 := n4_
                                have BK249 := n5_
                                have HB := n6_
                                clear n0_ n1_ n2_ n3_ n4_ n5_ n6_
                                refine start_ (n := 5) (S := fun w' => w'.cell? ⟨gb246, 0, none⟩ = some (.int .i64 t254) ∧ w'.cell? ⟨gb246, 1, none⟩ = some (.slice Ao46 t255.length co46)) (ds := [4]) #[false, false, false, false, false] (by kernel_rfl) rfl rfl ⟨(blk_cell BK246.out 0).trans rfl, (blk_cell BK246.out 1).trans rfl⟩ (fun hHeld => ?_)
                                generalize w52.drew = w53 at HO_247001 HO253 HO257 BK246 BK248 BK249 HB hHeld ⊢
                                refine pure_ (i := 1) (N := some 91) (v := ?_) (a' := ?_) #[false, true, false, false, false] rfl rfl (by kernel_rfl) (fun _ _ _ h => h) (Or.inl ⟨by rfl, ?_⟩) ?_ ?_
                                rotate_left
                                · intro w'
                                  go_simp
                                  with_reducible rfl
                                rotate_left
                                · simp only [Act.put, List.setIfInBounds_toArray, List.set_cons_zero, List.set_cons_succ, i64_w, i32_w]
                                  rfl
                                refine take_ (i := 0) (N := some 90) (v := ?_) (a' := ?_) #[true, true, false, false, false] rfl rfl (by kernel_rfl) (fun _ _ _ h => h) (Or.inl ⟨by rfl, ?_⟩) hHeld ?_ ?_
                                rotate_left
                                · rintro w' ⟨s0, s1⟩
                                  go_simp
                                  with_reducible rfl
                                rotate_left
                                · simp only [Act.put, List.setIfInBounds_toArray, List.set_cons_zero, List.set_cons_succ, i64_w, i32_w]
                                  rfl
                                refine one_ (i := 2) (N := some 92) #[true, true, true, false, false] rfl rfl (by kernel_rfl) (by decide) (fun K hK => ?_)
                                refine goes_ Try.func45 (by kernel_rfl) rfl #[.int .i64 (wrap64 ((wrap64 (Int.tdiv a1 t241)) * a2))] (by rfl) rfl rfl qB21 ?_
                                with_reducible refine (spec_l01One.calls k3 (wrap64 ((wrap64 (Int.tdiv a1 t241)) * a2)) t258 t259 _ A50.out).mono ?_
                                rintro e w54 ⟨v260, rfl, ho0, hb⟩
                                refine ⟨_, rfl, ?_⟩
                                have n0_ := Aside0.mk (Kd.R_elder' qB38 (Kd.R_base ho0) hb)
                                have n1_ := Aside0.mk (Kd.R_elder' qB46 (Kd.R_base ho0) hb)
                                have n2_ := Aside0.mk (Kd.R_elder' qB47 (Kd.R_base ho0) hb)
                                have n3_ := Aside0.mk (Kd.R_lower (Kd.R_new' (Kd.R_new' (Kd.R_new' ho0 (Kd.R_lt qB38)) (Kd.R_lt qB46)) (Kd.R_lt qB47)) (below_size qB7))
                                have n4_ := Aside0.mk (blk_below (g := gb246) (o := .cells #[.int .i64 t254, .slice Ao46 t255.length co46] 34 (0, 0)) qB34 hb)
                                have n5_ := Aside0.mk (blk_below (g := gb248) (o := .cells #[.int .i64 a0, .int .i64 (wrap64 ((wrap64 (Int.tdiv a1 t241)) * a2)), .int .i64 (wrap64 (x10_2 * (wrap64 (Int.tdiv (wrap64 ((wrap64 (Int.tdiv a1 t241)) * a2)) a1))))] 37 (0, 0)) qB35 hb)
                                have n6_ := Aside0.mk (blk_below (g := gb249) (o := .cells #[.int .i64 a0, .int .i64 (wrap64 ((wrap64 (Int.tdiv a1 t241)) * a2)), .int .i64 (wrap64 (x11_3 * (wrap64 (Int.tdiv (wrap64 ((wrap64 (Int.tdiv a1 t241)) * a2)) a2))))] 37 (0, 0)) qB36 hb)
                                have n7_ := Aside0.mk (below_step qB7 hb)
                                clear HO_247001
                                clear HO253
                                clear HO257
                                clear BK246
                                clear BK248
                                clear BK249
                                clear HB
                                have HO_247001 := n0_
                                have HO253 := n1_
                                have HO257 := n2_
                                have HO261 := n3_
                                have BK246 := n4_
                                have BK248 := n5_
                                have BK249 := n6_
                                have HB := n7_
                                clear n0_ n1_ n2_ n3_ n4_ n5_ n6_ n7_
                                (try clear hb)
                                (try clear hb2)
                                (try clear hk)
                                (try clear hi)
                                (try clear ho0)
                                obtain ⟨Ao55, co55, eo55⟩ := Kd.R_slice HO261.out
                                (first | subst eo55 | (injection eo55 with f1_ f2_ f3_; have f4_ := f1_.symm; have f5_ := f3_.symm; clear f1_ f2_ f3_; subst f4_; subst f5_))
                                refine hK.out _ _ ⟨(blk_cell BK246.out 0).trans rfl, (blk_cell BK246.out 1).trans rfl⟩ (fun hHeld => ?_)
                                clear hK K
                                refine norm_ (a' := ?_) ?_ ?_
                                rotate_left
                                · show Act.put _ (some 92) _ = _
                                  simp only [Act.put, List.setIfInBounds_toArray, List.set_cons_zero, List.set_cons_succ, i64_w, i32_w]
                                  rfl
                                refine one_ (i := 3) (N := some 93) #[true, true, true, true, false] rfl rfl (by kernel_rfl) (by decide) (fun K hK => ?_)
                                refine goes_ Try.func43 (by kernel_rfl) rfl #[.agg #[.int .i64 t254, .slice Ao46 t255.length co46], .agg #[.int .i64 t258, .slice Ao55 t259.length co55], .int .i64 1] (by rfl) rfl rfl qB21 ?_
                                with_reducible refine (spec_l01Plus.calls k3 t254 _ _ t255 t258 _ _ t259 1 t262 t263 _ ?side1 ?side2 ?side3 ?side4 A51.out).mono ?_
                                (case side1 => repeat (first | exact (Kd.R_reads' HO257.out).2.2 | (with_reducible refine Kd.C_alloc ?_ _) | (with_reducible refine Kd.C_drewN ?_ _) | (with_reducible refine Kd.C_drew ?_)))
                                (case side2 => exact (Kd.R_reads' HO257.out).2.1)
                                (case side3 => repeat (first | exact (Kd.R_reads' HO261.out).2.2 | (with_reducible refine Kd.C_alloc ?_ _) | (with_reducible refine Kd.C_drewN ?_ _) | (with_reducible refine Kd.C_drew ?_)))
                                (case side4 => exact (Kd.R_reads' HO261.out).2.1)
                                rintro e w56 ⟨v264, rfl, ho0, hb⟩
                                refine ⟨_, rfl, ?_⟩
                                have n0_ := Aside0.mk (Kd.R_elder' qB38 (Kd.R_base ho0) hb)
                                have n1_ := Aside0.mk (Kd.R_elder' qB46 (Kd.R_base ho0) hb)
                                have n2_ := Aside0.mk (Kd.R_elder' qB47 (Kd.R_base ho0) hb)
                                have n3_ := Aside0.mk (Kd.R_elder' qB48 (Kd.R_base ho0) hb)
                                have n4_ := Aside0.mk (Kd.R_lower (Kd.R_new' (Kd.R_new' (Kd.R_new' (Kd.R_new' ho0 (Kd.R_lt qB38)) (Kd.R_lt qB46)) (Kd.R_lt qB47)) (Kd.R_lt qB48)) (below_size qB7))
                                have n5_ := Aside0.mk (blk_below (g := gb246) (o := .cells #[.int .i64 t254, .slice Ao46 t255.length co46] 34 (0, 0)) qB34 hb)
                                have n6_ := Aside0.mk (blk_below (g := gb248) (o := .cells #[.int .i64 a0, .int .i64 (wrap64 ((wrap64 (Int.tdiv a1 t241)) * a2)), .int .i64 (wrap64 (x10_2 * (wrap64 (Int.tdiv (wrap64 ((wrap64 (Int.tdiv a1 t241)) * a2)) a1))))] 37 (0, 0)) qB35 hb)
                                have n7_ := Aside0.mk (blk_below (g := gb249) (o := .cells #[.int .i64 a0, .int .i64 (wrap64 ((wrap64 (Int.tdiv a1 t241)) * a2)), .int .i64 (wrap64 (x11_3 * (wrap64 (Int.tdiv (wrap64 ((wrap64 (Int.tdiv a1 t241)) * a2)) a2))))] 37 (0, 0)) qB36 hb)
                                have n8_ := Aside0.mk (below_step qB7 hb)
                                clear HO_247001
                                clear HO253
                                clear HO257
                                clear HO261
                                clear BK246
                                clear BK248
                                clear BK249
                                clear HB
                                have HO_247001 := n0_
                                have HO253 := n1_
                                have HO257 := n2_
                                have HO261 := n3_
                                have HO265 := n4_
                                have BK246 := n5_
                                have BK248 := n6_
                                have BK249 := n7_
                                have HB := n8_
                                clear n0_ n1_ n2_ n3_ n4_ n5_ n6_ n7_ n8_
                                (try clear hb)
                                (try clear hb2)
                                (try clear hk)
                                (try clear hi)
                                (try clear ho0)
                                obtain ⟨Ao58, co58, eo58⟩ := Kd.R_slice HO265.out
                                (first | subst eo58 | (injection eo58 with f1_ f2_ f3_; have f4_ := f1_.symm; have f5_ := f3_.symm; clear f1_ f2_ f3_; subst f4_; subst f5_))
                                refine hK.out _ _ ⟨(blk_cell BK246.out 0).trans rfl, (blk_cell BK246.out 1).trans rfl⟩ (fun hHeld => ?_)
                                clear hK K
                                refine norm_ (a' := ?_) ?_ ?_
                                rotate_left
                                · show Act.put _ (some 93) _ = _
                                  simp only [Act.put, List.setIfInBounds_toArray, List.set_cons_zero, List.set_cons_succ, i64_w, i32_w]
                                  rfl
                                refine last_ (i := 4) (N := none) #[true, true, true, true, true] rfl rfl (by kernel_rfl) (by decide) (fun K hK => ?_)
                                have hs57 : w56.cell? ⟨gb246, 0, none⟩ = some (.int .i64 t254) := (blk_cell BK246.out 0).trans rfl
                                have hfs57 := blk_frozen BK246.out 0
                                have hns57_1 := NB248_246.out
                                have hns57_2 := NB249_246.out
                                have hms57_1 := NB246_248.out
                                have hms57_2 := NB246_249.out
                                have hs59 : w56.cell? ⟨gb246, 1, none⟩ = some (.slice Ao46 t255.length co46) := (blk_cell BK246.out 1).trans rfl
                                have hfs59 := blk_frozen BK246.out 1
                                have hns59_1 := NB248_246.out
                                have hns59_2 := NB249_246.out
                                have hms59_1 := NB246_248.out
                                have hms59_2 := NB246_249.out
                                refine skip_ (w1 := ?_) (by rfl) rfl ?_ ?_
                                rotate_left
                                · go_simp
                                  rfl
                                refine hK.out _ _ ?_
                                clear hK K
                                refine done_ (by kernel_rfl) ?_
                                try go_wp2
                                go_meet
                                case rel => exact ⟨_, (t262), (t263), (.slice Ao58 t263.length co58), H', ⟨by have := HJ3.out; have := HK2.out; have := HK3.out; first | omega | exact Nat.le_refl _⟩, ⟨by (with_reducible repeat (first | apply Kd.R_alloc | apply Kd.R_drewN | apply Kd.R_drew)); exact Kd.R_mono (Kd.R_far (p := ⟨gb246, 1, none⟩) (Kd.R_far (p := ⟨gb246, 0, none⟩) (Kd.R_types HO265.out BK246.out (by decide)) (fun _ hk => hk.2) (.int .i64 t262)) (fun _ hk => hk.2) (.slice Ao58 t263.length co58)) (fun _ hk => trivial)⟩, ⟨by (with_reducible repeat (first | refine blk_drewN ?_ _ | refine blk_drew ?_ | refine blk_alloc ?_ _)); refine blk_put (cs := #[.int .i64 t262, .slice Ao46 t255.length co46]) ?_ 1 _ rfl; (with_reducible repeat (first | refine blk_drewN ?_ _ | refine blk_drew ?_ | refine blk_alloc ?_ _)); refine blk_put (cs := #[.int .i64 t254, .slice Ao46 t255.length co46]) ?_ 0 _ rfl; (with_reducible repeat (first | refine blk_drewN ?_ _ | refine blk_drew ?_ | refine blk_alloc ?_ _)); exact BK246.out⟩, ⟨by (with_reducible repeat (first | refine blk_drewN ?_ _ | refine blk_drew ?_ | refine blk_alloc ?_ _)); refine blk_far ?_ NB248_246.out _; (with_reducible repeat (first | refine blk_drewN ?_ _ | refine blk_drew ?_ | refine blk_alloc ?_ _)); refine blk_far ?_ NB248_246.out _; (with_reducible repeat (first | refine blk_drewN ?_ _ | refine blk_drew ?_ | refine blk_alloc ?_ _)); exact BK248.out⟩, ⟨by (with_reducible repeat (first | refine blk_drewN ?_ _ | refine blk_drew ?_ | refine blk_alloc ?_ _)); refine blk_far ?_ NB249_246.out _; (with_reducible repeat (first | refine blk_drewN ?_ _ | refine blk_drew ?_ | refine blk_alloc ?_ _)); refine blk_far ?_ NB249_246.out _; (with_reducible repeat (first | refine blk_drewN ?_ _ | refine blk_drew ?_ | refine blk_alloc ?_ _)); exact BK249.out⟩, ⟨by repeat (first | (with_reducible first | exact HB.out | apply below_alloc | apply pw_below_drewN | apply below_drew1 | refine below_set ?_ GE246.out | refine below_set ?_ GE248.out | refine below_set ?_ GE249.out) | exact HB.out)⟩⟩
                              · rw [if_neg c49] at H
                                have c49b0 : ((wrap64 (x10_2 * (wrap64 (Int.tdiv (wrap64 ((wrap64 (Int.tdiv a1 t241)) * a2)) a1)))) == 0) = false := beq_eq_false_iff_ne.mpr c49
                                have c49b1 : ((wrap64 (x10_2 * (wrap64 (Int.tdiv (wrap64 ((wrap64 (Int.tdiv a1 t241)) * a2)) a1)))) != 0) = true := bne_iff_ne.mpr c49
                                (first | rw [c49b0] | (simp only [i64_w, i32_w]; rw [c49b0]) | skip)
                                have H' := Aside0.mk H
                                clear H
                                go_wp2
                                go_meet
                                case rel => exact ⟨_, (t254), (t255), (.slice Ao46 t255.length co46), H', ⟨by have := HJ3.out; have := HK2.out; have := HK3.out; first | omega | exact Nat.le_refl _⟩, ⟨by (with_reducible repeat (first | apply Kd.R_alloc | apply Kd.R_drewN | apply Kd.R_drew)); exact Kd.R_mono (Kd.R_far (p := ⟨gb246, 1, none⟩) (Kd.R_far (p := ⟨gb246, 0, none⟩) (Kd.R_types HO257.out BK246.out (by decide)) (fun _ hk => hk.2) (.int .i64 t254)) (fun _ hk => hk.2) (.slice Ao46 t255.length co46)) (fun _ hk => trivial)⟩, ⟨by (with_reducible repeat (first | refine blk_drewN ?_ _ | refine blk_drew ?_ | refine blk_alloc ?_ _)); refine blk_put (cs := #[.int .i64 t254, .slice Ao42 x247001_3.length co42]) ?_ 1 _ rfl; (with_reducible repeat (first | refine blk_drewN ?_ _ | refine blk_drew ?_ | refine blk_alloc ?_ _)); refine blk_put (cs := #[.int .i64 x247000_3, .slice Ao42 x247001_3.length co42]) ?_ 0 _ rfl; (with_reducible repeat (first | refine blk_drewN ?_ _ | refine blk_drew ?_ | refine blk_alloc ?_ _)); exact BK246.out⟩, ⟨by (with_reducible repeat (first | refine blk_drewN ?_ _ | refine blk_drew ?_ | refine blk_alloc ?_ _)); refine blk_far ?_ NB248_246.out _; (with_reducible repeat (first | refine blk_drewN ?_ _ | refine blk_drew ?_ | refine blk_alloc ?_ _)); refine blk_far ?_ NB248_246.out _; (with_reducible repeat (first | refine blk_drewN ?_ _ | refine blk_drew ?_ | refine blk_alloc ?_ _)); exact BK248.out⟩, ⟨by (with_reducible repeat (first | refine blk_drewN ?_ _ | refine blk_drew ?_ | refine blk_alloc ?_ _)); refine blk_far ?_ NB249_246.out _; (with_reducible repeat (first | refine blk_drewN ?_ _ | refine blk_drew ?_ | refine blk_alloc ?_ _)); refine blk_far ?_ NB249_246.out _; (with_reducible repeat (first | refine blk_drewN ?_ _ | refine blk_drew ?_ | refine blk_alloc ?_ _)); exact BK249.out⟩, ⟨by repeat (first | (with_reducible first | exact HB.out | apply below_alloc | apply pw_below_drewN | apply below_drew1 | refine below_set ?_ GE246.out | refine below_set ?_ GE248.out | refine below_set ?_ GE249.out) | exact HB.out)⟩⟩
                            case rest =>
                              clear HC31
                              try clear c1
                              try clear c2
                              try clear p2
                              try clear c3
                              try clear c4
                              try clear c6
                              try clear p6
                              try clear c8
                              try clear c10
                              try clear c11
                              try clear c11b0
                              try clear c11b1
                              try clear c12
                              try clear c12b0
                              try clear c12b1
                              try clear c13
                              try clear c13b0
                              try clear c13b1
                              try clear c14
                              try clear c16
                              try clear c16b0
                              try clear c16b1
                              try clear c17
                              try clear c17b0
                              try clear c25
                              try clear c25b0
                              try clear c26
                              try clear c26b0
                              try clear c27
                              try clear c27b0
                              try clear c27b1
                              try clear c28
                              try clear c28b0
                              try clear c28b1
                              try clear c33
                              try clear c36
                              try clear c37
                              try clear c39
                              try clear c41
                              try clear c42
                              try clear c43
                              try clear c44
                              try clear c45
                              try clear c49
                              try clear c49b0
                              try clear c49b1
                              try clear hcz23_0
                              try clear hcz23_1
                              try clear hcz34_0
                              try clear hcz34_1
                              try clear hcz34_2
                              try clear hcz38_0
                              try clear hcz38_1
                              try clear hcz38_2
                              try clear hcz48_0
                              try clear hcz48_1
                              try clear hcz48_2
                              try clear hfz23_0
                              try clear hfz23_1
                              try clear hfz34_0
                              try clear hfz34_1
                              try clear hfz34_2
                              try clear hfz38_0
                              try clear hfz38_1
                              try clear hfz38_2
                              try clear hfz48_0
                              try clear hfz48_1
                              try clear hfz48_2
                              try clear p2
                              try clear p6
                              obtain ⟨kq, x247000_30, x247001_30, u247001, HA, HJ30, HO_247001, BK246, BK248, BK249, HB⟩ := hcut
                              cases kq with
                              | zero => exact absurd HA.out (by simp [spec_CountByJacobi.j3])
                              | succ kj30 =>
                                have H := HA.out
                                clear HA
                                simp only [spec_CountByJacobi.j3] at H
                                by_cases c60 : (wrap64 (x11_3 * (wrap64 (Int.tdiv (wrap64 ((wrap64 (Int.tdiv a1 t241)) * a2)) a2)))) = 0
                                · rw [if_pos c60] at H
                                  have c60b0 : ((wrap64 (x11_3 * (wrap64 (Int.tdiv (wrap64 ((wrap64 (Int.tdiv a1 t241)) * a2)) a2)))) == 0) = true := beq_iff_eq.mpr c60
                                  have c60b1 : ((wrap64 (x11_3 * (wrap64 (Int.tdiv (wrap64 ((wrap64 (Int.tdiv a1 t241)) * a2)) a2)))) != 0) = false := bne_eq_false_iff_eq.mpr c60
                                  clear c60
                                  replace H := Option.bind_eq_some_iff.mp H
                                  obtain ⟨⟨t266, t267⟩, A610, H⟩ := H
                                  replace H : ((spec_l01Plus.f kj30 x247000_30 x247001_30 t266 t267 1).bind fun bt270 => (spec_CountByJacobi.l1 kj30 a0 a1 a2 (wrap64 ((wrap64 (Int.tdiv a1 t241)) * a2)) x10_2 (wrap64 (x11_3 + 1)) bt270.1 bt270.2)) = some (r1, r2) := H
                                  have A61 := Aside0.mk A610
                                  clear A610
                                  replace H := Option.bind_eq_some_iff.mp H
                                  obtain ⟨⟨t270, t271⟩, A620, H⟩ := H
                                  replace H : (spec_CountByJacobi.l1 kj30 a0 a1 a2 (wrap64 ((wrap64 (Int.tdiv a1 t241)) * a2)) x10_2 (wrap64 (x11_3 + 1)) t270 t271) = some (r1, r2) := H
                                  have A62 := Aside0.mk A620
                                  clear A620
                                  have H' := Aside0.mk H
                                  clear H
                                  have hnb63 := NB249_246.out
                                  have hnc63 := NB246_249.out
                                  have hnb64 := NB249_248.out
                                  have hnc64 := NB248_249.out
                                  have hcz65_0 : wc.cell? ⟨gb249, 0, none⟩ = some (.int .i64 a0) := (blk_cell BK249.out 0).trans rfl
                                  have hcz65_1 : wc.cell? ⟨gb249, 1, none⟩ = some (.int .i64 (wrap64 ((wrap64 (Int.tdiv a1 t241)) * a2))) := (blk_cell BK249.out 1).trans rfl
                                  have hcz65_2 : wc.cell? ⟨gb249, 2, none⟩ = some (.int .i64 (wrap64 (x11_3 * (wrap64 (Int.tdiv (wrap64 ((wrap64 (Int.tdiv a1 t241)) * a2)) a2))))) := (blk_cell BK249.out 2).trans rfl
                                  have hfz65_0 := blk_frozen BK249.out 0
                                  have hfz65_1 := blk_frozen BK249.out 1
                                  have hfz65_2 := blk_frozen BK249.out 2
                                  try go_wp2
                                  have n0_ := Aside0.mk (Kd.R_drew HO_247001.out)
                                  have n1_ := Aside0.mk (blk_drew BK246.out)
                                  have n2_ := Aside0.mk (blk_drew BK248.out)
                                  have n3_ := Aside0.mk (blk_drew BK249.out)
                                  have n4_ := Aside0.mk (below_drew1 HB.out)
                                  clear HO_247001
                                  clear BK246
                                  clear BK248
                                  clear BK249
                                  clear HB
                                  have HO_247001 := n0_
                                  have BK246 := n1_
                                  have BK248 := n2_
                                  have BK249 := n3_
                                  have HB := n4_
                                  clear n0_ n1_ n2_ n3_ n4_
                                  refine start_ (n := 5) (S := fun w' => w'.cell? ⟨gb246, 0, none⟩ = some (.int .i64 x247000_30) ∧ w'.cell? ⟨gb246, 1, none⟩ = some (u247001)) (ds := [4]) #[false, false, false, false, false] (by kernel_rfl) rfl rfl ⟨(blk_cell BK246.out 0).trans rfl, (blk_cell BK246.out 1).trans rfl⟩ (fun hHeld => ?_)
                                  generalize wc.drew = w66 at HO_247001 BK246 BK248 BK249 HB hHeld ⊢
                                  refine pure_ (i := 1) (N := some 98) (v := ?_) (a' := ?_) #[false, true, false, false, false] rfl rfl (by kernel_rfl) (fun _ _ _ h => h) (Or.inl ⟨by rfl, ?_⟩) ?_ ?_
                                  rotate_left
                                  · intro w'
                                    go_simp
                                    with_reducible rfl
                                  rotate_left
                                  · simp only [Act.put, List.setIfInBounds_toArray, List.set_cons_zero, List.set_cons_succ, i64_w, i32_w]
                                    rfl
                                  refine take_ (i := 0) (N := some 97) (v := ?_) (a' := ?_) #[true, true, false, false, false] rfl rfl (by kernel_rfl) (fun _ _ _ h => h) (Or.inl ⟨by rfl, ?_⟩) hHeld ?_ ?_
                                  rotate_left
                                  · rintro w' ⟨s0, s1⟩
                                    go_simp
                                    with_reducible rfl
                                  rotate_left
                                  · simp only [Act.put, List.setIfInBounds_toArray, List.set_cons_zero, List.set_cons_succ, i64_w, i32_w]
                                    rfl
                                  refine one_ (i := 2) (N := some 99) #[true, true, true, false, false] rfl rfl (by kernel_rfl) (by decide) (fun K hK => ?_)
                                  refine goes_ Try.func45 (by kernel_rfl) rfl #[.int .i64 (wrap64 ((wrap64 (Int.tdiv a1 t241)) * a2))] (by rfl) rfl rfl qB21 ?_
                                  with_reducible refine (spec_l01One.calls kj30 (wrap64 ((wrap64 (Int.tdiv a1 t241)) * a2)) t266 t267 _ A61.out).mono ?_
                                  rintro e w67 ⟨v268, rfl, ho0, hb⟩
                                  refine ⟨_, rfl, ?_⟩
                                  have n0_ := Aside0.mk (Kd.R_elder' qB38 (Kd.R_base ho0) hb)
                                  have n1_ := Aside0.mk (Kd.R_lower (Kd.R_new' ho0 (Kd.R_lt qB38)) (below_size qB7))
                                  have n2_ := Aside0.mk (blk_below (g := gb246) (o := .cells #[.int .i64 x247000_30, u247001] 34 (0, 0)) qB34 hb)
                                  have n3_ := Aside0.mk (blk_below (g := gb248) (o := .cells #[.int .i64 a0, .int .i64 (wrap64 ((wrap64 (Int.tdiv a1 t241)) * a2)), .int .i64 (wrap64 (x10_2 * (wrap64 (Int.tdiv (wrap64 ((wrap64 (Int.tdiv a1 t241)) * a2)) a1))))] 37 (0, 0)) qB35 hb)
                                  have n4_ := Aside0.mk (blk_below (g := gb249) (o := .cells #[.int .i64 a0, .int .i64 (wrap64 ((wrap64 (Int.tdiv a1 t241)) * a2)), .int .i64 (wrap64 (x11_3 * (wrap64 (Int.tdiv (wrap64 ((wrap64 (Int.tdiv a1 t241)) * a2)) a2))))] 37 (0, 0)) qB36 hb)
                                  have n5_ := Aside0.mk (below_step qB7 hb)
                                  clear HO_247001
                                  clear BK246
                                  clear BK248
                                  clear BK249
                                  clear HB
                                  have HO_247001 := n0_
                                  have HO269 := n1_
                                  have BK246 := n2_
                                  have BK248 := n3_
                                  have BK249 := n4_
                                  have HB := n5_
                                  clear n0_ n1_ n2_ n3_ n4_ n5_
                                  (try clear hb)
                                  (try clear hb2)
                                  (try clear hk)
                                  (try clear hi)
                                  (try clear ho0)
                                  obtain ⟨Ao68, co68, eo68⟩ := Kd.R_slice HO_247001.out
                                  (first | subst eo68 | (injection eo68 with f1_ f2_ f3_; have f4_ := f1_.symm; have f5_ := f3_.symm; clear f1_ f2_ f3_; subst f4_; subst f5_))
                                  obtain ⟨Ao69, co69, eo69⟩ := Kd.R_slice HO269.out
                                  (first | subst eo69 | (injection eo69 with f1_ f2_ f3_; have f4_ := f1_.symm; have f5_ := f3_.symm; clear f1_ f2_ f3_; subst f4_; subst f5_))
                                  refine hK.out _ _ ⟨(blk_cell BK246.out 0).trans rfl, (blk_cell BK246.out 1).trans rfl⟩ (fun hHeld => ?_)
                                  clear hK K
                                  refine norm_ (a' := ?_) ?_ ?_
                                  rotate_left
                                  · show Act.put _ (some 99) _ = _
                                    simp only [Act.put, List.setIfInBounds_toArray, List.set_cons_zero, List.set_cons_succ, i64_w, i32_w]
                                    rfl
                                  refine one_ (i := 3) (N := some 100) #[true, true, true, true, false] rfl rfl (by kernel_rfl) (by decide) (fun K hK => ?_)
                                  refine goes_ Try.func43 (by kernel_rfl) rfl #[.agg #[.int .i64 x247000_30, .slice Ao68 x247001_30.length co68], .agg #[.int .i64 t266, .slice Ao69 t267.length co69], .int .i64 1] (by rfl) rfl rfl qB21 ?_
                                  with_reducible refine (spec_l01Plus.calls kj30 x247000_30 _ _ x247001_30 t266 _ _ t267 1 t270 t271 _ ?side1 ?side2 ?side3 ?side4 A62.out).mono ?_
                                  (case side1 => repeat (first | exact (Kd.R_reads' HO_247001.out).2.2 | (with_reducible refine Kd.C_alloc ?_ _) | (with_reducible refine Kd.C_drewN ?_ _) | (with_reducible refine Kd.C_drew ?_)))
                                  (case side2 => exact (Kd.R_reads' HO_247001.out).2.1)
                                  (case side3 => repeat (first | exact (Kd.R_reads' HO269.out).2.2 | (with_reducible refine Kd.C_alloc ?_ _) | (with_reducible refine Kd.C_drewN ?_ _) | (with_reducible refine Kd.C_drew ?_)))
                                  (case side4 => exact (Kd.R_reads' HO269.out).2.1)
                                  rintro e w70 ⟨v272, rfl, ho0, hb⟩
                                  refine ⟨_, rfl, ?_⟩
                                  have n0_ := Aside0.mk (Kd.R_elder' qB38 (Kd.R_base ho0) hb)
                                  have n1_ := Aside0.mk (Kd.R_elder' qB49 (Kd.R_base ho0) hb)
                                  have n2_ := Aside0.mk (Kd.R_lower (Kd.R_new' (Kd.R_new' ho0 (Kd.R_lt qB38)) (Kd.R_lt qB49)) (below_size qB7))
                                  have n3_ := Aside0.mk (blk_below (g := gb246) (o := .cells #[.int .i64 x247000_30, .slice Ao68 x247001_30.length co68] 34 (0, 0)) qB34 hb)
                                  have n4_ := Aside0.mk (blk_below (g := gb248) (o := .cells #[.int .i64 a0, .int .i64 (wrap64 ((wrap64 (Int.tdiv a1 t241)) * a2)), .int .i64 (wrap64 (x10_2 * (wrap64 (Int.tdiv (wrap64 ((wrap64 (Int.tdiv a1 t241)) * a2)) a1))))] 37 (0, 0)) qB35 hb)
                                  have n5_ := Aside0.mk (blk_below (g := gb249) (o := .cells #[.int .i64 a0, .int .i64 (wrap64 ((wrap64 (Int.tdiv a1 t241)) * a2)), .int .i64 (wrap64 (x11_3 * (wrap64 (Int.tdiv (wrap64 ((wrap64 (Int.tdiv a1 t241)) * a2)) a2))))] 37 (0, 0)) qB36 hb)
                                  have n6_ := Aside0.mk (below_step qB7 hb)
                                  clear HO_247001
                                  clear HO269
                                  clear BK246
                                  clear BK248
                                  clear BK249
                                  clear HB
                                  have HO_247001 := n0_
                                  have HO269 := n1_
                                  have HO273 := n2_
                                  have BK246 := n3_
                                  have BK248 := n4_
                                  have BK249 := n5_
                                  have HB := n6_
                                  clear n0_ n1_ n2_ n3_ n4_ n5_ n6_
                                  (try clear hb)
                                  (try clear hb2)
                                  (try clear hk)
                                  (try clear hi)
                                  (try clear ho0)
                                  obtain ⟨Ao72, co72, eo72⟩ := Kd.R_slice HO273.out
                                  (first | subst eo72 | (injection eo72 with f1_ f2_ f3_; have f4_ := f1_.symm; have f5_ := f3_.symm; clear f1_ f2_ f3_; subst f4_; subst f5_))
                                  refine hK.out _ _ ⟨(blk_cell BK246.out 0).trans rfl, (blk_cell BK246.out 1).trans rfl⟩ (fun hHeld => ?_)
                                  clear hK K
                                  refine norm_ (a' := ?_) ?_ ?_
                                  rotate_left
                                  · show Act.put _ (some 100) _ = _
                                    simp only [Act.put, List.setIfInBounds_toArray, List.set_cons_zero, List.set_cons_succ, i64_w, i32_w]
                                    rfl
                                  refine last_ (i := 4) (N := none) #[true, true, true, true, true] rfl rfl (by kernel_rfl) (by decide) (fun K hK => ?_)
                                  have hs71 : w70.cell? ⟨gb246, 0, none⟩ = some (.int .i64 x247000_30) := (blk_cell BK246.out 0).trans rfl
                                  have hfs71 := blk_frozen BK246.out 0
                                  have hns71_1 := NB248_246.out
                                  have hns71_2 := NB249_246.out
                                  have hms71_1 := NB246_248.out
                                  have hms71_2 := NB246_249.out
                                  have hs73 : w70.cell? ⟨gb246, 1, none⟩ = some (.slice Ao68 x247001_30.length co68) := (blk_cell BK246.out 1).trans rfl
                                  have hfs73 := blk_frozen BK246.out 1
                                  have hns73_1 := NB248_246.out
                                  have hns73_2 := NB249_246.out
                                  have hms73_1 := NB246_248.out
                                  have hms73_2 := NB246_249.out
                                  refine skip_ (w1 := ?_) (by rfl) rfl ?_ ?_
                                  rotate_left
                                  · go_simp
                                    rfl
                                  refine hK.out _ _ ?_
                                  clear hK K
                                  refine done_ (by kernel_rfl) ?_
                                  try go_wp2
                                  (first | go_roundg kj30 | ((try simp only [add_plain] at *); go_roundg kj30))
                                  case measure => have := HJ3.out; have := HK2.out; have := HK3.out; have := HJ30.out; omega
                                  case rel => exact ⟨(wrap64 (x11_3 + 1)), (t270), (t271), (.slice Ao72 t271.length co72), qB56, H', ⟨by have := HJ3.out; have := HK2.out; have := HK3.out; have := HJ30.out; omega⟩, ⟨by (with_reducible repeat (first | apply Kd.R_alloc | apply Kd.R_drewN | apply Kd.R_drew)); exact Kd.R_mono (Kd.R_far (p := ⟨gb246, 1, none⟩) (Kd.R_far (p := ⟨gb246, 0, none⟩) (Kd.R_types HO273.out BK246.out (by decide)) (fun _ hk => hk.2) (.int .i64 t270)) (fun _ hk => hk.2) (.slice Ao72 t271.length co72)) (fun _ hk => trivial)⟩, ⟨by (with_reducible repeat (first | refine blk_drewN ?_ _ | refine blk_drew ?_ | refine blk_alloc ?_ _)); refine blk_put (cs := #[.int .i64 t270, .slice Ao68 x247001_30.length co68]) ?_ 1 _ rfl; (with_reducible repeat (first | refine blk_drewN ?_ _ | refine blk_drew ?_ | refine blk_alloc ?_ _)); refine blk_put (cs := #[.int .i64 x247000_30, .slice Ao68 x247001_30.length co68]) ?_ 0 _ rfl; (with_reducible repeat (first | refine blk_drewN ?_ _ | refine blk_drew ?_ | refine blk_alloc ?_ _)); exact BK246.out⟩, ⟨by repeat (first | (with_reducible first | exact HB.out | apply below_alloc | apply pw_below_drewN | apply below_drew1 | refine below_set ?_ GE246.out | refine below_set ?_ GE248.out | refine below_set ?_ GE249.out) | exact HB.out)⟩⟩
                                · rw [if_neg c60] at H
                                  have c60b0 : ((wrap64 (x11_3 * (wrap64 (Int.tdiv (wrap64 ((wrap64 (Int.tdiv a1 t241)) * a2)) a2)))) == 0) = false := beq_eq_false_iff_ne.mpr c60
                                  have c60b1 : ((wrap64 (x11_3 * (wrap64 (Int.tdiv (wrap64 ((wrap64 (Int.tdiv a1 t241)) * a2)) a2)))) != 0) = true := bne_iff_ne.mpr c60
                                  have H' := Aside0.mk H
                                  clear H
                                  have hnb74 := NB249_246.out
                                  have hnc74 := NB246_249.out
                                  have hnb75 := NB249_248.out
                                  have hnc75 := NB248_249.out
                                  have hcz76_0 : wc.cell? ⟨gb249, 0, none⟩ = some (.int .i64 a0) := (blk_cell BK249.out 0).trans rfl
                                  have hcz76_1 : wc.cell? ⟨gb249, 1, none⟩ = some (.int .i64 (wrap64 ((wrap64 (Int.tdiv a1 t241)) * a2))) := (blk_cell BK249.out 1).trans rfl
                                  have hcz76_2 : wc.cell? ⟨gb249, 2, none⟩ = some (.int .i64 (wrap64 (x11_3 * (wrap64 (Int.tdiv (wrap64 ((wrap64 (Int.tdiv a1 t241)) * a2)) a2))))) := (blk_cell BK249.out 2).trans rfl
                                  have hfz76_0 := blk_frozen BK249.out 0
                                  have hfz76_1 := blk_frozen BK249.out 1
                                  have hfz76_2 := blk_frozen BK249.out 2
                                  go_wp2
                                  (first | go_roundg kj30 | ((try simp only [add_plain] at *); go_roundg kj30))
                                  case measure => have := HJ3.out; have := HK2.out; have := HK3.out; have := HJ30.out; omega
                                  case rel => exact ⟨(wrap64 (x11_3 + 1)), (x247000_30), (x247001_30), (u247001), qB56, H', ⟨by have := HJ3.out; have := HK2.out; have := HK3.out; have := HJ30.out; omega⟩, ⟨by (with_reducible repeat (first | apply Kd.R_alloc | apply Kd.R_drewN | apply Kd.R_drew)); exact HO_247001.out⟩, ⟨by (with_reducible repeat (first | refine blk_drewN ?_ _ | refine blk_drew ?_ | refine blk_alloc ?_ _)); exact BK246.out⟩, ⟨by repeat (first | (with_reducible first | exact HB.out | apply below_alloc | apply pw_below_drewN | apply below_drew1 | refine below_set ?_ GE246.out | refine below_set ?_ GE248.out | refine below_set ?_ GE249.out) | exact HB.out)⟩⟩
                      · rw [if_neg c26] at H
                        have c26b0 : decide (x11_3 < a2) = false := decide_eq_false c26
                        clear c26
                        have H' := Aside0.mk H
                        clear H
                        go_wp2
                        (first | go_roundg k3 | ((try simp only [add_plain] at *); go_roundg k3))
                        case measure => have := HJ3.out; have := HK2.out; have := HK3.out; omega
                        case rel => exact ⟨(wrap64 (x10_2 + 1)), (x247000_3), (x247001_3), (u247001), qB56, H', ⟨by have := HJ3.out; have := HK2.out; have := HK3.out; omega⟩, ⟨by (with_reducible repeat (first | apply Kd.R_alloc | apply Kd.R_drewN | apply Kd.R_drew)); exact HO_247001.out⟩, ⟨by (with_reducible repeat (first | refine blk_drewN ?_ _ | refine blk_drew ?_ | refine blk_alloc ?_ _)); exact BK246.out⟩, ⟨by repeat (first | (with_reducible first | exact HB.out | apply below_alloc | apply pw_below_drewN | apply below_drew1 | refine below_set ?_ GE246.out) | exact HB.out)⟩⟩
                · rw [if_neg c25] at H
                  have c25b0 : decide (x10_2 < a1) = false := decide_eq_false c25
                  clear c25
                  by_cases c77 : 0 < (x247001_2.length : Int)
                  · rw [if_pos c77] at H
                    have c77b0 : decide (0 < (x247001_2.length : Int)) = true := decide_eq_true c77
                    have c77b1 : decide (0 < x247001_2.length) = true := decide_eq_true (by omega)
                    clear c77
                    simp only [Option.some.injEq, Prod.mk.injEq] at H
                    obtain ⟨rfl, rfl⟩ := H
                    have hcz78_0 : wr.cell? ⟨gb246, 0, none⟩ = some (.int .i64 x247000_2) := (blk_cell BK246.out 0).trans rfl
                    have hcz78_1 : wr.cell? ⟨gb246, 1, none⟩ = some (u247001) := (blk_cell BK246.out 1).trans rfl
                    have hfz78_0 := blk_frozen BK246.out 0
                    have hfz78_1 := blk_frozen BK246.out 1
                    obtain ⟨Ao79, co79, eo79⟩ := Kd.R_slice HO_247001.out
                    subst eo79
                    have p247 : 0 ≤ (0 : Int) := (by omega)
                    have q247 : 0 < (x247001_2.length : Int) := of_decide_eq_true qB55
                    obtain ⟨ad247, e247, hx247_0⟩ := Kd.at_int (Kd.R_reads' HO_247001.out).2.2 0 p247 q247
                    cases e247
                    have qi247 : (0 < x247001_2.length) = True := eq_true (by omega)
                    (try rw [show ((0 : Int)).toNat = 0 from rfl] at hx247_0)
                    (try rw [Addr.add_zero'] at hx247_0)
                    replace p247 := eq_true p247
                    replace q247 := eq_true q247
                    go_wp2
                    go_ret2
                    exact ⟨by first | rfl | (simp [errW_none, errW_some] <;> rfl) | (simp [*, errW_none, errW_some] <;> rfl), by repeat (first | (with_reducible first | exact HB.out | apply below_alloc | apply pw_below_drewN | apply below_drew1 | refine below_set ?_ GE246.out) | exact HB.out)⟩
                  · rw [if_neg c77] at H
                    exact absurd H (by simp)

end Go.Proofs.Ythdpdiahkphklaa.PFnExactCountByJacobi
