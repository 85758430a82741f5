/- The functions that the law reaches, as plain functions, each with the proof that the program comes to it; no condition. Written by a program of this session (wip/mp.py) over the printing of the kit; what is marked HAND is told by hand. -/
import Derived.Test.YtghlmdjedpnglaaPFnExactMultiplyPeriodsx0
import Derived.Test.YtghlmdjedpnglaaPFnExactMultiplyPeriodsx1
namespace Go.Proofs.Ytghlmdjedpnglaa.PFnExactMultiplyPeriods
open Go.RowKit Go.Proofs.YtghlmdjedpnglaaW.PrintWords Go.Proofs.YtghlmdjedpnglaaW.PrintLast Go.Proofs.YtghlmdjedpnglaaW.PrintMore
attribute [local go_sem] max2_int min2_int max_two min_two max_three min_three max_four min_four   -- for this text's walks alone
set_option linter.unusedVariables false
set_option linter.unusedSimpArgs false

/-! ### spec_l06Sum: function 41 -/
mutual
def spec_l06Sum.l0 : Nat → Int → List (List Int) → Int → Option (Int)
  | 0, _, _, _ => none
  | k + 1, x1, x2, x8 => if x8 < (x2.length : Int) then (if 0 ≤ x8 then (if ((rd_L1 x2 x8).length : Int) = x1 then (spec_l06Sum.l1 k x1 x2 x8 0) else (some 2)) else (none)) else (some 0)
def spec_l06Sum.l1 : Nat → Int → List (List Int) → Int → Int → Option (Int)
  | 0, _, _, _, _ => none
  | k + 1, x1, x2, x8, x9 => if 0 ≤ x8 then (if x8 < (x2.length : Int) then (if x9 < ((rd_L1 x2 x8).length : Int) then (if 0 ≤ x9 then ((spec_l01In.f (rd (rd_L1 x2 x8) x9) (-1000) 1000).bind fun t115 => (if t115 = true then (spec_l06Sum.l1 k x1 x2 x8 (wrap64 (x9 + 1))) else (some 2))) else (none)) else (spec_l06Sum.l0 k x1 x2 (wrap64 (x8 + 1)))) else (none)) else (none)
end
def spec_l06Sum.f (k : Nat) (a0 : Int) (a1 : Int) (l2 : List (List Int)) : Option (Int) := (spec_l06Code.f k a0 a1 ([] : List Int)).bind fun t110 => (if t110 = 0 then (spec_l06Sum.l0 k a1 l2 0) else (some t110))
theorem spec_l06Sum.mono_l : ∀ k, (∀ y0 y1 y2, LeO (spec_l06Sum.l0 k y0 y1 y2) (spec_l06Sum.l0 (k + 1) y0 y1 y2)) ∧ (∀ y0 y1 y2 y3, LeO (spec_l06Sum.l1 k y0 y1 y2 y3) (spec_l06Sum.l1 (k + 1) y0 y1 y2 y3))
  | 0 => ⟨fun _ _ _ r h => by simp [spec_l06Sum.l0] at h, fun _ _ _ _ r h => by simp [spec_l06Sum.l1] at h⟩
  | k + 1 => by
    obtain ⟨ih0, ih1⟩ := spec_l06Sum.mono_l k
    refine ⟨?_, ?_⟩
    · intro y0 y1 y2
      unfold spec_l06Sum.l0
      repeat' first
      | (with_reducible exact ih0 _ _ _)
      | (with_reducible exact ih1 _ _ _ _)
      | (with_reducible exact spec_l06Code.mono _ _ _ _)
      | (with_reducible exact LeO.refl _)
      | (with_reducible exact LeO.none _)
      | (with_reducible refine LeO.ite ?_ ?_)
      | (with_reducible refine LeO.bind ?_ (fun _ => ?_))
      | exact ih0 _ _ _
      | exact ih1 _ _ _ _
      | exact spec_l06Code.mono _ _ _ _
      | exact LeO.none _
      | refine LeO.ite ?_ ?_
      | refine LeO.bind ?_ (fun _ => ?_)
    · intro y0 y1 y2 y3
      unfold spec_l06Sum.l1
      repeat' first
      | (with_reducible exact ih0 _ _ _)
      | (with_reducible exact ih1 _ _ _ _)
      | (with_reducible exact spec_l06Code.mono _ _ _ _)
      | (with_reducible exact LeO.refl _)
      | (with_reducible exact LeO.none _)
      | (with_reducible refine LeO.ite ?_ ?_)
      | (with_reducible refine LeO.bind ?_ (fun _ => ?_))
      | exact ih0 _ _ _
      | exact ih1 _ _ _ _
      | exact spec_l06Code.mono _ _ _ _
      | exact LeO.none _
      | refine LeO.ite ?_ ?_
      | refine LeO.bind ?_ (fun _ => ?_)
theorem spec_l06Sum.mono : ∀ a0 a1 a2 k, LeO (spec_l06Sum.f k a0 a1 a2) (spec_l06Sum.f (k + 1) a0 a1 a2) := by
  intro a0 a1 a2 k
  obtain ⟨ih0, ih1⟩ := spec_l06Sum.mono_l k
  unfold spec_l06Sum.f
  repeat' first
      | (with_reducible exact ih0 _ _ _)
      | (with_reducible exact ih1 _ _ _ _)
      | (with_reducible exact spec_l06Code.mono _ _ _ _)
      | (with_reducible exact LeO.refl _)
      | (with_reducible exact LeO.none _)
      | (with_reducible refine LeO.ite ?_ ?_)
      | (with_reducible refine LeO.bind ?_ (fun _ => ?_))
      | exact ih0 _ _ _
      | exact ih1 _ _ _ _
      | exact spec_l06Code.mono _ _ _ _
      | exact LeO.none _
      | refine LeO.ite ?_ ?_
      | refine LeO.bind ?_ (fun _ => ?_)
set_option maxHeartbeats 8000000 in
set_option maxRecDepth 100000 in
theorem spec_l06Sum.calls (k : Nat) (a0 : Int) (a1 : Int) (A2 : Option Addr) (c2 : Nat) (l2 : List (List Int)) (r : Int) (w : World) (hr2 : Kd.C (Kd.slice 2 (Kd.int .i64)) w A2 l2.length l2) (hc2 : l2.length ≤ c2) (h : spec_l06Sum.f k a0 a1 l2 = some r) :
    Calls Try.prog 41 #[.int .i64 a0, .int .i64 a1, .slice A2 l2.length c2] w fun e w' => e = .returned (.int .i64 r) ∧ Drawn0 w w' := by
  have HR2 := Aside0.mk hr2
  have HC2 := Aside0.mk hc2
  clear hr2 hc2
  have H : ((spec_l06Code.f k a0 a1 ([] : List Int)).bind fun t110 => (if t110 = 0 then (spec_l06Sum.l0 k a1 l2 0) else (some t110))) = some r := h
  clear h
  replace H := Option.bind_eq_some_iff.mp H
  obtain ⟨t110, A40, H⟩ := H
  replace H : (if t110 = 0 then (spec_l06Sum.l0 k a1 l2 0) else (some t110)) = some r := H
  have A4 := Aside0.mk A40
  clear A40
  by_cases c5 : t110 = 0
  · rw [if_pos c5] at H
    have c5b0 : (t110 == 0) = true := beq_iff_eq.mpr c5
    have c5b1 : (t110 != 0) = false := bne_eq_false_iff_eq.mpr c5
    clear c5
    have H' := Aside0.mk H
    clear H
    go_enter Try.func41, Try.ntmps41
    go_wp2_with (first | ((with_reducible refine gate_callee (f := 48) rfl ?_); refine goesL_ (some 12) rfl rfl Try.func48 (by kernel_rfl) rfl #[.int .i64 a0, .int .i64 a1, .slice none 0 0] rfl qB11 ?_; (refine (spec_l06Code.calls k a0 a1 _ _ ([] : List Int) t110 _ ?side1 ?side2 A4.out).mono ?_); (case side1 => exact Kd.C_nil _ _); (case side2 => exact Nat.le_refl _); rintro e w' ⟨rfl, ⟨nd, rfl⟩⟩; refine ⟨_, rfl, ?_⟩))
    try simp only [Act.put, List.setIfInBounds_toArray, List.set_cons_succ, List.set_cons_zero]
    go_loopg [8] k (fun kq v8 w' => ∃ (x8_1 : Int), v8 = .int .i64 x8_1 ∧ Aside0 (spec_l06Sum.l0 kq a1 l2 x8_1 = some r) ∧ Aside0 (kq ≤ k) ∧ Drawn0 w w')
    case atStart => exact ⟨(0), qB38, H', ⟨Nat.le_refl _⟩, by repeat (first | exact Drawn0.refl _ | apply Drawn0.step)⟩
    case round =>
      clear H'
      try clear c2
      try clear p2
      try clear c4
      try clear c5
      try clear c5b0
      try clear c5b1
      obtain ⟨x8_1, rfl, HA, HK1, ⟨m1, rfl⟩⟩ := hrel
      cases gk with
      | zero => exact absurd HA.out (by simp [spec_l06Sum.l0])
      | succ k1 =>
        have H := HA.out
        clear HA
        simp only [spec_l06Sum.l0] at H
        by_cases c6 : x8_1 < (l2.length : Int)
        · rw [if_pos c6] at H
          have c6b0 : decide (x8_1 < (l2.length : Int)) = true := decide_eq_true c6
          clear c6
          by_cases c7 : 0 ≤ x8_1
          · rw [if_pos c7] at H
            have c7b0 : decide (0 ≤ x8_1) = true := decide_eq_true c7
            clear c7
            by_cases c8 : ((rd_L1 l2 x8_1).length : Int) = a1
            · rw [if_pos c8] at H
              have c8b0 : (((rd_L1 l2 x8_1).length : Int) == a1) = true := beq_iff_eq.mpr c8
              have c8b1 : (((rd_L1 l2 x8_1).length : Int) != a1) = false := bne_eq_false_iff_eq.mpr c8
              clear c8
              have H' := Aside0.mk H
              clear H
              have p111 : 0 ≤ (x8_1 : Int) := of_decide_eq_true qB37
              have q111 : x8_1 < (l2.length : Int) := of_decide_eq_true qB37
              obtain ⟨ad111, A111_0, c111_0, e111, hx111_0, hl111_0, hi111_0⟩ := at_L1 HR2.out x8_1 p111 q111
              cases e111
              have HR111_0 := Aside0.mk hi111_0
              have HC111_0 := Aside0.mk hl111_0
              clear hi111_0 hl111_0
              replace p111 := eq_true p111
              replace q111 := eq_true q111
              go_wp2
              try simp only [Act.put, List.setIfInBounds_toArray, List.set_cons_succ, List.set_cons_zero]
              go_loopg [9] k1 (fun kq v9 w' => ∃ (x9_2 : Int), v9 = .int .i64 x9_2 ∧ Aside0 (spec_l06Sum.l1 kq a1 l2 x8_1 x9_2 = some r) ∧ Aside0 (kq ≤ k1) ∧ Drawn0 w w')
              case atStart => exact ⟨(0), qB38, H', ⟨Nat.le_refl _⟩, by repeat (first | exact Drawn0.refl _ | apply Drawn0.step)⟩
              case round =>
                clear H'
                try clear c1
                try clear p1
                try clear q1
                try clear hx1
                try clear c2
                try clear p2
                try clear c4
                try clear c5
                try clear c5b0
                try clear c5b1
                try clear c6
                try clear c6b0
                try clear c7
                try clear c7b0
                try clear c8
                try clear c8b0
                try clear c8b1
                try clear hx111_0
                try clear p111
                try clear p2
                try clear q111
                obtain ⟨x9_2, rfl, HA, HK2, ⟨m2, rfl⟩⟩ := hrel
                cases gk with
                | zero => exact absurd HA.out (by simp [spec_l06Sum.l1])
                | succ k2 =>
                  have H := HA.out
                  clear HA
                  simp only [spec_l06Sum.l1] at H
                  by_cases c9 : 0 ≤ x8_1
                  · rw [if_pos c9] at H
                    have c9b0 : decide (0 ≤ x8_1) = true := decide_eq_true c9
                    clear c9
                    by_cases c10 : x8_1 < (l2.length : Int)
                    · rw [if_pos c10] at H
                      have c10b0 : decide (x8_1 < (l2.length : Int)) = true := decide_eq_true c10
                      clear c10
                      by_cases c11 : x9_2 < ((rd_L1 l2 x8_1).length : Int)
                      · rw [if_pos c11] at H
                        have c11b0 : decide (x9_2 < ((rd_L1 l2 x8_1).length : Int)) = true := decide_eq_true c11
                        clear c11
                        by_cases c12 : 0 ≤ x9_2
                        · rw [if_pos c12] at H
                          have c12b0 : decide (0 ≤ x9_2) = true := decide_eq_true c12
                          clear c12
                          replace H := Option.bind_eq_some_iff.mp H
                          obtain ⟨t115, A130, H⟩ := H
                          replace H : (if t115 = true then (spec_l06Sum.l1 k2 a1 l2 x8_1 (wrap64 (x9_2 + 1))) else (some 2)) = some r := H
                          have A13 := Aside0.mk A130
                          clear A130
                          by_cases c14 : t115 = true
                          · subst c14
                            have H1 : (spec_l06Sum.l1 k2 a1 l2 x8_1 (wrap64 (x9_2 + 1))) = some r := by rw [if_pos rfl] at H; exact H
                            clear H
                            have H := H1
                            clear H1
                            have H' := Aside0.mk H
                            clear H
                            have p112 : 0 ≤ (x8_1 : Int) := of_decide_eq_true qB37
                            have q112 : x8_1 < (l2.length : Int) := of_decide_eq_true qB37
                            obtain ⟨ad112, A112_0, c112_0, e112, hx112_0, hl112_0, hi112_0⟩ := at_L1 HR2.out x8_1 p112 q112
                            obtain rfl : ad111 = ad112 := (by injection e112)
                            have HR112_0 := Aside0.mk hi112_0
                            have HC112_0 := Aside0.mk hl112_0
                            clear hi112_0 hl112_0
                            replace p112 := eq_true p112
                            replace q112 := eq_true q112
                            have p113 : 0 ≤ (x8_1 : Int) := of_decide_eq_true qB37
                            have q113 : x8_1 < (l2.length : Int) := of_decide_eq_true qB37
                            obtain ⟨ad113, A113_0, c113_0, e113, hx113_0, hl113_0, hi113_0⟩ := at_L1 HR2.out x8_1 p113 q113
                            obtain rfl : ad111 = ad113 := (by injection e113)
                            have HR113_0 := Aside0.mk hi113_0
                            have HC113_0 := Aside0.mk hl113_0
                            clear hi113_0 hl113_0
                            replace p113 := eq_true p113
                            replace q113 := eq_true q113
                            have ea_ := Option.some.inj (hx112_0.symm.trans hx113_0)
                            injection ea_ with ea_ en_ ec_
                            subst ea_
                            subst ec_
                            clear en_
                            have p114 : 0 ≤ (x9_2 : Int) := of_decide_eq_true qB37
                            have q114 : x9_2 < ((rd_L1 l2 x8_1).length : Int) := of_decide_eq_true qB37
                            obtain ⟨ad114, e114, hx114_0⟩ := Kd.at_int HR113_0.out x9_2 p114 q114
                            cases e114
                            replace p114 := eq_true p114
                            replace q114 := eq_true q114
                            go_wp2_with (first | ((with_reducible refine gate_callee (f := 49) rfl ?_); refine goesL_ (some 45) rfl rfl Try.func49 (by kernel_rfl) rfl #[.int .i64 (rd (rd_L1 l2 x8_1) x9_2), .int .i64 (-1000), .int .i64 1000] rfl qB11 ?_; (with_reducible refine (spec_l01In.calls (rd (rd_L1 l2 x8_1) x9_2) (-1000) 1000 true _ A13.out).mono ?_); rintro e w' ⟨rfl, ⟨nd, rfl⟩⟩; refine ⟨_, rfl, ?_⟩))
                            (first | go_roundg k2 | ((try simp only [add_plain] at *); go_roundg k2))
                            case measure => have := HK1.out; have := HK2.out; omega
                            case rel => exact ⟨(wrap64 (x9_2 + 1)), qB38, H', ⟨by have := HK1.out; have := HK2.out; omega⟩, by repeat (first | exact Drawn0.refl _ | apply Drawn0.step)⟩
                          · replace c14 := Bool.eq_false_iff.mpr c14
                            subst c14
                            have H1 : (some 2) = some r := by rw [if_neg (show ¬ (false = true) by decide)] at H; exact H
                            clear H
                            have H := H1
                            clear H1
                            obtain rfl := Option.some.inj H
                            have p112 : 0 ≤ (x8_1 : Int) := of_decide_eq_true qB37
                            have q112 : x8_1 < (l2.length : Int) := of_decide_eq_true qB37
                            obtain ⟨ad112, A112_0, c112_0, e112, hx112_0, hl112_0, hi112_0⟩ := at_L1 HR2.out x8_1 p112 q112
                            obtain rfl : ad111 = ad112 := (by injection e112)
                            have HR112_0 := Aside0.mk hi112_0
                            have HC112_0 := Aside0.mk hl112_0
                            clear hi112_0 hl112_0
                            replace p112 := eq_true p112
                            replace q112 := eq_true q112
                            have p113 : 0 ≤ (x8_1 : Int) := of_decide_eq_true qB37
                            have q113 : x8_1 < (l2.length : Int) := of_decide_eq_true qB37
                            obtain ⟨ad113, A113_0, c113_0, e113, hx113_0, hl113_0, hi113_0⟩ := at_L1 HR2.out x8_1 p113 q113
                            obtain rfl : ad111 = ad113 := (by injection e113)
                            have HR113_0 := Aside0.mk hi113_0
                            have HC113_0 := Aside0.mk hl113_0
                            clear hi113_0 hl113_0
                            replace p113 := eq_true p113
                            replace q113 := eq_true q113
                            have ea_ := Option.some.inj (hx112_0.symm.trans hx113_0)
                            injection ea_ with ea_ en_ ec_
                            subst ea_
                            subst ec_
                            clear en_
                            have p114 : 0 ≤ (x9_2 : Int) := of_decide_eq_true qB37
                            have q114 : x9_2 < ((rd_L1 l2 x8_1).length : Int) := of_decide_eq_true qB37
                            obtain ⟨ad114, e114, hx114_0⟩ := Kd.at_int HR113_0.out x9_2 p114 q114
                            cases e114
                            replace p114 := eq_true p114
                            replace q114 := eq_true q114
                            go_wp2_with (first | ((with_reducible refine gate_callee (f := 49) rfl ?_); refine goesL_ (some 45) rfl rfl Try.func49 (by kernel_rfl) rfl #[.int .i64 (rd (rd_L1 l2 x8_1) x9_2), .int .i64 (-1000), .int .i64 1000] rfl qB11 ?_; (with_reducible refine (spec_l01In.calls (rd (rd_L1 l2 x8_1) x9_2) (-1000) 1000 false _ A13.out).mono ?_); rintro e w' ⟨rfl, ⟨nd, rfl⟩⟩; refine ⟨_, rfl, ?_⟩))
                            go_ret
                            exact ⟨by first | rfl | (simp; done) | (simp [*]; done), by repeat (first | exact Drawn0.refl _ | apply Drawn0.step)⟩
                        · rw [if_neg c12] at H
                          exact absurd H (by simp)
                      · rw [if_neg c11] at H
                        have c11b0 : decide (x9_2 < ((rd_L1 l2 x8_1).length : Int)) = false := decide_eq_false c11
                        clear c11
                        have H' := Aside0.mk H
                        clear H
                        have p112 : 0 ≤ (x8_1 : Int) := of_decide_eq_true qB37
                        have q112 : x8_1 < (l2.length : Int) := of_decide_eq_true qB37
                        obtain ⟨ad112, A112_0, c112_0, e112, hx112_0, hl112_0, hi112_0⟩ := at_L1 HR2.out x8_1 p112 q112
                        obtain rfl : ad111 = ad112 := (by injection e112)
                        have HR112_0 := Aside0.mk hi112_0
                        have HC112_0 := Aside0.mk hl112_0
                        clear hi112_0 hl112_0
                        replace p112 := eq_true p112
                        replace q112 := eq_true q112
                        go_wp2
                        (first | go_roundg k2 | ((try simp only [add_plain] at *); go_roundg k2))
                        case measure => have := HK1.out; have := HK2.out; omega
                        case rel => exact ⟨(wrap64 (x8_1 + 1)), qB38, H', ⟨by have := HK1.out; have := HK2.out; omega⟩, by repeat (first | exact Drawn0.refl _ | apply Drawn0.step)⟩
                    · rw [if_neg c10] at H
                      exact absurd H (by simp)
                  · rw [if_neg c9] at H
                    exact absurd H (by simp)
            · rw [if_neg c8] at H
              have c8b0 : (((rd_L1 l2 x8_1).length : Int) == a1) = false := beq_eq_false_iff_ne.mpr c8
              have c8b1 : (((rd_L1 l2 x8_1).length : Int) != a1) = true := bne_iff_ne.mpr c8
              obtain rfl := Option.some.inj H
              have p111 : 0 ≤ (x8_1 : Int) := of_decide_eq_true qB37
              have q111 : x8_1 < (l2.length : Int) := of_decide_eq_true qB37
              obtain ⟨ad111, A111_0, c111_0, e111, hx111_0, hl111_0, hi111_0⟩ := at_L1 HR2.out x8_1 p111 q111
              cases e111
              have HR111_0 := Aside0.mk hi111_0
              have HC111_0 := Aside0.mk hl111_0
              clear hi111_0 hl111_0
              replace p111 := eq_true p111
              replace q111 := eq_true q111
              go_wp2
              go_ret
              exact ⟨by first | rfl | (simp; done) | (simp [*]; done), by repeat (first | exact Drawn0.refl _ | apply Drawn0.step)⟩
          · rw [if_neg c7] at H
            exact absurd H (by simp)
        · rw [if_neg c6] at H
          have c6b0 : decide (x8_1 < (l2.length : Int)) = false := decide_eq_false c6
          clear c6
          obtain rfl := Option.some.inj H
          go_wp2
          go_ret
          exact ⟨by first | rfl | (simp; done) | (simp [*]; done), by repeat (first | exact Drawn0.refl _ | apply Drawn0.step)⟩
  · rw [if_neg c5] at H
    have c5b0 : (t110 == 0) = false := beq_eq_false_iff_ne.mpr c5
    have c5b1 : (t110 != 0) = true := bne_iff_ne.mpr c5
    obtain rfl := Option.some.inj H
    go_enter Try.func41, Try.ntmps41
    go_wp2_with (first | ((with_reducible refine gate_callee (f := 48) rfl ?_); refine goesL_ (some 12) rfl rfl Try.func48 (by kernel_rfl) rfl #[.int .i64 a0, .int .i64 a1, .slice none 0 0] rfl qB11 ?_; (refine (spec_l06Code.calls k a0 a1 _ _ ([] : List Int) t110 _ ?side1 ?side2 A4.out).mono ?_); (case side1 => exact Kd.C_nil _ _); (case side2 => exact Nat.le_refl _); rintro e w' ⟨rfl, ⟨nd, rfl⟩⟩; refine ⟨_, rfl, ?_⟩))
    go_ret
    exact ⟨by first | rfl | (simp; done) | (simp [*]; done), by repeat (first | exact Drawn0.refl _ | apply Drawn0.step)⟩

/-! ### spec_l06Root: function 88 -/
mutual
def spec_l06Root.l0 : Nat → Int → Int → Option (Int)
  | 0, _, _ => none
  | k + 1, x0, x3 => if x0 = 0 then (none) else (spec_l06Root.l1 k x0 x3 1 (Int.tmod x3 x0))
def spec_l06Root.l1 : Nat → Int → Int → Int → Int → Option (Int)
  | 0, _, _, _, _ => none
  | k + 1, x0, x3, x4, x5 => if x5 = 1 then (if x4 = (wrap64 (x0 - 1)) then (some x3) else (spec_l06Root.l0 k x0 (wrap64 (x3 + 1)))) else (if x0 = 0 then (none) else (spec_l06Root.l1 k x0 x3 (wrap64 (x4 + 1)) (Int.tmod (wrap64 (x5 * x3)) x0)))
end
def spec_l06Root.f (k : Nat) (a0 : Int) : Option (Int) := spec_l06Root.l0 k a0 2
theorem spec_l06Root.mono_l : ∀ k, (∀ y0 y1, LeO (spec_l06Root.l0 k y0 y1) (spec_l06Root.l0 (k + 1) y0 y1)) ∧ (∀ y0 y1 y2 y3, LeO (spec_l06Root.l1 k y0 y1 y2 y3) (spec_l06Root.l1 (k + 1) y0 y1 y2 y3))
  | 0 => ⟨fun _ _ r h => by simp [spec_l06Root.l0] at h, fun _ _ _ _ r h => by simp [spec_l06Root.l1] at h⟩
  | k + 1 => by
    obtain ⟨ih0, ih1⟩ := spec_l06Root.mono_l k
    refine ⟨?_, ?_⟩
    · intro y0 y1
      unfold spec_l06Root.l0
      repeat' first
      | (with_reducible exact ih0 _ _)
      | (with_reducible exact ih1 _ _ _ _)
      | (with_reducible exact LeO.refl _)
      | (with_reducible exact LeO.none _)
      | (with_reducible refine LeO.ite ?_ ?_)
      | (with_reducible refine LeO.bind ?_ (fun _ => ?_))
      | exact ih0 _ _
      | exact ih1 _ _ _ _
      | exact LeO.none _
      | refine LeO.ite ?_ ?_
      | refine LeO.bind ?_ (fun _ => ?_)
    · intro y0 y1 y2 y3
      unfold spec_l06Root.l1
      repeat' first
      | (with_reducible exact ih0 _ _)
      | (with_reducible exact ih1 _ _ _ _)
      | (with_reducible exact LeO.refl _)
      | (with_reducible exact LeO.none _)
      | (with_reducible refine LeO.ite ?_ ?_)
      | (with_reducible refine LeO.bind ?_ (fun _ => ?_))
      | exact ih0 _ _
      | exact ih1 _ _ _ _
      | exact LeO.none _
      | refine LeO.ite ?_ ?_
      | refine LeO.bind ?_ (fun _ => ?_)
theorem spec_l06Root.mono : ∀ a0 k, LeO (spec_l06Root.f k a0) (spec_l06Root.f (k + 1) a0) := by
  intro a0 k
  obtain ⟨ih0, ih1⟩ := spec_l06Root.mono_l k
  unfold spec_l06Root.f
  repeat' first
      | (with_reducible exact ih0 _ _)
      | (with_reducible exact ih1 _ _ _ _)
      | (with_reducible exact LeO.refl _)
      | (with_reducible exact LeO.none _)
      | (with_reducible refine LeO.ite ?_ ?_)
      | (with_reducible refine LeO.bind ?_ (fun _ => ?_))
      | exact ih0 _ _
      | exact ih1 _ _ _ _
      | exact LeO.none _
      | refine LeO.ite ?_ ?_
      | refine LeO.bind ?_ (fun _ => ?_)
set_option maxHeartbeats 8000000 in
set_option maxRecDepth 100000 in
theorem spec_l06Root.calls (k : Nat) (a0 : Int) (r : Int) (w : World) (h : spec_l06Root.f k a0 = some r) :
    Calls Try.prog 88 #[.int .i64 a0] w fun e w' => e = .returned (.int .i64 r) ∧ Drawn0 w w' := by
  have H : (spec_l06Root.l0 k a0 2) = some r := h
  clear h
  have H' := Aside0.mk H
  clear H
  go_enter Try.func88, Try.ntmps88
  go_wp2
  try simp only [Act.put, List.setIfInBounds_toArray, List.set_cons_succ, List.set_cons_zero]
  go_loopg [3] k (fun kq v3 w' => ∃ (x3_1 : Int), v3 = .int .i64 x3_1 ∧ Aside0 (spec_l06Root.l0 kq a0 x3_1 = some r) ∧ Aside0 (kq ≤ k) ∧ Drawn0 w w')
  case atStart => exact ⟨(2), qB38, H', ⟨Nat.le_refl _⟩, by repeat (first | exact Drawn0.refl _ | apply Drawn0.step)⟩
  case round =>
    clear H'
    obtain ⟨x3_1, rfl, HA, HK1, ⟨m1, rfl⟩⟩ := hrel
    cases gk with
    | zero => exact absurd HA.out (by simp [spec_l06Root.l0])
    | succ k1 =>
      have H := HA.out
      clear HA
      simp only [spec_l06Root.l0] at H
      by_cases c2 : a0 = 0
      · rw [if_pos c2] at H
        exact absurd H (by simp)
      · rw [if_neg c2] at H
        have c2b0 : (a0 == 0) = false := beq_eq_false_iff_ne.mpr c2
        have c2b1 : (a0 != 0) = true := bne_iff_ne.mpr c2
        have H' := Aside0.mk H
        clear H
        go_wp2
        try simp only [Act.put, List.setIfInBounds_toArray, List.set_cons_succ, List.set_cons_zero]
        go_loopg [4, 5] k1 (fun kq v4 v5 w' => ∃ (x4_2 : Int) (x5_2 : Int), v4 = .int .i64 x4_2 ∧ v5 = .int .i64 x5_2 ∧ Aside0 (spec_l06Root.l1 kq a0 x3_1 x4_2 x5_2 = some r) ∧ Aside0 (kq ≤ k1) ∧ Drawn0 w w')
        case atStart => exact ⟨(1), (Int.tmod x3_1 a0), qB38, qB38, H', ⟨Nat.le_refl _⟩, by repeat (first | exact Drawn0.refl _ | apply Drawn0.step)⟩
        case round =>
          clear H'
          try clear c2
          try clear c2b0
          try clear c2b1
          try clear p2
          obtain ⟨x4_2, x5_2, rfl, rfl, HA, HK2, ⟨m2, rfl⟩⟩ := hrel
          cases gk with
          | zero => exact absurd HA.out (by simp [spec_l06Root.l1])
          | succ k2 =>
            have H := HA.out
            clear HA
            simp only [spec_l06Root.l1] at H
            by_cases c3 : x5_2 = 1
            · rw [if_pos c3] at H
              have c3b0 : (x5_2 == 1) = true := beq_iff_eq.mpr c3
              have c3b1 : (x5_2 != 1) = false := bne_eq_false_iff_eq.mpr c3
              clear c3
              by_cases c4 : x4_2 = (wrap64 (a0 - 1))
              · rw [if_pos c4] at H
                have c4b0 : (x4_2 == (wrap64 (a0 - 1))) = true := beq_iff_eq.mpr c4
                have c4b1 : (x4_2 != (wrap64 (a0 - 1))) = false := bne_eq_false_iff_eq.mpr c4
                clear c4
                obtain rfl := Option.some.inj H
                go_wp2
                go_ret
                exact ⟨by first | rfl | (simp; done) | (simp [*]; done), by repeat (first | exact Drawn0.refl _ | apply Drawn0.step)⟩
              · rw [if_neg c4] at H
                have c4b0 : (x4_2 == (wrap64 (a0 - 1))) = false := beq_eq_false_iff_ne.mpr c4
                have c4b1 : (x4_2 != (wrap64 (a0 - 1))) = true := bne_iff_ne.mpr c4
                have H' := Aside0.mk H
                clear H
                go_wp2
                (first | go_roundg k2 | ((try simp only [add_plain] at *); go_roundg k2))
                case measure => have := HK1.out; have := HK2.out; omega
                case rel => exact ⟨(wrap64 (x3_1 + 1)), qB38, H', ⟨by have := HK1.out; have := HK2.out; omega⟩, by repeat (first | exact Drawn0.refl _ | apply Drawn0.step)⟩
            · rw [if_neg c3] at H
              have c3b0 : (x5_2 == 1) = false := beq_eq_false_iff_ne.mpr c3
              have c3b1 : (x5_2 != 1) = true := bne_iff_ne.mpr c3
              by_cases c5 : a0 = 0
              · rw [if_pos c5] at H
                exact absurd H (by simp)
              · rw [if_neg c5] at H
                have c5b0 : (a0 == 0) = false := beq_eq_false_iff_ne.mpr c5
                have c5b1 : (a0 != 0) = true := bne_iff_ne.mpr c5
                have H' := Aside0.mk H
                clear H
                go_wp2
                (first | go_roundg k2 | ((try simp only [add_plain] at *); go_roundg k2))
                case measure => have := HK1.out; have := HK2.out; omega
                case rel => exact ⟨(wrap64 (x4_2 + 1)), (Int.tmod (wrap64 (x5_2 * x3_1)) a0), qB38, qB38, H', ⟨by have := HK1.out; have := HK2.out; omega⟩, by repeat (first | exact Drawn0.refl _ | apply Drawn0.step)⟩

/-! ### spec_l06Indices: function 68 -/
def spec_l06Indices.l0 : Nat → Int → List Int → Int → Int → Int → Option (List Int)
  | 0, _, _, _, _, _ => none
  | k + 1, x0, x3, x4, x5, x6 => if x6 < (wrap64 (x0 - 1)) then (if 0 ≤ x5 then (if x5 < (x3.length : Int) then (if x0 = 0 then (none) else (spec_l06Indices.l0 k x0 (x3.set (x5 : Int).toNat x6) x4 (Int.tmod (wrap64 (x5 * x4)) x0) (wrap64 (x6 + 1)))) else (none)) else (none)) else (some x3)
def spec_l06Indices.f (k : Nat) (a0 : Int) : Option (List Int) := if 0 ≤ a0 then (if (a0 : Int).toNat ≤ 35184372088832 then ((some (List.replicate (a0 : Int).toNat 0 : List Int)).bind fun y116 => ((spec_l06Root.f k a0).bind fun t119 => (if 0 < (y116.length : Int) then (spec_l06Indices.l0 k a0 (y116.set (0 : Int).toNat (-1)) t119 1 0) else (none)))) else (none)) else (none)
theorem spec_l06Indices.mono_l : ∀ k, (∀ y0 y1 y2 y3 y4, LeO (spec_l06Indices.l0 k y0 y1 y2 y3 y4) (spec_l06Indices.l0 (k + 1) y0 y1 y2 y3 y4))
  | 0 => fun _ _ _ _ _ r h => by simp [spec_l06Indices.l0] at h
  | k + 1 => by
    have ih0 := spec_l06Indices.mono_l k
    · intro y0 y1 y2 y3 y4
      unfold spec_l06Indices.l0
      repeat' first
      | (with_reducible exact ih0 _ _ _ _ _)
      | (with_reducible exact spec_l06Root.mono _ _)
      | (with_reducible exact LeO.refl _)
      | (with_reducible exact LeO.none _)
      | (with_reducible refine LeO.ite ?_ ?_)
      | (with_reducible refine LeO.bind ?_ (fun _ => ?_))
      | exact ih0 _ _ _ _ _
      | exact spec_l06Root.mono _ _
      | exact LeO.none _
      | refine LeO.ite ?_ ?_
      | refine LeO.bind ?_ (fun _ => ?_)
theorem spec_l06Indices.mono : ∀ a0 k, LeO (spec_l06Indices.f k a0) (spec_l06Indices.f (k + 1) a0) := by
  intro a0 k
  have ih0 := spec_l06Indices.mono_l k
  unfold spec_l06Indices.f
  repeat' first
      | (with_reducible exact ih0 _ _ _ _ _)
      | (with_reducible exact spec_l06Root.mono _ _)
      | (with_reducible exact LeO.refl _)
      | (with_reducible exact LeO.none _)
      | (with_reducible refine LeO.ite ?_ ?_)
      | (with_reducible refine LeO.bind ?_ (fun _ => ?_))
      | exact ih0 _ _ _ _ _
      | exact spec_l06Root.mono _ _
      | exact LeO.none _
      | refine LeO.ite ?_ ?_
      | refine LeO.bind ?_ (fun _ => ?_)
set_option maxHeartbeats 8000000 in
set_option maxRecDepth 100000 in
theorem spec_l06Indices.calls (k : Nat) (a0 : Int) (r : List Int) (w : World) (h : spec_l06Indices.f k a0 = some r) :
    Calls Try.prog 68 #[.int .i64 a0] w fun e w' => ∃ v0_ : Value, e = .returned (v0_) ∧ Kd.R (Kd.int .i64) 2 w' w.heap.size (fun _ => True) v0_ r ∧ Below w.heap.size w w' := by
  have HB := Aside0.mk (Below.refl w.heap.size w)
  have H : (if 0 ≤ a0 then (if (a0 : Int).toNat ≤ 35184372088832 then ((some (List.replicate (a0 : Int).toNat 0 : List Int)).bind fun y116 => ((spec_l06Root.f k a0).bind fun t119 => (if 0 < (y116.length : Int) then (spec_l06Indices.l0 k a0 (y116.set (0 : Int).toNat (-1)) t119 1 0) else (none)))) else (none)) else (none)) = some r := h
  clear h
  by_cases c2 : 0 ≤ a0
  · rw [if_pos c2] at H
    have c2b0 := eq_true c2
    have c2b1 : decide (0 ≤ a0) = true := decide_eq_true c2
    clear c2
    by_cases c3 : (a0 : Int).toNat ≤ 35184372088832
    · rw [if_pos c3] at H
      have c3b0 := eq_true c3
      have c3b1 : decide ((a0 : Int).toNat ≤ 35184372088832) = true := decide_eq_true c3
      clear c3
      obtain ⟨y116, hy116⟩ : ∃ y_ : List Int, y_ = (List.replicate (a0 : Int).toNat 0) := ⟨_, rfl⟩
      replace H : ((spec_l06Root.f k a0).bind fun t119 => (if 0 < (y116.length : Int) then (spec_l06Indices.l0 k a0 (y116.set (0 : Int).toNat (-1)) t119 1 0) else (none))) = some r := by first | (rw [hy116]; with_reducible exact H) | (have H2_ := (Option.bind_some _ _).symm.trans H; rw [hy116]; with_reducible exact H2_) | (have H2_ := (Option.bind_some _ _).symm.trans H; with_reducible exact H2_) | with_reducible exact H | (rw [hy116]; exact H) | exact H
      have Ny116 := Aside0.mk hy116
      clear hy116
      replace H := Option.bind_eq_some_iff.mp H
      obtain ⟨t119, A40, H⟩ := H
      replace H : (if 0 < (y116.length : Int) then (spec_l06Indices.l0 k a0 (y116.set (0 : Int).toNat (-1)) t119 1 0) else (none)) = some r := H
      have A4 := Aside0.mk A40
      clear A40
      by_cases c5 : 0 < (y116.length : Int)
      · rw [if_pos c5] at H
        have c5b0 : decide (0 < (y116.length : Int)) = true := decide_eq_true c5
        have c5b1 : decide (0 < y116.length) = true := decide_eq_true (by omega)
        clear c5
        obtain ⟨y120, hy120⟩ : ∃ y_ : List Int, y_ = (y116.set (0 : Int).toNat (-1)) := ⟨_, rfl⟩
        replace H : (spec_l06Indices.l0 k a0 y120 t119 1 0) = some r := by first | (rw [hy120]; with_reducible exact H) | (have H2_ := (Option.bind_some _ _).symm.trans H; rw [hy120]; with_reducible exact H2_) | (have H2_ := (Option.bind_some _ _).symm.trans H; with_reducible exact H2_) | with_reducible exact H | (rw [hy120]; exact H) | exact H
        have Ny120 := Aside0.mk hy120
        clear hy120
        have H' := Aside0.mk H
        clear H
        go_enter Try.func68, Try.ntmps68
        try go_wp2
        have n0_ := Aside0.mk (below_drew1 HB.out)
        clear HB
        have HB := n0_
        clear n0_
        refine start_ (n := 7) (S := fun w' => True) (ds := []) #[false, false, false, false, false, false, false] (by kernel_rfl) rfl rfl trivial (fun hHeld => ?_)
        generalize w.drew = w7 at HB hHeld ⊢
        refine pure_ (i := 0) (N := some 7) (v := ?_) (a' := ?_) #[true, false, false, false, false, false, false] rfl rfl (by kernel_rfl) (fun _ _ _ h => h) (Or.inl ⟨by rfl, ?_⟩) ?_ ?_
        rotate_left
        · intro w'
          go_simp
          with_reducible rfl
        rotate_left
        · simp only [Act.put, List.setIfInBounds_toArray, List.set_cons_zero, List.set_cons_succ, i64_w, i32_w]
          rfl
        refine pure_ (i := 2) (N := some 9) (v := ?_) (a' := ?_) #[true, false, true, false, false, false, false] rfl rfl (by kernel_rfl) (fun _ _ _ h => h) (Or.inl ⟨by rfl, ?_⟩) ?_ ?_
        rotate_left
        · intro w'
          go_simp
          with_reducible rfl
        rotate_left
        · simp only [Act.put, List.setIfInBounds_toArray, List.set_cons_zero, List.set_cons_succ, i64_w, i32_w]
          rfl
        refine join_ (σ := Value) 3 #[true, true, true, true, false, false, false] (fun s_ => [(8, s_), (10, .int .i64 t119)]) (fun s_ w' => (Kd.R (Kd.int .i64) 2 w' w.heap.size (fun _ => True) s_ y116) ∧ (Below w.heap.size w w')) ?_ ?_
        rotate_left
        · intro hCont
          refine two_ (i := 1) (j := 3) (Ni := some 8) (Nj := some 10) #[true, true, true, false, false, false, false] #[true, false, true, true, false, false, false] rfl rfl rfl rfl (by kernel_rfl) (by decide) (by decide) (fun K hK => ?_) (fun K hK => ?_)
          · skip
            refine Kd.R_make_step (Kd.int .i64) _ 2 (by rfl) (N := 8) rfl 25 _ _ rfl a0 rfl rfl Try.underlying25 (.int .i64 0) 8 info2 rfl (by decide) (by omega) 0 (ok := fun _ => True) (okp := fun _ => True) rfl (fun _ hk => hk) trivial (of_decide_eq_true qB37) (Nat.le_trans (Nat.mul_le_mul_right _ (of_decide_eq_true qB37 : a0.toNat ≤ 35184372088832)) (by omega)) (Below.refl _ _) (Nat.le_refl _) ?_
            intro v117 w8 ho9 hb hg_ hnew_
            clear hg_ hnew_
            (first | rw [← Ny116.out] at ho9 | (simp only [Int.reduceToNat] at ho9; rw [← Ny116.out] at ho9))
            have n0_ := Aside0.mk (Kd.R_lower ho9 (below_size qB13))
            have n1_ := Aside0.mk (below_step qB13 hb)
            clear HB
            have HO118 := n0_
            have HB := n1_
            clear n0_ n1_
            clear hb ho9
            refine hK.out _ _ trivial (fun hHeld => ?_)
            clear hK K
            refine norm_ (a' := ?_) ?_ ?_
            rotate_left
            · show Act.put _ (some 8) _ = _
              simp only [Act.put, List.setIfInBounds_toArray, List.set_cons_zero, List.set_cons_succ, i64_w, i32_w]
              rfl
            refine one_ (i := 3) (N := some 10) #[true, true, true, true, false, false, false] rfl rfl (by kernel_rfl) (by decide) (fun K hK => ?_)
            refine goes_ Try.func88 (by kernel_rfl) rfl #[.int .i64 a0] (by rfl) rfl rfl qB11 ?_
            with_reducible refine (spec_l06Root.calls k a0 t119 _ A4.out).mono ?_
            rintro e w' ⟨rfl, ⟨nd, rfl⟩⟩
            refine ⟨_, rfl, ?_⟩
            refine hK.out _ _ trivial (fun hHeld => ?_)
            clear hK K
            refine norm_ (a' := ?_) ?_ ?_
            rotate_left
            · show Act.put _ (some 10) _ = _
              simp only [Act.put, List.setIfInBounds_toArray, List.set_cons_zero, List.set_cons_succ, i64_w, i32_w]
              rfl
            exact norm_ qB36 (hCont (v117) _ ⟨qB15, qB13⟩)
          · skip
            refine goes_ Try.func88 (by kernel_rfl) rfl #[.int .i64 a0] (by rfl) rfl rfl qB11 ?_
            with_reducible refine (spec_l06Root.calls k a0 t119 _ A4.out).mono ?_
            rintro e w' ⟨rfl, ⟨nd, rfl⟩⟩
            refine ⟨_, rfl, ?_⟩
            refine hK.out _ _ trivial (fun hHeld => ?_)
            clear hK K
            refine norm_ (a' := ?_) ?_ ?_
            rotate_left
            · show Act.put _ (some 10) _ = _
              simp only [Act.put, List.setIfInBounds_toArray, List.set_cons_zero, List.set_cons_succ, i64_w, i32_w]
              rfl
            refine one_ (i := 1) (N := some 8) #[true, true, true, true, false, false, false] rfl rfl (by kernel_rfl) (by decide) (fun K hK => ?_)
            refine Kd.R_make_step (Kd.int .i64) _ 2 (by rfl) (N := 8) rfl 25 _ _ rfl a0 rfl rfl Try.underlying25 (.int .i64 0) 8 info2 rfl (by decide) (by omega) 0 (ok := fun _ => True) (okp := fun _ => True) rfl (fun _ hk => hk) trivial (of_decide_eq_true qB37) (Nat.le_trans (Nat.mul_le_mul_right _ (of_decide_eq_true qB37 : a0.toNat ≤ 35184372088832)) (by omega)) (Below.refl _ _) (Nat.le_refl _) ?_
            intro v117 w8 ho9 hb hg_ hnew_
            clear hg_ hnew_
            (first | rw [← Ny116.out] at ho9 | (simp only [Int.reduceToNat] at ho9; rw [← Ny116.out] at ho9))
            have n0_ := Aside0.mk (Kd.R_lower ho9 (below_size qB13))
            have n1_ := Aside0.mk (below_step qB13 hb)
            clear HB
            have HO118 := n0_
            have HB := n1_
            clear n0_ n1_
            clear hb ho9
            refine hK.out _ _ trivial (fun hHeld => ?_)
            clear hK K
            refine norm_ (a' := ?_) ?_ ?_
            rotate_left
            · show Act.put _ (some 8) _ = _
              simp only [Act.put, List.setIfInBounds_toArray, List.set_cons_zero, List.set_cons_succ, i64_w, i32_w]
              rfl
            exact norm_ qB36 (hCont (v117) _ ⟨qB15, qB13⟩)
        rintro v117 w10 ⟨h0_, h1_⟩
        have n0_ : Aside0 (Kd.R (Kd.int .i64) 2 w10 w.heap.size (fun _ => True) v117 y116) := ⟨h0_⟩
        have n1_ : Aside0 (Below w.heap.size w w10) := ⟨h1_⟩
        clear HB
        clear h0_ h1_
        have HO118 := n0_
        have HB := n1_
        clear n0_ n1_
        have hHeld := trivial
        refine norm_ (a' := ?_) ?_ ?_
        rotate_left
        · simp only [putAll, Act.put, List.setIfInBounds_toArray, List.set_cons_zero, List.set_cons_succ]
          rfl
        refine pure_ (i := 4) (N := some 3) (v := ?_) (a' := ?_) #[true, true, true, true, true, false, false] rfl rfl (by kernel_rfl) (fun _ _ _ h => h) (Or.inl ⟨by rfl, ?_⟩) ?_ ?_
        rotate_left
        · intro w'
          go_simp
          with_reducible rfl
        rotate_left
        · simp only [Act.put, List.setIfInBounds_toArray, List.set_cons_zero, List.set_cons_succ, i64_w, i32_w]
          rfl
        refine pure_ (i := 5) (N := some 4) (v := ?_) (a' := ?_) #[true, true, true, true, true, true, false] rfl rfl (by kernel_rfl) (fun _ _ _ h => h) (Or.inl ⟨by rfl, ?_⟩) ?_ ?_
        rotate_left
        · intro w'
          go_simp
          with_reducible rfl
        rotate_left
        · simp only [Act.put, List.setIfInBounds_toArray, List.set_cons_zero, List.set_cons_succ, i64_w, i32_w]
          rfl
        refine pure_ (i := 6) (N := some 5) (v := ?_) (a' := ?_) #[true, true, true, true, true, true, true] rfl rfl (by kernel_rfl) (fun _ _ _ h => h) (Or.inl ⟨by rfl, ?_⟩) ?_ ?_
        rotate_left
        · intro w'
          go_simp
          with_reducible rfl
        rotate_left
        · simp only [Act.put, List.setIfInBounds_toArray, List.set_cons_zero, List.set_cons_succ, i64_w, i32_w]
          rfl
        refine done_ (by kernel_rfl) ?_
        have p6 : 0 ≤ (0 : Int) := (by omega)
        have q6 : (0 : Int) < ((y116.length : Int) : Int) := of_decide_eq_true qB37
        have qi6 : (0 < y116.length) = True := eq_true (by omega)
        obtain ⟨go6, co6, eo6, gb6, gl6, cl6, HG6⟩ := Kd.R_form HO118.out (by omega)
        (first | cases eo6 | (injection eo6 with ea_ en_ ec_; (first | subst ea_ | (injection ea_ with ea_; subst ea_)); subst ec_; clear en_))
        have GB6 := Aside0.mk gb6
        have GG6 := Aside0.mk HG6
        clear gb6 gl6 HG6
        obtain ⟨hx6_0, hf6_0⟩ := Kd.R_celln 0 HO118.out (0 : Int) p6 q6
        (try rw [show ((0 : Int)).toNat = 0 from rfl] at hx6_0)
        (try simp only [Nat.reduceMul, Nat.zero_mul, Nat.zero_add, Nat.reduceAdd] at hx6_0)
        (try rw [show ((0 : Int)).toNat = 0 from rfl] at hf6_0)
        (try simp only [Nat.reduceMul, Nat.zero_mul, Nat.zero_add, Nat.reduceAdd] at hf6_0)
        replace p6 := eq_true p6
        replace q6 := eq_true q6
        obtain ⟨hy11_, hz11_⟩ := Kd.R_celln 0 HO118.out (0 : Int) (by omega) (of_decide_eq_true qB37)
        (try simp only [Int.reduceToNat, Int.toNat_zero, Int.toNat_ofNat, Nat.reduceMul, Nat.zero_mul, Nat.zero_add] at hy11_ hz11_)
        (try rw [show ((0 : Int)).toNat = 0 from rfl] at hy11_)
        (try rw [show ((0 : Int)).toNat = 0 from rfl] at hz11_)
        have HP11 := Kd.R_putg HO118.out (0 : Int) (-1)
        try go_wp2_with (first | ((with_reducible refine gate_store (t := 2) (p := 12) rfl ?_); refine store_event (t := 2) (p := 12) (v := ?vo_w12) (w1 := (w10.setCell ⟨go6, (0 : Int).toNat, none⟩ (.int .i64 (-1)))) ?hg ?ho ?hn ?hr ?_; (case ho => rfl); (case hg => rfl); (case hn => rfl); (case hr => first | (go_simp; done) | (go_simp; rfl)); intro w12 hw; have hg : w10.grownBy w12 (some go6) := (by rw [hw]; exact HP11.2); have hp_ : Kd.R (Kd.int .i64) 2 w12 w.heap.size (fun _ => True) (.slice (some ⟨go6, 0, none⟩) y116.length co6) y120 := (by rw [hw, Ny120.out]; exact HP11.1); clear HP11; have n0_ := Aside0.mk (hp_); have n1_ := Aside0.mk ((by rw [hw]; exact below_set (HB.out) GB6.out : Below w.heap.size w w12)); clear HO118; clear HB; have HO118 := n0_; have HB := n1_; clear n0_ n1_; clear hg hw hp_))
        try simp only [Act.put, List.setIfInBounds_toArray, List.set_cons_succ, List.set_cons_zero]
        go_loopg [5, 6] k (fun kq v5 v6 w' => ∃ (x3_1 : List Int) (x5_1 : Int) (x6_1 : Int), v5 = .int .i64 x5_1 ∧ v6 = .int .i64 x6_1 ∧ Aside0 (spec_l06Indices.l0 kq a0 x3_1 t119 x5_1 x6_1 = some r) ∧ Aside0 (kq ≤ k) ∧ Aside0 (Kd.R (Kd.int .i64) 2 w' w.heap.size (fun _ => True) (.slice (some ⟨go6, 0, none⟩) y116.length co6) x3_1) ∧ Aside0 (Below w.heap.size w w'))
        case atStart => exact ⟨(y120), (1), (0), qB38, qB38, H', ⟨Nat.le_refl _⟩, ⟨by (with_reducible repeat (first | apply Kd.R_alloc | apply Kd.R_drewN | apply Kd.R_drew)); exact HO118.out⟩, ⟨by repeat (first | (with_reducible first | exact HB.out | apply below_alloc | apply pw_below_drewN | apply below_drew1) | exact HB.out)⟩⟩
        case round =>
          clear H'
          try clear c2
          try clear c2b0
          try clear c2b1
          try clear p2
          try clear c3
          try clear c3b0
          try clear c3b1
          try clear c5
          try clear c5b0
          try clear c5b1
          try clear c6
          try clear p6
          try clear q6
          try clear hx6
          try clear qi6
          try clear hf6
          try clear c8
          try clear hx6_0
          try clear p6
          try clear q6
          obtain ⟨x3_1, x5_1, x6_1, rfl, rfl, HA, HK1, HO_3, HB⟩ := hrel
          have hl3_1 := (Kd.R_reads' HO_3.out).1
          rw [hl3_1] at HO_3
          (try simp only [hl3_1])
          cases gk with
          | zero => exact absurd HA.out (by simp [spec_l06Indices.l0])
          | succ k1 =>
            have H := HA.out
            clear HA
            simp only [spec_l06Indices.l0] at H
            by_cases c13 : x6_1 < (wrap64 (a0 - 1))
            · rw [if_pos c13] at H
              have c13b0 : decide (x6_1 < (wrap64 (a0 - 1))) = true := decide_eq_true c13
              clear c13
              by_cases c14 : 0 ≤ x5_1
              · rw [if_pos c14] at H
                have c14b0 : decide (0 ≤ x5_1) = true := decide_eq_true c14
                clear c14
                by_cases c15 : x5_1 < (x3_1.length : Int)
                · rw [if_pos c15] at H
                  have c15b0 : decide (x5_1 < (x3_1.length : Int)) = true := decide_eq_true c15
                  clear c15
                  obtain ⟨y121, hy121⟩ : ∃ y_ : List Int, y_ = (x3_1.set (x5_1 : Int).toNat x6_1) := ⟨_, rfl⟩
                  replace H : (if a0 = 0 then (none) else (spec_l06Indices.l0 k1 a0 y121 t119 (Int.tmod (wrap64 (x5_1 * t119)) a0) (wrap64 (x6_1 + 1)))) = some r := by first | (rw [hy121]; with_reducible exact H) | (have H2_ := (Option.bind_some _ _).symm.trans H; rw [hy121]; with_reducible exact H2_) | (have H2_ := (Option.bind_some _ _).symm.trans H; with_reducible exact H2_) | with_reducible exact H | (rw [hy121]; exact H) | exact H
                  have Ny121 := Aside0.mk hy121
                  clear hy121
                  by_cases c17 : a0 = 0
                  · rw [if_pos c17] at H
                    exact absurd H (by simp)
                  · rw [if_neg c17] at H
                    have c17b0 : (a0 == 0) = false := beq_eq_false_iff_ne.mpr c17
                    have c17b1 : (a0 != 0) = true := bne_iff_ne.mpr c17
                    have H' := Aside0.mk H
                    clear H
                    have p16 : 0 ≤ (x5_1 : Int) := of_decide_eq_true qB37
                    have q16 : (x5_1 : Int) < ((x3_1.length : Int) : Int) := of_decide_eq_true qB37
                    obtain ⟨hx16_0, hf16_0⟩ := Kd.R_celln 0 HO_3.out (x5_1 : Int) p16 q16
                    replace p16 := eq_true p16
                    replace q16 := eq_true q16
                    have HP18 := Kd.R_putg HO_3.out (x5_1 : Int) x6_1
                    go_wp2_with (first | ((with_reducible refine gate_store (t := 2) (p := 22) rfl ?_); refine store_event (t := 2) (p := 22) (v := ?vo_w19) (w1 := (wr.setCell ⟨go6, (x5_1 : Int).toNat, none⟩ (.int .i64 x6_1))) ?hg ?ho ?hn ?hr ?_; (case ho => rfl); (case hg => rfl); (case hn => rfl); (case hr => first | (go_simp; done) | (go_simp; rfl)); intro w19 hw; have hg : wr.grownBy w19 (some go6) := (by rw [hw]; exact HP18.2); have hp_ : Kd.R (Kd.int .i64) 2 w19 w.heap.size (fun _ => True) (.slice (some ⟨go6, 0, none⟩) x3_1.length co6) y121 := (by rw [hw, Ny121.out]; exact HP18.1); clear HP18; have n0_ := Aside0.mk (hp_); have n1_ := Aside0.mk ((by rw [hw]; exact below_set (HB.out) GB6.out : Below w.heap.size w w19)); clear HO_3; clear HB; have HO_3 := n0_; have HB := n1_; clear n0_ n1_; clear hg hw hp_))
                    (try simp only [← hl3_1])
                    (first | go_roundg k1 | ((try simp only [add_plain] at *); go_roundg k1))
                    case measure => have := HK1.out; omega
                    case rel => exact ⟨(y121), (Int.tmod (wrap64 (x5_1 * t119)) a0), (wrap64 (x6_1 + 1)), qB38, qB38, H', ⟨by have := HK1.out; omega⟩, ⟨by (try simp only [hl3_1]); (with_reducible repeat (first | apply Kd.R_alloc | apply Kd.R_drewN | apply Kd.R_drew)); exact HO_3.out⟩, ⟨by repeat (first | (with_reducible first | exact HB.out | apply below_alloc | apply pw_below_drewN | apply below_drew1) | exact HB.out)⟩⟩
                · rw [if_neg c15] at H
                  exact absurd H (by simp)
              · rw [if_neg c14] at H
                exact absurd H (by simp)
            · rw [if_neg c13] at H
              have c13b0 : decide (x6_1 < (wrap64 (a0 - 1))) = false := decide_eq_false c13
              clear c13
              obtain rfl := Option.some.inj H
              go_wp2
              go_ret
              exact ⟨_, by first | rfl | (simp [errW_none, errW_some] <;> rfl) | (simp [*, errW_none, errW_some] <;> rfl), by (with_reducible repeat (first | apply Kd.R_alloc | apply Kd.R_drewN | apply Kd.R_drew)); exact HO_3.out, by repeat (first | (with_reducible first | exact HB.out | apply below_alloc | apply pw_below_drewN | apply below_drew1) | exact HB.out)⟩
      · rw [if_neg c5] at H
        exact absurd H (by simp)
    · rw [if_neg c3] at H
      exact absurd H (by simp)
  · rw [if_neg c2] at H
    exact absurd H (by simp)

end Go.Proofs.Ytghlmdjedpnglaa.PFnExactMultiplyPeriods
