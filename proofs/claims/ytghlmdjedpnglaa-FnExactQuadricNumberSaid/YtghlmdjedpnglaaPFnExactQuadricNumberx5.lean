/- The functions that the law reaches, as plain functions, each with the proof that the program comes to it; no condition. Written by a program of this session (wip/mp.py) over the printing of the kit; what is marked HAND is told by hand. -/
import Derived.Test.YtghlmdjedpnglaaPFnExactQuadricNumberx0
import Derived.Test.YtghlmdjedpnglaaPFnExactQuadricNumberx4
namespace Go.Proofs.Ytghlmdjedpnglaa.PFnExactQuadricNumber
open Go.RowKit Go.Proofs.YtghlmdjedpnglaaW.PrintWords Go.Proofs.YtghlmdjedpnglaaW.PrintLast Go.Proofs.YtghlmdjedpnglaaW.PrintMore
attribute [local go_sem] max2_int min2_int max_two min_two max_three min_three max_four min_four   -- for this text's walks alone
set_option linter.unusedVariables false
set_option linter.unusedSimpArgs false

/-! ### impl_solutions: function 60 -/
mutual
def impl_solutions.l0 : Nat → Int → List Int → Int → Int → List Int → List Int → Int → Int → Option (Int)
  | 0, _, _, _, _, _, _, _, _ => none
  | k + 1, x0, x2, x3, x4, x11, x23, x24, x25 => if x25 < x24 then (if 0 ≤ x25 then (if x25 < (x23.length : Int) then (if 0 ≤ x0 then (if (x0 : Int).toNat ≤ 35184372088832 then (if x25 < (x2.length : Int) then ((impl_valueCounts.f k x0 (rd x23 x25) (rd x2 x25) x4).bind fun t177 => (impl_solutions.l1 k x0 x2 x3 x4 x11 (List.replicate (x0 : Int).toNat 0) x23 x24 x25 t177 (t177.length : Int) 0)) else (none)) else (none)) else (none)) else (none)) else (none)) else (if 0 ≤ x3 then (if x3 < (x11.length : Int) then (some (rd x11 x3)) else (none)) else (none))
def impl_solutions.l1 : Nat → Int → List Int → Int → Int → List Int → List Int → List Int → Int → Int → List Int → Int → Int → Option (Int)
  | 0, _, _, _, _, _, _, _, _, _, _, _, _ => none
  | k + 1, x0, x2, x3, x4, x11, x14, x23, x24, x25, x39, x40, x41 => if x41 < x40 then (if 0 ≤ x41 then (if x41 < (x39.length : Int) then (impl_solutions.l2 k x0 x2 x3 x4 x11 x14 x41 (rd x39 x41) x23 x24 x25 x39 x40 x41 (x11.length : Int) 0) else (none)) else (none)) else (impl_solutions.l0 k x0 x2 x3 x4 x14 x23 x24 (wrap64 (x25 + 1)))
def impl_solutions.l2 : Nat → Int → List Int → Int → Int → List Int → List Int → Int → Int → List Int → Int → Int → List Int → Int → Int → Int → Int → Option (Int)
  | 0, _, _, _, _, _, _, _, _, _, _, _, _, _, _, _, _ => none
  | k + 1, x0, x2, x3, x4, x11, x14, x15, x16, x23, x24, x25, x39, x40, x41, x47, x48 => if x48 < x47 then (if 0 ≤ x48 then (if x48 < (x11.length : Int) then (if x0 = 0 then (none) else (if 0 ≤ (Int.tmod (wrap64 (x48 + x15)) x0) then (if (Int.tmod (wrap64 (x48 + x15)) x0) < (x14.length : Int) then (impl_solutions.l2 k x0 x2 x3 x4 x11 (x14.set ((Int.tmod (wrap64 (x48 + x15)) x0) : Int).toNat (wrap64 ((rd x14 (Int.tmod (wrap64 (x48 + x15)) x0)) + (wrap64 (x16 * (rd x11 x48)))))) x15 x16 x23 x24 x25 x39 x40 x41 x47 (wrap64 (x48 + 1))) else (none)) else (none))) else (none)) else (none)) else (impl_solutions.l1 k x0 x2 x3 x4 x11 x14 x23 x24 x25 x39 x40 (wrap64 (x41 + 1)))
end
def impl_solutions.f (k : Nat) (a0 : Int) (l1 : List Int) (l2 : List Int) (a3 : Int) (a4 : Int) : Option (Int) := if 0 ≤ a0 then (if (a0 : Int).toNat ≤ 35184372088832 then ((some (List.replicate (a0 : Int).toNat 0 : List Int)).bind fun y167 => (if 0 < (y167.length : Int) then (impl_solutions.l0 k a0 l2 a3 a4 (y167.set (0 : Int).toNat 1) l1 (l1.length : Int) 0) else (none))) else (none)) else (none)
theorem impl_solutions.mono_l : ∀ k, (∀ y0 y1 y2 y3 y4 y5 y6 y7, LeO (impl_solutions.l0 k y0 y1 y2 y3 y4 y5 y6 y7) (impl_solutions.l0 (k + 1) y0 y1 y2 y3 y4 y5 y6 y7)) ∧ (∀ y0 y1 y2 y3 y4 y5 y6 y7 y8 y9 y10 y11, LeO (impl_solutions.l1 k y0 y1 y2 y3 y4 y5 y6 y7 y8 y9 y10 y11) (impl_solutions.l1 (k + 1) y0 y1 y2 y3 y4 y5 y6 y7 y8 y9 y10 y11)) ∧ (∀ y0 y1 y2 y3 y4 y5 y6 y7 y8 y9 y10 y11 y12 y13 y14 y15, LeO (impl_solutions.l2 k y0 y1 y2 y3 y4 y5 y6 y7 y8 y9 y10 y11 y12 y13 y14 y15) (impl_solutions.l2 (k + 1) y0 y1 y2 y3 y4 y5 y6 y7 y8 y9 y10 y11 y12 y13 y14 y15))
  | 0 => ⟨fun _ _ _ _ _ _ _ _ r h => by simp [impl_solutions.l0] at h, fun _ _ _ _ _ _ _ _ _ _ _ _ r h => by simp [impl_solutions.l1] at h, fun _ _ _ _ _ _ _ _ _ _ _ _ _ _ _ _ r h => by simp [impl_solutions.l2] at h⟩
  | k + 1 => by
    obtain ⟨ih0, ih1, ih2⟩ := impl_solutions.mono_l k
    refine ⟨?_, ?_, ?_⟩
    · intro y0 y1 y2 y3 y4 y5 y6 y7
      unfold impl_solutions.l0
      repeat' first
      | (with_reducible exact ih0 _ _ _ _ _ _ _ _)
      | (with_reducible exact ih1 _ _ _ _ _ _ _ _ _ _ _ _)
      | (with_reducible exact ih2 _ _ _ _ _ _ _ _ _ _ _ _ _ _ _ _)
      | (with_reducible exact impl_valueCounts.mono _ _ _ _ _)
      | (with_reducible exact LeO.refl _)
      | (with_reducible exact LeO.none _)
      | (with_reducible refine LeO.ite ?_ ?_)
      | (with_reducible refine LeO.bind ?_ (fun _ => ?_))
      | exact ih0 _ _ _ _ _ _ _ _
      | exact ih1 _ _ _ _ _ _ _ _ _ _ _ _
      | exact ih2 _ _ _ _ _ _ _ _ _ _ _ _ _ _ _ _
      | exact impl_valueCounts.mono _ _ _ _ _
      | exact LeO.none _
      | refine LeO.ite ?_ ?_
      | refine LeO.bind ?_ (fun _ => ?_)
    · intro y0 y1 y2 y3 y4 y5 y6 y7 y8 y9 y10 y11
      unfold impl_solutions.l1
      repeat' first
      | (with_reducible exact ih0 _ _ _ _ _ _ _ _)
      | (with_reducible exact ih1 _ _ _ _ _ _ _ _ _ _ _ _)
      | (with_reducible exact ih2 _ _ _ _ _ _ _ _ _ _ _ _ _ _ _ _)
      | (with_reducible exact impl_valueCounts.mono _ _ _ _ _)
      | (with_reducible exact LeO.refl _)
      | (with_reducible exact LeO.none _)
      | (with_reducible refine LeO.ite ?_ ?_)
      | (with_reducible refine LeO.bind ?_ (fun _ => ?_))
      | exact ih0 _ _ _ _ _ _ _ _
      | exact ih1 _ _ _ _ _ _ _ _ _ _ _ _
      | exact ih2 _ _ _ _ _ _ _ _ _ _ _ _ _ _ _ _
      | exact impl_valueCounts.mono _ _ _ _ _
      | exact LeO.none _
      | refine LeO.ite ?_ ?_
      | refine LeO.bind ?_ (fun _ => ?_)
    · intro y0 y1 y2 y3 y4 y5 y6 y7 y8 y9 y10 y11 y12 y13 y14 y15
      unfold impl_solutions.l2
      repeat' first
      | (with_reducible exact ih0 _ _ _ _ _ _ _ _)
      | (with_reducible exact ih1 _ _ _ _ _ _ _ _ _ _ _ _)
      | (with_reducible exact ih2 _ _ _ _ _ _ _ _ _ _ _ _ _ _ _ _)
      | (with_reducible exact impl_valueCounts.mono _ _ _ _ _)
      | (with_reducible exact LeO.refl _)
      | (with_reducible exact LeO.none _)
      | (with_reducible refine LeO.ite ?_ ?_)
      | (with_reducible refine LeO.bind ?_ (fun _ => ?_))
      | exact ih0 _ _ _ _ _ _ _ _
      | exact ih1 _ _ _ _ _ _ _ _ _ _ _ _
      | exact ih2 _ _ _ _ _ _ _ _ _ _ _ _ _ _ _ _
      | exact impl_valueCounts.mono _ _ _ _ _
      | exact LeO.none _
      | refine LeO.ite ?_ ?_
      | refine LeO.bind ?_ (fun _ => ?_)
theorem impl_solutions.mono : ∀ a0 a1 a2 a3 a4 k, LeO (impl_solutions.f k a0 a1 a2 a3 a4) (impl_solutions.f (k + 1) a0 a1 a2 a3 a4) := by
  intro a0 a1 a2 a3 a4 k
  obtain ⟨ih0, ih1, ih2⟩ := impl_solutions.mono_l k
  unfold impl_solutions.f
  repeat' first
      | (with_reducible exact ih0 _ _ _ _ _ _ _ _)
      | (with_reducible exact ih1 _ _ _ _ _ _ _ _ _ _ _ _)
      | (with_reducible exact ih2 _ _ _ _ _ _ _ _ _ _ _ _ _ _ _ _)
      | (with_reducible exact impl_valueCounts.mono _ _ _ _ _)
      | (with_reducible exact LeO.refl _)
      | (with_reducible exact LeO.none _)
      | (with_reducible refine LeO.ite ?_ ?_)
      | (with_reducible refine LeO.bind ?_ (fun _ => ?_))
      | exact ih0 _ _ _ _ _ _ _ _
      | exact ih1 _ _ _ _ _ _ _ _ _ _ _ _
      | exact ih2 _ _ _ _ _ _ _ _ _ _ _ _ _ _ _ _
      | exact impl_valueCounts.mono _ _ _ _ _
      | exact LeO.none _
      | refine LeO.ite ?_ ?_
      | refine LeO.bind ?_ (fun _ => ?_)
set_option maxHeartbeats 8000000 in
set_option maxRecDepth 100000 in
theorem impl_solutions.calls (k : Nat) (a0 : Int) (A1 : Option Addr) (c1 : Nat) (l1 : List Int) (A2 : Option Addr) (c2 : Nat) (l2 : List Int) (a3 : Int) (a4 : Int) (r : Int) (w : World) (hr1 : Kd.C (Kd.int .i64) w A1 l1.length l1) (hc1 : l1.length ≤ c1) (hr2 : Kd.C (Kd.int .i64) w A2 l2.length l2) (hc2 : l2.length ≤ c2) (h : impl_solutions.f k a0 l1 l2 a3 a4 = some r) :
    Calls Try.prog 60 #[.int .i64 a0, .slice A1 l1.length c1, .slice A2 l2.length c2, .int .i64 a3, .int .i64 a4] w fun e w' => e = .returned (.int .i64 r) ∧ Below w.heap.size w w' := by
  have HR1 := Aside0.mk hr1
  have HC1 := Aside0.mk hc1
  clear hr1 hc1
  have HR2 := Aside0.mk hr2
  have HC2 := Aside0.mk hc2
  clear hr2 hc2
  have HB := Aside0.mk (Below.refl w.heap.size w)
  have H : (if 0 ≤ a0 then (if (a0 : Int).toNat ≤ 35184372088832 then ((some (List.replicate (a0 : Int).toNat 0 : List Int)).bind fun y167 => (if 0 < (y167.length : Int) then (impl_solutions.l0 k a0 l2 a3 a4 (y167.set (0 : Int).toNat 1) l1 (l1.length : Int) 0) else (none))) else (none)) else (none)) = some r := h
  clear h
  by_cases c6 : 0 ≤ a0
  · rw [if_pos c6] at H
    have c6b0 := eq_true c6
    have c6b1 : decide (0 ≤ a0) = true := decide_eq_true c6
    clear c6
    by_cases c7 : (a0 : Int).toNat ≤ 35184372088832
    · rw [if_pos c7] at H
      have c7b0 := eq_true c7
      have c7b1 : decide ((a0 : Int).toNat ≤ 35184372088832) = true := decide_eq_true c7
      clear c7
      obtain ⟨y167, hy167⟩ : ∃ y_ : List Int, y_ = (List.replicate (a0 : Int).toNat 0) := ⟨_, rfl⟩
      replace H : (if 0 < (y167.length : Int) then (impl_solutions.l0 k a0 l2 a3 a4 (y167.set (0 : Int).toNat 1) l1 (l1.length : Int) 0) else (none)) = some r := by first | (rw [hy167]; with_reducible exact H) | (have H2_ := (Option.bind_some _ _).symm.trans H; rw [hy167]; with_reducible exact H2_) | (have H2_ := (Option.bind_some _ _).symm.trans H; with_reducible exact H2_) | with_reducible exact H | (rw [hy167]; exact H) | exact H
      have Ny167 := Aside0.mk hy167
      clear hy167
      by_cases c8 : 0 < (y167.length : Int)
      · rw [if_pos c8] at H
        have c8b0 : decide (0 < (y167.length : Int)) = true := decide_eq_true c8
        have c8b1 : decide (0 < y167.length) = true := decide_eq_true (by omega)
        clear c8
        obtain ⟨y170, hy170⟩ : ∃ y_ : List Int, y_ = (y167.set (0 : Int).toNat 1) := ⟨_, rfl⟩
        replace H : (impl_solutions.l0 k a0 l2 a3 a4 y170 l1 (l1.length : Int) 0) = some r := by first | (rw [hy170]; with_reducible exact H) | (have H2_ := (Option.bind_some _ _).symm.trans H; rw [hy170]; with_reducible exact H2_) | (have H2_ := (Option.bind_some _ _).symm.trans H; with_reducible exact H2_) | with_reducible exact H | (rw [hy170]; exact H) | exact H
        have Ny170 := Aside0.mk hy170
        clear hy170
        have H' := Aside0.mk H
        clear H
        go_enter Try.func60, Try.ntmps60
        go_wp2_with (first | ((with_reducible refine gate_dst (N := 20) rfl ?_); refine Kd.R_make (Kd.int .i64) _ 2 rfl (N := 20) rfl 25 _ _ rfl a0 rfl rfl Try.underlying25 (.int .i64 0) 8 info2 rfl (by decide) (by omega) 0 (ok := fun _ => True) (okp := fun _ => True) rfl (fun _ hk => hk) trivial (of_decide_eq_true qB10) (Nat.le_trans (Nat.mul_le_mul_right _ (of_decide_eq_true qB10 : a0.toNat ≤ 35184372088832)) (by omega)) (Below.refl _ _) (Nat.le_refl _) ?_; intro v168 w10 ho11 hb hg_ hnew_; clear hg_ hnew_; (first | rw [← Ny167.out] at ho11 | (simp only [Int.reduceToNat] at ho11; rw [← Ny167.out] at ho11)); have n0_ := Aside0.mk (Kd.R_lower ho11 (below_size qB2)); have n1_ := Aside0.mk (below_step qB2 hb); clear HB; have HO169 := n0_; have HB := n1_; clear n0_ n1_; clear hb ho11; have p9 : 0 ≤ (0 : Int) := (by omega); have q9 : (0 : Int) < ((y167.length : Int) : Int) := of_decide_eq_true qB10; have qi9 : (0 < y167.length) = True := eq_true (by omega); obtain ⟨go9, co9, eo9, gb9, gl9, cl9, HG9⟩ := Kd.R_form HO169.out (by omega); (first | cases eo9 | (injection eo9 with ea_ en_ ec_; (first | subst ea_ | (injection ea_ with ea_; subst ea_)); subst ec_; clear en_)); have GB9 := Aside0.mk gb9; have GG9 := Aside0.mk HG9; clear gb9 gl9 HG9; obtain ⟨hx9_0, hf9_0⟩ := Kd.R_celln 0 HO169.out (0 : Int) p9 q9; (try rw [show ((0 : Int)).toNat = 0 from rfl] at hx9_0); (try simp only [Nat.reduceMul, Nat.zero_mul, Nat.zero_add, Nat.reduceAdd] at hx9_0); (try rw [show ((0 : Int)).toNat = 0 from rfl] at hf9_0); (try simp only [Nat.reduceMul, Nat.zero_mul, Nat.zero_add, Nat.reduceAdd] at hf9_0); replace p9 := eq_true p9; replace q9 := eq_true q9; obtain ⟨hy12_, hz12_⟩ := Kd.R_celln 0 HO169.out (0 : Int) (by omega) (of_decide_eq_true qB10); (try simp only [Int.reduceToNat, Int.toNat_zero, Int.toNat_ofNat, Nat.reduceMul, Nat.zero_mul, Nat.zero_add] at hy12_ hz12_); (try rw [show ((0 : Int)).toNat = 0 from rfl] at hy12_); (try rw [show ((0 : Int)).toNat = 0 from rfl] at hz12_); have HP12 := Kd.R_putg HO169.out (0 : Int) 1) | ((with_reducible refine gate_store (t := 2) (p := 22) rfl ?_); refine store_event (t := 2) (p := 22) (v := ?vo_w13) (w1 := (w10.setCell ⟨go9, (0 : Int).toNat, none⟩ (.int .i64 1))) ?hg ?ho ?hn ?hr ?_; (case ho => rfl); (case hg => rfl); (case hn => rfl); (case hr => first | (go_simp; done) | (go_simp; rfl)); intro w13 hw; have hg : w10.grownBy w13 (some go9) := (by rw [hw]; exact HP12.2); have hp_ : Kd.R (Kd.int .i64) 2 w13 w.heap.size (fun _ => True) (.slice (some ⟨go9, 0, none⟩) y167.length co9) y170 := (by rw [hw, Ny170.out]; exact HP12.1); clear HP12; have n0_ := Aside0.mk (hp_); have n1_ := Aside0.mk ((by rw [hw]; exact below_set (HB.out) GB9.out : Below w.heap.size w w13)); clear HO169; clear HB; have HO169 := n0_; have HB := n1_; clear n0_ n1_; clear hg hw hp_))
        try simp only [Act.put, List.setIfInBounds_toArray, List.set_cons_succ, List.set_cons_zero]
        go_loopg [11, 25] k (fun kq v11 v25 w' => ∃ (x11_1 : List Int) (x25_1 : Int), v25 = .int .i64 x25_1 ∧ Aside0 (impl_solutions.l0 kq a0 l2 a3 a4 x11_1 l1 (l1.length : Int) x25_1 = some r) ∧ Aside0 (kq ≤ k) ∧ Aside0 (Kd.R (Kd.int .i64) 2 w' w.heap.size (fun _ => True) v11 x11_1) ∧ Aside0 (Below w.heap.size w w'))
        case atStart => exact ⟨(y170), (0), qB11, H', ⟨Nat.le_refl _⟩, ⟨by (with_reducible repeat (first | apply Kd.R_alloc | apply Kd.R_drewN | apply Kd.R_drew)); exact HO169.out⟩, ⟨by repeat (first | (with_reducible first | exact HB.out | apply below_alloc | apply pw_below_drewN | apply below_drew1) | exact HB.out)⟩⟩
        case round =>
          clear H'
          try clear c1
          try clear c2
          try clear p2
          try clear c6
          try clear c6b0
          try clear c6b1
          try clear c7
          try clear c7b0
          try clear c7b1
          try clear c8
          try clear c8b0
          try clear c8b1
          try clear p9
          try clear q9
          try clear hx9
          try clear qi9
          try clear hf9
          try clear hx9_0
          try clear p9
          try clear q9
          obtain ⟨x11_1, x25_1, rfl, HA, HK1, HO_11, HB⟩ := hrel
          cases gk with
          | zero => exact absurd HA.out (by simp [impl_solutions.l0])
          | succ k1 =>
            have H := HA.out
            clear HA
            simp only [impl_solutions.l0] at H
            by_cases c14 : x25_1 < (l1.length : Int)
            · rw [if_pos c14] at H
              have c14b0 : decide (x25_1 < (l1.length : Int)) = true := decide_eq_true c14
              clear c14
              by_cases c15 : 0 ≤ x25_1
              · rw [if_pos c15] at H
                have c15b0 : decide (0 ≤ x25_1) = true := decide_eq_true c15
                clear c15
                by_cases c16 : x25_1 < (l1.length : Int)
                · rw [if_pos c16] at H
                  have c16b0 : decide (x25_1 < (l1.length : Int)) = true := decide_eq_true c16
                  clear c16
                  by_cases c17 : 0 ≤ a0
                  · rw [if_pos c17] at H
                    have c17b0 := eq_true c17
                    have c17b1 : decide (0 ≤ a0) = true := decide_eq_true c17
                    clear c17
                    by_cases c18 : (a0 : Int).toNat ≤ 35184372088832
                    · rw [if_pos c18] at H
                      have c18b0 := eq_true c18
                      have c18b1 : decide ((a0 : Int).toNat ≤ 35184372088832) = true := decide_eq_true c18
                      clear c18
                      obtain ⟨y173, hy173⟩ : ∃ y_ : List Int, y_ = (List.replicate (a0 : Int).toNat 0) := ⟨_, rfl⟩
                      replace H : (if x25_1 < (l2.length : Int) then ((impl_valueCounts.f k1 a0 (rd l1 x25_1) (rd l2 x25_1) a4).bind fun t177 => (impl_solutions.l1 k1 a0 l2 a3 a4 x11_1 y173 l1 (l1.length : Int) x25_1 t177 (t177.length : Int) 0)) else (none)) = some r := by first | (rw [hy173]; with_reducible exact H) | (have H2_ := (Option.bind_some _ _).symm.trans H; rw [hy173]; with_reducible exact H2_) | (have H2_ := (Option.bind_some _ _).symm.trans H; with_reducible exact H2_) | with_reducible exact H | (rw [hy173]; exact H) | exact H
                      have Ny173 := Aside0.mk hy173
                      clear hy173
                      by_cases c19 : x25_1 < (l2.length : Int)
                      · rw [if_pos c19] at H
                        have c19b0 : decide (x25_1 < (l2.length : Int)) = true := decide_eq_true c19
                        clear c19
                        replace H := Option.bind_eq_some_iff.mp H
                        obtain ⟨t177, A200, H⟩ := H
                        replace H : (impl_solutions.l1 k1 a0 l2 a3 a4 x11_1 y173 l1 (l1.length : Int) x25_1 t177 (t177.length : Int) 0) = some r := H
                        have A20 := Aside0.mk A200
                        clear A200
                        have H' := Aside0.mk H
                        clear H
                        have p172 : 0 ≤ (x25_1 : Int) := of_decide_eq_true qB10
                        have q172 : x25_1 < (l1.length : Int) := of_decide_eq_true qB10
                        obtain ⟨ad172, e172, hx172_0⟩ := Kd.at_int HR1.out x25_1 p172 q172
                        cases e172
                        replace hx172_0 := (HB.out.cell (World.block_lt_of_cell? w _ hx172_0)).trans hx172_0
                        replace p172 := eq_true p172
                        replace q172 := eq_true q172
                        go_wp2_with (first | ((with_reducible refine gate_dst (N := 31) rfl ?_); refine Kd.R_make (Kd.int .i64) _ 2 rfl (N := 31) rfl 25 _ _ rfl a0 rfl rfl Try.underlying25 (.int .i64 0) 8 info2 rfl (by decide) (by omega) 0 (ok := fun _ => True) (okp := fun _ => True) rfl (fun _ hk => hk) trivial (of_decide_eq_true qB10) (Nat.le_trans (Nat.mul_le_mul_right _ (of_decide_eq_true qB10 : a0.toNat ≤ 35184372088832)) (by omega)) (Below.refl _ _) (Nat.le_refl _) ?_; intro v174 w21 ho22 hb hg_ hnew_; clear hg_ hnew_; (first | rw [← Ny173.out] at ho22 | (simp only [Int.reduceToNat] at ho22; rw [← Ny173.out] at ho22)); have n0_ := Aside0.mk (Kd.R_elder' qB4 (Kd.R_base ho22) hb); have n1_ := Aside0.mk (Kd.R_lower (Kd.R_new' ho22 (Kd.R_lt qB4)) (below_size qB2)); have n2_ := Aside0.mk (below_step qB2 hb); clear HO_11; clear HB; have HO_11 := n0_; have HO175 := n1_; have HB := n2_; clear n0_ n1_ n2_; clear hb ho22; have p176 : 0 ≤ (x25_1 : Int) := of_decide_eq_true qB10; have q176 : x25_1 < (l2.length : Int) := of_decide_eq_true qB10; obtain ⟨ad176, e176, hx176_0⟩ := Kd.at_int HR2.out x25_1 p176 q176; cases e176; replace hx176_0 := (HB.out.cell (World.block_lt_of_cell? w _ hx176_0)).trans hx176_0; replace p176 := eq_true p176; replace q176 := eq_true q176) | ((with_reducible refine gate_callee (f := 76) rfl ?_); refine goesL_ (some 39) rfl rfl Try.func76 (by kernel_rfl) rfl #[.int .i64 a0, .int .i64 (rd l1 x25_1), .int .i64 (rd l2 x25_1), .int .i64 a4] rfl qB1 ?_; (with_reducible refine (impl_valueCounts.calls k1 a0 (rd l1 x25_1) (rd l2 x25_1) a4 t177 _ A20.out).mono ?_); rintro e w23 ⟨v178, rfl, ho0, hb⟩; refine ⟨_, rfl, ?_⟩; have n0_ := Aside0.mk (Kd.R_elder' qB4 (Kd.R_base ho0) hb); have n1_ := Aside0.mk (Kd.R_elder' qB5 (Kd.R_base ho0) hb); have n2_ := Aside0.mk (Kd.R_lower (Kd.R_new' (Kd.R_new' ho0 (Kd.R_lt qB4)) (Kd.R_lt qB5)) (below_size qB2)); have n3_ := Aside0.mk (below_step qB2 hb); clear HO_11; clear HO175; clear HB; have HO_11 := n0_; have HO175 := n1_; have HO179 := n2_; have HB := n3_; clear n0_ n1_ n2_ n3_; (try clear hb); (try clear hb2); (try clear hk); (try clear hi); (try clear ho0); obtain ⟨Ao24, co24, eo24⟩ := Kd.R_slice HO179.out; subst eo24))
                        try simp only [Act.put, List.setIfInBounds_toArray, List.set_cons_succ, List.set_cons_zero]
                        go_loopg [41] k1 (fun kq v41 w' => ∃ (x14_2 : List Int) (x41_2 : Int), v41 = .int .i64 x41_2 ∧ Aside0 (impl_solutions.l1 kq a0 l2 a3 a4 x11_1 x14_2 l1 (l1.length : Int) x25_1 t177 (t177.length : Int) x41_2 = some r) ∧ Aside0 (kq ≤ k1) ∧ Aside0 (Kd.R (Kd.int .i64) 2 w' w.heap.size (fun k_ => some k_ ≠ (v174 : Value).ownBlock ∧ some k_ ≠ ((.slice Ao24 t177.length co24) : Value).ownBlock) u11 x11_1) ∧ Aside0 (Kd.R (Kd.int .i64) 2 w' w.heap.size (fun k_ => some k_ ≠ (u11 : Value).ownBlock ∧ some k_ ≠ ((.slice Ao24 t177.length co24) : Value).ownBlock) v174 x14_2) ∧ Aside0 (Kd.R (Kd.int .i64) 2 w' w.heap.size (fun k_ => some k_ ≠ (u11 : Value).ownBlock ∧ some k_ ≠ (v174 : Value).ownBlock) (.slice Ao24 t177.length co24) t177) ∧ Aside0 (Below w.heap.size w w'))
                        case atStart => exact ⟨(y173), (0), qB11, H', ⟨Nat.le_refl _⟩, ⟨by (with_reducible repeat (first | apply Kd.R_alloc | apply Kd.R_drewN | apply Kd.R_drew)); exact Kd.R_mono HO_11.out (fun _ hk => ⟨hk.1.2, hk.2⟩)⟩, ⟨by (with_reducible repeat (first | apply Kd.R_alloc | apply Kd.R_drewN | apply Kd.R_drew)); exact Kd.R_mono HO175.out (fun _ hk => ⟨hk.1.2, hk.2⟩)⟩, ⟨by (with_reducible repeat (first | apply Kd.R_alloc | apply Kd.R_drewN | apply Kd.R_drew)); exact Kd.R_mono HO179.out (fun _ hk => ⟨hk.1.2, hk.2⟩)⟩, ⟨by repeat (first | (with_reducible first | exact HB.out | apply below_alloc | apply pw_below_drewN | apply below_drew1) | exact HB.out)⟩⟩
                        case round =>
                          clear H'
                          try clear c1
                          try clear p1
                          try clear q1
                          try clear hx1
                          try clear c2
                          try clear p2
                          try clear c6
                          try clear c6b0
                          try clear c6b1
                          try clear c7
                          try clear c7b0
                          try clear c7b1
                          try clear c8
                          try clear c8b0
                          try clear c8b1
                          try clear p9
                          try clear q9
                          try clear hx9
                          try clear qi9
                          try clear hf9
                          try clear c14
                          try clear c14b0
                          try clear c15
                          try clear c15b0
                          try clear c16
                          try clear c16b0
                          try clear c17
                          try clear c17b0
                          try clear c17b1
                          try clear p17
                          try clear q17
                          try clear hx17
                          try clear c18
                          try clear c18b0
                          try clear c18b1
                          try clear c19
                          try clear c19b0
                          try clear hx172_0
                          try clear hx176_0
                          try clear hx9_0
                          try clear p172
                          try clear p176
                          try clear p2
                          try clear p9
                          try clear q172
                          try clear q176
                          try clear q9
                          obtain ⟨x14_2, x41_2, rfl, HA, HK2, HO_11, HO_14, HO_39, HB⟩ := hrel
                          cases gk with
                          | zero => exact absurd HA.out (by simp [impl_solutions.l1])
                          | succ k2 =>
                            have H := HA.out
                            clear HA
                            simp only [impl_solutions.l1] at H
                            by_cases c25 : x41_2 < (t177.length : Int)
                            · rw [if_pos c25] at H
                              have c25b0 : decide (x41_2 < (t177.length : Int)) = true := decide_eq_true c25
                              clear c25
                              by_cases c26 : 0 ≤ x41_2
                              · rw [if_pos c26] at H
                                have c26b0 : decide (0 ≤ x41_2) = true := decide_eq_true c26
                                clear c26
                                by_cases c27 : x41_2 < (t177.length : Int)
                                · rw [if_pos c27] at H
                                  have c27b0 : decide (x41_2 < (t177.length : Int)) = true := decide_eq_true c27
                                  clear c27
                                  have H' := Aside0.mk H
                                  clear H
                                  have p180 : 0 ≤ (x41_2 : Int) := of_decide_eq_true qB10
                                  have q180 : x41_2 < (t177.length : Int) := of_decide_eq_true qB10
                                  obtain ⟨ad180, e180, hx180_0⟩ := Kd.at_int (Kd.R_reads' HO_39.out).2.2 x41_2 p180 q180
                                  cases e180
                                  replace p180 := eq_true p180
                                  replace q180 := eq_true q180
                                  obtain ⟨Ao28, co28, eo28⟩ := Kd.R_slice HO_11.out
                                  subst eo28
                                  go_wp2
                                  try simp only [Act.put, List.setIfInBounds_toArray, List.set_cons_succ, List.set_cons_zero]
                                  go_loopg [48] k2 (fun kq v48 w' => ∃ (x14_3 : List Int) (x48_3 : Int), v48 = .int .i64 x48_3 ∧ Aside0 (impl_solutions.l2 kq a0 l2 a3 a4 x11_1 x14_3 x41_2 (rd t177 x41_2) l1 (l1.length : Int) x25_1 t177 (t177.length : Int) x41_2 (x11_1.length : Int) x48_3 = some r) ∧ Aside0 (kq ≤ k2) ∧ Aside0 (Kd.R (Kd.int .i64) 2 w' w.heap.size (fun k_ => some k_ ≠ (v174 : Value).ownBlock ∧ some k_ ≠ ((.slice (some ad180) t177.length co24) : Value).ownBlock) (.slice Ao28 x11_1.length co28) x11_1) ∧ Aside0 (Kd.R (Kd.int .i64) 2 w' w.heap.size (fun k_ => some k_ ≠ ((.slice Ao28 x11_1.length co28) : Value).ownBlock ∧ some k_ ≠ ((.slice (some ad180) t177.length co24) : Value).ownBlock) v174 x14_3) ∧ Aside0 (Kd.R (Kd.int .i64) 2 w' w.heap.size (fun k_ => some k_ ≠ ((.slice Ao28 x11_1.length co28) : Value).ownBlock ∧ some k_ ≠ (v174 : Value).ownBlock) (.slice (some ad180) t177.length co24) t177) ∧ Aside0 (Below w.heap.size w w'))
                                  case atStart => exact ⟨(x14_2), (0), qB11, H', ⟨Nat.le_refl _⟩, ⟨by (with_reducible repeat (first | apply Kd.R_alloc | apply Kd.R_drewN | apply Kd.R_drew)); exact HO_11.out⟩, ⟨by (with_reducible repeat (first | apply Kd.R_alloc | apply Kd.R_drewN | apply Kd.R_drew)); exact HO_14.out⟩, ⟨by (with_reducible repeat (first | apply Kd.R_alloc | apply Kd.R_drewN | apply Kd.R_drew)); exact HO_39.out⟩, ⟨by repeat (first | (with_reducible first | exact HB.out | apply below_alloc | apply pw_below_drewN | apply below_drew1) | exact HB.out)⟩⟩
                                  case round =>
                                    clear H'
                                    try clear c1
                                    try clear p1
                                    try clear q1
                                    try clear hx1
                                    try clear c2
                                    try clear p2
                                    try clear c6
                                    try clear c6b0
                                    try clear c6b1
                                    try clear c7
                                    try clear c7b0
                                    try clear c7b1
                                    try clear c8
                                    try clear c8b0
                                    try clear c8b1
                                    try clear p9
                                    try clear q9
                                    try clear hx9
                                    try clear qi9
                                    try clear hf9
                                    try clear c14
                                    try clear c14b0
                                    try clear c15
                                    try clear c15b0
                                    try clear c16
                                    try clear c16b0
                                    try clear c17
                                    try clear c17b0
                                    try clear c17b1
                                    try clear p17
                                    try clear q17
                                    try clear hx17
                                    try clear c18
                                    try clear c18b0
                                    try clear c18b1
                                    try clear p18
                                    try clear q18
                                    try clear hx18
                                    try clear c19
                                    try clear c19b0
                                    try clear c25
                                    try clear c25b0
                                    try clear c26
                                    try clear c26b0
                                    try clear c27
                                    try clear c27b0
                                    try clear hx172_0
                                    try clear hx176_0
                                    try clear hx180_0
                                    try clear hx9_0
                                    try clear p1
                                    try clear p17
                                    try clear p172
                                    try clear p176
                                    try clear p180
                                    try clear p2
                                    try clear p9
                                    try clear q1
                                    try clear q17
                                    try clear q172
                                    try clear q176
                                    try clear q180
                                    try clear q9
                                    obtain ⟨x14_3, x48_3, rfl, HA, HK3, HO_11, HO_14, HO_39, HB⟩ := hrel
                                    cases gk with
                                    | zero => exact absurd HA.out (by simp [impl_solutions.l2])
                                    | succ k3 =>
                                      have H := HA.out
                                      clear HA
                                      simp only [impl_solutions.l2] at H
                                      by_cases c29 : x48_3 < (x11_1.length : Int)
                                      · rw [if_pos c29] at H
                                        have c29b0 : decide (x48_3 < (x11_1.length : Int)) = true := decide_eq_true c29
                                        clear c29
                                        by_cases c30 : 0 ≤ x48_3
                                        · rw [if_pos c30] at H
                                          have c30b0 : decide (0 ≤ x48_3) = true := decide_eq_true c30
                                          clear c30
                                          by_cases c31 : x48_3 < (x11_1.length : Int)
                                          · rw [if_pos c31] at H
                                            have c31b0 : decide (x48_3 < (x11_1.length : Int)) = true := decide_eq_true c31
                                            clear c31
                                            by_cases c32 : a0 = 0
                                            · rw [if_pos c32] at H
                                              exact absurd H (by simp)
                                            · rw [if_neg c32] at H
                                              have c32b0 : (a0 == 0) = false := beq_eq_false_iff_ne.mpr c32
                                              have c32b1 : (a0 != 0) = true := bne_iff_ne.mpr c32
                                              obtain ⟨ji33, hji33⟩ : ∃ j_ : Int, (Int.tmod (wrap64 (x48_3 + x41_2)) a0) = j_ := ⟨_, rfl⟩
                                              replace H : (if 0 ≤ (ji33) then (if (ji33) < (x14_3.length : Int) then (impl_solutions.l2 k3 a0 l2 a3 a4 x11_1 (x14_3.set ((ji33) : Int).toNat (wrap64 ((rd x14_3 (ji33)) + (wrap64 ((rd t177 x41_2) * (rd x11_1 x48_3)))))) x41_2 (rd t177 x41_2) l1 (l1.length : Int) x25_1 t177 (t177.length : Int) x41_2 (x11_1.length : Int) (wrap64 (x48_3 + 1))) else (none)) else (none)) = some r := by first | (rw [hji33] at H; exact H) | (simp only [hji33] at H ⊢; exact H)
                                              by_cases c34 : 0 ≤ (ji33)
                                              · rw [if_pos c34] at H
                                                have c34b0 : decide (0 ≤ (ji33)) = true := decide_eq_true c34
                                                clear c34
                                                by_cases c35 : (ji33) < (x14_3.length : Int)
                                                · rw [if_pos c35] at H
                                                  have c35b0 : decide ((ji33) < (x14_3.length : Int)) = true := decide_eq_true c35
                                                  clear c35
                                                  obtain ⟨y183, hy183⟩ : ∃ y_ : List Int, y_ = (x14_3.set ((ji33) : Int).toNat (wrap64 ((rd x14_3 (ji33)) + (wrap64 ((rd t177 x41_2) * (rd x11_1 x48_3)))))) := ⟨_, rfl⟩
                                                  replace H : (impl_solutions.l2 k3 a0 l2 a3 a4 x11_1 y183 x41_2 (rd t177 x41_2) l1 (l1.length : Int) x25_1 t177 (t177.length : Int) x41_2 (x11_1.length : Int) (wrap64 (x48_3 + 1))) = some r := by first | (rw [hy183]; with_reducible exact H) | (have H2_ := (Option.bind_some _ _).symm.trans H; rw [hy183]; with_reducible exact H2_) | (have H2_ := (Option.bind_some _ _).symm.trans H; with_reducible exact H2_) | with_reducible exact H | (rw [hy183]; exact H) | exact H
                                                  have Ny183 := Aside0.mk hy183
                                                  clear hy183
                                                  have H' := Aside0.mk H
                                                  clear H
                                                  have p181 : 0 ≤ (x48_3 : Int) := of_decide_eq_true qB10
                                                  have q181 : x48_3 < (x11_1.length : Int) := of_decide_eq_true qB10
                                                  obtain ⟨ad181, e181, hx181_0⟩ := Kd.at_int (Kd.R_reads' HO_11.out).2.2 x48_3 p181 q181
                                                  cases e181
                                                  replace p181 := eq_true p181
                                                  replace q181 := eq_true q181
                                                  obtain ⟨Ao37, co37, eo37⟩ := Kd.R_slice HO_14.out
                                                  subst eo37
                                                  have p182 : 0 ≤ ((ji33) : Int) := of_decide_eq_true qB10
                                                  have q182 : (ji33) < (x14_3.length : Int) := of_decide_eq_true qB10
                                                  obtain ⟨ad182, e182, hx182_0⟩ := Kd.at_int (Kd.R_reads' HO_14.out).2.2 (ji33) p182 q182
                                                  cases e182
                                                  replace p182 := eq_true p182
                                                  replace q182 := eq_true q182
                                                  have p36 : 0 ≤ ((ji33) : Int) := of_decide_eq_true qB10
                                                  have q36 : ((ji33) : Int) < ((x14_3.length : Int) : Int) := of_decide_eq_true qB10
                                                  obtain ⟨go36, co36, eo36, gb36, gl36, cl36, HG36⟩ := Kd.R_form HO_14.out (by omega)
                                                  (first | cases eo36 | (injection eo36 with ea_ en_ ec_; (first | subst ea_ | (injection ea_ with ea_; subst ea_)); subst ec_; clear en_))
                                                  have GB36 := Aside0.mk gb36
                                                  have GG36 := Aside0.mk HG36
                                                  clear gb36 gl36 HG36
                                                  (first | simp only [add_plain] at hx182_0 | skip)
                                                  obtain ⟨hx36_0, hf36_0⟩ := Kd.R_celln 0 HO_14.out ((ji33) : Int) p36 q36
                                                  replace p36 := eq_true p36
                                                  replace q36 := eq_true q36
                                                  have HP38 := Kd.R_putg HO_14.out ((ji33) : Int) (wrap64 ((rd x14_3 (ji33)) + (wrap64 ((rd t177 x41_2) * (rd x11_1 x48_3)))))
                                                  go_wp2_with (first | ((with_reducible refine gate_store (t := 2) (p := 65) rfl ?_); refine store_event (t := 2) (p := 65) (v := ?vo_w39) (w1 := (wr.setCell ⟨go36, ((ji33) : Int).toNat, none⟩ (.int .i64 (wrap64 ((rd x14_3 (ji33)) + (wrap64 ((rd t177 x41_2) * (rd x11_1 x48_3)))))))) ?hg ?ho ?hn ?hr ?_; (case ho => rfl); (case hg => rfl); (case hn => rfl); (case hr => first | (go_simp; done) | (go_simp; rfl)); intro w39 hw; have hg : wr.grownBy w39 (some go36) := (by rw [hw]; exact HP38.2); have hp_ : Kd.R (Kd.int .i64) 2 w39 w.heap.size (fun k_ => some k_ ≠ (.slice (some ad181) x11_1.length co28 : Value).ownBlock ∧ some k_ ≠ (.slice (some ad180) t177.length co24 : Value).ownBlock) (.slice (some ⟨go36, 0, none⟩) x14_3.length co37) y183 := (by rw [hw, Ny183.out]; exact HP38.1); clear HP38; have n0_ := Aside0.mk (Kd.R_after (v := (.slice (some ⟨go36, 0, none⟩) x14_3.length co37)) (v1 := (.slice (some ⟨go36, 0, none⟩) x14_3.length co37)) (ok := (fun k_ => some k_ ≠ (.slice (some ad180) t177.length co24 : Value).ownBlock)) (by (with_reducible repeat (first | apply Kd.R_alloc | apply Kd.R_drewN | apply Kd.R_drew)); exact Kd.R_mono HO_11.out (fun _ hk => ⟨hk.2, hk.1⟩)) hg (.inl rfl)); have n1_ := Aside0.mk (hp_); have n2_ := Aside0.mk (Kd.R_after (v := (.slice (some ⟨go36, 0, none⟩) x14_3.length co37)) (v1 := (.slice (some ⟨go36, 0, none⟩) x14_3.length co37)) (ok := (fun k_ => some k_ ≠ (.slice (some ad181) x11_1.length co28 : Value).ownBlock)) (by (with_reducible repeat (first | apply Kd.R_alloc | apply Kd.R_drewN | apply Kd.R_drew)); exact HO_39.out) hg (.inl rfl)); have n3_ := Aside0.mk ((by rw [hw]; exact below_set (HB.out) GB36.out : Below w.heap.size w w39)); clear HO_11; clear HO_14; clear HO_39; clear HB; have HO_11 := n0_; have HO_14 := n1_; have HO_39 := n2_; have HB := n3_; clear n0_ n1_ n2_ n3_; clear hg hw hp_))
                                                  (first | go_roundg k3 | ((try simp only [add_plain] at *); go_roundg k3))
                                                  case measure => have := HK1.out; have := HK2.out; have := HK3.out; omega
                                                  case rel => exact ⟨(y183), (wrap64 (x48_3 + 1)), qB11, H', ⟨by have := HK1.out; have := HK2.out; have := HK3.out; omega⟩, ⟨by (with_reducible repeat (first | apply Kd.R_alloc | apply Kd.R_drewN | apply Kd.R_drew)); exact Kd.R_mono HO_11.out (fun _ hk => ⟨hk.2, hk.1⟩)⟩, ⟨by (with_reducible repeat (first | apply Kd.R_alloc | apply Kd.R_drewN | apply Kd.R_drew)); exact HO_14.out⟩, ⟨by (with_reducible repeat (first | apply Kd.R_alloc | apply Kd.R_drewN | apply Kd.R_drew)); exact HO_39.out⟩, ⟨by repeat (first | (with_reducible first | exact HB.out | apply below_alloc | apply pw_below_drewN | apply below_drew1) | exact HB.out)⟩⟩
                                                · rw [if_neg c35] at H
                                                  exact absurd H (by simp)
                                              · rw [if_neg c34] at H
                                                exact absurd H (by simp)
                                          · rw [if_neg c31] at H
                                            exact absurd H (by simp)
                                        · rw [if_neg c30] at H
                                          exact absurd H (by simp)
                                      · rw [if_neg c29] at H
                                        have c29b0 : decide (x48_3 < (x11_1.length : Int)) = false := decide_eq_false c29
                                        clear c29
                                        have H' := Aside0.mk H
                                        clear H
                                        go_wp2
                                        (first | go_roundg k3 | ((try simp only [add_plain] at *); go_roundg k3))
                                        case measure => have := HK1.out; have := HK2.out; have := HK3.out; omega
                                        case rel => exact ⟨(x14_3), (wrap64 (x41_2 + 1)), qB11, H', ⟨by have := HK1.out; have := HK2.out; have := HK3.out; omega⟩, ⟨by (with_reducible repeat (first | apply Kd.R_alloc | apply Kd.R_drewN | apply Kd.R_drew)); exact HO_11.out⟩, ⟨by (with_reducible repeat (first | apply Kd.R_alloc | apply Kd.R_drewN | apply Kd.R_drew)); exact HO_14.out⟩, ⟨by (with_reducible repeat (first | apply Kd.R_alloc | apply Kd.R_drewN | apply Kd.R_drew)); exact HO_39.out⟩, ⟨by repeat (first | (with_reducible first | exact HB.out | apply below_alloc | apply pw_below_drewN | apply below_drew1) | exact HB.out)⟩⟩
                                · rw [if_neg c27] at H
                                  exact absurd H (by simp)
                              · rw [if_neg c26] at H
                                exact absurd H (by simp)
                            · rw [if_neg c25] at H
                              have c25b0 : decide (x41_2 < (t177.length : Int)) = false := decide_eq_false c25
                              clear c25
                              have H' := Aside0.mk H
                              clear H
                              go_wp2
                              (first | go_roundg k2 | ((try simp only [add_plain] at *); go_roundg k2))
                              case measure => have := HK1.out; have := HK2.out; omega
                              case rel => exact ⟨(x14_2), (wrap64 (x25_1 + 1)), qB11, H', ⟨by have := HK1.out; have := HK2.out; omega⟩, ⟨by (with_reducible repeat (first | apply Kd.R_alloc | apply Kd.R_drewN | apply Kd.R_drew)); exact Kd.R_mono HO_14.out (fun _ hk => trivial)⟩, ⟨by repeat (first | (with_reducible first | exact HB.out | apply below_alloc | apply pw_below_drewN | apply below_drew1) | exact HB.out)⟩⟩
                      · rw [if_neg c19] at H
                        exact absurd H (by simp)
                    · rw [if_neg c18] at H
                      exact absurd H (by simp)
                  · rw [if_neg c17] at H
                    exact absurd H (by simp)
                · rw [if_neg c16] at H
                  exact absurd H (by simp)
              · rw [if_neg c15] at H
                exact absurd H (by simp)
            · rw [if_neg c14] at H
              have c14b0 : decide (x25_1 < (l1.length : Int)) = false := decide_eq_false c14
              clear c14
              by_cases c40 : 0 ≤ a3
              · rw [if_pos c40] at H
                have c40b0 : decide (0 ≤ a3) = true := decide_eq_true c40
                clear c40
                by_cases c41 : a3 < (x11_1.length : Int)
                · rw [if_pos c41] at H
                  have c41b0 : decide (a3 < (x11_1.length : Int)) = true := decide_eq_true c41
                  clear c41
                  obtain rfl := Option.some.inj H
                  obtain ⟨Ao42, co42, eo42⟩ := Kd.R_slice HO_11.out
                  subst eo42
                  have p171 : 0 ≤ (a3 : Int) := of_decide_eq_true qB10
                  have q171 : a3 < (x11_1.length : Int) := of_decide_eq_true qB10
                  obtain ⟨ad171, e171, hx171_0⟩ := Kd.at_int (Kd.R_reads' HO_11.out).2.2 a3 p171 q171
                  cases e171
                  replace p171 := eq_true p171
                  replace q171 := eq_true q171
                  go_wp2
                  go_ret
                  exact ⟨by first | rfl | (simp [errW_none, errW_some] <;> rfl) | (simp [*, errW_none, errW_some] <;> rfl), by repeat (first | (with_reducible first | exact HB.out | apply below_alloc | apply pw_below_drewN | apply below_drew1) | exact HB.out)⟩
                · rw [if_neg c41] at H
                  exact absurd H (by simp)
              · rw [if_neg c40] at H
                exact absurd H (by simp)
      · rw [if_neg c8] at H
        exact absurd H (by simp)
    · rw [if_neg c7] at H
      exact absurd H (by simp)
  · rw [if_neg c6] at H
    exact absurd H (by simp)

/-! ### impl_CountSolutions: function 42 -/
def impl_CountSolutions.f (k : Nat) (a0 : Int) (l1 : List Int) (l2 : List Int) (a3 : Int) : Option (Int × Int) := (impl_isEquation.f k a0 l1 l2 a3).bind fun t184 => (if t184 = true then ((impl_solutions.f k a0 l1 l2 a3 0).bind fun t185 => (some (t185, 0))) else (some (0, 2)))
theorem impl_CountSolutions.mono : ∀ a0 a1 a2 a3 k, LeO (impl_CountSolutions.f k a0 a1 a2 a3) (impl_CountSolutions.f (k + 1) a0 a1 a2 a3) := by
  intro a0 a1 a2 a3 k
  unfold impl_CountSolutions.f
  repeat' first
      | (with_reducible exact impl_isEquation.mono _ _ _ _ _)
      | (with_reducible exact impl_solutions.mono _ _ _ _ _ _)
      | (with_reducible exact LeO.refl _)
      | (with_reducible exact LeO.none _)
      | (with_reducible refine LeO.ite ?_ ?_)
      | (with_reducible refine LeO.bind ?_ (fun _ => ?_))
      | exact impl_isEquation.mono _ _ _ _ _
      | exact impl_solutions.mono _ _ _ _ _ _
      | exact LeO.none _
      | refine LeO.ite ?_ ?_
      | refine LeO.bind ?_ (fun _ => ?_)
set_option maxHeartbeats 8000000 in
set_option maxRecDepth 100000 in
theorem impl_CountSolutions.calls (k : Nat) (a0 : Int) (A1 : Option Addr) (c1 : Nat) (l1 : List Int) (A2 : Option Addr) (c2 : Nat) (l2 : List Int) (a3 : Int) (r1 : Int) (r2 : Int) (w : World) (hr1 : Kd.C (Kd.int .i64) w A1 l1.length l1) (hc1 : l1.length ≤ c1) (hr2 : Kd.C (Kd.int .i64) w A2 l2.length l2) (hc2 : l2.length ≤ c2) (h : impl_CountSolutions.f k a0 l1 l2 a3 = some (r1, r2)) :
    Calls Try.prog 42 #[.int .i64 a0, .slice A1 l1.length c1, .slice A2 l2.length c2, .int .i64 a3] w fun e w' => e = .returned (.tuple #[.int .i64 r1, .int .i64 r2]) ∧ Below w.heap.size w w' := by
  have HR1 := Aside0.mk hr1
  have HC1 := Aside0.mk hc1
  clear hr1 hc1
  have HR2 := Aside0.mk hr2
  have HC2 := Aside0.mk hc2
  clear hr2 hc2
  have HB := Aside0.mk (Below.refl w.heap.size w)
  have H : ((impl_isEquation.f k a0 l1 l2 a3).bind fun t184 => (if t184 = true then ((impl_solutions.f k a0 l1 l2 a3 0).bind fun t185 => (some (t185, 0))) else (some (0, 2)))) = some (r1, r2) := h
  clear h
  replace H := Option.bind_eq_some_iff.mp H
  obtain ⟨t184, A50, H⟩ := H
  replace H : (if t184 = true then ((impl_solutions.f k a0 l1 l2 a3 0).bind fun t185 => (some (t185, 0))) else (some (0, 2))) = some (r1, r2) := H
  have A5 := Aside0.mk A50
  clear A50
  by_cases c6 : t184 = true
  · subst c6
    have H1 : ((impl_solutions.f k a0 l1 l2 a3 0).bind fun t185 => (some (t185, 0))) = some (r1, r2) := by rw [if_pos rfl] at H; exact H
    clear H
    have H := H1
    clear H1
    replace H := Option.bind_eq_some_iff.mp H
    obtain ⟨t185, A70, H⟩ := H
    replace H : (some (t185, 0)) = some (r1, r2) := H
    have A7 := Aside0.mk A70
    clear A70
    simp only [Option.some.injEq, Prod.mk.injEq] at H
    obtain ⟨rfl, rfl⟩ := H
    go_enter Try.func42, Try.ntmps42
    go_wp2_with (first | ((with_reducible refine gate_callee (f := 59) rfl ?_); refine goesL_ (some 14) rfl rfl Try.func59 (by kernel_rfl) rfl #[.int .i64 a0, .slice A1 l1.length c1, .slice A2 l2.length c2, .int .i64 a3] rfl qB1 ?_; (with_reducible refine (impl_isEquation.calls k a0 _ _ l1 _ _ l2 a3 true _ ?side1 ?side2 ?side3 ?side4 A5.out).mono ?_); (case side1 => repeat (first | exact HR1.out | (with_reducible refine Kd.C_alloc ?_ _) | (with_reducible refine Kd.C_drewN ?_ _) | (with_reducible refine Kd.C_drew ?_))); (case side2 => exact HC1.out); (case side3 => repeat (first | exact HR2.out | (with_reducible refine Kd.C_alloc ?_ _) | (with_reducible refine Kd.C_drewN ?_ _) | (with_reducible refine Kd.C_drew ?_))); (case side4 => exact HC2.out); rintro e w' ⟨rfl, ⟨nd, rfl⟩⟩; refine ⟨_, rfl, ?_⟩) | ((with_reducible refine gate_callee (f := 60) rfl ?_); refine goesL_ (some 20) rfl rfl Try.func60 (by kernel_rfl) rfl #[.int .i64 a0, .slice A1 l1.length c1, .slice A2 l2.length c2, .int .i64 a3, .int .i64 0] rfl qB1 ?_; (with_reducible refine (impl_solutions.calls k a0 _ _ l1 _ _ l2 a3 0 t185 _ ?side1 ?side2 ?side3 ?side4 A7.out).mono ?_); (case side1 => repeat (first | exact HR1.out | (with_reducible refine Kd.C_alloc ?_ _) | (with_reducible refine Kd.C_drewN ?_ _) | (with_reducible refine Kd.C_drew ?_))); (case side2 => exact HC1.out); (case side3 => repeat (first | exact HR2.out | (with_reducible refine Kd.C_alloc ?_ _) | (with_reducible refine Kd.C_drewN ?_ _) | (with_reducible refine Kd.C_drew ?_))); (case side4 => exact HC2.out); rintro e w8 ⟨rfl, hb⟩; refine ⟨_, rfl, ?_⟩; have n0_ := Aside0.mk (below_step qB2 hb); clear HB; have HB := n0_; clear n0_; (try clear hb); (try clear hb2); (try clear hk); (try clear hi)))
    go_ret2
    exact ⟨by first | rfl | (simp [errW_none, errW_some] <;> rfl) | (simp [*, errW_none, errW_some] <;> rfl), by repeat (first | (with_reducible first | exact HB.out | apply below_alloc | apply pw_below_drewN | apply below_drew1) | exact HB.out)⟩
  · replace c6 := Bool.eq_false_iff.mpr c6
    subst c6
    have H1 : (some (0, 2)) = some (r1, r2) := by rw [if_neg (show ¬ (false = true) by decide)] at H; exact H
    clear H
    have H := H1
    clear H1
    simp only [Option.some.injEq, Prod.mk.injEq] at H
    obtain ⟨rfl, rfl⟩ := H
    go_enter Try.func42, Try.ntmps42
    go_wp2_with (first | ((with_reducible refine gate_callee (f := 59) rfl ?_); refine goesL_ (some 14) rfl rfl Try.func59 (by kernel_rfl) rfl #[.int .i64 a0, .slice A1 l1.length c1, .slice A2 l2.length c2, .int .i64 a3] rfl qB1 ?_; (with_reducible refine (impl_isEquation.calls k a0 _ _ l1 _ _ l2 a3 false _ ?side1 ?side2 ?side3 ?side4 A5.out).mono ?_); (case side1 => repeat (first | exact HR1.out | (with_reducible refine Kd.C_alloc ?_ _) | (with_reducible refine Kd.C_drewN ?_ _) | (with_reducible refine Kd.C_drew ?_))); (case side2 => exact HC1.out); (case side3 => repeat (first | exact HR2.out | (with_reducible refine Kd.C_alloc ?_ _) | (with_reducible refine Kd.C_drewN ?_ _) | (with_reducible refine Kd.C_drew ?_))); (case side4 => exact HC2.out); rintro e w' ⟨rfl, ⟨nd, rfl⟩⟩; refine ⟨_, rfl, ?_⟩))
    go_ret2
    exact ⟨by first | rfl | (simp [errW_none, errW_some] <;> rfl) | (simp [*, errW_none, errW_some] <;> rfl), by repeat (first | (with_reducible first | exact HB.out | apply below_alloc | apply pw_below_drewN | apply below_drew1) | exact HB.out)⟩

/-! ### bits_Mul32: function 77 -/
def bits_Mul32.f (a0 : Int) (a1 : Int) : Option (Int × Int) := some (((IntKind.u64.wrap ((IntKind.u64.wrap (a0)) * (IntKind.u64.wrap (a1)))) / 4294967296) % 4294967296, (IntKind.u64.wrap ((IntKind.u64.wrap (a0)) * (IntKind.u64.wrap (a1)))) % 4294967296)
set_option maxHeartbeats 8000000 in
set_option maxRecDepth 100000 in
theorem bits_Mul32.calls (a0 : Int) (a1 : Int) (r1 : Int) (r2 : Int) (w : World) (h : bits_Mul32.f a0 a1 = some (r1, r2)) :
    Calls Try.prog 77 #[.int .u32 a0, .int .u32 a1] w fun e w' => e = .returned (.tuple #[.int .u32 r1, .int .u32 r2]) ∧ Drawn0 w w' := by
  have H : (some (((IntKind.u64.wrap ((IntKind.u64.wrap (a0)) * (IntKind.u64.wrap (a1)))) / 4294967296) % 4294967296, (IntKind.u64.wrap ((IntKind.u64.wrap (a0)) * (IntKind.u64.wrap (a1)))) % 4294967296)) = some (r1, r2) := h
  clear h
  simp only [Option.some.injEq, Prod.mk.injEq] at H
  obtain ⟨rfl, rfl⟩ := H
  go_enter Try.func77, Try.ntmps77
  go_wp2
  go_ret2
  exact ⟨by first | rfl | (simp; done) | (simp [*]; done), by repeat (first | exact Drawn0.refl _ | apply Drawn0.step)⟩

/-! ### bits_Mul64: function 78 -/
def bits_Mul64.f (a0 : Int) (a1 : Int) : Option (Int × Int) := some (IntKind.u64.wrap ((IntKind.u64.wrap ((IntKind.u64.wrap ((a0 / 4294967296) * (a1 / 4294967296))) + ((IntKind.u64.wrap ((IntKind.u64.wrap ((a0 / 4294967296) * (Go.bits .and .u64 a1 4294967295))) + ((IntKind.u64.wrap ((Go.bits .and .u64 a0 4294967295) * (Go.bits .and .u64 a1 4294967295))) / 4294967296))) / 4294967296))) + ((IntKind.u64.wrap ((Go.bits .and .u64 (IntKind.u64.wrap ((IntKind.u64.wrap ((a0 / 4294967296) * (Go.bits .and .u64 a1 4294967295))) + ((IntKind.u64.wrap ((Go.bits .and .u64 a0 4294967295) * (Go.bits .and .u64 a1 4294967295))) / 4294967296))) 4294967295) + (IntKind.u64.wrap ((Go.bits .and .u64 a0 4294967295) * (a1 / 4294967296))))) / 4294967296)), IntKind.u64.wrap (a0 * a1))
set_option maxHeartbeats 8000000 in
set_option maxRecDepth 100000 in
theorem bits_Mul64.calls (a0 : Int) (a1 : Int) (r1 : Int) (r2 : Int) (w : World) (h : bits_Mul64.f a0 a1 = some (r1, r2)) :
    Calls Try.prog 78 #[.int .u64 a0, .int .u64 a1] w fun e w' => e = .returned (.tuple #[.int .u64 r1, .int .u64 r2]) ∧ Drawn0 w w' := by
  have H : (some (IntKind.u64.wrap ((IntKind.u64.wrap ((IntKind.u64.wrap ((a0 / 4294967296) * (a1 / 4294967296))) + ((IntKind.u64.wrap ((IntKind.u64.wrap ((a0 / 4294967296) * (Go.bits .and .u64 a1 4294967295))) + ((IntKind.u64.wrap ((Go.bits .and .u64 a0 4294967295) * (Go.bits .and .u64 a1 4294967295))) / 4294967296))) / 4294967296))) + ((IntKind.u64.wrap ((Go.bits .and .u64 (IntKind.u64.wrap ((IntKind.u64.wrap ((a0 / 4294967296) * (Go.bits .and .u64 a1 4294967295))) + ((IntKind.u64.wrap ((Go.bits .and .u64 a0 4294967295) * (Go.bits .and .u64 a1 4294967295))) / 4294967296))) 4294967295) + (IntKind.u64.wrap ((Go.bits .and .u64 a0 4294967295) * (a1 / 4294967296))))) / 4294967296)), IntKind.u64.wrap (a0 * a1))) = some (r1, r2) := h
  clear h
  simp only [Option.some.injEq, Prod.mk.injEq] at H
  obtain ⟨rfl, rfl⟩ := H
  go_enter Try.func78, Try.ntmps78
  go_wp2
  go_ret2
  exact ⟨by first | rfl | (simp; done) | (simp [*]; done), by repeat (first | exact Drawn0.refl _ | apply Drawn0.step)⟩

/-! ### bits_Mul: function 61 -/
def bits_Mul.f (a0 : Int) (a1 : Int) : Option (Int × Int) := (bits_Mul64.f a0 a1).bind fun bt186 => (some (bt186.1, bt186.2))
set_option maxHeartbeats 8000000 in
set_option maxRecDepth 100000 in
theorem bits_Mul.calls (a0 : Int) (a1 : Int) (r1 : Int) (r2 : Int) (w : World) (h : bits_Mul.f a0 a1 = some (r1, r2)) :
    Calls Try.prog 61 #[.int .u64 a0, .int .u64 a1] w fun e w' => e = .returned (.tuple #[.int .u64 r1, .int .u64 r2]) ∧ Drawn0 w w' := by
  have H : ((bits_Mul64.f a0 a1).bind fun bt186 => (some (bt186.1, bt186.2))) = some (r1, r2) := h
  clear h
  replace H := Option.bind_eq_some_iff.mp H
  obtain ⟨⟨t186, t187⟩, A30, H⟩ := H
  replace H : (some (t186, t187)) = some (r1, r2) := H
  have A3 := Aside0.mk A30
  clear A30
  simp only [Option.some.injEq, Prod.mk.injEq] at H
  obtain ⟨rfl, rfl⟩ := H
  go_enter Try.func61, Try.ntmps61
  go_wp2_with (first | ((with_reducible refine gate_callee (f := 78) rfl ?_); refine goesL_ (some 25) rfl rfl Try.func78 (by kernel_rfl) rfl #[.int .u64 a0, .int .u64 a1] rfl qB1 ?_; (with_reducible refine (bits_Mul64.calls a0 a1 t186 t187 _ A3.out).mono ?_); rintro e w' ⟨rfl, ⟨nd, rfl⟩⟩; refine ⟨_, rfl, ?_⟩))
  go_ret2
  exact ⟨by first | rfl | (simp; done) | (simp [*]; done), by repeat (first | exact Drawn0.refl _ | apply Drawn0.step)⟩

/-! ### slices_Repeat_int64_int64: function 43 -/
def slices_Repeat_int64_int64.f (l0 : List Int) (a1 : Int) : Option (List Int) := if l0.length = 1 ∧ 0 ≤ a1 ∧ a1 ≤ 1048576 then some (List.replicate a1.toNat (rd l0 0)) else none
-- HAND
theorem hrp_w (n : Nat) (hn : n ≤ 1048576) : IntKind.u64.wrap (n : Int) = n := by
  rw [IntKind.wrap_u64]; omega
theorem hrp_and (n : Nat) (hn : n ≤ 1048576) : bits BinOp.and IntKind.u64 (n : Int) 4294967295 = (n : Int) := by
  unfold bits
  simp
  rw [show IntKind.u64.bits = 64 from rfl, Nat.mod_eq_of_lt (by omega), show (4294967295 : Nat) % 2 ^ 64 = 2 ^ 32 - 1 by decide, Nat.and_two_pow_sub_one_eq_mod, Nat.mod_eq_of_lt (by omega)]
  exact hrp_w n hn
theorem hrp_mul64 (n : Nat) (hn : n ≤ 1048576) (w : World) :
    Calls Try.prog 78 #[.int .u64 1, .int .u64 n] w fun e w' => e = .returned (.tuple #[.int .u64 0, .int .u64 n]) ∧ Drawn0 w w' := by
  go_enter Try.func78, Try.ntmps78
  go_wp2
  go_ret2
  refine ⟨?_, ?_⟩
  · simp
    have e1 : bits BinOp.and IntKind.u64 1 4294967295 = 1 := hrp_and 1 (by omega)
    have e2 : (n : Int) / 4294967296 = 0 := by omega
    rw [e1, hrp_and n hn, e2, Int.one_mul, hrp_w n hn, e2]
    decide +kernel
  · repeat (first | exact Drawn0.refl _ | apply Drawn0.step)
theorem hrp_mul (a b : Int) (n : Nat) (ha : a = 1) (hb : b = n) (hn : n ≤ 1048576) (w : World) :
    Calls Try.prog 61 #[.int .u64 a, .int .u64 b] w fun e w' => e = .returned (.tuple #[.int .u64 0, .int .u64 n]) ∧ Drawn0 w w' := by
  subst ha hb
  go_enter Try.func61, Try.ntmps61
  go_wp2_with (go_at_call 78; refine (hrp_mul64 n hn _).mono ?_; rintro e w' ⟨rfl, ⟨nd, rfl⟩⟩)
  go_ret2
  exact ⟨by first | rfl | (simp; done), by repeat (first | exact Drawn0.refl _ | exact ⟨_, rfl⟩ | apply Drawn0.step)⟩
theorem hrp_info : (Try.prog.info? 2).map (fun i => (i.zero, i.size, i.bytes)) = some (some (.int .i64 0), 1, 8) := by kernel_rfl
theorem hrp_size : (Try.prog.info? 2).map (·.size) = some 1 := by kernel_rfl
/-- The row that is filled: its first k cells are x. -/
def hrp_row (w : World) (base g n cap k : Nat) (x : Int) : Prop :=
  (base ≤ g ∧ n ≤ cap ∧ cap ≤ maxLen) ∧ ∃ cur : List Value, w.heap[g]? = some (.cells cur.toArray 2 (0, 0)) ∧ cur.length = cap ∧ ∀ j, j < k → cur[j]? = some (.int .i64 x)
theorem hrp_made {w : World} {base m : Nat} {ok : Nat → Prop} {v : Value} {n : Nat} (x : Int) (h : Kd.R (Kd.int .i64) 2 w base ok v (List.replicate n 0)) (hb : ∃ b, v.ownBlock = some b ∧ m ≤ b) :
    ∃ g cap, v = .slice (some ⟨g, 0, none⟩) n cap ∧ hrp_row w base g n cap 0 x := by
  obtain ⟨_, inner, ⟨_, ho⟩, _⟩ := h
  rw [List.length_replicate] at ho
  rcases ho with ⟨rfl, _⟩ | ⟨g, cap, cur, rfl, hg, hh, h1, h2, h3, _⟩
  · obtain ⟨b, hb, _⟩ := hb
    simp [Value.ownBlock] at hb
  · exact ⟨g, cap, rfl, ⟨hg, h1, h2⟩, cur.toList, by simpa using hh, by have : cur.size = cap * 1 := h3; simp; omega, fun j hj => by omega⟩
theorem hrp_splice (L : List Value) (k m : Nat) (v : Value) (h : k + m ≤ L.length) (hL : ∀ j, j < k → L[j]? = some v) :
    (splice L k (List.replicate m v)).length = L.length ∧ ∀ j, j < k + m → (splice L k (List.replicate m v))[j]? = some v := by
  refine ⟨length_splice _ _ _ (by simpa using h), fun j hj => ?_⟩
  unfold splice
  by_cases h1 : j < k
  · rw [List.getElem?_append_left (by simp; omega), List.getElem?_take_of_lt h1]
    exact hL j h1
  · rw [List.getElem?_append_right (by simp; omega), List.length_take, Nat.min_eq_left (by omega), List.getElem?_append_left (by simp; omega), List.getElem?_replicate]
    rw [if_pos (by omega)]
theorem hrp_src {w w4 : World} {A0 : Option Addr} {x : Int} {c1 n : Nat} (hr : Kd.C (Kd.int .i64) w A0 [x].length [x]) (hb : Below w.heap.size w w4) (hc : c1 = min 1 n) (dp : Option Addr) (hp : 0 < (List.replicate c1 (Value.int .i64 x)).length) :
    dp = dp ∧ ∃ ad, A0 = some ad ∧ ∀ j v, (List.replicate c1 (Value.int .i64 x))[j]? = some v → w4.cell? (ad.add j) = some v := by
  obtain ⟨ad, ha, hx⟩ := Kd.at_int (Kd.C_below hr hb) 0 (by omega) (by simp)
  refine ⟨rfl, ad, ha, fun j v hv => ?_⟩
  rw [List.getElem?_replicate] at hv
  split at hv
  · obtain rfl : j = 0 := by omega
    obtain rfl := Option.some.inj hv
    simpa [rd] using hx
  · cases hv
theorem hrp_own {w : World} {g n k m : Nat} {x : Int} {cur : List Value} (hh : w.heap[g]? = some (.cells cur.toArray 2 (0, 0))) (hx : ∀ j, j < k → cur[j]? = some (.int .i64 x)) (hm : m = min k (n - k)) (hp : 0 < (List.replicate m (Value.int .i64 x)).length) :
    (some ⟨g, k, none⟩ : Option Addr) = some ⟨g, k, none⟩ ∧ ∃ ad, (some ⟨g, 0, none⟩ : Option Addr) = some ad ∧ ∀ j v, (List.replicate m (Value.int .i64 x))[j]? = some v → w.cell? (ad.add j) = some v := by
  refine ⟨rfl, _, rfl, fun j v hv => ?_⟩
  rw [List.getElem?_replicate] at hv
  split at hv
  · obtain rfl := Option.some.inj hv
    have hj : j < k := by omega
    have ha : (⟨g, 0, none⟩ : Addr).add j = ⟨g, j, none⟩ := by
      unfold Addr.add
      split
      · rename_i h0; rw [h0]
      · simp
    rw [ha]
    simp [World.cell?, hh, hx j hj]
  · cases hv
theorem hrp_filled {w5 : World} {base g n cap k m : Nat} {x : Int} {cur : List Value} (h1 : base ≤ g ∧ n ≤ cap ∧ cap ≤ maxLen) (hl : cur.length = cap) (hk : k + m ≤ cap) (hx : ∀ j, j < k → cur[j]? = some (.int .i64 x))
    (hg : Hid (w5.heap[g]? = some (.cells (splice cur k (List.replicate m (.int .i64 x))).toArray 2 (0, 0)))) : hrp_row w5 base g n cap (k + m) x := by
  obtain ⟨e1, e2⟩ := hrp_splice cur k m (.int .i64 x) (by omega) hx
  exact ⟨h1, _, hg, by omega, e2⟩
theorem hrp_done {w : World} {base g n cap : Nat} {x : Int} (h : hrp_row w base g n cap n x) :
    Kd.R (Kd.int .i64) 2 w base (fun _ => True) (.slice (some ⟨g, 0, none⟩) n cap) (List.replicate n x) := by
  obtain ⟨⟨h1, h2, h3⟩, cur, hh, hl, hx⟩ := h
  refine Kd.R_of_own ?_ (fun _ _ => trivial)
  refine ⟨by simp [encs], .inr ⟨g, cap, cur.toArray, by simp, h1, hh, by simpa using h2, h3, by simp; omega, ?_⟩⟩
  refine List.ext_getElem? fun j => ?_
  simp only [List.length_replicate, Nat.mul_one, encs, List.map_replicate]
  by_cases hj : j < n
  · rw [List.getElem?_take_of_lt hj, List.getElem?_replicate, if_pos hj]
    exact hx j hj
  · rw [List.getElem?_eq_none (by simp; omega), List.getElem?_eq_none (by simp; omega)]
set_option maxHeartbeats 8000000 in
set_option maxRecDepth 100000 in
theorem slices_Repeat_int64_int64.calls (A0 : Option Addr) (c0 : Nat) (l0 : List Int) (a1 : Int) (r : List Int) (w : World) (hr0 : Kd.C (Kd.int .i64) w A0 l0.length l0) (hc0 : l0.length ≤ c0) (h : slices_Repeat_int64_int64.f l0 a1 = some r) :
    Calls Try.prog 43 #[.slice A0 l0.length c0, .int .i64 a1] w fun e w' => ∃ v0_ : Value, e = .returned (v0_) ∧ Kd.R (Kd.int .i64) 2 w' w.heap.size (fun _ => True) v0_ r ∧ Below w.heap.size w w' := by
  have HR0 := Aside0.mk hr0
  have HC0 := Aside0.mk hc0
  have HB := Aside0.mk (Below.refl w.heap.size w)
  unfold slices_Repeat_int64_int64.f at h
  by_cases c : l0.length = 1 ∧ 0 ≤ a1 ∧ a1 ≤ 1048576
  · rw [if_pos c] at h
    obtain rfl := Option.some.inj h
    clear h
    obtain ⟨n, rfl⟩ : ∃ n : Nat, a1 = n := ⟨a1.toNat, by omega⟩
    obtain ⟨x, rfl⟩ : ∃ x, l0 = [x] := List.length_eq_one_iff.mp c.1
    have hn : n ≤ 1048576 := by omega
    have b1 : decide ((n : Int) < 0) = false := decide_eq_false (by omega)
    have b2 : decide ((9223372036854775807 : Int) < n) = false := decide_eq_false (by omega)
    have b3 : wrap64 (n : Int) = n := by rw [wrap64]; omega
    have LN := Aside0.mk hn
    obtain ⟨c1, hc1⟩ : ∃ c1, c1 = min 1 n := ⟨_, rfl⟩
    have LC := Aside0.mk hc1
    clear c hr0 hc0 hn hc1
    go_enter Try.func43, Try.ntmps43
    go_wp2_with (first
      | (go_at_call 61; refine (hrp_mul _ _ n rfl (hrp_w n LN.out) LN.out _).mono ?_; rintro e w' ⟨rfl, ⟨nd, rfl⟩⟩)
      | ((with_reducible refine gate_dst (N := 30) rfl ?_); refine Kd.R_make (Kd.int .i64) _ 2 rfl (N := 30) rfl 25 _ _ rfl (wrap64 (n : Int)) rfl rfl Try.underlying25 (.int .i64 0) 8 hrp_info rfl (by decide) (by omega) 0 (ok := fun _ => True) (okp := fun _ => True) rfl (fun _ hk => hk) trivial (by rw [b3]; omega) (by rw [b3]; have := LN.out; omega) (Below.refl _ _) (Nat.le_refl _) ?_; intro v4 w4 ho hb hg_ hnew_; rw [show (wrap64 (n : Int)).toNat = n by rw [b3]; rfl] at ho; obtain ⟨g, cap, rfl, HW⟩ := hrp_made x ho hnew_; have HG : Aside0 (hrp_row w4 w.heap.size g n cap 0 x) := Aside0.mk HW; have HB' := Aside0.mk (below_step (pw_below_drewN HB.out _) hb); clear HB; have HB := HB'; clear HB' ho hb hg_ hnew_ HW; obtain ⟨cur, hcur⟩ := HG.out.2; have HH := Aside0.mk hcur; clear hcur)
      | ((with_reducible refine gate_builtin (b := .copy) (xs := #[.tmp 31, .tmp 32]) rfl ?_); refine wpList_copy_splice rfl (.tmp 31) (.tmp 32) 25 25 rfl 2 Try.underlying25 hrp_size (some ⟨g, 0, none⟩) A0 n cap 1 c0 rfl rfl g 0 cur 2 HH.out.1 (List.replicate c1 (.int .i64 x)) ?h1 ?h2 ?h3 ?h4 w.heap.size w HB.out HG.out.1.1 ?h5; (case h1 => rw [List.length_replicate]; exact LC.out); (case h2 => exact hrp_src HR0.out HB.out LC.out _); (case h3 => have := LC.out; have := HG.out.1.2.1; have := HH.out.2.1; rw [List.length_replicate]; omega); (case h4 => intro u hu; rw [List.eq_of_mem_replicate hu]; rfl); intro w5 hg5 hb5; have HG5 := Aside0.mk (hrp_filled (k := 0) (m := c1) HG.out.1 HH.out.2.1 (by have := LC.out; have := HG.out.1.2.1; omega) HH.out.2.2 hg5); clear HB HG HH; have HB := Aside0.mk hb5; clear hb5 hg5; (try simp only [List.length_replicate]))
      )
    go_loopg [8] (n + 1) (fun kq v8 w' => ∃ k : Nat, v8 = .int .i64 k ∧ Aside0 (n + 1 ≤ kq + k ∧ k ≤ n ∧ (1 ≤ n → 1 ≤ k)) ∧ Aside0 (hrp_row w' w.heap.size g n cap k x) ∧ Aside0 (Below w.heap.size w w'))
    case atStart => exact ⟨c1, rfl, ⟨by have := LC.out; omega, by have := LC.out; omega, by have := LC.out; omega⟩, by simpa using HG5, HB⟩
    case round =>
      obtain ⟨k, rfl, HA, HK, HB6⟩ := hrel
      by_cases hlt : k < n
      · obtain ⟨m, hm⟩ : ∃ m, m = min k (n - k) := ⟨_, rfl⟩
        have LM := Aside0.mk hm
        obtain ⟨cur, hcur⟩ := HK.out.2
        have HH := Aside0.mk hcur
        have hp0 : (0 : Int) ≤ (k : Int) := by omega
        have hp1 : (k : Int) ≤ (n : Int) := by omega
        have hp2 : ((k : Int)).toNat = k := by omega
        have hp3 : k ≤ n := by omega
        have hp4 : k ≤ cap := by have := HK.out.1.2.1; omega
        have hp5 : ¬ cap = k := by have := HK.out.1.2.1; omega
        clear hm hcur HB
        go_wp2_with fail
        go_region_law (refine step_copy_splice rfl (.tmp 41) (.tmp 44) 25 25 rfl 2 Try.underlying25 hrp_size (some ⟨g, k, none⟩) (some ⟨g, 0, none⟩) (n - k) (cap - k) k cap (by simp [Act.eval, Act.put] <;> omega) (by simp [Act.eval, Act.put]) g k cur 2 HH.out.1 (List.replicate m (.int .i64 x)) (by rw [List.length_replicate]; exact LM.out) (hrp_own HH.out.1 HH.out.2.2 LM.out) (by have := LM.out; have := HH.out.2.1; have := HK.out.1.2.1; rw [List.length_replicate]; omega) (fun u hu => by rw [List.eq_of_mem_replicate hu]; rfl) w.heap.size w (by repeat (first | exact HB6.out | apply below_drew1)) HK.out.1.1 ?_; intro w5 hg5 hb5)
        have HK5 := Aside0.mk (hrp_filled (k := k) (m := m) HK.out.1 HH.out.2.1 (by have := LM.out; have := HK.out.1.2.1; omega) HH.out.2.2 hg5)
        have HB5 := Aside0.mk hb5
        have hmr : IntKind.i64.wrap ((k : Int) + (m : Int)) = (k : Int) + (m : Int) := by have := LM.out; have := LN.out; rw [IntKind.wrap_i64]; omega
        clear hb5 hg5 HK HB6
        go_wp2
        go_roundg (gk - 1)
        case measure => have := HA.out; omega
        case rel => exact ⟨k + m, by simp [hmr], ⟨by have := HA.out; have := LM.out; omega, by have := HA.out; have := LM.out; omega, by have := HA.out; have := LM.out; omega⟩, HK5, HB5⟩
      · go_wp2
        go_ret
        have e : k = n := by have := HA.out.2.1; omega
        subst e
        exact ⟨_, rfl, by simpa [rd] using hrp_done HK.out, HB6.out⟩
  · rw [if_neg c] at h
    cases h

/-! ### impl_QuadricNumber: function 20 -/
def impl_QuadricNumber.f (k : Nat) (a0 : Int) (l1 : List Int) (a2 : Int) : Option (Int × Int) := (slices_Repeat_int64_int64.f (([2] : List Int)) (l1.length : Int)).bind fun t194 => ((impl_CountSolutions.f k a0 l1 t194 a2).bind fun bt197 => (some (bt197.1, bt197.2)))
theorem impl_QuadricNumber.mono : ∀ a0 a1 a2 k, LeO (impl_QuadricNumber.f k a0 a1 a2) (impl_QuadricNumber.f (k + 1) a0 a1 a2) := by
  intro a0 a1 a2 k
  unfold impl_QuadricNumber.f
  repeat' first
      | (with_reducible exact impl_CountSolutions.mono _ _ _ _ _)
      | (with_reducible exact LeO.refl _)
      | (with_reducible exact LeO.none _)
      | (with_reducible refine LeO.ite ?_ ?_)
      | (with_reducible refine LeO.bind ?_ (fun _ => ?_))
      | exact impl_CountSolutions.mono _ _ _ _ _
      | exact LeO.none _
      | refine LeO.ite ?_ ?_
      | refine LeO.bind ?_ (fun _ => ?_)
set_option maxHeartbeats 8000000 in
set_option maxRecDepth 100000 in
theorem impl_QuadricNumber.calls (k : Nat) (a0 : Int) (A1 : Option Addr) (c1 : Nat) (l1 : List Int) (a2 : Int) (r1 : Int) (r2 : Int) (w : World) (hr1 : Kd.C (Kd.int .i64) w A1 l1.length l1) (hc1 : l1.length ≤ c1) (h : impl_QuadricNumber.f k a0 l1 a2 = some (r1, r2)) :
    Calls Try.prog 20 #[.int .i64 a0, .slice A1 l1.length c1, .int .i64 a2] w fun e w' => e = .returned (.tuple #[.int .i64 r1, .int .i64 r2]) ∧ Below w.heap.size w w' := by
  have HR1 := Aside0.mk hr1
  have HC1 := Aside0.mk hc1
  clear hr1 hc1
  have HB := Aside0.mk (Below.refl w.heap.size w)
  have H : ((slices_Repeat_int64_int64.f (([2] : List Int)) (l1.length : Int)).bind fun t194 => ((impl_CountSolutions.f k a0 l1 t194 a2).bind fun bt197 => (some (bt197.1, bt197.2)))) = some (r1, r2) := h
  clear h
  obtain ⟨y191, hy191⟩ : ∃ y_ : List Int, y_ = (([2] : List Int)) := ⟨_, rfl⟩
  replace H : ((slices_Repeat_int64_int64.f y191 (l1.length : Int)).bind fun t194 => ((impl_CountSolutions.f k a0 l1 t194 a2).bind fun bt197 => (some (bt197.1, bt197.2)))) = some (r1, r2) := by first | (rw [hy191]; with_reducible exact H) | (have H2_ := (Option.bind_some _ _).symm.trans H; rw [hy191]; with_reducible exact H2_) | (have H2_ := (Option.bind_some _ _).symm.trans H; with_reducible exact H2_) | with_reducible exact H | (rw [hy191]; exact H) | exact H
  have Ny191 := Aside0.mk hy191
  clear hy191
  replace H := Option.bind_eq_some_iff.mp H
  obtain ⟨t194, A40, H⟩ := H
  replace H : ((impl_CountSolutions.f k a0 l1 t194 a2).bind fun bt197 => (some (bt197.1, bt197.2))) = some (r1, r2) := H
  have A4 := Aside0.mk A40
  clear A40
  replace H := Option.bind_eq_some_iff.mp H
  obtain ⟨⟨t197, t198⟩, A50, H⟩ := H
  replace H : (some (t197, t198)) = some (r1, r2) := H
  have A5 := Aside0.mk A50
  clear A50
  simp only [Option.some.injEq, Prod.mk.injEq] at H
  obtain ⟨rfl, rfl⟩ := H
  go_enter Try.func20, Try.ntmps20
  go_wp2_with (first | ((with_reducible refine gate_dst (N := 10) rfl ?_); refine Kd.R_lit (Kd.int .i64) _ 2 ?hg (N := 10) ?hd (xs := ([2] : List Int)) (inner := [.int .i64 2]) (ok := fun _ => True) (okp := fun _ => True) ?hr ?hp (fun _ hk => hk) trivial (Below.refl _ _) (Nat.le_refl _) (by simp) ?_; (case hd => rfl); (case hg => rfl); (case hr => first | (go_simp; done) | (go_simp; rfl)); (case hp => exact (Reps.one (show Kd.M (Kd.int .i64) _ _ _ 2 [.int .i64 2] from rfl) (Reps.none _ _))); intro v192 w6 ho7 hb hg_ hnew_; clear hg_ hnew_; (first | rw [← Ny191.out] at ho7 | (simp only [Int.reduceToNat] at ho7; rw [← Ny191.out] at ho7)); have n0_ := Aside0.mk (Kd.R_lower ho7 (below_size qB2)); have n1_ := Aside0.mk (below_step qB2 hb); clear HB; have HO193 := n0_; have HB := n1_; clear n0_ n1_; clear hb ho7; obtain ⟨Ao8, co8, eo8⟩ := Kd.R_slice HO193.out; subst eo8) | ((with_reducible refine gate_callee (f := 43) rfl ?_); refine goesL_ (some 13) rfl rfl Try.func43 (by kernel_rfl) rfl #[.slice Ao8 y191.length co8, .int .i64 (l1.length : Int)] rfl qB1 ?_; (with_reducible refine (slices_Repeat_int64_int64.calls _ _ y191 (l1.length : Int) t194 _ ?side1 ?side2 A4.out).mono ?_); (case side1 => repeat (first | exact (Kd.R_reads' HO193.out).2.2 | (with_reducible refine Kd.C_alloc ?_ _) | (with_reducible refine Kd.C_drewN ?_ _) | (with_reducible refine Kd.C_drew ?_))); (case side2 => exact (Kd.R_reads' HO193.out).2.1); rintro e w9 ⟨v195, rfl, ho0, hb⟩; refine ⟨_, rfl, ?_⟩; have n0_ := Aside0.mk (Kd.R_elder' qB6 (Kd.R_base ho0) hb); have n1_ := Aside0.mk (Kd.R_lower (Kd.R_new' ho0 (Kd.R_lt qB6)) (below_size qB2)); have n2_ := Aside0.mk (below_step qB2 hb); clear HO193; clear HB; have HO193 := n0_; have HO196 := n1_; have HB := n2_; clear n0_ n1_ n2_; (try clear hb); (try clear hb2); (try clear hk); (try clear hi); (try clear ho0); obtain ⟨Ao10, co10, eo10⟩ := Kd.R_slice HO196.out; subst eo10) | ((with_reducible refine gate_callee (f := 42) rfl ?_); refine goesL_ (some 15) rfl rfl Try.func42 (by kernel_rfl) rfl #[.int .i64 a0, .slice A1 l1.length c1, .slice Ao10 t194.length co10, .int .i64 a2] rfl qB1 ?_; (with_reducible refine (impl_CountSolutions.calls k a0 _ _ l1 _ _ t194 a2 t197 t198 _ ?side1 ?side2 ?side3 ?side4 A5.out).mono ?_); (case side1 => repeat (first | exact (Kd.C_below HR1.out HB.out) | (with_reducible refine Kd.C_alloc ?_ _) | (with_reducible refine Kd.C_drewN ?_ _) | (with_reducible refine Kd.C_drew ?_))); (case side2 => exact HC1.out); (case side3 => repeat (first | exact (Kd.R_reads' HO196.out).2.2 | (with_reducible refine Kd.C_alloc ?_ _) | (with_reducible refine Kd.C_drewN ?_ _) | (with_reducible refine Kd.C_drew ?_))); (case side4 => exact (Kd.R_reads' HO196.out).2.1); rintro e w11 ⟨rfl, hb⟩; refine ⟨_, rfl, ?_⟩; have n0_ := Aside0.mk (Kd.R_below qB6 hb); have n1_ := Aside0.mk (Kd.R_below (by (with_reducible repeat (first | apply Kd.R_alloc | apply Kd.R_drewN | apply Kd.R_drew)); exact HO196.out) hb); have n2_ := Aside0.mk (below_step qB2 hb); clear HO193; clear HO196; clear HB; have HO193 := n0_; have HO196 := n1_; have HB := n2_; clear n0_ n1_ n2_; (try clear hb); (try clear hb2); (try clear hk); (try clear hi)))
  go_ret2
  exact ⟨by first | rfl | (simp [errW_none, errW_some] <;> rfl) | (simp [*, errW_none, errW_some] <;> rfl), by repeat (first | (with_reducible first | exact HB.out | apply below_alloc | apply pw_below_drewN | apply below_drew1) | exact HB.out)⟩

end Go.Proofs.Ytghlmdjedpnglaa.PFnExactQuadricNumber
