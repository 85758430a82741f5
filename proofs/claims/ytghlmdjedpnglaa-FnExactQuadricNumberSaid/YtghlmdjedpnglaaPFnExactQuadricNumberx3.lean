/- The functions that the law reaches, as plain functions, each with the proof that the program comes to it; no condition. Written by a program of this session (wip/mp.py) over the printing of the kit; what is marked HAND is told by hand. -/
import Derived.Test.YtghlmdjedpnglaaPFnExactQuadricNumberx0
import Derived.Test.YtghlmdjedpnglaaPFnExactQuadricNumberx2
namespace Go.Proofs.Ytghlmdjedpnglaa.PFnExactQuadricNumber
open Go.RowKit Go.Proofs.YtghlmdjedpnglaaW.PrintWords Go.Proofs.YtghlmdjedpnglaaW.PrintLast Go.Proofs.YtghlmdjedpnglaaW.PrintMore
attribute [local go_sem] max2_int min2_int max_two min_two max_three min_three max_four min_four   -- for this text's walks alone
set_option linter.unusedVariables false
set_option linter.unusedSimpArgs false

/-! ### spec_QuadricNumber: function 19 -/
mutual
def spec_QuadricNumber.j1 : Nat → Int → List Int → Int → List Int → Option (Int × Int)
  | 0, _, _, _, _ => none
  | k + 1, x0, x1, x2, x8 => (spec_l08Given.f k x0 x1 x8 x2).bind fun t123 => (if t123 = 0 then (spec_QuadricNumber.l1 k x0 x1 x2 (x1.length : Int) 1 1 0) else (some (0, t123)))
def spec_QuadricNumber.l1 : Nat → Int → List Int → Int → Int → Int → Int → Int → Option (Int × Int)
  | 0, _, _, _, _, _, _, _ => none
  | k + 1, x0, x1, x2, x11, x12, x13, x14 => if x14 < x11 then (if 0 ≤ x14 then (if x14 < (x1.length : Int) then (if x0 = 0 then (none) else (spec_QuadricNumber.l1 k x0 x1 x2 x11 (Int.tmod (wrap64 (x12 * (rd x1 x14))) x0) x13 (wrap64 (x14 + 1)))) else (none)) else (none)) else (if (Int.tmod (wrap64 (Int.tdiv x11 2)) 2) = 1 then (spec_QuadricNumber.j3 k x0 x2 x11 x12 (-1)) else (spec_QuadricNumber.j3 k x0 x2 x11 x12 x13))
def spec_QuadricNumber.j3 : Nat → Int → Int → Int → Int → Int → Option (Int × Int)
  | 0, _, _, _, _, _ => none
  | k + 1, x0, x2, x11, x12, x13 => (some (([1, x0, wrap64 (x0 * x0), wrap64 ((wrap64 (x0 * x0)) * x0)] : List Int) : List Int)).bind fun y125 => (if (Int.tmod x11 2) = 1 then (if 0 ≤ (wrap64 (x11 - 1)) then (if (wrap64 (x11 - 1)) < (y125.length : Int) then (if 0 ≤ (wrap64 (Int.tdiv x11 2)) then (if (wrap64 (Int.tdiv x11 2)) < (y125.length : Int) then ((spec_l08Square.f k x0 (wrap64 ((wrap64 (x13 * x12)) * x2))).bind fun t130 => (some (wrap64 ((rd y125 (wrap64 (x11 - 1))) + (wrap64 ((rd y125 (wrap64 (Int.tdiv x11 2))) * t130))), 0))) else (none)) else (none)) else (none)) else (none)) else (if x2 = 0 then (if 0 ≤ (wrap64 (x11 - 1)) then (if (wrap64 (x11 - 1)) < (y125.length : Int) then (if 0 ≤ (wrap64 ((wrap64 (Int.tdiv x11 2)) - 1)) then (if (wrap64 ((wrap64 (Int.tdiv x11 2)) - 1)) < (y125.length : Int) then ((spec_l08Square.f k x0 (wrap64 (x13 * x12))).bind fun t133 => (some (wrap64 ((rd y125 (wrap64 (x11 - 1))) + (wrap64 ((wrap64 ((wrap64 (x0 - 1)) * (rd y125 (wrap64 ((wrap64 (Int.tdiv x11 2)) - 1))))) * t133))), 0))) else (none)) else (none)) else (none)) else (none)) else (if 0 ≤ (wrap64 (x11 - 1)) then (if (wrap64 (x11 - 1)) < (y125.length : Int) then (if 0 ≤ (wrap64 ((wrap64 (Int.tdiv x11 2)) - 1)) then (if (wrap64 ((wrap64 (Int.tdiv x11 2)) - 1)) < (y125.length : Int) then ((spec_l08Square.f k x0 (wrap64 (x13 * x12))).bind fun t136 => (some (wrap64 ((rd y125 (wrap64 (x11 - 1))) + (wrap64 ((wrap64 ((-1) * (rd y125 (wrap64 ((wrap64 (Int.tdiv x11 2)) - 1))))) * t136))), 0))) else (none)) else (none)) else (none)) else (none))))
def spec_QuadricNumber.l0 : Nat → Int → List Int → Int → List Int → Int → Option (Int × Int)
  | 0, _, _, _, _, _ => none
  | k + 1, x0, x1, x2, x8, x9 => if x9 < (x1.length : Int) then (if x9 ≤ 4 then (if x8.length < 17592186044416 then (spec_QuadricNumber.l0 k x0 x1 x2 (x8 ++ [2]) (wrap64 (x9 + 1))) else (none)) else (spec_QuadricNumber.j1 k x0 x1 x2 x8)) else (spec_QuadricNumber.j1 k x0 x1 x2 x8)
end
def spec_QuadricNumber.f (k : Nat) (a0 : Int) (l1 : List Int) (a2 : Int) : Option (Int × Int) := spec_QuadricNumber.l0 k a0 l1 a2 (([] : List Int)) 0
theorem spec_QuadricNumber.mono_l : ∀ k, (∀ y0 y1 y2 y3, LeO (spec_QuadricNumber.j1 k y0 y1 y2 y3) (spec_QuadricNumber.j1 (k + 1) y0 y1 y2 y3)) ∧ (∀ y0 y1 y2 y3 y4 y5 y6, LeO (spec_QuadricNumber.l1 k y0 y1 y2 y3 y4 y5 y6) (spec_QuadricNumber.l1 (k + 1) y0 y1 y2 y3 y4 y5 y6)) ∧ (∀ y0 y1 y2 y3 y4, LeO (spec_QuadricNumber.j3 k y0 y1 y2 y3 y4) (spec_QuadricNumber.j3 (k + 1) y0 y1 y2 y3 y4)) ∧ (∀ y0 y1 y2 y3 y4, LeO (spec_QuadricNumber.l0 k y0 y1 y2 y3 y4) (spec_QuadricNumber.l0 (k + 1) y0 y1 y2 y3 y4))
  | 0 => ⟨fun _ _ _ _ r h => by simp [spec_QuadricNumber.j1] at h, fun _ _ _ _ _ _ _ r h => by simp [spec_QuadricNumber.l1] at h, fun _ _ _ _ _ r h => by simp [spec_QuadricNumber.j3] at h, fun _ _ _ _ _ r h => by simp [spec_QuadricNumber.l0] at h⟩
  | k + 1 => by
    obtain ⟨ih0, ih1, ih2, ih3⟩ := spec_QuadricNumber.mono_l k
    refine ⟨?_, ?_, ?_, ?_⟩
    · intro y0 y1 y2 y3
      unfold spec_QuadricNumber.j1
      repeat' first
      | (with_reducible exact ih0 _ _ _ _)
      | (with_reducible exact ih1 _ _ _ _ _ _ _)
      | (with_reducible exact ih2 _ _ _ _ _)
      | (with_reducible exact ih3 _ _ _ _ _)
      | (with_reducible exact spec_l08Given.mono _ _ _ _ _)
      | (with_reducible exact spec_l08Square.mono _ _ _)
      | (with_reducible exact LeO.refl _)
      | (with_reducible exact LeO.none _)
      | (with_reducible refine LeO.ite ?_ ?_)
      | (with_reducible refine LeO.bind ?_ (fun _ => ?_))
      | exact ih0 _ _ _ _
      | exact ih1 _ _ _ _ _ _ _
      | exact ih2 _ _ _ _ _
      | exact ih3 _ _ _ _ _
      | exact spec_l08Given.mono _ _ _ _ _
      | exact spec_l08Square.mono _ _ _
      | exact LeO.none _
      | refine LeO.ite ?_ ?_
      | refine LeO.bind ?_ (fun _ => ?_)
    · intro y0 y1 y2 y3 y4 y5 y6
      unfold spec_QuadricNumber.l1
      repeat' first
      | (with_reducible exact ih0 _ _ _ _)
      | (with_reducible exact ih1 _ _ _ _ _ _ _)
      | (with_reducible exact ih2 _ _ _ _ _)
      | (with_reducible exact ih3 _ _ _ _ _)
      | (with_reducible exact spec_l08Given.mono _ _ _ _ _)
      | (with_reducible exact spec_l08Square.mono _ _ _)
      | (with_reducible exact LeO.refl _)
      | (with_reducible exact LeO.none _)
      | (with_reducible refine LeO.ite ?_ ?_)
      | (with_reducible refine LeO.bind ?_ (fun _ => ?_))
      | exact ih0 _ _ _ _
      | exact ih1 _ _ _ _ _ _ _
      | exact ih2 _ _ _ _ _
      | exact ih3 _ _ _ _ _
      | exact spec_l08Given.mono _ _ _ _ _
      | exact spec_l08Square.mono _ _ _
      | exact LeO.none _
      | refine LeO.ite ?_ ?_
      | refine LeO.bind ?_ (fun _ => ?_)
    · intro y0 y1 y2 y3 y4
      unfold spec_QuadricNumber.j3
      repeat' first
      | (with_reducible exact ih0 _ _ _ _)
      | (with_reducible exact ih1 _ _ _ _ _ _ _)
      | (with_reducible exact ih2 _ _ _ _ _)
      | (with_reducible exact ih3 _ _ _ _ _)
      | (with_reducible exact spec_l08Given.mono _ _ _ _ _)
      | (with_reducible exact spec_l08Square.mono _ _ _)
      | (with_reducible exact LeO.refl _)
      | (with_reducible exact LeO.none _)
      | (with_reducible refine LeO.ite ?_ ?_)
      | (with_reducible refine LeO.bind ?_ (fun _ => ?_))
      | exact ih0 _ _ _ _
      | exact ih1 _ _ _ _ _ _ _
      | exact ih2 _ _ _ _ _
      | exact ih3 _ _ _ _ _
      | exact spec_l08Given.mono _ _ _ _ _
      | exact spec_l08Square.mono _ _ _
      | exact LeO.none _
      | refine LeO.ite ?_ ?_
      | refine LeO.bind ?_ (fun _ => ?_)
    · intro y0 y1 y2 y3 y4
      unfold spec_QuadricNumber.l0
      repeat' first
      | (with_reducible exact ih0 _ _ _ _)
      | (with_reducible exact ih1 _ _ _ _ _ _ _)
      | (with_reducible exact ih2 _ _ _ _ _)
      | (with_reducible exact ih3 _ _ _ _ _)
      | (with_reducible exact spec_l08Given.mono _ _ _ _ _)
      | (with_reducible exact spec_l08Square.mono _ _ _)
      | (with_reducible exact LeO.refl _)
      | (with_reducible exact LeO.none _)
      | (with_reducible refine LeO.ite ?_ ?_)
      | (with_reducible refine LeO.bind ?_ (fun _ => ?_))
      | exact ih0 _ _ _ _
      | exact ih1 _ _ _ _ _ _ _
      | exact ih2 _ _ _ _ _
      | exact ih3 _ _ _ _ _
      | exact spec_l08Given.mono _ _ _ _ _
      | exact spec_l08Square.mono _ _ _
      | exact LeO.none _
      | refine LeO.ite ?_ ?_
      | refine LeO.bind ?_ (fun _ => ?_)
theorem spec_QuadricNumber.mono : ∀ a0 a1 a2 k, LeO (spec_QuadricNumber.f k a0 a1 a2) (spec_QuadricNumber.f (k + 1) a0 a1 a2) := by
  intro a0 a1 a2 k
  obtain ⟨ih0, ih1, ih2, ih3⟩ := spec_QuadricNumber.mono_l k
  unfold spec_QuadricNumber.f
  repeat' first
      | (with_reducible exact ih0 _ _ _ _)
      | (with_reducible exact ih1 _ _ _ _ _ _ _)
      | (with_reducible exact ih2 _ _ _ _ _)
      | (with_reducible exact ih3 _ _ _ _ _)
      | (with_reducible exact spec_l08Given.mono _ _ _ _ _)
      | (with_reducible exact spec_l08Square.mono _ _ _)
      | (with_reducible exact LeO.refl _)
      | (with_reducible exact LeO.none _)
      | (with_reducible refine LeO.ite ?_ ?_)
      | (with_reducible refine LeO.bind ?_ (fun _ => ?_))
      | exact ih0 _ _ _ _
      | exact ih1 _ _ _ _ _ _ _
      | exact ih2 _ _ _ _ _
      | exact ih3 _ _ _ _ _
      | exact spec_l08Given.mono _ _ _ _ _
      | exact spec_l08Square.mono _ _ _
      | exact LeO.none _
      | refine LeO.ite ?_ ?_
      | refine LeO.bind ?_ (fun _ => ?_)
set_option maxHeartbeats 8000000 in
set_option maxRecDepth 100000 in
theorem spec_QuadricNumber.calls (k : Nat) (a0 : Int) (A1 : Option Addr) (c1 : Nat) (l1 : List Int) (a2 : Int) (r1 : Int) (r2 : Int) (w : World) (hr1 : Kd.C (Kd.int .i64) w A1 l1.length l1) (hc1 : l1.length ≤ c1) (h : spec_QuadricNumber.f k a0 l1 a2 = some (r1, r2)) :
    Calls Try.prog 19 #[.int .i64 a0, .slice A1 l1.length c1, .int .i64 a2] w fun e w' => e = .returned (.tuple #[.int .i64 r1, .int .i64 r2]) ∧ Below w.heap.size w w' := by
  have HR1 := Aside0.mk hr1
  have HC1 := Aside0.mk hc1
  clear hr1 hc1
  have HB := Aside0.mk (Below.refl w.heap.size w)
  have H : (spec_QuadricNumber.l0 k a0 l1 a2 (([] : List Int)) 0) = some (r1, r2) := h
  clear h
  obtain ⟨y117, hy117⟩ : ∃ y_ : List Int, y_ = (([] : List Int)) := ⟨_, rfl⟩
  replace H : (spec_QuadricNumber.l0 k a0 l1 a2 y117 0) = some (r1, r2) := by first | (rw [hy117]; with_reducible exact H) | (have H2_ := (Option.bind_some _ _).symm.trans H; rw [hy117]; with_reducible exact H2_) | (have H2_ := (Option.bind_some _ _).symm.trans H; with_reducible exact H2_) | with_reducible exact H | (rw [hy117]; exact H) | exact H
  have Ny117 := Aside0.mk hy117
  clear hy117
  have HC4 := Aside0.mk H
  clear H
  go_enter Try.func19, Try.ntmps19
  go_upto_block 0 with (first | ((with_reducible refine gate_dst (N := 17) rfl ?_); refine Kd.R_lit (Kd.int .i64) _ 2 ?hg (N := 17) ?hd (xs := ([] : List Int)) (inner := []) (ok := fun _ => True) (okp := fun _ => True) ?hr ?hp (fun _ hk => hk) trivial (Below.refl _ _) (Nat.le_refl _) (by simp) ?_; (case hd => rfl); (case hg => rfl); (case hr => first | (go_simp; done) | (go_simp; rfl)); (case hp => exact (Reps.none _ _)); intro v118 w5 ho6 hb hg_ hnew_; clear hg_ hnew_; (first | rw [← Ny117.out] at ho6 | (simp only [Int.reduceToNat] at ho6; rw [← Ny117.out] at ho6)); have n0_ := Aside0.mk (Kd.R_lower ho6 (below_size qB2)); have n1_ := Aside0.mk (below_step qB2 hb); clear HB; have HO119 := n0_; have HB := n1_; clear n0_ n1_; clear hb ho6))
  repeat (go_quiet (first | ((with_reducible refine gate_dst (N := 17) rfl ?_); refine Kd.R_lit (Kd.int .i64) _ 2 ?hg (N := 17) ?hd (xs := ([] : List Int)) (inner := []) (ok := fun _ => True) (okp := fun _ => True) ?hr ?hp (fun _ hk => hk) trivial (Below.refl _ _) (Nat.le_refl _) (by simp) ?_; (case hd => rfl); (case hg => rfl); (case hr => first | (go_simp; done) | (go_simp; rfl)); (case hp => exact (Reps.none _ _)); intro v118 w5 ho6 hb hg_ hnew_; clear hg_ hnew_; (first | rw [← Ny117.out] at ho6 | (simp only [Int.reduceToNat] at ho6; rw [← Ny117.out] at ho6)); have n0_ := Aside0.mk (Kd.R_lower ho6 (below_size qB2)); have n1_ := Aside0.mk (below_step qB2 hb); clear HB; have HO119 := n0_; have HB := n1_; clear n0_ n1_; clear hb ho6)); go_upto_block 0 with (first | ((with_reducible refine gate_dst (N := 17) rfl ?_); refine Kd.R_lit (Kd.int .i64) _ 2 ?hg (N := 17) ?hd (xs := ([] : List Int)) (inner := []) (ok := fun _ => True) (okp := fun _ => True) ?hr ?hp (fun _ hk => hk) trivial (Below.refl _ _) (Nat.le_refl _) (by simp) ?_; (case hd => rfl); (case hg => rfl); (case hr => first | (go_simp; done) | (go_simp; rfl)); (case hp => exact (Reps.none _ _)); intro v118 w5 ho6 hb hg_ hnew_; clear hg_ hnew_; (first | rw [← Ny117.out] at ho6 | (simp only [Int.reduceToNat] at ho6; rw [← Ny117.out] at ho6)); have n0_ := Aside0.mk (Kd.R_lower ho6 (below_size qB2)); have n1_ := Aside0.mk (below_step qB2 hb); clear HB; have HO119 := n0_; have HB := n1_; clear n0_ n1_; clear hb ho6)))
  (try simp only [Act.put, List.setIfInBounds_toArray, List.set_cons_zero, List.set_cons_succ])
  go_cut [8] (fun v8 wc => ∃ (kq : Nat) (x8_3 : List Int), Aside0 (spec_QuadricNumber.j1 kq a0 l1 a2 x8_3 = some (r1, r2)) ∧ Aside0 (kq ≤ k) ∧ Aside0 (Kd.R (Kd.int .i64) 2 wc w.heap.size (fun _ => True) v8 x8_3) ∧ Aside0 (Below w.heap.size w wc))
  case first =>
    have H := HC4.out
    clear HC4
    have H' := Aside0.mk H
    clear H
    go_wp2
    repeat (go_quiet (fail); try go_wp2)
    try simp only [Act.put, List.setIfInBounds_toArray, List.set_cons_succ, List.set_cons_zero]
    go_loopg [8, 9] k (fun kq v8 v9 w' => ∃ (x8_1 : List Int) (x9_1 : Int), v9 = .int .i64 x9_1 ∧ Aside0 (spec_QuadricNumber.l0 kq a0 l1 a2 x8_1 x9_1 = some (r1, r2)) ∧ Aside0 (kq ≤ k) ∧ Aside0 (Kd.R (Kd.int .i64) 2 w' w.heap.size (fun _ => True) v8 x8_1) ∧ Aside0 (Below w.heap.size w w'))
    case atStart => exact ⟨(y117), (0), qB11, H', ⟨Nat.le_refl _⟩, ⟨by (with_reducible repeat (first | apply Kd.R_alloc | apply Kd.R_drewN | apply Kd.R_drew)); exact HO119.out⟩, ⟨by repeat (first | (with_reducible first | exact HB.out | apply below_alloc | apply pw_below_drewN | apply below_drew1) | exact HB.out)⟩⟩
    case round =>
      clear H'
      try clear c1
      try clear p2
      obtain ⟨x8_1, x9_1, rfl, HA, HK1, HO_8, HB⟩ := hrel
      cases gk with
      | zero => exact absurd HA.out (by simp [spec_QuadricNumber.l0])
      | succ k1 =>
        have H := HA.out
        clear HA
        simp only [spec_QuadricNumber.l0] at H
        by_cases c7 : x9_1 < (l1.length : Int)
        · rw [if_pos c7] at H
          have c7b0 : decide (x9_1 < (l1.length : Int)) = true := decide_eq_true c7
          clear c7
          (first | rw [c7b0] | (simp only [i64_w, i32_w]; rw [c7b0]) | skip)
          by_cases c8 : x9_1 ≤ 4
          · rw [if_pos c8] at H
            have c8b0 : decide (x9_1 ≤ 4) = true := decide_eq_true c8
            clear c8
            by_cases c9 : x8_1.length < 17592186044416
            · rw [if_pos c9] at H
              have LMc9 := Aside0.mk c9
              clear c9
              obtain ⟨y120, hy120⟩ : ∃ y_ : List Int, y_ = (x8_1 ++ [2]) := ⟨_, rfl⟩
              replace H : (spec_QuadricNumber.l0 k1 a0 l1 a2 y120 (wrap64 (x9_1 + 1))) = some (r1, r2) := by first | (rw [hy120]; with_reducible exact H) | (have H2_ := (Option.bind_some _ _).symm.trans H; rw [hy120]; with_reducible exact H2_) | (have H2_ := (Option.bind_some _ _).symm.trans H; with_reducible exact H2_) | with_reducible exact H | (rw [hy120]; exact H) | exact H
              have Ny120 := Aside0.mk hy120
              clear hy120
              have H' := Aside0.mk H
              clear H
              go_wp2_with (first | ((with_reducible refine gate_builtin (b := .append) (xs := #[.tmp 28, .tmp 29]) rfl ?_); at_builtin; refine Kd.R_append (Kd.int .i64) (w0 := w) w.heap.size rfl (.tmp 28) (.tmp 29) 25 2 (.int .i64 0) 8 rfl Try.underlying25 info2 rfl (by decide) (by omega) u8 x8_1 2 [.int .i64 2] (fun _ => True) (fun _ => False) rfl rfl ?aP (fun _ hk => hk.elim) ?aF ?aO ?aB ?aS ?aL ?_; (case aP => exact rfl); (case aB => exact qB2); (case aF => exact (fun _ _ => trivial)); (case aO => exact qB8); (case aS => exact (below_size qB2)); (case aL => have := LMc9.out; omega); intro v121 w10 ho hb hg hat; rw [← Ny120.out] at ho; have n0_ := Aside0.mk (hb); have n1_ := Aside0.mk (ho); clear HB; clear HO_8; have HB := n0_; have HO122 := n1_; clear n0_ n1_; clear ho hb hg hat))
              repeat (go_quiet (first | ((with_reducible refine gate_builtin (b := .append) (xs := #[.tmp 28, .tmp 29]) rfl ?_); at_builtin; refine Kd.R_append (Kd.int .i64) (w0 := w) w.heap.size rfl (.tmp 28) (.tmp 29) 25 2 (.int .i64 0) 8 rfl Try.underlying25 info2 rfl (by decide) (by omega) u8 x8_1 2 [.int .i64 2] (fun _ => True) (fun _ => False) rfl rfl ?aP (fun _ hk => hk.elim) ?aF ?aO ?aB ?aS ?aL ?_; (case aP => exact rfl); (case aB => exact qB2); (case aF => exact (fun _ _ => trivial)); (case aO => exact qB8); (case aS => exact (below_size qB2)); (case aL => have := LMc9.out; omega); intro v121 w10 ho hb hg hat; rw [← Ny120.out] at ho; have n0_ := Aside0.mk (hb); have n1_ := Aside0.mk (ho); clear HB; clear HO_8; have HB := n0_; have HO122 := n1_; clear n0_ n1_; clear ho hb hg hat)); try go_wp2_with (first | ((with_reducible refine gate_builtin (b := .append) (xs := #[.tmp 28, .tmp 29]) rfl ?_); at_builtin; refine Kd.R_append (Kd.int .i64) (w0 := w) w.heap.size rfl (.tmp 28) (.tmp 29) 25 2 (.int .i64 0) 8 rfl Try.underlying25 info2 rfl (by decide) (by omega) u8 x8_1 2 [.int .i64 2] (fun _ => True) (fun _ => False) rfl rfl ?aP (fun _ hk => hk.elim) ?aF ?aO ?aB ?aS ?aL ?_; (case aP => exact rfl); (case aB => exact qB2); (case aF => exact (fun _ _ => trivial)); (case aO => exact qB8); (case aS => exact (below_size qB2)); (case aL => have := LMc9.out; omega); intro v121 w10 ho hb hg hat; rw [← Ny120.out] at ho; have n0_ := Aside0.mk (hb); have n1_ := Aside0.mk (ho); clear HB; clear HO_8; have HB := n0_; have HO122 := n1_; clear n0_ n1_; clear ho hb hg hat)))
              (first | go_roundg k1 | ((try simp only [add_plain] at *); go_roundg k1))
              case measure => have := HK1.out; omega
              case rel => exact ⟨(y120), (wrap64 (x9_1 + 1)), qB11, H', ⟨by have := HK1.out; omega⟩, ⟨by (with_reducible repeat (first | apply Kd.R_alloc | apply Kd.R_drewN | apply Kd.R_drew)); exact HO122.out⟩, ⟨by repeat (first | (with_reducible first | exact HB.out | apply below_alloc | apply pw_below_drewN | apply below_drew1) | exact HB.out)⟩⟩
            · rw [if_neg c9] at H
              exact absurd H (by simp)
          · rw [if_neg c8] at H
            have c8b0 : decide (x9_1 ≤ 4) = false := decide_eq_false c8
            clear c8
            have H' := Aside0.mk H
            clear H
            go_wp2
            repeat (go_quiet (fail); try go_wp2)
            go_meet
            case rel => exact ⟨_, (x8_1), H', ⟨by have := HK1.out; first | omega | exact Nat.le_refl _⟩, ⟨by (with_reducible repeat (first | apply Kd.R_alloc | apply Kd.R_drewN | apply Kd.R_drew)); exact HO_8.out⟩, ⟨by repeat (first | (with_reducible first | exact HB.out | apply below_alloc | apply pw_below_drewN | apply below_drew1) | exact HB.out)⟩⟩
        · rw [if_neg c7] at H
          have c7b0 : decide (x9_1 < (l1.length : Int)) = false := decide_eq_false c7
          clear c7
          (first | rw [c7b0] | (simp only [i64_w, i32_w]; rw [c7b0]) | skip)
          have H' := Aside0.mk H
          clear H
          go_wp2
          repeat (go_quiet (fail); try go_wp2)
          go_meet
          case rel => exact ⟨_, (x8_1), H', ⟨by have := HK1.out; first | omega | exact Nat.le_refl _⟩, ⟨by (with_reducible repeat (first | apply Kd.R_alloc | apply Kd.R_drewN | apply Kd.R_drew)); exact HO_8.out⟩, ⟨by repeat (first | (with_reducible first | exact HB.out | apply below_alloc | apply pw_below_drewN | apply below_drew1) | exact HB.out)⟩⟩
  case rest =>
    clear HC4
    try clear c1
    try clear p2
    try clear p6
    try clear c7
    try clear c7b0
    try clear c8
    try clear c8b0
    try clear c9
    try clear p2
    obtain ⟨kq, x8_3, HA, HJ3, HO_8, HB⟩ := hcut
    cases kq with
    | zero => exact absurd HA.out (by simp [spec_QuadricNumber.j1])
    | succ kj3 =>
      have H := HA.out
      clear HA
      simp only [spec_QuadricNumber.j1] at H
      replace H := Option.bind_eq_some_iff.mp H
      obtain ⟨t123, A110, H⟩ := H
      replace H : (if t123 = 0 then (spec_QuadricNumber.l1 kj3 a0 l1 a2 (l1.length : Int) 1 1 0) else (some (0, t123))) = some (r1, r2) := H
      have A11 := Aside0.mk A110
      clear A110
      by_cases c12 : t123 = 0
      · rw [if_pos c12] at H
        have c12b0 : (t123 == 0) = true := beq_iff_eq.mpr c12
        have c12b1 : (t123 != 0) = false := bne_eq_false_iff_eq.mpr c12
        clear c12
        have H' := Aside0.mk H
        clear H
        obtain ⟨Ao13, co13, eo13⟩ := Kd.R_slice HO_8.out
        subst eo13
        go_wp2_with (first | (go_at_call 40; (with_reducible refine (spec_l08Given.calls kj3 a0 _ _ l1 _ _ x8_3 a2 t123 _ ?side1 ?side2 ?side3 ?side4 A11.out).mono ?_); (case side1 => repeat (first | exact (Kd.C_below HR1.out HB.out) | (with_reducible refine Kd.C_alloc ?_ _) | (with_reducible refine Kd.C_drewN ?_ _) | (with_reducible refine Kd.C_drew ?_))); (case side2 => exact HC1.out); (case side3 => repeat (first | exact (Kd.R_reads' HO_8.out).2.2 | (with_reducible refine Kd.C_alloc ?_ _) | (with_reducible refine Kd.C_drewN ?_ _) | (with_reducible refine Kd.C_drew ?_))); (case side4 => exact (Kd.R_reads' HO_8.out).2.1); rintro e w' ⟨rfl, ⟨nd, rfl⟩⟩; (try first | exact ⟨rfl, _, World.drewN_drewN _ _ _⟩ | exact ⟨rfl, _, Eq.trans (World.drewN_drewN _ _ _) (congrArg (World.drewN _) (Nat.add_assoc _ _ _))⟩)))
        repeat (go_quiet (first | (go_at_call 40; (with_reducible refine (spec_l08Given.calls kj3 a0 _ _ l1 _ _ x8_3 a2 t123 _ ?side1 ?side2 ?side3 ?side4 A11.out).mono ?_); (case side1 => repeat (first | exact (Kd.C_below HR1.out HB.out) | (with_reducible refine Kd.C_alloc ?_ _) | (with_reducible refine Kd.C_drewN ?_ _) | (with_reducible refine Kd.C_drew ?_))); (case side2 => exact HC1.out); (case side3 => repeat (first | exact (Kd.R_reads' HO_8.out).2.2 | (with_reducible refine Kd.C_alloc ?_ _) | (with_reducible refine Kd.C_drewN ?_ _) | (with_reducible refine Kd.C_drew ?_))); (case side4 => exact (Kd.R_reads' HO_8.out).2.1); rintro e w' ⟨rfl, ⟨nd, rfl⟩⟩; (try first | exact ⟨rfl, _, World.drewN_drewN _ _ _⟩ | exact ⟨rfl, _, Eq.trans (World.drewN_drewN _ _ _) (congrArg (World.drewN _) (Nat.add_assoc _ _ _))⟩))); try go_wp2_with (first | (go_at_call 40; (with_reducible refine (spec_l08Given.calls kj3 a0 _ _ l1 _ _ x8_3 a2 t123 _ ?side1 ?side2 ?side3 ?side4 A11.out).mono ?_); (case side1 => repeat (first | exact (Kd.C_below HR1.out HB.out) | (with_reducible refine Kd.C_alloc ?_ _) | (with_reducible refine Kd.C_drewN ?_ _) | (with_reducible refine Kd.C_drew ?_))); (case side2 => exact HC1.out); (case side3 => repeat (first | exact (Kd.R_reads' HO_8.out).2.2 | (with_reducible refine Kd.C_alloc ?_ _) | (with_reducible refine Kd.C_drewN ?_ _) | (with_reducible refine Kd.C_drew ?_))); (case side4 => exact (Kd.R_reads' HO_8.out).2.1); rintro e w' ⟨rfl, ⟨nd, rfl⟩⟩; (try first | exact ⟨rfl, _, World.drewN_drewN _ _ _⟩ | exact ⟨rfl, _, Eq.trans (World.drewN_drewN _ _ _) (congrArg (World.drewN _) (Nat.add_assoc _ _ _))⟩))))
        try simp only [Act.put, List.setIfInBounds_toArray, List.set_cons_succ, List.set_cons_zero]
        go_loopg [12, 14] kj3 (fun kq v12 v14 w' => ∃ (x12_2 : Int) (x14_2 : Int), v12 = .int .i64 x12_2 ∧ v14 = .int .i64 x14_2 ∧ Aside0 (spec_QuadricNumber.l1 kq a0 l1 a2 (l1.length : Int) x12_2 1 x14_2 = some (r1, r2)) ∧ Aside0 (kq ≤ kj3) ∧ Aside0 (Below w.heap.size w w'))
        case atStart => exact ⟨(1), (0), qB11, qB11, H', ⟨Nat.le_refl _⟩, ⟨by repeat (first | (with_reducible first | exact HB.out | apply below_alloc | apply pw_below_drewN | apply below_drew1) | exact HB.out)⟩⟩
        case round =>
          clear H'
          try clear c1
          try clear p2
          try clear p6
          try clear c7
          try clear c7b0
          try clear c8
          try clear c8b0
          try clear c9
          try clear c12
          try clear c12b0
          try clear c12b1
          try clear p2
          try clear p6
          obtain ⟨x12_2, x14_2, rfl, rfl, HA, HK2, HB⟩ := hrel
          cases gk with
          | zero => exact absurd HA.out (by simp [spec_QuadricNumber.l1])
          | succ k2 =>
            have H := HA.out
            clear HA
            simp only [spec_QuadricNumber.l1] at H
            by_cases c14 : x14_2 < (l1.length : Int)
            · rw [if_pos c14] at H
              have c14b0 : decide (x14_2 < (l1.length : Int)) = true := decide_eq_true c14
              clear c14
              by_cases c15 : 0 ≤ x14_2
              · rw [if_pos c15] at H
                have c15b0 : decide (0 ≤ x14_2) = true := decide_eq_true c15
                clear c15
                by_cases c16 : x14_2 < (l1.length : Int)
                · rw [if_pos c16] at H
                  have c16b0 : decide (x14_2 < (l1.length : Int)) = true := decide_eq_true c16
                  clear c16
                  by_cases c17 : a0 = 0
                  · rw [if_pos c17] at H
                    exact absurd H (by simp)
                  · rw [if_neg c17] at H
                    have c17b0 : (a0 == 0) = false := beq_eq_false_iff_ne.mpr c17
                    have c17b1 : (a0 != 0) = true := bne_iff_ne.mpr c17
                    have H' := Aside0.mk H
                    clear H
                    have p124 : 0 ≤ (x14_2 : Int) := of_decide_eq_true qB10
                    have q124 : x14_2 < (l1.length : Int) := of_decide_eq_true qB10
                    obtain ⟨ad124, e124, hx124_0⟩ := Kd.at_int HR1.out x14_2 p124 q124
                    cases e124
                    replace hx124_0 := (HB.out.cell (World.block_lt_of_cell? w _ hx124_0)).trans hx124_0
                    replace p124 := eq_true p124
                    replace q124 := eq_true q124
                    go_wp2
                    repeat (go_quiet (fail); try go_wp2)
                    (first | go_roundg k2 | ((try simp only [add_plain] at *); go_roundg k2))
                    case measure => have := HJ3.out; have := HK2.out; omega
                    case rel => exact ⟨(Int.tmod (wrap64 (x12_2 * (rd l1 x14_2))) a0), (wrap64 (x14_2 + 1)), qB11, qB11, H', ⟨by have := HJ3.out; have := HK2.out; omega⟩, ⟨by repeat (first | (with_reducible first | exact HB.out | apply below_alloc | apply pw_below_drewN | apply below_drew1) | exact HB.out)⟩⟩
                · rw [if_neg c16] at H
                  exact absurd H (by simp)
              · rw [if_neg c15] at H
                exact absurd H (by simp)
            · rw [if_neg c14] at H
              have c14b0 : decide (x14_2 < (l1.length : Int)) = false := decide_eq_false c14
              clear c14
              have HC18 := Aside0.mk H
              clear H
              go_upto_if 57 with (fail)
              repeat (go_quiet (fail); go_upto_if 57 with (fail))
              go_cut [13] (fun v13 wc => ∃ (kq : Nat) (x13_17 : Int), v13 = .int .i64 x13_17 ∧ Aside0 (spec_QuadricNumber.j3 kq a0 a2 (l1.length : Int) x12_2 x13_17 = some (r1, r2)) ∧ Aside0 (kq ≤ k2) ∧ Aside0 (Below w.heap.size w wc))
              case first =>
                have H := HC18.out
                clear HC18
                by_cases c19 : (Int.tmod (wrap64 (Int.tdiv (l1.length : Int) 2)) 2) = 1
                · rw [if_pos c19] at H
                  have c19b0 : ((Int.tmod (wrap64 (Int.tdiv (l1.length : Int) 2)) 2) == 1) = true := beq_iff_eq.mpr c19
                  have c19b0d : ((Int.tmod (wrap64 (((l1.length : Int) / 2))) 2) == 1) = true := by have h_ := c19b0; rw [Int.tdiv_eq_ediv_of_nonneg (Int.natCast_nonneg _)] at h_; exact h_
                  have c19b1 : ((Int.tmod (wrap64 (Int.tdiv (l1.length : Int) 2)) 2) != 1) = false := bne_eq_false_iff_eq.mpr c19
                  have c19b1d : ((Int.tmod (wrap64 (((l1.length : Int) / 2))) 2) != 1) = false := by have h_ := c19b1; rw [Int.tdiv_eq_ediv_of_nonneg (Int.natCast_nonneg _)] at h_; exact h_
                  clear c19
                  (first | rw [c19b0] | (simp only [i64_w, i32_w]; rw [c19b0]) | skip)
                  have H' := Aside0.mk H
                  clear H
                  go_wp2
                  repeat (go_quiet (fail); try go_wp2)
                  go_meet
                  case rel => exact ⟨_, ((-1)), qB11, H', ⟨by have := HJ3.out; have := HK2.out; first | omega | exact Nat.le_refl _⟩, ⟨by repeat (first | (with_reducible first | exact HB.out | apply below_alloc | apply pw_below_drewN | apply below_drew1) | exact HB.out)⟩⟩
                · rw [if_neg c19] at H
                  have c19b0 : ((Int.tmod (wrap64 (Int.tdiv (l1.length : Int) 2)) 2) == 1) = false := beq_eq_false_iff_ne.mpr c19
                  have c19b0d : ((Int.tmod (wrap64 (((l1.length : Int) / 2))) 2) == 1) = false := by have h_ := c19b0; rw [Int.tdiv_eq_ediv_of_nonneg (Int.natCast_nonneg _)] at h_; exact h_
                  have c19b1 : ((Int.tmod (wrap64 (Int.tdiv (l1.length : Int) 2)) 2) != 1) = true := bne_iff_ne.mpr c19
                  have c19b1d : ((Int.tmod (wrap64 (((l1.length : Int) / 2))) 2) != 1) = true := by have h_ := c19b1; rw [Int.tdiv_eq_ediv_of_nonneg (Int.natCast_nonneg _)] at h_; exact h_
                  (first | rw [c19b0] | (simp only [i64_w, i32_w]; rw [c19b0]) | skip)
                  have H' := Aside0.mk H
                  clear H
                  go_wp2
                  repeat (go_quiet (fail); try go_wp2)
                  go_meet
                  case rel => exact ⟨_, (1), qB11, H', ⟨by have := HJ3.out; have := HK2.out; first | omega | exact Nat.le_refl _⟩, ⟨by repeat (first | (with_reducible first | exact HB.out | apply below_alloc | apply pw_below_drewN | apply below_drew1) | exact HB.out)⟩⟩
              case rest =>
                clear HC18
                try clear c1
                try clear p1
                try clear q1
                try clear hx1
                try clear p2
                try clear p6
                try clear c7
                try clear c7b0
                try clear c8
                try clear c8b0
                try clear c9
                try clear c12
                try clear c12b0
                try clear c12b1
                try clear p12
                try clear q12
                try clear hx12
                try clear c14
                try clear c14b0
                try clear c15
                try clear c15b0
                try clear c16
                try clear c16b0
                try clear c17
                try clear c17b0
                try clear c17b1
                try clear c19
                try clear c19b0
                try clear c19b1
                try clear hx124_0
                try clear p124
                try clear p2
                try clear p6
                try clear q124
                obtain ⟨kq, x13_17, rfl, HA, HJ17, HB⟩ := hcut
                cases kq with
                | zero => exact absurd HA.out (by simp [spec_QuadricNumber.j3])
                | succ kj17 =>
                  have H := HA.out
                  clear HA
                  simp only [spec_QuadricNumber.j3] at H
                  obtain ⟨y125, hy125⟩ : ∃ y_ : List Int, y_ = (([1, a0, wrap64 (a0 * a0), wrap64 ((wrap64 (a0 * a0)) * a0)] : List Int)) := ⟨_, rfl⟩
                  replace H : (if (Int.tmod (l1.length : Int) 2) = 1 then (if 0 ≤ (wrap64 ((l1.length : Int) - 1)) then (if (wrap64 ((l1.length : Int) - 1)) < (y125.length : Int) then (if 0 ≤ (wrap64 (Int.tdiv (l1.length : Int) 2)) then (if (wrap64 (Int.tdiv (l1.length : Int) 2)) < (y125.length : Int) then ((spec_l08Square.f kj17 a0 (wrap64 ((wrap64 (x13_17 * x12_2)) * a2))).bind fun t130 => (some (wrap64 ((rd y125 (wrap64 ((l1.length : Int) - 1))) + (wrap64 ((rd y125 (wrap64 (Int.tdiv (l1.length : Int) 2))) * t130))), 0))) else (none)) else (none)) else (none)) else (none)) else (if a2 = 0 then (if 0 ≤ (wrap64 ((l1.length : Int) - 1)) then (if (wrap64 ((l1.length : Int) - 1)) < (y125.length : Int) then (if 0 ≤ (wrap64 ((wrap64 (Int.tdiv (l1.length : Int) 2)) - 1)) then (if (wrap64 ((wrap64 (Int.tdiv (l1.length : Int) 2)) - 1)) < (y125.length : Int) then ((spec_l08Square.f kj17 a0 (wrap64 (x13_17 * x12_2))).bind fun t133 => (some (wrap64 ((rd y125 (wrap64 ((l1.length : Int) - 1))) + (wrap64 ((wrap64 ((wrap64 (a0 - 1)) * (rd y125 (wrap64 ((wrap64 (Int.tdiv (l1.length : Int) 2)) - 1))))) * t133))), 0))) else (none)) else (none)) else (none)) else (none)) else (if 0 ≤ (wrap64 ((l1.length : Int) - 1)) then (if (wrap64 ((l1.length : Int) - 1)) < (y125.length : Int) then (if 0 ≤ (wrap64 ((wrap64 (Int.tdiv (l1.length : Int) 2)) - 1)) then (if (wrap64 ((wrap64 (Int.tdiv (l1.length : Int) 2)) - 1)) < (y125.length : Int) then ((spec_l08Square.f kj17 a0 (wrap64 (x13_17 * x12_2))).bind fun t136 => (some (wrap64 ((rd y125 (wrap64 ((l1.length : Int) - 1))) + (wrap64 ((wrap64 ((-1) * (rd y125 (wrap64 ((wrap64 (Int.tdiv (l1.length : Int) 2)) - 1))))) * t136))), 0))) else (none)) else (none)) else (none)) else (none)))) = some (r1, r2) := by first | (rw [hy125]; with_reducible exact H) | (have H2_ := (Option.bind_some _ _).symm.trans H; rw [hy125]; with_reducible exact H2_) | (have H2_ := (Option.bind_some _ _).symm.trans H; with_reducible exact H2_) | with_reducible exact H | (rw [hy125]; exact H) | exact H
                  have Ny125 := Aside0.mk hy125
                  clear hy125
                  by_cases c20 : (Int.tmod (l1.length : Int) 2) = 1
                  · rw [if_pos c20] at H
                    have c20b0 : ((Int.tmod (l1.length : Int) 2) == 1) = true := beq_iff_eq.mpr c20
                    have c20b0d : ((((l1.length : Int) % 2)) == 1) = true := by have h_ := c20b0; rw [Int.tmod_eq_emod_of_nonneg (Int.natCast_nonneg _)] at h_; exact h_
                    have c20b1 : ((Int.tmod (l1.length : Int) 2) != 1) = false := bne_eq_false_iff_eq.mpr c20
                    have c20b1d : ((((l1.length : Int) % 2)) != 1) = false := by have h_ := c20b1; rw [Int.tmod_eq_emod_of_nonneg (Int.natCast_nonneg _)] at h_; exact h_
                    clear c20
                    obtain ⟨ji21, hji21⟩ : ∃ j_ : Int, (wrap64 ((l1.length : Int) - 1)) = j_ := ⟨_, rfl⟩
                    replace H : (if 0 ≤ (ji21) then (if (ji21) < (y125.length : Int) then (if 0 ≤ (wrap64 (Int.tdiv (l1.length : Int) 2)) then (if (wrap64 (Int.tdiv (l1.length : Int) 2)) < (y125.length : Int) then ((spec_l08Square.f kj17 a0 (wrap64 ((wrap64 (x13_17 * x12_2)) * a2))).bind fun t130 => (some (wrap64 ((rd y125 (ji21)) + (wrap64 ((rd y125 (wrap64 (Int.tdiv (l1.length : Int) 2))) * t130))), 0))) else (none)) else (none)) else (none)) else (none)) = some (r1, r2) := by first | (rw [hji21] at H; exact H) | (simp only [hji21] at H ⊢; exact H)
                    have hji21w : (IntKind.i64.wrap ((l1.length : Int) - 1)) = ji21 := (i64_w _).trans hji21
                    by_cases c22 : 0 ≤ (ji21)
                    · rw [if_pos c22] at H
                      have c22b0 : decide (0 ≤ (ji21)) = true := decide_eq_true c22
                      clear c22
                      by_cases c23 : (ji21) < (y125.length : Int)
                      · rw [if_pos c23] at H
                        have c23b0 : decide ((ji21) < (y125.length : Int)) = true := decide_eq_true c23
                        clear c23
                        obtain ⟨ji24, hji24⟩ : ∃ j_ : Int, (wrap64 (Int.tdiv (l1.length : Int) 2)) = j_ := ⟨_, rfl⟩
                        have hji24d : (wrap64 (((l1.length : Int) / 2))) = ji24 := by have h_ := hji24; rw [Int.tdiv_eq_ediv_of_nonneg (Int.natCast_nonneg _)] at h_; exact h_
                        replace H : (if 0 ≤ (ji24) then (if (ji24) < (y125.length : Int) then ((spec_l08Square.f kj17 a0 (wrap64 ((wrap64 (x13_17 * x12_2)) * a2))).bind fun t130 => (some (wrap64 ((rd y125 (ji21)) + (wrap64 ((rd y125 (ji24)) * t130))), 0))) else (none)) else (none)) = some (r1, r2) := by first | (rw [hji24] at H; exact H) | (simp only [hji24] at H ⊢; exact H)
                        have hji24w : (IntKind.i64.wrap (Int.tdiv (l1.length : Int) 2)) = ji24 := (i64_w _).trans hji24
                        have hji24wd : (IntKind.i64.wrap (((l1.length : Int) / 2))) = ji24 := by have h_ := hji24w; rw [Int.tdiv_eq_ediv_of_nonneg (Int.natCast_nonneg _)] at h_; exact h_
                        by_cases c25 : 0 ≤ (ji24)
                        · rw [if_pos c25] at H
                          have c25b0 : decide (0 ≤ (ji24)) = true := decide_eq_true c25
                          clear c25
                          by_cases c26 : (ji24) < (y125.length : Int)
                          · rw [if_pos c26] at H
                            have c26b0 : decide ((ji24) < (y125.length : Int)) = true := decide_eq_true c26
                            clear c26
                            replace H := Option.bind_eq_some_iff.mp H
                            obtain ⟨t130, A270, H⟩ := H
                            replace H : (some (wrap64 ((rd y125 (ji21)) + (wrap64 ((rd y125 (ji24)) * t130))), 0)) = some (r1, r2) := H
                            have A27 := Aside0.mk A270
                            clear A270
                            simp only [Option.some.injEq, Prod.mk.injEq] at H
                            obtain ⟨rfl, rfl⟩ := H
                            go_wp2_with (first | ((with_reducible refine gate_dst (N := 67) rfl ?_); refine Kd.R_lit (Kd.int .i64) _ 2 ?hg (N := 67) ?hd (xs := ([1, a0, wrap64 (a0 * a0), wrap64 ((wrap64 (a0 * a0)) * a0)] : List Int)) (inner := [.int .i64 1, .int .i64 a0, .int .i64 (wrap64 (a0 * a0)), .int .i64 (wrap64 ((wrap64 (a0 * a0)) * a0))]) (ok := fun _ => True) (okp := fun _ => True) ?hr ?hp (fun _ hk => hk) trivial (Below.refl _ _) (Nat.le_refl _) (by simp) ?_; (case hd => rfl); (case hg => rfl); (case hr => first | (go_simp; done) | (go_simp; rfl)); (case hp => exact (Reps.one (show Kd.M (Kd.int .i64) _ _ _ 1 [.int .i64 1] from rfl) (Reps.one (show Kd.M (Kd.int .i64) _ _ _ a0 [.int .i64 a0] from rfl) (Reps.one (show Kd.M (Kd.int .i64) _ _ _ (wrap64 (a0 * a0)) [.int .i64 (wrap64 (a0 * a0))] from rfl) (Reps.one (show Kd.M (Kd.int .i64) _ _ _ (wrap64 ((wrap64 (a0 * a0)) * a0)) [.int .i64 (wrap64 ((wrap64 (a0 * a0)) * a0))] from rfl) (Reps.none _ _)))))); intro v126 w28 ho29 hb hg_ hnew_; clear hg_ hnew_; (first | rw [← Ny125.out] at ho29 | (simp only [Int.reduceToNat] at ho29; rw [← Ny125.out] at ho29)); have n0_ := Aside0.mk (Kd.R_lower ho29 (below_size qB2)); have n1_ := Aside0.mk (below_step qB2 hb); clear HB; have HO127 := n0_; have HB := n1_; clear n0_ n1_; clear hb ho29; obtain ⟨Ao30, co30, eo30⟩ := Kd.R_slice HO127.out; subst eo30; have p128 : 0 ≤ ((ji21) : Int) := of_decide_eq_true qB10; have q128 : (ji21) < (y125.length : Int) := of_decide_eq_true qB10; obtain ⟨ad128, e128, hx128_0⟩ := Kd.at_int (Kd.R_reads' HO127.out).2.2 (ji21) p128 q128; cases e128; replace p128 := eq_true p128; replace q128 := eq_true q128; have p129 : 0 ≤ ((ji24) : Int) := of_decide_eq_true qB10; have q129 : (ji24) < (y125.length : Int) := of_decide_eq_true qB10; obtain ⟨ad129, e129, hx129_0⟩ := Kd.at_int (Kd.R_reads' HO127.out).2.2 (ji24) p129 q129; obtain rfl : ad128 = ad129 := (by injection e129); replace p129 := eq_true p129; replace q129 := eq_true q129) | (go_at_call 41; (with_reducible refine (spec_l08Square.calls kj17 a0 (wrap64 ((wrap64 (x13_17 * x12_2)) * a2)) t130 _ A27.out).mono ?_); rintro e w' ⟨rfl, ⟨nd, rfl⟩⟩; (try first | exact ⟨rfl, _, World.drewN_drewN _ _ _⟩ | exact ⟨rfl, _, Eq.trans (World.drewN_drewN _ _ _) (congrArg (World.drewN _) (Nat.add_assoc _ _ _))⟩)))
                            repeat (go_quiet (first | ((with_reducible refine gate_dst (N := 67) rfl ?_); refine Kd.R_lit (Kd.int .i64) _ 2 ?hg (N := 67) ?hd (xs := ([1, a0, wrap64 (a0 * a0), wrap64 ((wrap64 (a0 * a0)) * a0)] : List Int)) (inner := [.int .i64 1, .int .i64 a0, .int .i64 (wrap64 (a0 * a0)), .int .i64 (wrap64 ((wrap64 (a0 * a0)) * a0))]) (ok := fun _ => True) (okp := fun _ => True) ?hr ?hp (fun _ hk => hk) trivial (Below.refl _ _) (Nat.le_refl _) (by simp) ?_; (case hd => rfl); (case hg => rfl); (case hr => first | (go_simp; done) | (go_simp; rfl)); (case hp => exact (Reps.one (show Kd.M (Kd.int .i64) _ _ _ 1 [.int .i64 1] from rfl) (Reps.one (show Kd.M (Kd.int .i64) _ _ _ a0 [.int .i64 a0] from rfl) (Reps.one (show Kd.M (Kd.int .i64) _ _ _ (wrap64 (a0 * a0)) [.int .i64 (wrap64 (a0 * a0))] from rfl) (Reps.one (show Kd.M (Kd.int .i64) _ _ _ (wrap64 ((wrap64 (a0 * a0)) * a0)) [.int .i64 (wrap64 ((wrap64 (a0 * a0)) * a0))] from rfl) (Reps.none _ _)))))); intro v126 w28 ho29 hb hg_ hnew_; clear hg_ hnew_; (first | rw [← Ny125.out] at ho29 | (simp only [Int.reduceToNat] at ho29; rw [← Ny125.out] at ho29)); have n0_ := Aside0.mk (Kd.R_lower ho29 (below_size qB2)); have n1_ := Aside0.mk (below_step qB2 hb); clear HB; have HO127 := n0_; have HB := n1_; clear n0_ n1_; clear hb ho29; obtain ⟨Ao30, co30, eo30⟩ := Kd.R_slice HO127.out; subst eo30; have p128 : 0 ≤ ((ji21) : Int) := of_decide_eq_true qB10; have q128 : (ji21) < (y125.length : Int) := of_decide_eq_true qB10; obtain ⟨ad128, e128, hx128_0⟩ := Kd.at_int (Kd.R_reads' HO127.out).2.2 (ji21) p128 q128; cases e128; replace p128 := eq_true p128; replace q128 := eq_true q128; have p129 : 0 ≤ ((ji24) : Int) := of_decide_eq_true qB10; have q129 : (ji24) < (y125.length : Int) := of_decide_eq_true qB10; obtain ⟨ad129, e129, hx129_0⟩ := Kd.at_int (Kd.R_reads' HO127.out).2.2 (ji24) p129 q129; obtain rfl : ad128 = ad129 := (by injection e129); replace p129 := eq_true p129; replace q129 := eq_true q129) | (go_at_call 41; (with_reducible refine (spec_l08Square.calls kj17 a0 (wrap64 ((wrap64 (x13_17 * x12_2)) * a2)) t130 _ A27.out).mono ?_); rintro e w' ⟨rfl, ⟨nd, rfl⟩⟩; (try first | exact ⟨rfl, _, World.drewN_drewN _ _ _⟩ | exact ⟨rfl, _, Eq.trans (World.drewN_drewN _ _ _) (congrArg (World.drewN _) (Nat.add_assoc _ _ _))⟩))); try go_wp2_with (first | ((with_reducible refine gate_dst (N := 67) rfl ?_); refine Kd.R_lit (Kd.int .i64) _ 2 ?hg (N := 67) ?hd (xs := ([1, a0, wrap64 (a0 * a0), wrap64 ((wrap64 (a0 * a0)) * a0)] : List Int)) (inner := [.int .i64 1, .int .i64 a0, .int .i64 (wrap64 (a0 * a0)), .int .i64 (wrap64 ((wrap64 (a0 * a0)) * a0))]) (ok := fun _ => True) (okp := fun _ => True) ?hr ?hp (fun _ hk => hk) trivial (Below.refl _ _) (Nat.le_refl _) (by simp) ?_; (case hd => rfl); (case hg => rfl); (case hr => first | (go_simp; done) | (go_simp; rfl)); (case hp => exact (Reps.one (show Kd.M (Kd.int .i64) _ _ _ 1 [.int .i64 1] from rfl) (Reps.one (show Kd.M (Kd.int .i64) _ _ _ a0 [.int .i64 a0] from rfl) (Reps.one (show Kd.M (Kd.int .i64) _ _ _ (wrap64 (a0 * a0)) [.int .i64 (wrap64 (a0 * a0))] from rfl) (Reps.one (show Kd.M (Kd.int .i64) _ _ _ (wrap64 ((wrap64 (a0 * a0)) * a0)) [.int .i64 (wrap64 ((wrap64 (a0 * a0)) * a0))] from rfl) (Reps.none _ _)))))); intro v126 w28 ho29 hb hg_ hnew_; clear hg_ hnew_; (first | rw [← Ny125.out] at ho29 | (simp only [Int.reduceToNat] at ho29; rw [← Ny125.out] at ho29)); have n0_ := Aside0.mk (Kd.R_lower ho29 (below_size qB2)); have n1_ := Aside0.mk (below_step qB2 hb); clear HB; have HO127 := n0_; have HB := n1_; clear n0_ n1_; clear hb ho29; obtain ⟨Ao30, co30, eo30⟩ := Kd.R_slice HO127.out; subst eo30; have p128 : 0 ≤ ((ji21) : Int) := of_decide_eq_true qB10; have q128 : (ji21) < (y125.length : Int) := of_decide_eq_true qB10; obtain ⟨ad128, e128, hx128_0⟩ := Kd.at_int (Kd.R_reads' HO127.out).2.2 (ji21) p128 q128; cases e128; replace p128 := eq_true p128; replace q128 := eq_true q128; have p129 : 0 ≤ ((ji24) : Int) := of_decide_eq_true qB10; have q129 : (ji24) < (y125.length : Int) := of_decide_eq_true qB10; obtain ⟨ad129, e129, hx129_0⟩ := Kd.at_int (Kd.R_reads' HO127.out).2.2 (ji24) p129 q129; obtain rfl : ad128 = ad129 := (by injection e129); replace p129 := eq_true p129; replace q129 := eq_true q129) | (go_at_call 41; (with_reducible refine (spec_l08Square.calls kj17 a0 (wrap64 ((wrap64 (x13_17 * x12_2)) * a2)) t130 _ A27.out).mono ?_); rintro e w' ⟨rfl, ⟨nd, rfl⟩⟩; (try first | exact ⟨rfl, _, World.drewN_drewN _ _ _⟩ | exact ⟨rfl, _, Eq.trans (World.drewN_drewN _ _ _) (congrArg (World.drewN _) (Nat.add_assoc _ _ _))⟩))))
                            go_ret2
                            exact ⟨by first | rfl | (simp [errW_none, errW_some] <;> rfl) | (simp only [← hji21, ← hji24]; first | rfl | (simp [errW_none, errW_some] <;> rfl)) | (simp [*, errW_none, errW_some] <;> rfl), by repeat (first | (with_reducible first | exact HB.out | apply below_alloc | apply pw_below_drewN | apply below_drew1) | exact HB.out)⟩
                          · rw [if_neg c26] at H
                            exact absurd H (by simp)
                        · rw [if_neg c25] at H
                          exact absurd H (by simp)
                      · rw [if_neg c23] at H
                        exact absurd H (by simp)
                    · rw [if_neg c22] at H
                      exact absurd H (by simp)
                  · rw [if_neg c20] at H
                    have c20b0 : ((Int.tmod (l1.length : Int) 2) == 1) = false := beq_eq_false_iff_ne.mpr c20
                    have c20b0d : ((((l1.length : Int) % 2)) == 1) = false := by have h_ := c20b0; rw [Int.tmod_eq_emod_of_nonneg (Int.natCast_nonneg _)] at h_; exact h_
                    have c20b1 : ((Int.tmod (l1.length : Int) 2) != 1) = true := bne_iff_ne.mpr c20
                    have c20b1d : ((((l1.length : Int) % 2)) != 1) = true := by have h_ := c20b1; rw [Int.tmod_eq_emod_of_nonneg (Int.natCast_nonneg _)] at h_; exact h_
                    by_cases c31 : a2 = 0
                    · rw [if_pos c31] at H
                      have c31b0 : (a2 == 0) = true := beq_iff_eq.mpr c31
                      have c31b1 : (a2 != 0) = false := bne_eq_false_iff_eq.mpr c31
                      clear c31
                      obtain ⟨ji32, hji32⟩ : ∃ j_ : Int, (wrap64 ((l1.length : Int) - 1)) = j_ := ⟨_, rfl⟩
                      replace H : (if 0 ≤ (ji32) then (if (ji32) < (y125.length : Int) then (if 0 ≤ (wrap64 ((wrap64 (Int.tdiv (l1.length : Int) 2)) - 1)) then (if (wrap64 ((wrap64 (Int.tdiv (l1.length : Int) 2)) - 1)) < (y125.length : Int) then ((spec_l08Square.f kj17 a0 (wrap64 (x13_17 * x12_2))).bind fun t133 => (some (wrap64 ((rd y125 (ji32)) + (wrap64 ((wrap64 ((wrap64 (a0 - 1)) * (rd y125 (wrap64 ((wrap64 (Int.tdiv (l1.length : Int) 2)) - 1))))) * t133))), 0))) else (none)) else (none)) else (none)) else (none)) = some (r1, r2) := by first | (rw [hji32] at H; exact H) | (simp only [hji32] at H ⊢; exact H)
                      have hji32w : (IntKind.i64.wrap ((l1.length : Int) - 1)) = ji32 := (i64_w _).trans hji32
                      by_cases c33 : 0 ≤ (ji32)
                      · rw [if_pos c33] at H
                        have c33b0 : decide (0 ≤ (ji32)) = true := decide_eq_true c33
                        clear c33
                        by_cases c34 : (ji32) < (y125.length : Int)
                        · rw [if_pos c34] at H
                          have c34b0 : decide ((ji32) < (y125.length : Int)) = true := decide_eq_true c34
                          clear c34
                          obtain ⟨ji35, hji35⟩ : ∃ j_ : Int, (wrap64 ((wrap64 (Int.tdiv (l1.length : Int) 2)) - 1)) = j_ := ⟨_, rfl⟩
                          have hji35d : (wrap64 ((wrap64 (((l1.length : Int) / 2))) - 1)) = ji35 := by have h_ := hji35; rw [Int.tdiv_eq_ediv_of_nonneg (Int.natCast_nonneg _)] at h_; exact h_
                          replace H : (if 0 ≤ (ji35) then (if (ji35) < (y125.length : Int) then ((spec_l08Square.f kj17 a0 (wrap64 (x13_17 * x12_2))).bind fun t133 => (some (wrap64 ((rd y125 (ji32)) + (wrap64 ((wrap64 ((wrap64 (a0 - 1)) * (rd y125 (ji35)))) * t133))), 0))) else (none)) else (none)) = some (r1, r2) := by first | (rw [hji35] at H; exact H) | (simp only [hji35] at H ⊢; exact H)
                          have hji35w : (IntKind.i64.wrap ((wrap64 (Int.tdiv (l1.length : Int) 2)) - 1)) = ji35 := (i64_w _).trans hji35
                          have hji35wd : (IntKind.i64.wrap ((wrap64 (((l1.length : Int) / 2))) - 1)) = ji35 := by have h_ := hji35w; rw [Int.tdiv_eq_ediv_of_nonneg (Int.natCast_nonneg _)] at h_; exact h_
                          by_cases c36 : 0 ≤ (ji35)
                          · rw [if_pos c36] at H
                            have c36b0 : decide (0 ≤ (ji35)) = true := decide_eq_true c36
                            clear c36
                            by_cases c37 : (ji35) < (y125.length : Int)
                            · rw [if_pos c37] at H
                              have c37b0 : decide ((ji35) < (y125.length : Int)) = true := decide_eq_true c37
                              clear c37
                              replace H := Option.bind_eq_some_iff.mp H
                              obtain ⟨t133, A380, H⟩ := H
                              replace H : (some (wrap64 ((rd y125 (ji32)) + (wrap64 ((wrap64 ((wrap64 (a0 - 1)) * (rd y125 (ji35)))) * t133))), 0)) = some (r1, r2) := H
                              have A38 := Aside0.mk A380
                              clear A380
                              simp only [Option.some.injEq, Prod.mk.injEq] at H
                              obtain ⟨rfl, rfl⟩ := H
                              go_wp2_with (first | ((with_reducible refine gate_dst (N := 67) rfl ?_); refine Kd.R_lit (Kd.int .i64) _ 2 ?hg (N := 67) ?hd (xs := ([1, a0, wrap64 (a0 * a0), wrap64 ((wrap64 (a0 * a0)) * a0)] : List Int)) (inner := [.int .i64 1, .int .i64 a0, .int .i64 (wrap64 (a0 * a0)), .int .i64 (wrap64 ((wrap64 (a0 * a0)) * a0))]) (ok := fun _ => True) (okp := fun _ => True) ?hr ?hp (fun _ hk => hk) trivial (Below.refl _ _) (Nat.le_refl _) (by simp) ?_; (case hd => rfl); (case hg => rfl); (case hr => first | (go_simp; done) | (go_simp; rfl)); (case hp => exact (Reps.one (show Kd.M (Kd.int .i64) _ _ _ 1 [.int .i64 1] from rfl) (Reps.one (show Kd.M (Kd.int .i64) _ _ _ a0 [.int .i64 a0] from rfl) (Reps.one (show Kd.M (Kd.int .i64) _ _ _ (wrap64 (a0 * a0)) [.int .i64 (wrap64 (a0 * a0))] from rfl) (Reps.one (show Kd.M (Kd.int .i64) _ _ _ (wrap64 ((wrap64 (a0 * a0)) * a0)) [.int .i64 (wrap64 ((wrap64 (a0 * a0)) * a0))] from rfl) (Reps.none _ _)))))); intro v126 w39 ho40 hb hg_ hnew_; clear hg_ hnew_; (first | rw [← Ny125.out] at ho40 | (simp only [Int.reduceToNat] at ho40; rw [← Ny125.out] at ho40)); have n0_ := Aside0.mk (Kd.R_lower ho40 (below_size qB2)); have n1_ := Aside0.mk (below_step qB2 hb); clear HB; have HO127 := n0_; have HB := n1_; clear n0_ n1_; clear hb ho40; obtain ⟨Ao41, co41, eo41⟩ := Kd.R_slice HO127.out; subst eo41; have p131 : 0 ≤ ((ji32) : Int) := of_decide_eq_true qB10; have q131 : (ji32) < (y125.length : Int) := of_decide_eq_true qB10; obtain ⟨ad131, e131, hx131_0⟩ := Kd.at_int (Kd.R_reads' HO127.out).2.2 (ji32) p131 q131; cases e131; replace p131 := eq_true p131; replace q131 := eq_true q131; have p132 : 0 ≤ ((ji35) : Int) := of_decide_eq_true qB10; have q132 : (ji35) < (y125.length : Int) := of_decide_eq_true qB10; obtain ⟨ad132, e132, hx132_0⟩ := Kd.at_int (Kd.R_reads' HO127.out).2.2 (ji35) p132 q132; obtain rfl : ad131 = ad132 := (by injection e132); replace p132 := eq_true p132; replace q132 := eq_true q132) | (go_at_call 41; (with_reducible refine (spec_l08Square.calls kj17 a0 (wrap64 (x13_17 * x12_2)) t133 _ A38.out).mono ?_); rintro e w' ⟨rfl, ⟨nd, rfl⟩⟩; (try first | exact ⟨rfl, _, World.drewN_drewN _ _ _⟩ | exact ⟨rfl, _, Eq.trans (World.drewN_drewN _ _ _) (congrArg (World.drewN _) (Nat.add_assoc _ _ _))⟩)))
                              repeat (go_quiet (first | ((with_reducible refine gate_dst (N := 67) rfl ?_); refine Kd.R_lit (Kd.int .i64) _ 2 ?hg (N := 67) ?hd (xs := ([1, a0, wrap64 (a0 * a0), wrap64 ((wrap64 (a0 * a0)) * a0)] : List Int)) (inner := [.int .i64 1, .int .i64 a0, .int .i64 (wrap64 (a0 * a0)), .int .i64 (wrap64 ((wrap64 (a0 * a0)) * a0))]) (ok := fun _ => True) (okp := fun _ => True) ?hr ?hp (fun _ hk => hk) trivial (Below.refl _ _) (Nat.le_refl _) (by simp) ?_; (case hd => rfl); (case hg => rfl); (case hr => first | (go_simp; done) | (go_simp; rfl)); (case hp => exact (Reps.one (show Kd.M (Kd.int .i64) _ _ _ 1 [.int .i64 1] from rfl) (Reps.one (show Kd.M (Kd.int .i64) _ _ _ a0 [.int .i64 a0] from rfl) (Reps.one (show Kd.M (Kd.int .i64) _ _ _ (wrap64 (a0 * a0)) [.int .i64 (wrap64 (a0 * a0))] from rfl) (Reps.one (show Kd.M (Kd.int .i64) _ _ _ (wrap64 ((wrap64 (a0 * a0)) * a0)) [.int .i64 (wrap64 ((wrap64 (a0 * a0)) * a0))] from rfl) (Reps.none _ _)))))); intro v126 w39 ho40 hb hg_ hnew_; clear hg_ hnew_; (first | rw [← Ny125.out] at ho40 | (simp only [Int.reduceToNat] at ho40; rw [← Ny125.out] at ho40)); have n0_ := Aside0.mk (Kd.R_lower ho40 (below_size qB2)); have n1_ := Aside0.mk (below_step qB2 hb); clear HB; have HO127 := n0_; have HB := n1_; clear n0_ n1_; clear hb ho40; obtain ⟨Ao41, co41, eo41⟩ := Kd.R_slice HO127.out; subst eo41; have p131 : 0 ≤ ((ji32) : Int) := of_decide_eq_true qB10; have q131 : (ji32) < (y125.length : Int) := of_decide_eq_true qB10; obtain ⟨ad131, e131, hx131_0⟩ := Kd.at_int (Kd.R_reads' HO127.out).2.2 (ji32) p131 q131; cases e131; replace p131 := eq_true p131; replace q131 := eq_true q131; have p132 : 0 ≤ ((ji35) : Int) := of_decide_eq_true qB10; have q132 : (ji35) < (y125.length : Int) := of_decide_eq_true qB10; obtain ⟨ad132, e132, hx132_0⟩ := Kd.at_int (Kd.R_reads' HO127.out).2.2 (ji35) p132 q132; obtain rfl : ad131 = ad132 := (by injection e132); replace p132 := eq_true p132; replace q132 := eq_true q132) | (go_at_call 41; (with_reducible refine (spec_l08Square.calls kj17 a0 (wrap64 (x13_17 * x12_2)) t133 _ A38.out).mono ?_); rintro e w' ⟨rfl, ⟨nd, rfl⟩⟩; (try first | exact ⟨rfl, _, World.drewN_drewN _ _ _⟩ | exact ⟨rfl, _, Eq.trans (World.drewN_drewN _ _ _) (congrArg (World.drewN _) (Nat.add_assoc _ _ _))⟩))); try go_wp2_with (first | ((with_reducible refine gate_dst (N := 67) rfl ?_); refine Kd.R_lit (Kd.int .i64) _ 2 ?hg (N := 67) ?hd (xs := ([1, a0, wrap64 (a0 * a0), wrap64 ((wrap64 (a0 * a0)) * a0)] : List Int)) (inner := [.int .i64 1, .int .i64 a0, .int .i64 (wrap64 (a0 * a0)), .int .i64 (wrap64 ((wrap64 (a0 * a0)) * a0))]) (ok := fun _ => True) (okp := fun _ => True) ?hr ?hp (fun _ hk => hk) trivial (Below.refl _ _) (Nat.le_refl _) (by simp) ?_; (case hd => rfl); (case hg => rfl); (case hr => first | (go_simp; done) | (go_simp; rfl)); (case hp => exact (Reps.one (show Kd.M (Kd.int .i64) _ _ _ 1 [.int .i64 1] from rfl) (Reps.one (show Kd.M (Kd.int .i64) _ _ _ a0 [.int .i64 a0] from rfl) (Reps.one (show Kd.M (Kd.int .i64) _ _ _ (wrap64 (a0 * a0)) [.int .i64 (wrap64 (a0 * a0))] from rfl) (Reps.one (show Kd.M (Kd.int .i64) _ _ _ (wrap64 ((wrap64 (a0 * a0)) * a0)) [.int .i64 (wrap64 ((wrap64 (a0 * a0)) * a0))] from rfl) (Reps.none _ _)))))); intro v126 w39 ho40 hb hg_ hnew_; clear hg_ hnew_; (first | rw [← Ny125.out] at ho40 | (simp only [Int.reduceToNat] at ho40; rw [← Ny125.out] at ho40)); have n0_ := Aside0.mk (Kd.R_lower ho40 (below_size qB2)); have n1_ := Aside0.mk (below_step qB2 hb); clear HB; have HO127 := n0_; have HB := n1_; clear n0_ n1_; clear hb ho40; obtain ⟨Ao41, co41, eo41⟩ := Kd.R_slice HO127.out; subst eo41; have p131 : 0 ≤ ((ji32) : Int) := of_decide_eq_true qB10; have q131 : (ji32) < (y125.length : Int) := of_decide_eq_true qB10; obtain ⟨ad131, e131, hx131_0⟩ := Kd.at_int (Kd.R_reads' HO127.out).2.2 (ji32) p131 q131; cases e131; replace p131 := eq_true p131; replace q131 := eq_true q131; have p132 : 0 ≤ ((ji35) : Int) := of_decide_eq_true qB10; have q132 : (ji35) < (y125.length : Int) := of_decide_eq_true qB10; obtain ⟨ad132, e132, hx132_0⟩ := Kd.at_int (Kd.R_reads' HO127.out).2.2 (ji35) p132 q132; obtain rfl : ad131 = ad132 := (by injection e132); replace p132 := eq_true p132; replace q132 := eq_true q132) | (go_at_call 41; (with_reducible refine (spec_l08Square.calls kj17 a0 (wrap64 (x13_17 * x12_2)) t133 _ A38.out).mono ?_); rintro e w' ⟨rfl, ⟨nd, rfl⟩⟩; (try first | exact ⟨rfl, _, World.drewN_drewN _ _ _⟩ | exact ⟨rfl, _, Eq.trans (World.drewN_drewN _ _ _) (congrArg (World.drewN _) (Nat.add_assoc _ _ _))⟩))))
                              go_ret2
                              exact ⟨by first | rfl | (simp [errW_none, errW_some] <;> rfl) | (simp only [← hji32, ← hji35]; first | rfl | (simp [errW_none, errW_some] <;> rfl)) | (simp [*, errW_none, errW_some] <;> rfl), by repeat (first | (with_reducible first | exact HB.out | apply below_alloc | apply pw_below_drewN | apply below_drew1) | exact HB.out)⟩
                            · rw [if_neg c37] at H
                              exact absurd H (by simp)
                          · rw [if_neg c36] at H
                            exact absurd H (by simp)
                        · rw [if_neg c34] at H
                          exact absurd H (by simp)
                      · rw [if_neg c33] at H
                        exact absurd H (by simp)
                    · rw [if_neg c31] at H
                      have c31b0 : (a2 == 0) = false := beq_eq_false_iff_ne.mpr c31
                      have c31b1 : (a2 != 0) = true := bne_iff_ne.mpr c31
                      obtain ⟨ji42, hji42⟩ : ∃ j_ : Int, (wrap64 ((l1.length : Int) - 1)) = j_ := ⟨_, rfl⟩
                      replace H : (if 0 ≤ (ji42) then (if (ji42) < (y125.length : Int) then (if 0 ≤ (wrap64 ((wrap64 (Int.tdiv (l1.length : Int) 2)) - 1)) then (if (wrap64 ((wrap64 (Int.tdiv (l1.length : Int) 2)) - 1)) < (y125.length : Int) then ((spec_l08Square.f kj17 a0 (wrap64 (x13_17 * x12_2))).bind fun t136 => (some (wrap64 ((rd y125 (ji42)) + (wrap64 ((wrap64 ((-1) * (rd y125 (wrap64 ((wrap64 (Int.tdiv (l1.length : Int) 2)) - 1))))) * t136))), 0))) else (none)) else (none)) else (none)) else (none)) = some (r1, r2) := by first | (rw [hji42] at H; exact H) | (simp only [hji42] at H ⊢; exact H)
                      have hji42w : (IntKind.i64.wrap ((l1.length : Int) - 1)) = ji42 := (i64_w _).trans hji42
                      by_cases c43 : 0 ≤ (ji42)
                      · rw [if_pos c43] at H
                        have c43b0 : decide (0 ≤ (ji42)) = true := decide_eq_true c43
                        clear c43
                        by_cases c44 : (ji42) < (y125.length : Int)
                        · rw [if_pos c44] at H
                          have c44b0 : decide ((ji42) < (y125.length : Int)) = true := decide_eq_true c44
                          clear c44
                          obtain ⟨ji45, hji45⟩ : ∃ j_ : Int, (wrap64 ((wrap64 (Int.tdiv (l1.length : Int) 2)) - 1)) = j_ := ⟨_, rfl⟩
                          have hji45d : (wrap64 ((wrap64 (((l1.length : Int) / 2))) - 1)) = ji45 := by have h_ := hji45; rw [Int.tdiv_eq_ediv_of_nonneg (Int.natCast_nonneg _)] at h_; exact h_
                          replace H : (if 0 ≤ (ji45) then (if (ji45) < (y125.length : Int) then ((spec_l08Square.f kj17 a0 (wrap64 (x13_17 * x12_2))).bind fun t136 => (some (wrap64 ((rd y125 (ji42)) + (wrap64 ((wrap64 ((-1) * (rd y125 (ji45)))) * t136))), 0))) else (none)) else (none)) = some (r1, r2) := by first | (rw [hji45] at H; exact H) | (simp only [hji45] at H ⊢; exact H)
                          have hji45w : (IntKind.i64.wrap ((wrap64 (Int.tdiv (l1.length : Int) 2)) - 1)) = ji45 := (i64_w _).trans hji45
                          have hji45wd : (IntKind.i64.wrap ((wrap64 (((l1.length : Int) / 2))) - 1)) = ji45 := by have h_ := hji45w; rw [Int.tdiv_eq_ediv_of_nonneg (Int.natCast_nonneg _)] at h_; exact h_
                          by_cases c46 : 0 ≤ (ji45)
                          · rw [if_pos c46] at H
                            have c46b0 : decide (0 ≤ (ji45)) = true := decide_eq_true c46
                            clear c46
                            by_cases c47 : (ji45) < (y125.length : Int)
                            · rw [if_pos c47] at H
                              have c47b0 : decide ((ji45) < (y125.length : Int)) = true := decide_eq_true c47
                              clear c47
                              replace H := Option.bind_eq_some_iff.mp H
                              obtain ⟨t136, A480, H⟩ := H
                              replace H : (some (wrap64 ((rd y125 (ji42)) + (wrap64 ((wrap64 ((-1) * (rd y125 (ji45)))) * t136))), 0)) = some (r1, r2) := H
                              have A48 := Aside0.mk A480
                              clear A480
                              simp only [Option.some.injEq, Prod.mk.injEq] at H
                              obtain ⟨rfl, rfl⟩ := H
                              go_wp2_with (first | ((with_reducible refine gate_dst (N := 67) rfl ?_); refine Kd.R_lit (Kd.int .i64) _ 2 ?hg (N := 67) ?hd (xs := ([1, a0, wrap64 (a0 * a0), wrap64 ((wrap64 (a0 * a0)) * a0)] : List Int)) (inner := [.int .i64 1, .int .i64 a0, .int .i64 (wrap64 (a0 * a0)), .int .i64 (wrap64 ((wrap64 (a0 * a0)) * a0))]) (ok := fun _ => True) (okp := fun _ => True) ?hr ?hp (fun _ hk => hk) trivial (Below.refl _ _) (Nat.le_refl _) (by simp) ?_; (case hd => rfl); (case hg => rfl); (case hr => first | (go_simp; done) | (go_simp; rfl)); (case hp => exact (Reps.one (show Kd.M (Kd.int .i64) _ _ _ 1 [.int .i64 1] from rfl) (Reps.one (show Kd.M (Kd.int .i64) _ _ _ a0 [.int .i64 a0] from rfl) (Reps.one (show Kd.M (Kd.int .i64) _ _ _ (wrap64 (a0 * a0)) [.int .i64 (wrap64 (a0 * a0))] from rfl) (Reps.one (show Kd.M (Kd.int .i64) _ _ _ (wrap64 ((wrap64 (a0 * a0)) * a0)) [.int .i64 (wrap64 ((wrap64 (a0 * a0)) * a0))] from rfl) (Reps.none _ _)))))); intro v126 w49 ho50 hb hg_ hnew_; clear hg_ hnew_; (first | rw [← Ny125.out] at ho50 | (simp only [Int.reduceToNat] at ho50; rw [← Ny125.out] at ho50)); have n0_ := Aside0.mk (Kd.R_lower ho50 (below_size qB2)); have n1_ := Aside0.mk (below_step qB2 hb); clear HB; have HO127 := n0_; have HB := n1_; clear n0_ n1_; clear hb ho50; obtain ⟨Ao51, co51, eo51⟩ := Kd.R_slice HO127.out; subst eo51; have p134 : 0 ≤ ((ji42) : Int) := of_decide_eq_true qB10; have q134 : (ji42) < (y125.length : Int) := of_decide_eq_true qB10; obtain ⟨ad134, e134, hx134_0⟩ := Kd.at_int (Kd.R_reads' HO127.out).2.2 (ji42) p134 q134; cases e134; replace p134 := eq_true p134; replace q134 := eq_true q134; have p135 : 0 ≤ ((ji45) : Int) := of_decide_eq_true qB10; have q135 : (ji45) < (y125.length : Int) := of_decide_eq_true qB10; obtain ⟨ad135, e135, hx135_0⟩ := Kd.at_int (Kd.R_reads' HO127.out).2.2 (ji45) p135 q135; obtain rfl : ad134 = ad135 := (by injection e135); replace p135 := eq_true p135; replace q135 := eq_true q135) | (go_at_call 41; (with_reducible refine (spec_l08Square.calls kj17 a0 (wrap64 (x13_17 * x12_2)) t136 _ A48.out).mono ?_); rintro e w' ⟨rfl, ⟨nd, rfl⟩⟩; (try first | exact ⟨rfl, _, World.drewN_drewN _ _ _⟩ | exact ⟨rfl, _, Eq.trans (World.drewN_drewN _ _ _) (congrArg (World.drewN _) (Nat.add_assoc _ _ _))⟩)))
                              repeat (go_quiet (first | ((with_reducible refine gate_dst (N := 67) rfl ?_); refine Kd.R_lit (Kd.int .i64) _ 2 ?hg (N := 67) ?hd (xs := ([1, a0, wrap64 (a0 * a0), wrap64 ((wrap64 (a0 * a0)) * a0)] : List Int)) (inner := [.int .i64 1, .int .i64 a0, .int .i64 (wrap64 (a0 * a0)), .int .i64 (wrap64 ((wrap64 (a0 * a0)) * a0))]) (ok := fun _ => True) (okp := fun _ => True) ?hr ?hp (fun _ hk => hk) trivial (Below.refl _ _) (Nat.le_refl _) (by simp) ?_; (case hd => rfl); (case hg => rfl); (case hr => first | (go_simp; done) | (go_simp; rfl)); (case hp => exact (Reps.one (show Kd.M (Kd.int .i64) _ _ _ 1 [.int .i64 1] from rfl) (Reps.one (show Kd.M (Kd.int .i64) _ _ _ a0 [.int .i64 a0] from rfl) (Reps.one (show Kd.M (Kd.int .i64) _ _ _ (wrap64 (a0 * a0)) [.int .i64 (wrap64 (a0 * a0))] from rfl) (Reps.one (show Kd.M (Kd.int .i64) _ _ _ (wrap64 ((wrap64 (a0 * a0)) * a0)) [.int .i64 (wrap64 ((wrap64 (a0 * a0)) * a0))] from rfl) (Reps.none _ _)))))); intro v126 w49 ho50 hb hg_ hnew_; clear hg_ hnew_; (first | rw [← Ny125.out] at ho50 | (simp only [Int.reduceToNat] at ho50; rw [← Ny125.out] at ho50)); have n0_ := Aside0.mk (Kd.R_lower ho50 (below_size qB2)); have n1_ := Aside0.mk (below_step qB2 hb); clear HB; have HO127 := n0_; have HB := n1_; clear n0_ n1_; clear hb ho50; obtain ⟨Ao51, co51, eo51⟩ := Kd.R_slice HO127.out; subst eo51; have p134 : 0 ≤ ((ji42) : Int) := of_decide_eq_true qB10; have q134 : (ji42) < (y125.length : Int) := of_decide_eq_true qB10; obtain ⟨ad134, e134, hx134_0⟩ := Kd.at_int (Kd.R_reads' HO127.out).2.2 (ji42) p134 q134; cases e134; replace p134 := eq_true p134; replace q134 := eq_true q134; have p135 : 0 ≤ ((ji45) : Int) := of_decide_eq_true qB10; have q135 : (ji45) < (y125.length : Int) := of_decide_eq_true qB10; obtain ⟨ad135, e135, hx135_0⟩ := Kd.at_int (Kd.R_reads' HO127.out).2.2 (ji45) p135 q135; obtain rfl : ad134 = ad135 := (by injection e135); replace p135 := eq_true p135; replace q135 := eq_true q135) | (go_at_call 41; (with_reducible refine (spec_l08Square.calls kj17 a0 (wrap64 (x13_17 * x12_2)) t136 _ A48.out).mono ?_); rintro e w' ⟨rfl, ⟨nd, rfl⟩⟩; (try first | exact ⟨rfl, _, World.drewN_drewN _ _ _⟩ | exact ⟨rfl, _, Eq.trans (World.drewN_drewN _ _ _) (congrArg (World.drewN _) (Nat.add_assoc _ _ _))⟩))); try go_wp2_with (first | ((with_reducible refine gate_dst (N := 67) rfl ?_); refine Kd.R_lit (Kd.int .i64) _ 2 ?hg (N := 67) ?hd (xs := ([1, a0, wrap64 (a0 * a0), wrap64 ((wrap64 (a0 * a0)) * a0)] : List Int)) (inner := [.int .i64 1, .int .i64 a0, .int .i64 (wrap64 (a0 * a0)), .int .i64 (wrap64 ((wrap64 (a0 * a0)) * a0))]) (ok := fun _ => True) (okp := fun _ => True) ?hr ?hp (fun _ hk => hk) trivial (Below.refl _ _) (Nat.le_refl _) (by simp) ?_; (case hd => rfl); (case hg => rfl); (case hr => first | (go_simp; done) | (go_simp; rfl)); (case hp => exact (Reps.one (show Kd.M (Kd.int .i64) _ _ _ 1 [.int .i64 1] from rfl) (Reps.one (show Kd.M (Kd.int .i64) _ _ _ a0 [.int .i64 a0] from rfl) (Reps.one (show Kd.M (Kd.int .i64) _ _ _ (wrap64 (a0 * a0)) [.int .i64 (wrap64 (a0 * a0))] from rfl) (Reps.one (show Kd.M (Kd.int .i64) _ _ _ (wrap64 ((wrap64 (a0 * a0)) * a0)) [.int .i64 (wrap64 ((wrap64 (a0 * a0)) * a0))] from rfl) (Reps.none _ _)))))); intro v126 w49 ho50 hb hg_ hnew_; clear hg_ hnew_; (first | rw [← Ny125.out] at ho50 | (simp only [Int.reduceToNat] at ho50; rw [← Ny125.out] at ho50)); have n0_ := Aside0.mk (Kd.R_lower ho50 (below_size qB2)); have n1_ := Aside0.mk (below_step qB2 hb); clear HB; have HO127 := n0_; have HB := n1_; clear n0_ n1_; clear hb ho50; obtain ⟨Ao51, co51, eo51⟩ := Kd.R_slice HO127.out; subst eo51; have p134 : 0 ≤ ((ji42) : Int) := of_decide_eq_true qB10; have q134 : (ji42) < (y125.length : Int) := of_decide_eq_true qB10; obtain ⟨ad134, e134, hx134_0⟩ := Kd.at_int (Kd.R_reads' HO127.out).2.2 (ji42) p134 q134; cases e134; replace p134 := eq_true p134; replace q134 := eq_true q134; have p135 : 0 ≤ ((ji45) : Int) := of_decide_eq_true qB10; have q135 : (ji45) < (y125.length : Int) := of_decide_eq_true qB10; obtain ⟨ad135, e135, hx135_0⟩ := Kd.at_int (Kd.R_reads' HO127.out).2.2 (ji45) p135 q135; obtain rfl : ad134 = ad135 := (by injection e135); replace p135 := eq_true p135; replace q135 := eq_true q135) | (go_at_call 41; (with_reducible refine (spec_l08Square.calls kj17 a0 (wrap64 (x13_17 * x12_2)) t136 _ A48.out).mono ?_); rintro e w' ⟨rfl, ⟨nd, rfl⟩⟩; (try first | exact ⟨rfl, _, World.drewN_drewN _ _ _⟩ | exact ⟨rfl, _, Eq.trans (World.drewN_drewN _ _ _) (congrArg (World.drewN _) (Nat.add_assoc _ _ _))⟩))))
                              go_ret2
                              exact ⟨by first | rfl | (simp [errW_none, errW_some] <;> rfl) | (simp only [← hji42, ← hji45]; first | rfl | (simp [errW_none, errW_some] <;> rfl)) | (simp [*, errW_none, errW_some] <;> rfl), by repeat (first | (with_reducible first | exact HB.out | apply below_alloc | apply pw_below_drewN | apply below_drew1) | exact HB.out)⟩
                            · rw [if_neg c47] at H
                              exact absurd H (by simp)
                          · rw [if_neg c46] at H
                            exact absurd H (by simp)
                        · rw [if_neg c44] at H
                          exact absurd H (by simp)
                      · rw [if_neg c43] at H
                        exact absurd H (by simp)
      · rw [if_neg c12] at H
        have c12b0 : (t123 == 0) = false := beq_eq_false_iff_ne.mpr c12
        have c12b1 : (t123 != 0) = true := bne_iff_ne.mpr c12
        simp only [Option.some.injEq, Prod.mk.injEq] at H
        obtain ⟨rfl, rfl⟩ := H
        obtain ⟨Ao52, co52, eo52⟩ := Kd.R_slice HO_8.out
        subst eo52
        go_wp2_with (first | (go_at_call 40; (with_reducible refine (spec_l08Given.calls kj3 a0 _ _ l1 _ _ x8_3 a2 t123 _ ?side1 ?side2 ?side3 ?side4 A11.out).mono ?_); (case side1 => repeat (first | exact (Kd.C_below HR1.out HB.out) | (with_reducible refine Kd.C_alloc ?_ _) | (with_reducible refine Kd.C_drewN ?_ _) | (with_reducible refine Kd.C_drew ?_))); (case side2 => exact HC1.out); (case side3 => repeat (first | exact (Kd.R_reads' HO_8.out).2.2 | (with_reducible refine Kd.C_alloc ?_ _) | (with_reducible refine Kd.C_drewN ?_ _) | (with_reducible refine Kd.C_drew ?_))); (case side4 => exact (Kd.R_reads' HO_8.out).2.1); rintro e w' ⟨rfl, ⟨nd, rfl⟩⟩; (try first | exact ⟨rfl, _, World.drewN_drewN _ _ _⟩ | exact ⟨rfl, _, Eq.trans (World.drewN_drewN _ _ _) (congrArg (World.drewN _) (Nat.add_assoc _ _ _))⟩)))
        repeat (go_quiet (first | (go_at_call 40; (with_reducible refine (spec_l08Given.calls kj3 a0 _ _ l1 _ _ x8_3 a2 t123 _ ?side1 ?side2 ?side3 ?side4 A11.out).mono ?_); (case side1 => repeat (first | exact (Kd.C_below HR1.out HB.out) | (with_reducible refine Kd.C_alloc ?_ _) | (with_reducible refine Kd.C_drewN ?_ _) | (with_reducible refine Kd.C_drew ?_))); (case side2 => exact HC1.out); (case side3 => repeat (first | exact (Kd.R_reads' HO_8.out).2.2 | (with_reducible refine Kd.C_alloc ?_ _) | (with_reducible refine Kd.C_drewN ?_ _) | (with_reducible refine Kd.C_drew ?_))); (case side4 => exact (Kd.R_reads' HO_8.out).2.1); rintro e w' ⟨rfl, ⟨nd, rfl⟩⟩; (try first | exact ⟨rfl, _, World.drewN_drewN _ _ _⟩ | exact ⟨rfl, _, Eq.trans (World.drewN_drewN _ _ _) (congrArg (World.drewN _) (Nat.add_assoc _ _ _))⟩))); try go_wp2_with (first | (go_at_call 40; (with_reducible refine (spec_l08Given.calls kj3 a0 _ _ l1 _ _ x8_3 a2 t123 _ ?side1 ?side2 ?side3 ?side4 A11.out).mono ?_); (case side1 => repeat (first | exact (Kd.C_below HR1.out HB.out) | (with_reducible refine Kd.C_alloc ?_ _) | (with_reducible refine Kd.C_drewN ?_ _) | (with_reducible refine Kd.C_drew ?_))); (case side2 => exact HC1.out); (case side3 => repeat (first | exact (Kd.R_reads' HO_8.out).2.2 | (with_reducible refine Kd.C_alloc ?_ _) | (with_reducible refine Kd.C_drewN ?_ _) | (with_reducible refine Kd.C_drew ?_))); (case side4 => exact (Kd.R_reads' HO_8.out).2.1); rintro e w' ⟨rfl, ⟨nd, rfl⟩⟩; (try first | exact ⟨rfl, _, World.drewN_drewN _ _ _⟩ | exact ⟨rfl, _, Eq.trans (World.drewN_drewN _ _ _) (congrArg (World.drewN _) (Nat.add_assoc _ _ _))⟩))))
        go_ret2
        exact ⟨by first | rfl | (simp [errW_none, errW_some] <;> rfl) | (simp [*, errW_none, errW_some] <;> rfl), by repeat (first | (with_reducible first | exact HB.out | apply below_alloc | apply pw_below_drewN | apply below_drew1) | exact HB.out)⟩

/-! ### impl_within: function 44 -/
def impl_within.f (a0 : Int) (a1 : Int) (a2 : Int) : Option (Bool) := if a1 ≤ a0 then (some (decide (a0 ≤ a2))) else (some false)
set_option maxHeartbeats 8000000 in
set_option maxRecDepth 100000 in
theorem impl_within.calls (a0 : Int) (a1 : Int) (a2 : Int) (r : Bool) (w : World) (h : impl_within.f a0 a1 a2 = some r) :
    Calls Try.prog 44 #[.int .i64 a0, .int .i64 a1, .int .i64 a2] w fun e w' => e = .returned (.bool r) ∧ Drawn0 w w' := by
  have H : (if a1 ≤ a0 then (some (decide (a0 ≤ a2))) else (some false)) = some r := h
  clear h
  by_cases c4 : a1 ≤ a0
  · rw [if_pos c4] at H
    have c4b0 : decide (a1 ≤ a0) = true := decide_eq_true c4
    clear c4
    obtain rfl := Option.some.inj H
    go_enter Try.func44, Try.ntmps44
    go_wp2
    go_ret
    exact ⟨by first | rfl | (simp; done) | (simp [*]; done), by repeat (first | exact Drawn0.refl _ | apply Drawn0.step)⟩
  · rw [if_neg c4] at H
    have c4b0 : decide (a1 ≤ a0) = false := decide_eq_false c4
    clear c4
    obtain rfl := Option.some.inj H
    go_enter Try.func44, Try.ntmps44
    go_wp2
    go_ret
    exact ⟨by first | rfl | (simp; done) | (simp [*]; done), by repeat (first | exact Drawn0.refl _ | apply Drawn0.step)⟩

/-! ### impl_isPrime: function 31 -/
def impl_isPrime.l0 : Nat → Int → Int → Option (Bool)
  | 0, _, _ => none
  | k + 1, x0, x3 => if (wrap64 (x3 * x3)) ≤ x0 then (if x3 = 0 then (none) else (if (Int.tmod x0 x3) = 0 then (some false) else (impl_isPrime.l0 k x0 (wrap64 (x3 + 1))))) else ((impl_within.f x0 3 61).bind fun t137 => (some t137))
def impl_isPrime.f (k : Nat) (a0 : Int) : Option (Bool) := impl_isPrime.l0 k a0 2
theorem impl_isPrime.mono_l : ∀ k, (∀ y0 y1, LeO (impl_isPrime.l0 k y0 y1) (impl_isPrime.l0 (k + 1) y0 y1))
  | 0 => fun _ _ r h => by simp [impl_isPrime.l0] at h
  | k + 1 => by
    have ih0 := impl_isPrime.mono_l k
    · intro y0 y1
      unfold impl_isPrime.l0
      repeat' first
      | (with_reducible exact ih0 _ _)
      | (with_reducible exact LeO.refl _)
      | (with_reducible exact LeO.none _)
      | (with_reducible refine LeO.ite ?_ ?_)
      | (with_reducible refine LeO.bind ?_ (fun _ => ?_))
      | exact ih0 _ _
      | exact LeO.none _
      | refine LeO.ite ?_ ?_
      | refine LeO.bind ?_ (fun _ => ?_)
theorem impl_isPrime.mono : ∀ a0 k, LeO (impl_isPrime.f k a0) (impl_isPrime.f (k + 1) a0) := by
  intro a0 k
  have ih0 := impl_isPrime.mono_l k
  unfold impl_isPrime.f
  repeat' first
      | (with_reducible exact ih0 _ _)
      | (with_reducible exact LeO.refl _)
      | (with_reducible exact LeO.none _)
      | (with_reducible refine LeO.ite ?_ ?_)
      | (with_reducible refine LeO.bind ?_ (fun _ => ?_))
      | exact ih0 _ _
      | exact LeO.none _
      | refine LeO.ite ?_ ?_
      | refine LeO.bind ?_ (fun _ => ?_)
set_option maxHeartbeats 8000000 in
set_option maxRecDepth 100000 in
theorem impl_isPrime.calls (k : Nat) (a0 : Int) (r : Bool) (w : World) (h : impl_isPrime.f k a0 = some r) :
    Calls Try.prog 31 #[.int .i64 a0] w fun e w' => e = .returned (.bool r) ∧ Drawn0 w w' := by
  have H : (impl_isPrime.l0 k a0 2) = some r := h
  clear h
  have H' := Aside0.mk H
  clear H
  go_enter Try.func31, Try.ntmps31
  go_wp2
  try simp only [Act.put, List.setIfInBounds_toArray, List.set_cons_succ, List.set_cons_zero]
  go_loopg [3] k (fun kq v3 w' => ∃ (x3_1 : Int), v3 = .int .i64 x3_1 ∧ Aside0 (impl_isPrime.l0 kq a0 x3_1 = some r) ∧ Aside0 (kq ≤ k) ∧ Drawn0 w w')
  case atStart => exact ⟨(2), qB11, H', ⟨Nat.le_refl _⟩, by repeat (first | exact Drawn0.refl _ | apply Drawn0.step)⟩
  case round =>
    clear H'
    obtain ⟨x3_1, rfl, HA, HK1, ⟨m1, rfl⟩⟩ := hrel
    cases gk with
    | zero => exact absurd HA.out (by simp [impl_isPrime.l0])
    | succ k1 =>
      have H := HA.out
      clear HA
      simp only [impl_isPrime.l0] at H
      by_cases c2 : (wrap64 (x3_1 * x3_1)) ≤ a0
      · rw [if_pos c2] at H
        have c2b0 : decide ((wrap64 (x3_1 * x3_1)) ≤ a0) = true := decide_eq_true c2
        clear c2
        by_cases c3 : x3_1 = 0
        · rw [if_pos c3] at H
          exact absurd H (by simp)
        · rw [if_neg c3] at H
          have c3b0 : (x3_1 == 0) = false := beq_eq_false_iff_ne.mpr c3
          have c3b1 : (x3_1 != 0) = true := bne_iff_ne.mpr c3
          by_cases c4 : (Int.tmod a0 x3_1) = 0
          · rw [if_pos c4] at H
            have c4b0 : ((Int.tmod a0 x3_1) == 0) = true := beq_iff_eq.mpr c4
            have c4b1 : ((Int.tmod a0 x3_1) != 0) = false := bne_eq_false_iff_eq.mpr c4
            clear c4
            obtain rfl := Option.some.inj H
            go_wp2
            go_ret
            exact ⟨by first | rfl | (simp; done) | (simp [*]; done), by repeat (first | exact Drawn0.refl _ | apply Drawn0.step)⟩
          · rw [if_neg c4] at H
            have c4b0 : ((Int.tmod a0 x3_1) == 0) = false := beq_eq_false_iff_ne.mpr c4
            have c4b1 : ((Int.tmod a0 x3_1) != 0) = true := bne_iff_ne.mpr c4
            have H' := Aside0.mk H
            clear H
            go_wp2
            (first | go_roundg k1 | ((try simp only [add_plain] at *); go_roundg k1))
            case measure => have := HK1.out; omega
            case rel => exact ⟨(wrap64 (x3_1 + 1)), qB11, H', ⟨by have := HK1.out; omega⟩, by repeat (first | exact Drawn0.refl _ | apply Drawn0.step)⟩
      · rw [if_neg c2] at H
        have c2b0 : decide ((wrap64 (x3_1 * x3_1)) ≤ a0) = false := decide_eq_false c2
        clear c2
        replace H := Option.bind_eq_some_iff.mp H
        obtain ⟨t137, A50, H⟩ := H
        replace H : (some t137) = some r := H
        have A5 := Aside0.mk A50
        clear A50
        obtain rfl := Option.some.inj H
        go_wp2_with (first | ((with_reducible refine gate_callee (f := 44) rfl ?_); refine goesL_ (some 16) rfl rfl Try.func44 (by kernel_rfl) rfl #[.int .i64 a0, .int .i64 3, .int .i64 61] rfl qB1 ?_; (with_reducible refine (impl_within.calls a0 3 61 t137 _ A5.out).mono ?_); rintro e w' ⟨rfl, ⟨nd, rfl⟩⟩; refine ⟨_, rfl, ?_⟩))
        go_ret
        exact ⟨by first | rfl | (simp; done) | (simp [*]; done), by repeat (first | exact Drawn0.refl _ | apply Drawn0.step)⟩

/-! ### impl_isExponent: function 32 -/
def impl_isExponent.f (a0 : Int) : Option (Bool) := (impl_within.f a0 1 60).bind fun t138 => (some t138)
set_option maxHeartbeats 8000000 in
set_option maxRecDepth 100000 in
theorem impl_isExponent.calls (a0 : Int) (r : Bool) (w : World) (h : impl_isExponent.f a0 = some r) :
    Calls Try.prog 32 #[.int .i64 a0] w fun e w' => e = .returned (.bool r) ∧ Drawn0 w w' := by
  have H : ((impl_within.f a0 1 60).bind fun t138 => (some t138)) = some r := h
  clear h
  replace H := Option.bind_eq_some_iff.mp H
  obtain ⟨t138, A20, H⟩ := H
  replace H : (some t138) = some r := H
  have A2 := Aside0.mk A20
  clear A20
  obtain rfl := Option.some.inj H
  go_enter Try.func32, Try.ntmps32
  go_wp2_with (first | ((with_reducible refine gate_callee (f := 44) rfl ?_); refine goesL_ (some 4) rfl rfl Try.func44 (by kernel_rfl) rfl #[.int .i64 a0, .int .i64 1, .int .i64 60] rfl qB1 ?_; (with_reducible refine (impl_within.calls a0 1 60 t138 _ A2.out).mono ?_); rintro e w' ⟨rfl, ⟨nd, rfl⟩⟩; refine ⟨_, rfl, ?_⟩))
  go_ret
  exact ⟨by first | rfl | (simp; done) | (simp [*]; done), by repeat (first | exact Drawn0.refl _ | apply Drawn0.step)⟩

end Go.Proofs.Ytghlmdjedpnglaa.PFnExactQuadricNumber
