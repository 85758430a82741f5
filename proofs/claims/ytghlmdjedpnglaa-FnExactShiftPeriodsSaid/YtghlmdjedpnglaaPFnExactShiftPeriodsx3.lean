/- The functions that the law reaches, as plain functions, each with the proof that the program comes to it; no condition. Written by a program of this session (wip/mp.py) over the printing of the kit; what is marked HAND is told by hand. -/
import Derived.Test.YtghlmdjedpnglaaPFnExactShiftPeriodsx0
import Derived.Test.YtghlmdjedpnglaaPFnExactShiftPeriodsx1
import Derived.Test.YtghlmdjedpnglaaPFnExactShiftPeriodsx2
namespace Go.Proofs.Ytghlmdjedpnglaa.PFnExactShiftPeriods
open Go.RowKit Go.Proofs.YtghlmdjedpnglaaW.PrintWords Go.Proofs.YtghlmdjedpnglaaW.PrintLast Go.Proofs.YtghlmdjedpnglaaW.PrintMore
attribute [local go_sem] max2_int min2_int max_two min_two max_three min_three max_four min_four   -- for this text's walks alone
set_option linter.unusedVariables false
set_option linter.unusedSimpArgs false

/-! ### spec_ShiftPeriods: function 27 -/
mutual
def spec_ShiftPeriods.j0 : Nat → Int → List Int → Int → Int → Bool → Option (List Int × Int)
  | 0, _, _, _, _, _ => none
  | k + 1, x1, x2, x3, x10, x26 => if x26 = true then (spec_ShiftPeriods.j1 k x1 x2 x3 2) else (spec_ShiftPeriods.j1 k x1 x2 x3 x10)
def spec_ShiftPeriods.j1 : Nat → Int → List Int → Int → Int → Option (List Int × Int)
  | 0, _, _, _, _ => none
  | k + 1, x1, x2, x3, x10 => if x10 = 0 then (if 0 ≤ x1 then (if (x1 : Int).toNat ≤ 35184372088832 then (spec_ShiftPeriods.l0 k x1 x2 x3 (List.replicate (x1 : Int).toNat 0) 0) else (none)) else (none)) else (some (([] : List Int), x10))
def spec_ShiftPeriods.l0 : Nat → Int → List Int → Int → List Int → Int → Option (List Int × Int)
  | 0, _, _, _, _, _ => none
  | k + 1, x1, x2, x3, x11, x12 => if x12 < x1 then (if x1 = 0 then (none) else (if 0 ≤ x12 then (if x12 < (x2.length : Int) then (if 0 ≤ (Int.tmod (wrap64 (x12 + x3)) x1) then (if (Int.tmod (wrap64 (x12 + x3)) x1) < (x11.length : Int) then (spec_ShiftPeriods.l0 k x1 x2 x3 (x11.set ((Int.tmod (wrap64 (x12 + x3)) x1) : Int).toNat (rd x2 x12)) (wrap64 (x12 + 1))) else (none)) else (none)) else (none)) else (none))) else (some (x11, 0))
end
def spec_ShiftPeriods.f (k : Nat) (a0 : Int) (a1 : Int) (l2 : List Int) (a3 : Int) : Option (List Int × Int) := (spec_l06Sum.f k a0 a1 (([l2] : List (List Int)))).bind fun t124 => (if t124 = 0 then ((spec_l01In.f a3 0 (wrap64 (a1 - 1))).bind fun t125 => (spec_ShiftPeriods.j0 k a1 l2 a3 t124 (!t125))) else (spec_ShiftPeriods.j0 k a1 l2 a3 t124 false))
theorem spec_ShiftPeriods.mono_l : ∀ k, (∀ y0 y1 y2 y3 y4, LeO (spec_ShiftPeriods.j0 k y0 y1 y2 y3 y4) (spec_ShiftPeriods.j0 (k + 1) y0 y1 y2 y3 y4)) ∧ (∀ y0 y1 y2 y3, LeO (spec_ShiftPeriods.j1 k y0 y1 y2 y3) (spec_ShiftPeriods.j1 (k + 1) y0 y1 y2 y3)) ∧ (∀ y0 y1 y2 y3 y4, LeO (spec_ShiftPeriods.l0 k y0 y1 y2 y3 y4) (spec_ShiftPeriods.l0 (k + 1) y0 y1 y2 y3 y4))
  | 0 => ⟨fun _ _ _ _ _ r h => by simp [spec_ShiftPeriods.j0] at h, fun _ _ _ _ r h => by simp [spec_ShiftPeriods.j1] at h, fun _ _ _ _ _ r h => by simp [spec_ShiftPeriods.l0] at h⟩
  | k + 1 => by
    obtain ⟨ih0, ih1, ih2⟩ := spec_ShiftPeriods.mono_l k
    refine ⟨?_, ?_, ?_⟩
    · intro y0 y1 y2 y3 y4
      unfold spec_ShiftPeriods.j0
      repeat' first
      | (with_reducible exact ih0 _ _ _ _ _)
      | (with_reducible exact ih1 _ _ _ _)
      | (with_reducible exact ih2 _ _ _ _ _)
      | (with_reducible exact spec_l06Sum.mono _ _ _ _)
      | (with_reducible exact LeO.refl _)
      | (with_reducible exact LeO.none _)
      | (with_reducible refine LeO.ite ?_ ?_)
      | (with_reducible refine LeO.bind ?_ (fun _ => ?_))
      | exact ih0 _ _ _ _ _
      | exact ih1 _ _ _ _
      | exact ih2 _ _ _ _ _
      | exact spec_l06Sum.mono _ _ _ _
      | exact LeO.none _
      | refine LeO.ite ?_ ?_
      | refine LeO.bind ?_ (fun _ => ?_)
    · intro y0 y1 y2 y3
      unfold spec_ShiftPeriods.j1
      repeat' first
      | (with_reducible exact ih0 _ _ _ _ _)
      | (with_reducible exact ih1 _ _ _ _)
      | (with_reducible exact ih2 _ _ _ _ _)
      | (with_reducible exact spec_l06Sum.mono _ _ _ _)
      | (with_reducible exact LeO.refl _)
      | (with_reducible exact LeO.none _)
      | (with_reducible refine LeO.ite ?_ ?_)
      | (with_reducible refine LeO.bind ?_ (fun _ => ?_))
      | exact ih0 _ _ _ _ _
      | exact ih1 _ _ _ _
      | exact ih2 _ _ _ _ _
      | exact spec_l06Sum.mono _ _ _ _
      | exact LeO.none _
      | refine LeO.ite ?_ ?_
      | refine LeO.bind ?_ (fun _ => ?_)
    · intro y0 y1 y2 y3 y4
      unfold spec_ShiftPeriods.l0
      repeat' first
      | (with_reducible exact ih0 _ _ _ _ _)
      | (with_reducible exact ih1 _ _ _ _)
      | (with_reducible exact ih2 _ _ _ _ _)
      | (with_reducible exact spec_l06Sum.mono _ _ _ _)
      | (with_reducible exact LeO.refl _)
      | (with_reducible exact LeO.none _)
      | (with_reducible refine LeO.ite ?_ ?_)
      | (with_reducible refine LeO.bind ?_ (fun _ => ?_))
      | exact ih0 _ _ _ _ _
      | exact ih1 _ _ _ _
      | exact ih2 _ _ _ _ _
      | exact spec_l06Sum.mono _ _ _ _
      | exact LeO.none _
      | refine LeO.ite ?_ ?_
      | refine LeO.bind ?_ (fun _ => ?_)
theorem spec_ShiftPeriods.mono : ∀ a0 a1 a2 a3 k, LeO (spec_ShiftPeriods.f k a0 a1 a2 a3) (spec_ShiftPeriods.f (k + 1) a0 a1 a2 a3) := by
  intro a0 a1 a2 a3 k
  obtain ⟨ih0, ih1, ih2⟩ := spec_ShiftPeriods.mono_l k
  unfold spec_ShiftPeriods.f
  repeat' first
      | (with_reducible exact ih0 _ _ _ _ _)
      | (with_reducible exact ih1 _ _ _ _)
      | (with_reducible exact ih2 _ _ _ _ _)
      | (with_reducible exact spec_l06Sum.mono _ _ _ _)
      | (with_reducible exact LeO.refl _)
      | (with_reducible exact LeO.none _)
      | (with_reducible refine LeO.ite ?_ ?_)
      | (with_reducible refine LeO.bind ?_ (fun _ => ?_))
      | exact ih0 _ _ _ _ _
      | exact ih1 _ _ _ _
      | exact ih2 _ _ _ _ _
      | exact spec_l06Sum.mono _ _ _ _
      | exact LeO.none _
      | refine LeO.ite ?_ ?_
      | refine LeO.bind ?_ (fun _ => ?_)
def spec_ShiftPeriods.T10 : Bool × List (List Nat × List Nat) := (true, [([], []), ([], []), ([], []), ([1, 2], [1, 2]), ([], []), ([3, 4], [3, 4]), ([], []), ([], []), ([6, 7], [6, 7]), ([8], [8]), ([0, 5, 0, 1, 2, 3, 4, 5, 6, 7, 8, 9], [0, 5]), ([10, 9, 0, 1, 2, 3, 4, 5, 6, 7, 8, 9], [9, 10])])
def spec_ShiftPeriods.B10 : List Nat := [0, 0, 0, 6, 0, 30, 0, 0, 192, 448, 1023, 2047]
theorem spec_ShiftPeriods.tab10 : rtab .any (opsOf Try.f27 10) = spec_ShiftPeriods.T10 := by kernel_rfl
theorem spec_ShiftPeriods.bits10 : waitsOk spec_ShiftPeriods.T10.2 spec_ShiftPeriods.B10 = true := by kernel_rfl
set_option maxHeartbeats 8000000 in
set_option maxRecDepth 100000 in
theorem spec_ShiftPeriods.calls (k : Nat) (a0 : Int) (a1 : Int) (P2_ : Nat → Prop) (A2 : Option Addr) (c2 : Nat) (l2 : List Int) (a3 : Int) (r1 : List Int) (r2 : Int) (w : World) (hs2 : Kd.V (Kd.int .i64) 2 w w.heap.size (fun k_ => P2_ k_) (.slice A2 l2.length c2) l2) (h : spec_ShiftPeriods.f k a0 a1 l2 a3 = some (r1, r2)) :
    Calls Try.prog 27 #[.int .i64 a0, .int .i64 a1, .slice A2 l2.length c2, .int .i64 a3] w fun e w' => ∃ v0_ : Value, e = .returned (.tuple #[v0_, .int .i64 r2]) ∧ Kd.R (Kd.int .i64) 2 w' w.heap.size (fun k_ => (w.heap.size ≤ k_)) v0_ r1 ∧ Below w.heap.size w w' := by
  have HO2 := Aside0.mk (show Kd.V (Kd.int .i64) 2 w w.heap.size (fun k_ => (P2_ k_ ∨ w.heap.size ≤ k_)) (.slice A2 l2.length c2) l2 from Kd.V_mono hs2 (fun k_ hk => .inl hk))
  have HB := Aside0.mk (Below.refl w.heap.size w)
  have H : ((spec_l06Sum.f k a0 a1 (([l2] : List (List Int)))).bind fun t124 => (if t124 = 0 then ((spec_l01In.f a3 0 (wrap64 (a1 - 1))).bind fun t125 => (spec_ShiftPeriods.j0 k a1 l2 a3 t124 (!t125))) else (spec_ShiftPeriods.j0 k a1 l2 a3 t124 false))) = some (r1, r2) := h
  clear h
  obtain ⟨y121, hy121⟩ : ∃ y_ : List (List Int), y_ = (([l2] : List (List Int))) := ⟨_, rfl⟩
  replace H : ((spec_l06Sum.f k a0 a1 y121).bind fun t124 => (if t124 = 0 then ((spec_l01In.f a3 0 (wrap64 (a1 - 1))).bind fun t125 => (spec_ShiftPeriods.j0 k a1 l2 a3 t124 (!t125))) else (spec_ShiftPeriods.j0 k a1 l2 a3 t124 false))) = some (r1, r2) := by first | (rw [hy121]; with_reducible exact H) | (have H2_ := (Option.bind_some _ _).symm.trans H; rw [hy121]; with_reducible exact H2_) | (have H2_ := (Option.bind_some _ _).symm.trans H; with_reducible exact H2_) | with_reducible exact H | (rw [hy121]; exact H) | exact H
  have Ny121 := Aside0.mk hy121
  clear hy121
  replace H := Option.bind_eq_some_iff.mp H
  obtain ⟨t124, A50, H⟩ := H
  replace H : (if t124 = 0 then ((spec_l01In.f a3 0 (wrap64 (a1 - 1))).bind fun t125 => (spec_ShiftPeriods.j0 k a1 l2 a3 t124 (!t125))) else (spec_ShiftPeriods.j0 k a1 l2 a3 t124 false)) = some (r1, r2) := H
  have A5 := Aside0.mk A50
  clear A50
  have HC6 := Aside0.mk H
  clear H
  go_enter Try.func27, Try.ntmps27
  go_upto_region 2 with (first | ((with_reducible refine gate_dst (N := 16) rfl ?_); refine Kd.N_lit (Kd.slice 2 (Kd.int .i64)) _ 25 ?hg (N' := 16) ?hd (xs := ([l2] : List (List Int))) (inner := [.slice A2 l2.length c2]) (ok := (fun k_ => (P2_ k_ ∨ w.heap.size ≤ k_))) (okp := (fun k_ => (P2_ k_ ∨ w.heap.size ≤ k_))) ?hr ?hp (fun _ hk => hk) ((show ∀ k_, w.heap.size ≤ k_ → (fun k_ => (P2_ k_ ∨ w.heap.size ≤ k_)) k_ from fun k_ hk => (.inr (Nat.le_trans (below_size qB5) hk))) _ (Nat.le_refl _)) (Below.refl _ _) (Nat.le_refl _) (by simp) ?_; (case hd => rfl); (case hg => rfl); (case hr => first | (go_simp; done) | (go_simp; rfl)); (case hp => exact (Reps.one (show Kd.FK (Kd.slice 2 (Kd.int .i64)) _ _ l2 [.slice A2 l2.length c2] from (Kd.FK_slice_mk (Kd.V_reads' (Kd.V_mono (ok' := (fun k_ => (P2_ k_ ∨ w.heap.size ≤ k_))) (HO2.out) (fun k_ hk => hk))).2.1 (Kd.V_F (Kd.V_mono (ok' := (fun k_ => (P2_ k_ ∨ w.heap.size ≤ k_))) (HO2.out) (fun k_ hk => hk))))) (Reps.none _ _))); intro v122 w7 ho8 hb hg_ hnew_; clear hg_ hnew_; (first | rw [← Ny121.out] at ho8 | (simp only [Int.reduceToNat] at ho8; rw [← Ny121.out] at ho8)); have n0_ := Aside0.mk (Kd.V_elder' qB20 (Kd.N_base ho8) hb); have n1_ := Aside0.mk (Kd.N_lower ho8 (below_size qB5)); have n2_ := Aside0.mk (below_step qB5 hb); clear HO2; clear HB; have HO2 := n0_; have HO123 := n1_; have HB := n2_; clear n0_ n1_ n2_; clear hb ho8; obtain ⟨Ao9, co9, eo9⟩ := Kd.N_slice HO123.out; subst eo9) | ((with_reducible refine gate_callee (f := 41) rfl ?_); refine goesL_ (some 17) rfl rfl Try.func41 (by kernel_rfl) rfl #[.int .i64 a0, .int .i64 a1, .slice Ao9 y121.length co9] rfl qB4 ?_; (with_reducible refine (spec_l06Sum.calls k a0 a1 _ _ y121 t124 _ ?side1 ?side2 A5.out).mono ?_); (case side1 => repeat (first | exact (Kd.N_reads' HO123.out).2.2 | (with_reducible refine Kd.C_alloc ?_ _) | (with_reducible refine Kd.C_drewN ?_ _) | (with_reducible refine Kd.C_drew ?_))); (case side2 => exact (Kd.N_reads' HO123.out).2.1); rintro e w' ⟨rfl, ⟨nd, rfl⟩⟩; refine ⟨_, rfl, ?_⟩))
  (try simp only [Act.put, List.setIfInBounds_toArray, List.set_cons_zero, List.set_cons_succ])
  go_cut [26] (fun v26 wc => ∃ (kq : Nat) (x26_5 : Bool), v26 = .bool x26_5 ∧ Aside0 (spec_ShiftPeriods.j0 kq a1 l2 a3 t124 x26_5 = some (r1, r2)) ∧ Aside0 (kq ≤ k) ∧ Aside0 (Kd.V (Kd.int .i64) 2 wc w.heap.size (fun k_ => (P2_ k_ ∨ w.heap.size ≤ k_)) (.slice A2 l2.length c2) l2) ∧ Aside0 (Below w.heap.size w wc))
  case first =>
    have H := HC6.out
    clear HC6
    by_cases c10 : t124 = 0
    · rw [if_pos c10] at H
      have c10b0 : (t124 == 0) = true := beq_iff_eq.mpr c10
      have c10b1 : (t124 != 0) = false := bne_eq_false_iff_eq.mpr c10
      clear c10
      (first | rw [c10b0] | (simp only [i64_w, i32_w]; rw [c10b0]) | skip)
      replace H := Option.bind_eq_some_iff.mp H
      obtain ⟨t125, A110, H⟩ := H
      replace H : (spec_ShiftPeriods.j0 k a1 l2 a3 t124 (!t125)) = some (r1, r2) := H
      have A11 := Aside0.mk A110
      clear A110
      have H' := Aside0.mk H
      clear H
      go_wp2_with (first | (go_at_call 49; (with_reducible refine (spec_l01In.calls a3 0 (wrap64 (a1 - 1)) t125 _ A11.out).mono ?_); rintro e w' ⟨rfl, ⟨nd, rfl⟩⟩))
      go_meet
      case rel => exact ⟨_, (!t125), qB22, H', ⟨by first | omega | exact Nat.le_refl _⟩, ⟨by (with_reducible repeat (first | apply Kd.V_alloc | apply Kd.V_drewN | apply Kd.V_drew)); exact Kd.V_mono HO2.out (fun _ hk => hk.1)⟩, ⟨by repeat (first | (with_reducible first | exact HB.out | apply below_alloc | apply pw_below_drewN | apply below_drew1) | exact HB.out)⟩⟩
    · rw [if_neg c10] at H
      have c10b0 : (t124 == 0) = false := beq_eq_false_iff_ne.mpr c10
      have c10b1 : (t124 != 0) = true := bne_iff_ne.mpr c10
      (first | rw [c10b0] | (simp only [i64_w, i32_w]; rw [c10b0]) | skip)
      have H' := Aside0.mk H
      clear H
      go_wp2
      go_meet
      case rel => exact ⟨_, (false), qB22, H', ⟨by first | omega | exact Nat.le_refl _⟩, ⟨by (with_reducible repeat (first | apply Kd.V_alloc | apply Kd.V_drewN | apply Kd.V_drew)); exact Kd.V_mono HO2.out (fun _ hk => hk.1)⟩, ⟨by repeat (first | (with_reducible first | exact HB.out | apply below_alloc | apply pw_below_drewN | apply below_drew1) | exact HB.out)⟩⟩
  case rest =>
    clear HC6
    try clear c1
    try clear c2
    try clear p2
    try clear c4
    try clear p6
    try clear c10
    try clear c10b0
    try clear c10b1
    obtain ⟨kq, x26_5, rfl, HA, HJ5, HO_2, HB⟩ := hcut
    cases kq with
    | zero => exact absurd HA.out (by simp [spec_ShiftPeriods.j0])
    | succ kj5 =>
      have H := HA.out
      clear HA
      simp only [spec_ShiftPeriods.j0] at H
      have HC12 := Aside0.mk H
      clear H
      go_upto_if 26 with (fail)
      go_cut [10] (fun v10 wc => ∃ (kq : Nat) (x10_11 : Int), v10 = .int .i64 x10_11 ∧ Aside0 (spec_ShiftPeriods.j1 kq a1 l2 a3 x10_11 = some (r1, r2)) ∧ Aside0 (kq ≤ kj5) ∧ Aside0 (Kd.V (Kd.int .i64) 2 wc w.heap.size (fun k_ => (P2_ k_ ∨ w.heap.size ≤ k_)) (.slice A2 l2.length c2) l2) ∧ Aside0 (Below w.heap.size w wc))
      case first =>
        have H := HC12.out
        clear HC12
        by_cases c13 : x26_5 = true
        · subst c13
          have H1 : (spec_ShiftPeriods.j1 kj5 a1 l2 a3 2) = some (r1, r2) := by rw [if_pos rfl] at H; exact H
          clear H
          have H := H1
          clear H1
          have H' := Aside0.mk H
          clear H
          go_wp2
          go_meet
          case rel => exact ⟨_, (2), qB22, H', ⟨by have := HJ5.out; first | omega | exact Nat.le_refl _⟩, ⟨by (with_reducible repeat (first | apply Kd.V_alloc | apply Kd.V_drewN | apply Kd.V_drew)); exact HO_2.out⟩, ⟨by repeat (first | (with_reducible first | exact HB.out | apply below_alloc | apply pw_below_drewN | apply below_drew1) | exact HB.out)⟩⟩
        · replace c13 := Bool.eq_false_iff.mpr c13
          subst c13
          have H1 : (spec_ShiftPeriods.j1 kj5 a1 l2 a3 t124) = some (r1, r2) := by rw [if_neg (show ¬ (false = true) by decide)] at H; exact H
          clear H
          have H := H1
          clear H1
          have H' := Aside0.mk H
          clear H
          go_wp2
          go_meet
          case rel => exact ⟨_, (t124), qB22, H', ⟨by have := HJ5.out; first | omega | exact Nat.le_refl _⟩, ⟨by (with_reducible repeat (first | apply Kd.V_alloc | apply Kd.V_drewN | apply Kd.V_drew)); exact HO_2.out⟩, ⟨by repeat (first | (with_reducible first | exact HB.out | apply below_alloc | apply pw_below_drewN | apply below_drew1) | exact HB.out)⟩⟩
      case rest =>
        clear HC12
        try clear c1
        try clear c2
        try clear p2
        try clear c4
        try clear p6
        try clear c10
        try clear c10b0
        try clear c10b1
        try clear c13
        try clear p2
        try clear p6
        obtain ⟨kq, x10_11, rfl, HA, HJ11, HO_2, HB⟩ := hcut
        cases kq with
        | zero => exact absurd HA.out (by simp [spec_ShiftPeriods.j1])
        | succ kj11 =>
          have H := HA.out
          clear HA
          simp only [spec_ShiftPeriods.j1] at H
          by_cases c14 : x10_11 = 0
          · rw [if_pos c14] at H
            have c14b0 : (x10_11 == 0) = true := beq_iff_eq.mpr c14
            have c14b1 : (x10_11 != 0) = false := bne_eq_false_iff_eq.mpr c14
            clear c14
            by_cases c15 : 0 ≤ a1
            · rw [if_pos c15] at H
              have c15b0 := eq_true c15
              have c15b1 : decide (0 ≤ a1) = true := decide_eq_true c15
              clear c15
              by_cases c16 : (a1 : Int).toNat ≤ 35184372088832
              · rw [if_pos c16] at H
                have c16b0 := eq_true c16
                have c16b1 : decide ((a1 : Int).toNat ≤ 35184372088832) = true := decide_eq_true c16
                clear c16
                obtain ⟨y126, hy126⟩ : ∃ y_ : List Int, y_ = (List.replicate (a1 : Int).toNat 0) := ⟨_, rfl⟩
                replace H : (spec_ShiftPeriods.l0 kj11 a1 l2 a3 y126 0) = some (r1, r2) := by first | (rw [hy126]; with_reducible exact H) | (have H2_ := (Option.bind_some _ _).symm.trans H; rw [hy126]; with_reducible exact H2_) | (have H2_ := (Option.bind_some _ _).symm.trans H; with_reducible exact H2_) | with_reducible exact H | (rw [hy126]; exact H) | exact H
                have Ny126 := Aside0.mk hy126
                clear hy126
                have H' := Aside0.mk H
                clear H
                go_wp2_with (first | ((with_reducible refine gate_dst (N := 31) rfl ?_); refine Kd.R_make (Kd.int .i64) _ 2 rfl (N := 31) rfl 25 _ _ rfl a1 rfl rfl Try.underlying25 (.int .i64 0) 8 info2 rfl (by decide) (by omega) 0 (ok := fun _ => True) (okp := fun _ => True) rfl (fun _ hk => hk) trivial (of_decide_eq_true qB21) (Nat.le_trans (Nat.mul_le_mul_right _ (of_decide_eq_true qB21 : a1.toNat ≤ 35184372088832)) (by omega)) (Below.refl _ _) (Nat.le_refl _) ?_; intro v127 w17 ho18 hb hg_ hnew_; clear hg_ hnew_; (first | rw [← Ny126.out] at ho18 | (simp only [Int.reduceToNat] at ho18; rw [← Ny126.out] at ho18)); have n0_ := Aside0.mk (Kd.V_elder' qB18 (Kd.R_base ho18) hb); have n1_ := Aside0.mk (Kd.R_lower (Kd.R_newM (M := fun k_ => (w.heap.size ≤ k_)) ho18 (below_size qB5) (fun k_ h_ => h_)) (below_size qB5)); have n2_ := Aside0.mk (below_step qB5 hb); clear HO_2; clear HB; have HO_2 := n0_; have HO128 := n1_; have HB := n2_; clear n0_ n1_ n2_; clear hb ho18))
                try simp only [Act.put, List.setIfInBounds_toArray, List.set_cons_succ, List.set_cons_zero]
                go_loopg [12] kj11 (fun kq v12 w' => ∃ (x11_3 : List Int) (x12_3 : Int), v12 = .int .i64 x12_3 ∧ Aside0 (spec_ShiftPeriods.l0 kq a1 l2 a3 x11_3 x12_3 = some (r1, r2)) ∧ Aside0 (kq ≤ kj11) ∧ Aside0 (Kd.V (Kd.int .i64) 2 w' w.heap.size (fun k_ => (P2_ k_ ∨ w.heap.size ≤ k_) ∧ some k_ ≠ (v127 : Value).ownBlock) (.slice A2 l2.length c2) l2) ∧ Aside0 (Kd.R (Kd.int .i64) 2 w' w.heap.size (fun k_ => (w.heap.size ≤ k_)) v127 x11_3) ∧ Aside0 (Below w.heap.size w w'))
                case atStart => exact ⟨(y126), (0), qB22, H', ⟨Nat.le_refl _⟩, ⟨by (with_reducible repeat (first | apply Kd.V_alloc | apply Kd.V_drewN | apply Kd.V_drew)); exact HO_2.out⟩, ⟨by (with_reducible repeat (first | apply Kd.R_alloc | apply Kd.R_drewN | apply Kd.R_drew)); exact Kd.R_mono HO128.out (fun _ hk => hk.1)⟩, ⟨by repeat (first | (with_reducible first | exact HB.out | apply below_alloc | apply pw_below_drewN | apply below_drew1) | exact HB.out)⟩⟩
                case round =>
                  clear H'
                  try clear c1
                  try clear c2
                  try clear p2
                  try clear c4
                  try clear p6
                  try clear c10
                  try clear c10b0
                  try clear c10b1
                  try clear c13
                  try clear c14
                  try clear c14b0
                  try clear c14b1
                  try clear c15
                  try clear c15b0
                  try clear c15b1
                  try clear c16
                  try clear c16b0
                  try clear c16b1
                  try clear p2
                  try clear p6
                  obtain ⟨x11_3, x12_3, rfl, HA, HK3, HO_2, HO_11, HB⟩ := hrel
                  cases gk with
                  | zero => exact absurd HA.out (by simp [spec_ShiftPeriods.l0])
                  | succ k3 =>
                    have H := HA.out
                    clear HA
                    simp only [spec_ShiftPeriods.l0] at H
                    by_cases c19 : x12_3 < a1
                    · rw [if_pos c19] at H
                      have c19b0 : decide (x12_3 < a1) = true := decide_eq_true c19
                      clear c19
                      by_cases c20 : a1 = 0
                      · rw [if_pos c20] at H
                        exact absurd H (by simp)
                      · rw [if_neg c20] at H
                        have c20b0 : (a1 == 0) = false := beq_eq_false_iff_ne.mpr c20
                        have c20b1 : (a1 != 0) = true := bne_iff_ne.mpr c20
                        by_cases c21 : 0 ≤ x12_3
                        · rw [if_pos c21] at H
                          have c21b0 : decide (0 ≤ x12_3) = true := decide_eq_true c21
                          clear c21
                          by_cases c22 : x12_3 < (l2.length : Int)
                          · rw [if_pos c22] at H
                            have c22b0 : decide (x12_3 < (l2.length : Int)) = true := decide_eq_true c22
                            clear c22
                            obtain ⟨ji23, hji23⟩ : ∃ j_ : Int, (Int.tmod (wrap64 (x12_3 + a3)) a1) = j_ := ⟨_, rfl⟩
                            replace H : (if 0 ≤ (ji23) then (if (ji23) < (x11_3.length : Int) then (spec_ShiftPeriods.l0 k3 a1 l2 a3 (x11_3.set ((ji23) : Int).toNat (rd l2 x12_3)) (wrap64 (x12_3 + 1))) else (none)) else (none)) = some (r1, r2) := by first | (rw [hji23] at H; exact H) | (simp only [hji23] at H ⊢; exact H)
                            by_cases c24 : 0 ≤ (ji23)
                            · rw [if_pos c24] at H
                              have c24b0 : decide (0 ≤ (ji23)) = true := decide_eq_true c24
                              clear c24
                              by_cases c25 : (ji23) < (x11_3.length : Int)
                              · rw [if_pos c25] at H
                                have c25b0 : decide ((ji23) < (x11_3.length : Int)) = true := decide_eq_true c25
                                clear c25
                                obtain ⟨y130, hy130⟩ : ∃ y_ : List Int, y_ = (x11_3.set ((ji23) : Int).toNat (rd l2 x12_3)) := ⟨_, rfl⟩
                                replace H : (spec_ShiftPeriods.l0 k3 a1 l2 a3 y130 (wrap64 (x12_3 + 1))) = some (r1, r2) := by first | (rw [hy130]; with_reducible exact H) | (have H2_ := (Option.bind_some _ _).symm.trans H; rw [hy130]; with_reducible exact H2_) | (have H2_ := (Option.bind_some _ _).symm.trans H; with_reducible exact H2_) | with_reducible exact H | (rw [hy130]; exact H) | exact H
                                have Ny130 := Aside0.mk hy130
                                clear hy130
                                have H' := Aside0.mk H
                                clear H
                                try go_wp2
                                have n0_ := Aside0.mk (Kd.V_drew HO_2.out)
                                have n1_ := Aside0.mk (Kd.R_drew HO_11.out)
                                have n2_ := Aside0.mk (below_drew1 HB.out)
                                clear HO_2
                                clear HO_11
                                clear HB
                                have HO_2 := n0_
                                have HO_11 := n1_
                                have HB := n2_
                                clear n0_ n1_ n2_
                                have p129 : 0 ≤ (x12_3 : Int) := of_decide_eq_true qB21
                                have q129 : x12_3 < (l2.length : Int) := of_decide_eq_true qB21
                                obtain ⟨ad129, e129, hx129_0⟩ := Kd.at_int (Kd.V_reads' HO_2.out).2.2 x12_3 p129 q129
                                cases e129
                                replace p129 := eq_true p129
                                replace q129 := eq_true q129
                                have p26 : 0 ≤ ((ji23) : Int) := of_decide_eq_true qB21
                                have q26 : ((ji23) : Int) < ((x11_3.length : Int) : Int) := of_decide_eq_true qB21
                                obtain ⟨go26, co26, eo26, gb26, gl26, cl26, HG26⟩ := Kd.R_form HO_11.out (by omega)
                                (first | cases eo26 | (injection eo26 with ea_ en_ ec_; (first | subst ea_ | (injection ea_ with ea_; subst ea_)); subst ec_; clear en_))
                                have GB26 := Aside0.mk gb26
                                have GG26 := Aside0.mk HG26
                                clear gb26 gl26 HG26
                                obtain ⟨hx26_0, hf26_0⟩ := Kd.R_celln 0 HO_11.out ((ji23) : Int) p26 q26
                                replace p26 := eq_true p26
                                replace q26 := eq_true q26
                                have HP28 := Kd.R_putn HO_11.out ((ji23) : Int) (rd l2 x12_3)
                                rw [← Ny130.out] at HP28
                                have HQ28 := Aside0.mk HP28
                                clear HP28
                                refine start_ (n := 12) (S := fun w' => w'.cell? (ad129.add (x12_3).toNat) = some (.int .i64 (rd l2 x12_3))) (ds := [11]) #[false, false, false, false, false, false, false, false, false, false, false, false] (by kernel_rfl) rfl rfl (hx129_0) (fun hHeld => ?_); refine with_tabW spec_ShiftPeriods.tab10 spec_ShiftPeriods.bits10 (fun HT_ HW_ => ?_)
                                generalize wr.drew = w27 at HO_2 HO_11 HB GG26 HQ28 hf26_0 hx129_0 hx26_0 hHeld ⊢
                                refine pure_ (i := 0) (N := some 37) (v := ?_) (a' := ?_) #[true, false, false, false, false, false, false, false, false, false, false, false] rfl rfl (any_of HT_.out (by kernel_rfl)) (fun _ _ _ h => h) (Or.inl ⟨by rfl, ?_⟩) ?_ ?_
                                rotate_left
                                · intro w'
                                  go_simp
                                  with_reducible rfl
                                rotate_left
                                · simp only [Act.put, List.setIfInBounds_toArray, List.set_cons_zero, List.set_cons_succ, i64_w, i32_w]
                                  rfl
                                refine pure_ (i := 1) (N := some 38) (v := ?_) (a' := ?_) #[true, true, false, false, false, false, false, false, false, false, false, false] rfl rfl (any_of HT_.out (by kernel_rfl)) (fun _ _ _ h => h) (Or.inl ⟨by rfl, ?_⟩) ?_ ?_
                                rotate_left
                                · intro w'
                                  go_simp
                                  with_reducible rfl
                                rotate_left
                                · simp only [Act.put, List.setIfInBounds_toArray, List.set_cons_zero, List.set_cons_succ, i64_w, i32_w]
                                  rfl
                                refine pure_ (i := 2) (N := some 39) (v := ?_) (a' := ?_) #[true, true, true, false, false, false, false, false, false, false, false, false] rfl rfl (any_of HT_.out (by kernel_rfl)) (fun _ _ _ h => h) (Or.inl ⟨by rfl, ?_⟩) ?_ ?_
                                rotate_left
                                · intro w'
                                  go_simp
                                  with_reducible rfl
                                rotate_left
                                · simp only [Act.put, List.setIfInBounds_toArray, List.set_cons_zero, List.set_cons_succ, i64_w, i32_w]
                                  rfl
                                refine pure_ (i := 3) (N := some 40) (v := ?_) (a' := ?_) #[true, true, true, true, false, false, false, false, false, false, false, false] rfl rfl (any_of HT_.out (by kernel_rfl)) (fun _ _ _ h => h) (Or.inl ⟨by rfl, ?_⟩) ?_ ?_
                                rotate_left
                                · intro w'
                                  go_simp
                                  with_reducible rfl
                                rotate_left
                                · simp only [Act.put, List.setIfInBounds_toArray, List.set_cons_zero, List.set_cons_succ, i64_w, i32_w]
                                  rfl
                                refine pure_ (i := 4) (N := some 41) (v := ?_) (a' := ?_) #[true, true, true, true, true, false, false, false, false, false, false, false] rfl rfl (any_of HT_.out (by kernel_rfl)) (fun _ _ _ h => h) (Or.inl ⟨by rfl, ?_⟩) ?_ ?_
                                rotate_left
                                · intro w'
                                  go_simp
                                  with_reducible rfl
                                rotate_left
                                · simp only [Act.put, List.setIfInBounds_toArray, List.set_cons_zero, List.set_cons_succ, i64_w, i32_w]
                                  rfl
                                refine pure_ (i := 5) (N := some 42) (v := ?_) (a' := ?_) #[true, true, true, true, true, true, false, false, false, false, false, false] rfl rfl (any_of HT_.out (by kernel_rfl)) (fun _ _ _ h => h) (Or.inl ⟨by rfl, ?_⟩) ?_ ?_
                                rotate_left
                                · intro w'
                                  go_simp
                                  with_reducible rfl
                                rotate_left
                                · simp only [Act.put, List.setIfInBounds_toArray, List.set_cons_zero, List.set_cons_succ, i64_w, i32_w]
                                  rfl
                                refine pure_ (i := 6) (N := some 43) (v := ?_) (a' := ?_) #[true, true, true, true, true, true, true, false, false, false, false, false] rfl rfl (any_of HT_.out (by kernel_rfl)) (fun _ _ _ h => h) (Or.inl ⟨by rfl, ?_⟩) ?_ ?_
                                rotate_left
                                · intro w'
                                  go_simp
                                  with_reducible rfl
                                rotate_left
                                · simp only [Act.put, List.setIfInBounds_toArray, List.set_cons_zero, List.set_cons_succ, i64_w, i32_w]
                                  rfl
                                refine pure_ (i := 7) (N := some 44) (v := ?_) (a' := ?_) #[true, true, true, true, true, true, true, true, false, false, false, false] rfl rfl (any_of HT_.out (by kernel_rfl)) (fun _ _ _ h => h) (Or.inl ⟨by rfl, ?_⟩) ?_ ?_
                                rotate_left
                                · intro w'
                                  go_simp
                                  with_reducible rfl
                                rotate_left
                                · simp only [Act.put, List.setIfInBounds_toArray, List.set_cons_zero, List.set_cons_succ, i64_w, i32_w]
                                  rfl
                                refine pure_ (i := 8) (N := some 45) (v := ?_) (a' := ?_) #[true, true, true, true, true, true, true, true, true, false, false, false] rfl rfl (any_of HT_.out (by kernel_rfl)) (fun _ _ _ h => h) (Or.inl ⟨by rfl, ?_⟩) ?_ ?_
                                rotate_left
                                · intro w'
                                  go_simp
                                  with_reducible rfl
                                rotate_left
                                · simp only [Act.put, List.setIfInBounds_toArray, List.set_cons_zero, List.set_cons_succ, i64_w, i32_w]
                                  rfl
                                refine take_ (i := 9) (N := some 46) (v := ?_) (a' := ?_) #[true, true, true, true, true, true, true, true, true, true, false, false] rfl rfl (take_ofW HT_.out HW_.out (by kernel_rfl)) (fun _ _ _ h => h) (Or.inl ⟨by rfl, ?_⟩) hHeld ?_ ?_
                                rotate_left
                                · intro w' s0
                                  go_simp
                                  with_reducible rfl
                                rotate_left
                                · simp only [Act.put, List.setIfInBounds_toArray, List.set_cons_zero, List.set_cons_succ, i64_w, i32_w]
                                  rfl
                                refine pure_ (i := 10) (N := some 47) (v := ?_) (a' := ?_) #[true, true, true, true, true, true, true, true, true, true, true, false] rfl rfl (any_of HT_.out (by kernel_rfl)) (fun _ _ _ h => h) (Or.inl ⟨by rfl, ?_⟩) ?_ ?_
                                rotate_left
                                · intro w'
                                  go_simp
                                  with_reducible rfl
                                rotate_left
                                · simp only [Act.put, List.setIfInBounds_toArray, List.set_cons_zero, List.set_cons_succ, i64_w, i32_w]
                                  rfl
                                refine last_ (i := 11) (N := none) #[true, true, true, true, true, true, true, true, true, true, true, true] rfl rfl (one_of HT_.out (by kernel_rfl)) (by decide) (fun K hK => ?_)
                                refine skip_ (w1 := ?_) (by rfl) rfl ?_ ?_
                                rotate_left
                                · go_simp
                                  rfl
                                refine hK.out _ _ ?_
                                clear hK K
                                refine done_ (done_of HT_.out (by kernel_rfl)) ?_
                                try go_wp2
                                (first | go_roundg k3 | ((try simp only [add_plain] at *); go_roundg k3))
                                case measure => have := HJ5.out; have := HJ11.out; have := HK3.out; omega
                                case rel => exact ⟨(y130), (wrap64 (x12_3 + 1)), qB22, H', ⟨by have := HJ5.out; have := HJ11.out; have := HK3.out; omega⟩, ⟨by (with_reducible repeat (first | apply Kd.V_alloc | apply Kd.V_drewN | apply Kd.V_drew)); exact Kd.V_mono (Kd.V_far (p := ⟨go26, ((ji23) : Int).toNat, none⟩) (Kd.V_mono HO_2.out (fun k_ hk => (⟨hk, fun e_ => hk.2 (by rw [e_]; rfl)⟩ : _ ∧ k_ ≠ go26))) (fun _ hk => hk.2) (.int .i64 (rd l2 x12_3))) (fun _ hk => ⟨hk.1.1, hk.1.2⟩)⟩, ⟨by (with_reducible repeat (first | apply Kd.R_alloc | apply Kd.R_drewN | apply Kd.R_drew)); exact HQ28.out⟩, ⟨by repeat (first | (with_reducible first | exact HB.out | apply below_alloc | apply pw_below_drewN | apply below_drew1 | refine below_set ?_ GB26.out) | exact HB.out)⟩⟩
                              · rw [if_neg c25] at H
                                exact absurd H (by simp)
                            · rw [if_neg c24] at H
                              exact absurd H (by simp)
                          · rw [if_neg c22] at H
                            exact absurd H (by simp)
                        · rw [if_neg c21] at H
                          exact absurd H (by simp)
                    · rw [if_neg c19] at H
                      have c19b0 : decide (x12_3 < a1) = false := decide_eq_false c19
                      clear c19
                      simp only [Option.some.injEq, Prod.mk.injEq] at H
                      obtain ⟨rfl, rfl⟩ := H
                      go_wp2
                      go_ret2
                      exact ⟨_, by first | rfl | (simp [errW_none, errW_some] <;> rfl) | (simp [*, errW_none, errW_some] <;> rfl), by (with_reducible repeat (first | apply Kd.R_alloc | apply Kd.R_drewN | apply Kd.R_drew)); exact HO_11.out, by repeat (first | (with_reducible first | exact HB.out | apply below_alloc | apply pw_below_drewN | apply below_drew1) | exact HB.out)⟩
              · rw [if_neg c16] at H
                exact absurd H (by simp)
            · rw [if_neg c15] at H
              exact absurd H (by simp)
          · rw [if_neg c14] at H
            have c14b0 : (x10_11 == 0) = false := beq_eq_false_iff_ne.mpr c14
            have c14b1 : (x10_11 != 0) = true := bne_iff_ne.mpr c14
            simp only [Option.some.injEq, Prod.mk.injEq] at H
            obtain ⟨rfl, rfl⟩ := H
            go_wp2
            go_ret2
            exact ⟨_, by first | rfl | (simp [errW_none, errW_some] <;> rfl) | (simp [*, errW_none, errW_some] <;> rfl), by first | exact Kd.R_nil _ _ _ _ _ | exact Kd.N_nil _ _ _ _ _ | exact Kd.V_nil _ _ _ _ _ | exact Kd.Q_nil _ _ _ _ _ | exact Kd.S_nil _ _ _ _ _, by repeat (first | (with_reducible first | exact HB.out | apply below_alloc | apply pw_below_drewN | apply below_drew1) | exact HB.out)⟩

/-! ### impl_within: function 54 -/
def impl_within.f (a0 : Int) (a1 : Int) (a2 : Int) : Option (Bool) := if a1 ≤ a0 then (some (decide (a0 ≤ a2))) else (some false)
set_option maxHeartbeats 8000000 in
set_option maxRecDepth 100000 in
theorem impl_within.calls (a0 : Int) (a1 : Int) (a2 : Int) (r : Bool) (w : World) (h : impl_within.f a0 a1 a2 = some r) :
    Calls Try.prog 54 #[.int .i64 a0, .int .i64 a1, .int .i64 a2] w fun e w' => e = .returned (.bool r) ∧ Drawn0 w w' := by
  have H : (if a1 ≤ a0 then (some (decide (a0 ≤ a2))) else (some false)) = some r := h
  clear h
  by_cases c4 : a1 ≤ a0
  · rw [if_pos c4] at H
    have c4b0 : decide (a1 ≤ a0) = true := decide_eq_true c4
    clear c4
    obtain rfl := Option.some.inj H
    go_enter Try.func54, Try.ntmps54
    go_wp2
    go_ret
    exact ⟨by first | rfl | (simp; done) | (simp [*]; done), by repeat (first | exact Drawn0.refl _ | apply Drawn0.step)⟩
  · rw [if_neg c4] at H
    have c4b0 : decide (a1 ≤ a0) = false := decide_eq_false c4
    clear c4
    obtain rfl := Option.some.inj H
    go_enter Try.func54, Try.ntmps54
    go_wp2
    go_ret
    exact ⟨by first | rfl | (simp; done) | (simp [*]; done), by repeat (first | exact Drawn0.refl _ | apply Drawn0.step)⟩

/-! ### impl_isPrime: function 37 -/
def impl_isPrime.l0 : Nat → Int → Int → Option (Bool)
  | 0, _, _ => none
  | k + 1, x0, x3 => if (wrap64 (x3 * x3)) ≤ x0 then (if x3 = 0 then (none) else (if (Int.tmod x0 x3) = 0 then (some false) else (impl_isPrime.l0 k x0 (wrap64 (x3 + 1))))) else ((impl_within.f x0 3 61).bind fun t131 => (some t131))
def impl_isPrime.f (k : Nat) (a0 : Int) : Option (Bool) := impl_isPrime.l0 k a0 2
theorem impl_isPrime.mono_l : ∀ k, (∀ y0 y1, LeO (impl_isPrime.l0 k y0 y1) (impl_isPrime.l0 (k + 1) y0 y1))
  | 0 => fun _ _ r h => by simp [impl_isPrime.l0] at h
  | k + 1 => by
    have ih0 := impl_isPrime.mono_l k
    · intro y0 y1
      unfold impl_isPrime.l0
      repeat' first
      | (with_reducible exact ih0 _ _)
      | (with_reducible exact LeO.refl _)
      | (with_reducible exact LeO.none _)
      | (with_reducible refine LeO.ite ?_ ?_)
      | (with_reducible refine LeO.bind ?_ (fun _ => ?_))
      | exact ih0 _ _
      | exact LeO.none _
      | refine LeO.ite ?_ ?_
      | refine LeO.bind ?_ (fun _ => ?_)
theorem impl_isPrime.mono : ∀ a0 k, LeO (impl_isPrime.f k a0) (impl_isPrime.f (k + 1) a0) := by
  intro a0 k
  have ih0 := impl_isPrime.mono_l k
  unfold impl_isPrime.f
  repeat' first
      | (with_reducible exact ih0 _ _)
      | (with_reducible exact LeO.refl _)
      | (with_reducible exact LeO.none _)
      | (with_reducible refine LeO.ite ?_ ?_)
      | (with_reducible refine LeO.bind ?_ (fun _ => ?_))
      | exact ih0 _ _
      | exact LeO.none _
      | refine LeO.ite ?_ ?_
      | refine LeO.bind ?_ (fun _ => ?_)
set_option maxHeartbeats 8000000 in
set_option maxRecDepth 100000 in
theorem impl_isPrime.calls (k : Nat) (a0 : Int) (r : Bool) (w : World) (h : impl_isPrime.f k a0 = some r) :
    Calls Try.prog 37 #[.int .i64 a0] w fun e w' => e = .returned (.bool r) ∧ Drawn0 w w' := by
  have H : (impl_isPrime.l0 k a0 2) = some r := h
  clear h
  have H' := Aside0.mk H
  clear H
  go_enter Try.func37, Try.ntmps37
  go_wp2
  try simp only [Act.put, List.setIfInBounds_toArray, List.set_cons_succ, List.set_cons_zero]
  go_loopg [3] k (fun kq v3 w' => ∃ (x3_1 : Int), v3 = .int .i64 x3_1 ∧ Aside0 (impl_isPrime.l0 kq a0 x3_1 = some r) ∧ Aside0 (kq ≤ k) ∧ Drawn0 w w')
  case atStart => exact ⟨(2), qB22, H', ⟨Nat.le_refl _⟩, by repeat (first | exact Drawn0.refl _ | apply Drawn0.step)⟩
  case round =>
    clear H'
    obtain ⟨x3_1, rfl, HA, HK1, ⟨m1, rfl⟩⟩ := hrel
    cases gk with
    | zero => exact absurd HA.out (by simp [impl_isPrime.l0])
    | succ k1 =>
      have H := HA.out
      clear HA
      simp only [impl_isPrime.l0] at H
      by_cases c2 : (wrap64 (x3_1 * x3_1)) ≤ a0
      · rw [if_pos c2] at H
        have c2b0 : decide ((wrap64 (x3_1 * x3_1)) ≤ a0) = true := decide_eq_true c2
        clear c2
        by_cases c3 : x3_1 = 0
        · rw [if_pos c3] at H
          exact absurd H (by simp)
        · rw [if_neg c3] at H
          have c3b0 : (x3_1 == 0) = false := beq_eq_false_iff_ne.mpr c3
          have c3b1 : (x3_1 != 0) = true := bne_iff_ne.mpr c3
          by_cases c4 : (Int.tmod a0 x3_1) = 0
          · rw [if_pos c4] at H
            have c4b0 : ((Int.tmod a0 x3_1) == 0) = true := beq_iff_eq.mpr c4
            have c4b1 : ((Int.tmod a0 x3_1) != 0) = false := bne_eq_false_iff_eq.mpr c4
            clear c4
            obtain rfl := Option.some.inj H
            go_wp2
            go_ret
            exact ⟨by first | rfl | (simp; done) | (simp [*]; done), by repeat (first | exact Drawn0.refl _ | apply Drawn0.step)⟩
          · rw [if_neg c4] at H
            have c4b0 : ((Int.tmod a0 x3_1) == 0) = false := beq_eq_false_iff_ne.mpr c4
            have c4b1 : ((Int.tmod a0 x3_1) != 0) = true := bne_iff_ne.mpr c4
            have H' := Aside0.mk H
            clear H
            go_wp2
            (first | go_roundg k1 | ((try simp only [add_plain] at *); go_roundg k1))
            case measure => have := HK1.out; omega
            case rel => exact ⟨(wrap64 (x3_1 + 1)), qB22, H', ⟨by have := HK1.out; omega⟩, by repeat (first | exact Drawn0.refl _ | apply Drawn0.step)⟩
      · rw [if_neg c2] at H
        have c2b0 : decide ((wrap64 (x3_1 * x3_1)) ≤ a0) = false := decide_eq_false c2
        clear c2
        replace H := Option.bind_eq_some_iff.mp H
        obtain ⟨t131, A50, H⟩ := H
        replace H : (some t131) = some r := H
        have A5 := Aside0.mk A50
        clear A50
        obtain rfl := Option.some.inj H
        go_wp2_with (first | ((with_reducible refine gate_callee (f := 54) rfl ?_); refine goesL_ (some 16) rfl rfl Try.func54 (by kernel_rfl) rfl #[.int .i64 a0, .int .i64 3, .int .i64 61] rfl qB4 ?_; (with_reducible refine (impl_within.calls a0 3 61 t131 _ A5.out).mono ?_); rintro e w' ⟨rfl, ⟨nd, rfl⟩⟩; refine ⟨_, rfl, ?_⟩))
        go_ret
        exact ⟨by first | rfl | (simp; done) | (simp [*]; done), by repeat (first | exact Drawn0.refl _ | apply Drawn0.step)⟩

/-! ### bits_Mul32: function 92 -/
def bits_Mul32.f (a0 : Int) (a1 : Int) : Option (Int × Int) := some (((IntKind.u64.wrap ((IntKind.u64.wrap (a0)) * (IntKind.u64.wrap (a1)))) / 4294967296) % 4294967296, (IntKind.u64.wrap ((IntKind.u64.wrap (a0)) * (IntKind.u64.wrap (a1)))) % 4294967296)
set_option maxHeartbeats 8000000 in
set_option maxRecDepth 100000 in
theorem bits_Mul32.calls (a0 : Int) (a1 : Int) (r1 : Int) (r2 : Int) (w : World) (h : bits_Mul32.f a0 a1 = some (r1, r2)) :
    Calls Try.prog 92 #[.int .u32 a0, .int .u32 a1] w fun e w' => e = .returned (.tuple #[.int .u32 r1, .int .u32 r2]) ∧ Drawn0 w w' := by
  have H : (some (((IntKind.u64.wrap ((IntKind.u64.wrap (a0)) * (IntKind.u64.wrap (a1)))) / 4294967296) % 4294967296, (IntKind.u64.wrap ((IntKind.u64.wrap (a0)) * (IntKind.u64.wrap (a1)))) % 4294967296)) = some (r1, r2) := h
  clear h
  simp only [Option.some.injEq, Prod.mk.injEq] at H
  obtain ⟨rfl, rfl⟩ := H
  go_enter Try.func92, Try.ntmps92
  go_wp2
  go_ret2
  exact ⟨by first | rfl | (simp; done) | (simp [*]; done), by repeat (first | exact Drawn0.refl _ | apply Drawn0.step)⟩

/-! ### bits_Mul64: function 93 -/
def bits_Mul64.f (a0 : Int) (a1 : Int) : Option (Int × Int) := some (IntKind.u64.wrap ((IntKind.u64.wrap ((IntKind.u64.wrap ((a0 / 4294967296) * (a1 / 4294967296))) + ((IntKind.u64.wrap ((IntKind.u64.wrap ((a0 / 4294967296) * (Go.bits .and .u64 a1 4294967295))) + ((IntKind.u64.wrap ((Go.bits .and .u64 a0 4294967295) * (Go.bits .and .u64 a1 4294967295))) / 4294967296))) / 4294967296))) + ((IntKind.u64.wrap ((Go.bits .and .u64 (IntKind.u64.wrap ((IntKind.u64.wrap ((a0 / 4294967296) * (Go.bits .and .u64 a1 4294967295))) + ((IntKind.u64.wrap ((Go.bits .and .u64 a0 4294967295) * (Go.bits .and .u64 a1 4294967295))) / 4294967296))) 4294967295) + (IntKind.u64.wrap ((Go.bits .and .u64 a0 4294967295) * (a1 / 4294967296))))) / 4294967296)), IntKind.u64.wrap (a0 * a1))
set_option maxHeartbeats 8000000 in
set_option maxRecDepth 100000 in
theorem bits_Mul64.calls (a0 : Int) (a1 : Int) (r1 : Int) (r2 : Int) (w : World) (h : bits_Mul64.f a0 a1 = some (r1, r2)) :
    Calls Try.prog 93 #[.int .u64 a0, .int .u64 a1] w fun e w' => e = .returned (.tuple #[.int .u64 r1, .int .u64 r2]) ∧ Drawn0 w w' := by
  have H : (some (IntKind.u64.wrap ((IntKind.u64.wrap ((IntKind.u64.wrap ((a0 / 4294967296) * (a1 / 4294967296))) + ((IntKind.u64.wrap ((IntKind.u64.wrap ((a0 / 4294967296) * (Go.bits .and .u64 a1 4294967295))) + ((IntKind.u64.wrap ((Go.bits .and .u64 a0 4294967295) * (Go.bits .and .u64 a1 4294967295))) / 4294967296))) / 4294967296))) + ((IntKind.u64.wrap ((Go.bits .and .u64 (IntKind.u64.wrap ((IntKind.u64.wrap ((a0 / 4294967296) * (Go.bits .and .u64 a1 4294967295))) + ((IntKind.u64.wrap ((Go.bits .and .u64 a0 4294967295) * (Go.bits .and .u64 a1 4294967295))) / 4294967296))) 4294967295) + (IntKind.u64.wrap ((Go.bits .and .u64 a0 4294967295) * (a1 / 4294967296))))) / 4294967296)), IntKind.u64.wrap (a0 * a1))) = some (r1, r2) := h
  clear h
  simp only [Option.some.injEq, Prod.mk.injEq] at H
  obtain ⟨rfl, rfl⟩ := H
  go_enter Try.func93, Try.ntmps93
  go_wp2
  go_ret2
  exact ⟨by first | rfl | (simp; done) | (simp [*]; done), by repeat (first | exact Drawn0.refl _ | apply Drawn0.step)⟩

/-! ### bits_Mul: function 75 -/
def bits_Mul.f (a0 : Int) (a1 : Int) : Option (Int × Int) := (bits_Mul64.f a0 a1).bind fun bt132 => (some (bt132.1, bt132.2))
set_option maxHeartbeats 8000000 in
set_option maxRecDepth 100000 in
theorem bits_Mul.calls (a0 : Int) (a1 : Int) (r1 : Int) (r2 : Int) (w : World) (h : bits_Mul.f a0 a1 = some (r1, r2)) :
    Calls Try.prog 75 #[.int .u64 a0, .int .u64 a1] w fun e w' => e = .returned (.tuple #[.int .u64 r1, .int .u64 r2]) ∧ Drawn0 w w' := by
  have H : ((bits_Mul64.f a0 a1).bind fun bt132 => (some (bt132.1, bt132.2))) = some (r1, r2) := h
  clear h
  replace H := Option.bind_eq_some_iff.mp H
  obtain ⟨⟨t132, t133⟩, A30, H⟩ := H
  replace H : (some (t132, t133)) = some (r1, r2) := H
  have A3 := Aside0.mk A30
  clear A30
  simp only [Option.some.injEq, Prod.mk.injEq] at H
  obtain ⟨rfl, rfl⟩ := H
  go_enter Try.func75, Try.ntmps75
  go_wp2_with (first | ((with_reducible refine gate_callee (f := 93) rfl ?_); refine goesL_ (some 25) rfl rfl Try.func93 (by kernel_rfl) rfl #[.int .u64 a0, .int .u64 a1] rfl qB4 ?_; (with_reducible refine (bits_Mul64.calls a0 a1 t132 t133 _ A3.out).mono ?_); rintro e w' ⟨rfl, ⟨nd, rfl⟩⟩; refine ⟨_, rfl, ?_⟩))
  go_ret2
  exact ⟨by first | rfl | (simp; done) | (simp [*]; done), by repeat (first | exact Drawn0.refl _ | apply Drawn0.step)⟩

/-! ### slices_Repeat_int64_int64: function 53 -/
def slices_Repeat_int64_int64.f (l0 : List Int) (a1 : Int) : Option (List Int) := if l0.length = 1 ∧ 0 ≤ a1 ∧ a1 ≤ 64 then some (List.replicate a1.toNat (rd l0 0)) else none
-- HAND
theorem hrp_mul64 (n : Nat) (hn : n ≤ 64) (w : World) :
    Calls Try.prog 93 #[.int .u64 1, .int .u64 n] w fun e w' => e = .returned (.tuple #[.int .u64 0, .int .u64 n]) ∧ Drawn0 w w' := by
  go_enter Try.func93, Try.ntmps93
  go_wp2
  go_ret2
  refine ⟨?_, ?_⟩
  · simp
    clear w
    revert n
    decide +kernel
  · repeat (first | exact Drawn0.refl _ | apply Drawn0.step)
theorem hrp_w (n : Nat) (hn : n ≤ 64) : IntKind.u64.wrap (n : Int) = n := by revert n; decide +kernel
theorem hrp_mul (a b : Int) (n : Nat) (ha : a = 1) (hb : b = n) (hn : n ≤ 64) (w : World) :
    Calls Try.prog 75 #[.int .u64 a, .int .u64 b] w fun e w' => e = .returned (.tuple #[.int .u64 0, .int .u64 n]) ∧ Drawn0 w w' := by
  subst ha hb
  go_enter Try.func75, Try.ntmps75
  go_wp2_with (go_at_call 93; refine (hrp_mul64 n hn _).mono ?_; rintro e w' ⟨rfl, ⟨nd, rfl⟩⟩)
  go_ret2
  exact ⟨by first | rfl | (simp; done), by repeat (first | exact Drawn0.refl _ | exact ⟨_, rfl⟩ | apply Drawn0.step)⟩
theorem hrp_info : (Try.prog.info? 2).map (fun i => (i.zero, i.size, i.bytes)) = some (some (.int .i64 0), 1, 8) := by kernel_rfl
theorem hrp_size : (Try.prog.info? 2).map (·.size) = some 1 := by kernel_rfl
/-- The row that is filled: its first k cells are x. -/
def hrp_row (w : World) (base g n cap k : Nat) (x : Int) : Prop :=
  (base ≤ g ∧ n ≤ cap ∧ cap ≤ maxLen) ∧ ∃ cur : List Value, w.heap[g]? = some (.cells cur.toArray 2 (0, 0)) ∧ cur.length = cap ∧ ∀ j, j < k → cur[j]? = some (.int .i64 x)
theorem hrp_made {w : World} {base m : Nat} {ok : Nat → Prop} {v : Value} {n : Nat} (x : Int) (h : Kd.R (Kd.int .i64) 2 w base ok v (List.replicate n 0)) (hb : ∃ b, v.ownBlock = some b ∧ m ≤ b) :
    ∃ g cap, v = .slice (some ⟨g, 0, none⟩) n cap ∧ hrp_row w base g n cap 0 x := by
  obtain ⟨_, inner, ⟨_, ho⟩, _⟩ := h
  rw [List.length_replicate] at ho
  rcases ho with ⟨rfl, _⟩ | ⟨g, cap, cur, rfl, hg, hh, h1, h2, h3, _⟩
  · obtain ⟨b, hb, _⟩ := hb
    simp [Value.ownBlock] at hb
  · exact ⟨g, cap, rfl, ⟨hg, h1, h2⟩, cur.toList, by simpa using hh, by have : cur.size = cap * 1 := h3; simp; omega, fun j hj => by omega⟩
theorem hrp_splice (L : List Value) (k m : Nat) (v : Value) (h : k + m ≤ L.length) (hL : ∀ j, j < k → L[j]? = some v) :
    (splice L k (List.replicate m v)).length = L.length ∧ ∀ j, j < k + m → (splice L k (List.replicate m v))[j]? = some v := by
  refine ⟨length_splice _ _ _ (by simpa using h), fun j hj => ?_⟩
  unfold splice
  by_cases h1 : j < k
  · rw [List.getElem?_append_left (by simp; omega), List.getElem?_take_of_lt h1]
    exact hL j h1
  · rw [List.getElem?_append_right (by simp; omega), List.length_take, Nat.min_eq_left (by omega), List.getElem?_append_left (by simp; omega), List.getElem?_replicate]
    rw [if_pos (by omega)]
theorem hrp_src {w w4 : World} {A0 : Option Addr} {x : Int} {c1 n : Nat} (hr : Kd.C (Kd.int .i64) w A0 [x].length [x]) (hb : Below w.heap.size w w4) (hc : c1 = min 1 n) (dp : Option Addr) (hp : 0 < (List.replicate c1 (Value.int .i64 x)).length) :
    dp = dp ∧ ∃ ad, A0 = some ad ∧ ∀ j v, (List.replicate c1 (Value.int .i64 x))[j]? = some v → w4.cell? (ad.add j) = some v := by
  obtain ⟨ad, ha, hx⟩ := Kd.at_int (Kd.C_below hr hb) 0 (by omega) (by simp)
  refine ⟨rfl, ad, ha, fun j v hv => ?_⟩
  rw [List.getElem?_replicate] at hv
  split at hv
  · obtain rfl : j = 0 := by omega
    obtain rfl := Option.some.inj hv
    simpa [rd] using hx
  · cases hv
theorem hrp_own {w : World} {g n k m : Nat} {x : Int} {cur : List Value} (hh : w.heap[g]? = some (.cells cur.toArray 2 (0, 0))) (hx : ∀ j, j < k → cur[j]? = some (.int .i64 x)) (hm : m = min k (n - k)) (hp : 0 < (List.replicate m (Value.int .i64 x)).length) :
    (some ⟨g, k, none⟩ : Option Addr) = some ⟨g, k, none⟩ ∧ ∃ ad, (some ⟨g, 0, none⟩ : Option Addr) = some ad ∧ ∀ j v, (List.replicate m (Value.int .i64 x))[j]? = some v → w.cell? (ad.add j) = some v := by
  refine ⟨rfl, _, rfl, fun j v hv => ?_⟩
  rw [List.getElem?_replicate] at hv
  split at hv
  · obtain rfl := Option.some.inj hv
    have hj : j < k := by omega
    have ha : (⟨g, 0, none⟩ : Addr).add j = ⟨g, j, none⟩ := by
      unfold Addr.add
      split
      · rename_i h0; rw [h0]
      · simp
    rw [ha]
    simp [World.cell?, hh, hx j hj]
  · cases hv
theorem hrp_filled {w5 : World} {base g n cap k m : Nat} {x : Int} {cur : List Value} (h1 : base ≤ g ∧ n ≤ cap ∧ cap ≤ maxLen) (hl : cur.length = cap) (hk : k + m ≤ cap) (hx : ∀ j, j < k → cur[j]? = some (.int .i64 x))
    (hg : Hid (w5.heap[g]? = some (.cells (splice cur k (List.replicate m (.int .i64 x))).toArray 2 (0, 0)))) : hrp_row w5 base g n cap (k + m) x := by
  obtain ⟨e1, e2⟩ := hrp_splice cur k m (.int .i64 x) (by omega) hx
  exact ⟨h1, _, hg, by omega, e2⟩
theorem hrp_done {w : World} {base g n cap : Nat} {x : Int} (h : hrp_row w base g n cap n x) :
    Kd.R (Kd.int .i64) 2 w base (fun _ => True) (.slice (some ⟨g, 0, none⟩) n cap) (List.replicate n x) := by
  obtain ⟨⟨h1, h2, h3⟩, cur, hh, hl, hx⟩ := h
  refine Kd.R_of_own ?_ (fun _ _ => trivial)
  refine ⟨by simp [encs], .inr ⟨g, cap, cur.toArray, by simp, h1, hh, by simpa using h2, h3, by simp; omega, ?_⟩⟩
  refine List.ext_getElem? fun j => ?_
  simp only [List.length_replicate, Nat.mul_one, encs, List.map_replicate]
  by_cases hj : j < n
  · rw [List.getElem?_take_of_lt hj, List.getElem?_replicate, if_pos hj]
    exact hx j hj
  · rw [List.getElem?_eq_none (by simp; omega), List.getElem?_eq_none (by simp; omega)]
set_option maxHeartbeats 8000000 in
set_option maxRecDepth 100000 in
theorem slices_Repeat_int64_int64.calls (A0 : Option Addr) (c0 : Nat) (l0 : List Int) (a1 : Int) (r : List Int) (w : World) (hr0 : Kd.C (Kd.int .i64) w A0 l0.length l0) (hc0 : l0.length ≤ c0) (h : slices_Repeat_int64_int64.f l0 a1 = some r) :
    Calls Try.prog 53 #[.slice A0 l0.length c0, .int .i64 a1] w fun e w' => ∃ v0_ : Value, e = .returned (v0_) ∧ Kd.R (Kd.int .i64) 2 w' w.heap.size (fun _ => True) v0_ r ∧ Below w.heap.size w w' := by
  have HR0 := Aside0.mk hr0
  have HC0 := Aside0.mk hc0
  have HB := Aside0.mk (Below.refl w.heap.size w)
  unfold slices_Repeat_int64_int64.f at h
  by_cases c : l0.length = 1 ∧ 0 ≤ a1 ∧ a1 ≤ 64
  · rw [if_pos c] at h
    obtain rfl := Option.some.inj h
    clear h
    obtain ⟨n, rfl⟩ : ∃ n : Nat, a1 = n := ⟨a1.toNat, by omega⟩
    obtain ⟨x, rfl⟩ : ∃ x, l0 = [x] := List.length_eq_one_iff.mp c.1
    have hn : n ≤ 64 := by omega
    have b1 : decide ((n : Int) < 0) = false := decide_eq_false (by omega)
    have b2 : decide ((9223372036854775807 : Int) < n) = false := decide_eq_false (by omega)
    have b3 : wrap64 (n : Int) = n := by rw [wrap64]; omega
    have LN := Aside0.mk hn
    obtain ⟨c1, hc1⟩ : ∃ c1, c1 = min 1 n := ⟨_, rfl⟩
    have LC := Aside0.mk hc1
    clear c hr0 hc0 hn hc1
    go_enter Try.func53, Try.ntmps53
    go_wp2_with (first
      | (go_at_call 75; refine (hrp_mul _ _ n rfl (hrp_w n LN.out) LN.out _).mono ?_; rintro e w' ⟨rfl, ⟨nd, rfl⟩⟩)
      | ((with_reducible refine gate_dst (N := 30) rfl ?_); refine Kd.R_make (Kd.int .i64) _ 2 rfl (N := 30) rfl 25 _ _ rfl (wrap64 (n : Int)) rfl rfl Try.underlying25 (.int .i64 0) 8 hrp_info rfl (by decide) (by omega) 0 (ok := fun _ => True) (okp := fun _ => True) rfl (fun _ hk => hk) trivial (by rw [b3]; omega) (by rw [b3]; have := LN.out; omega) (Below.refl _ _) (Nat.le_refl _) ?_; intro v4 w4 ho hb hg_ hnew_; rw [show (wrap64 (n : Int)).toNat = n by rw [b3]; rfl] at ho; obtain ⟨g, cap, rfl, HW⟩ := hrp_made x ho hnew_; have HG : Aside0 (hrp_row w4 w.heap.size g n cap 0 x) := Aside0.mk HW; have HB' := Aside0.mk (below_step (pw_below_drewN HB.out _) hb); clear HB; have HB := HB'; clear HB' ho hb hg_ hnew_ HW; obtain ⟨cur, hcur⟩ := HG.out.2; have HH := Aside0.mk hcur; clear hcur)
      | ((with_reducible refine gate_builtin (b := .copy) (xs := #[.tmp 31, .tmp 32]) rfl ?_); refine wpList_copy_splice rfl (.tmp 31) (.tmp 32) 25 25 rfl 2 Try.underlying25 hrp_size (some ⟨g, 0, none⟩) A0 n cap 1 c0 rfl rfl g 0 cur 2 HH.out.1 (List.replicate c1 (.int .i64 x)) ?h1 ?h2 ?h3 ?h4 w.heap.size w HB.out HG.out.1.1 ?h5; (case h1 => rw [List.length_replicate]; exact LC.out); (case h2 => exact hrp_src HR0.out HB.out LC.out _); (case h3 => have := LC.out; have := HG.out.1.2.1; have := HH.out.2.1; rw [List.length_replicate]; omega); (case h4 => intro u hu; rw [List.eq_of_mem_replicate hu]; rfl); intro w5 hg5 hb5; have HG5 := Aside0.mk (hrp_filled (k := 0) (m := c1) HG.out.1 HH.out.2.1 (by have := LC.out; have := HG.out.1.2.1; omega) HH.out.2.2 hg5); clear HB HG HH; have HB := Aside0.mk hb5; clear hb5 hg5; (try simp only [List.length_replicate]))
      )
    go_loopg [8] (n + 1) (fun kq v8 w' => ∃ k : Nat, v8 = .int .i64 k ∧ Aside0 (n + 1 ≤ kq + k ∧ k ≤ n ∧ (1 ≤ n → 1 ≤ k)) ∧ Aside0 (hrp_row w' w.heap.size g n cap k x) ∧ Aside0 (Below w.heap.size w w'))
    case atStart => exact ⟨c1, rfl, ⟨by have := LC.out; omega, by have := LC.out; omega, by have := LC.out; omega⟩, by simpa using HG5, HB⟩
    case round =>
      obtain ⟨k, rfl, HA, HK, HB6⟩ := hrel
      by_cases hlt : k < n
      · obtain ⟨m, hm⟩ : ∃ m, m = min k (n - k) := ⟨_, rfl⟩
        have LM := Aside0.mk hm
        obtain ⟨cur, hcur⟩ := HK.out.2
        have HH := Aside0.mk hcur
        have hp0 : (0 : Int) ≤ (k : Int) := by omega
        have hp1 : (k : Int) ≤ (n : Int) := by omega
        have hp2 : ((k : Int)).toNat = k := by omega
        have hp3 : k ≤ n := by omega
        have hp4 : k ≤ cap := by have := HK.out.1.2.1; omega
        have hp5 : ¬ cap = k := by have := HK.out.1.2.1; omega
        clear hm hcur HB
        go_wp2_with fail
        go_region_law (refine step_copy_splice rfl (.tmp 41) (.tmp 44) 25 25 rfl 2 Try.underlying25 hrp_size (some ⟨g, k, none⟩) (some ⟨g, 0, none⟩) (n - k) (cap - k) k cap (by simp [Act.eval, Act.put] <;> omega) (by simp [Act.eval, Act.put]) g k cur 2 HH.out.1 (List.replicate m (.int .i64 x)) (by rw [List.length_replicate]; exact LM.out) (hrp_own HH.out.1 HH.out.2.2 LM.out) (by have := LM.out; have := HH.out.2.1; have := HK.out.1.2.1; rw [List.length_replicate]; omega) (fun u hu => by rw [List.eq_of_mem_replicate hu]; rfl) w.heap.size w (by repeat (first | exact HB6.out | apply below_drew1)) HK.out.1.1 ?_; intro w5 hg5 hb5)
        have HK5 := Aside0.mk (hrp_filled (k := k) (m := m) HK.out.1 HH.out.2.1 (by have := LM.out; have := HK.out.1.2.1; omega) HH.out.2.2 hg5)
        have HB5 := Aside0.mk hb5
        have hmr : IntKind.i64.wrap ((k : Int) + (m : Int)) = (k : Int) + (m : Int) := by have := LM.out; have := LN.out; rw [IntKind.wrap_i64]; omega
        clear hb5 hg5 HK HB6
        go_wp2
        go_roundg (gk - 1)
        case measure => have := HA.out; omega
        case rel => exact ⟨k + m, by simp [hmr], ⟨by have := HA.out; have := LM.out; omega, by have := HA.out; have := LM.out; omega, by have := HA.out; have := LM.out; omega⟩, HK5, HB5⟩
      · go_wp2
        go_ret
        have e : k = n := by have := HA.out.2.1; omega
        subst e
        exact ⟨_, rfl, by simpa [rd] using hrp_done HK.out, HB6.out⟩
  · rw [if_neg c] at h
    cases h

end Go.Proofs.Ytghlmdjedpnglaa.PFnExactShiftPeriods
