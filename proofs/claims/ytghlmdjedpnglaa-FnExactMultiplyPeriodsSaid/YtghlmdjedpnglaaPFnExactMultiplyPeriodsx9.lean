/- The functions that the law reaches, as plain functions, each with the proof that the program comes to it; no condition. Written by a program of this session (wip/mp.py) over the printing of the kit; what is marked HAND is told by hand. -/
import Derived.Test.YtghlmdjedpnglaaPFnExactMultiplyPeriodsx0
import Derived.Test.YtghlmdjedpnglaaPFnExactMultiplyPeriodsx1
import Derived.Test.YtghlmdjedpnglaaPFnExactMultiplyPeriodsx5
import Derived.Test.YtghlmdjedpnglaaPFnExactMultiplyPeriodsx6
import Derived.Test.YtghlmdjedpnglaaPFnExactMultiplyPeriodsx7
import Derived.Test.YtghlmdjedpnglaaPFnExactMultiplyPeriodsx8
namespace Go.Proofs.Ytghlmdjedpnglaa.PFnExactMultiplyPeriods
open Go.RowKit Go.Proofs.YtghlmdjedpnglaaW.PrintWords Go.Proofs.YtghlmdjedpnglaaW.PrintLast Go.Proofs.YtghlmdjedpnglaaW.PrintMore
attribute [local go_sem] max2_int min2_int max_two min_two max_three min_three max_four min_four   -- for this text's walks alone
set_option linter.unusedVariables false
set_option linter.unusedSimpArgs false

/-! ### impl_MultiplyPeriods: function 20 -/
def impl_MultiplyPeriods.f (k : Nat) (a0 : Int) (a1 : Int) (l2 : List Int) (l3 : List Int) : Option (List Int × Int) := (impl_periodsOf.f k a0 a1).bind fun q => if q.2.2.2.2 = true then ((impl_isPeriodSum.f k a1 [l2, l3]).bind fun t => if t = true then ((impl_periods_times.f k q.1 q.2.1 q.2.2.1 q.2.2.2.1 l2 l3).bind fun r => some (r.1, 0)) else some ([], 2)) else some ([], 2)
theorem impl_MultiplyPeriods.mono : ∀ a0 a1 a2 a3 k, LeO (impl_MultiplyPeriods.f k a0 a1 a2 a3) (impl_MultiplyPeriods.f (k + 1) a0 a1 a2 a3) := by
  intro a0 a1 a2 a3 k
  unfold impl_MultiplyPeriods.f
  repeat' first
      | (with_reducible exact impl_periodsOf.mono _ _ _)
      | (with_reducible exact LeO.refl _)
      | (with_reducible exact LeO.none _)
      | (with_reducible refine LeO.ite ?_ ?_)
      | (with_reducible refine LeO.bind ?_ (fun _ => ?_))
      | exact impl_periodsOf.mono _ _ _
      | apply impl_isPeriodSum.mono
      | apply impl_periods_times.mono
      | exact LeO.none _
      | refine LeO.ite ?_ ?_
      | refine LeO.bind ?_ (fun _ => ?_)
-- HAND
set_option maxHeartbeats 8000000 in
set_option maxRecDepth 100000 in
theorem impl_MultiplyPeriods.calls (k : Nat) (a0 : Int) (a1 : Int) (A2 : Option Addr) (c2 : Nat) (l2 : List Int) (A3 : Option Addr) (c3 : Nat) (l3 : List Int) (r1 : List Int) (r2 : Int) (w : World) (hr2 : Kd.C (Kd.int .i64) w A2 l2.length l2) (hc2 : l2.length ≤ c2) (hr3 : Kd.C (Kd.int .i64) w A3 l3.length l3) (hc3 : l3.length ≤ c3) (h : impl_MultiplyPeriods.f k a0 a1 l2 l3 = some (r1, r2)) :
    Calls Try.prog 20 #[.int .i64 a0, .int .i64 a1, .slice A2 l2.length c2, .slice A3 l3.length c3] w fun e w' => ∃ v0_ : Value, e = .returned (.tuple #[v0_, .int .i64 r2]) ∧ Kd.R (Kd.int .i64) 2 w' w.heap.size (fun _ => True) v0_ r1 ∧ Below w.heap.size w w' := by
  have HR2 := Aside0.mk hr2
  have HC2 := Aside0.mk hc2
  have HR3 := Aside0.mk hr3
  have HC3 := Aside0.mk hc3
  have HB := Aside0.mk (Below.refl w.heap.size w)
  clear hr2 hc2 hr3 hc3
  unfold impl_MultiplyPeriods.f at h
  obtain ⟨⟨q0, q1, q2, q3, ok⟩, A1, H⟩ := Option.bind_eq_some_iff.mp h
  replace A1 := Aside0.mk A1
  clear h
  cases ok with
  | false =>
    simp only [Bool.false_eq_true, if_false, Option.some.injEq, Prod.mk.injEq] at H
    obtain ⟨rfl, rfl⟩ := H
    go_enter Try.func20, Try.ntmps20
    go_wp2_with (first | (go_at_call 43; refine (impl_periodsOf.calls k a0 a1 q0 q1 q2 q3 _ _ A1.out).mono ?_; rintro e w3 ⟨v3, rfl, ho3, hb⟩; have mHB_ := Aside0.mk (below_step HB.out hb); clear HB; have HB := mHB_; clear mHB_; obtain ⟨Aq, cq, rfl⟩ := Kd.R_slice ho3; have HP := Aside0.mk (Kd.R_reads' ho3).2.2; have HBp := HB; clear hb ho3) | ((with_reducible refine gate_dst (N := 10) rfl ?_); refine box_event ?hg (N := 10) ?hd (cs := #[.int .i64 0, .int .i64 0, .int .i64 0, .slice none 0 0]) (t := 58) ?hr ?_; (case hd => rfl); (case hg => rfl); (case hr => first | (go_simp; done) | (go_simp; rfl)); intro gf hg wf hbox hb; have Gf := Aside0.mk (by rw [hg]; exact below_size HB.out : w.heap.size ≤ gf); have hgs_ := hg; have mHB_ := Aside0.mk (below_step HB.out hb); clear HB; have HB := mHB_; clear mHB_; have Bf := Aside0.mk hbox; clear hbox; have cwff_0 : wf.cell? ⟨gf, 0, none⟩ = some (.int .i64 0) := (blk_cell Bf.out 0).trans rfl; have fwff_0 := blk_frozen Bf.out 0; have cwff_1 : wf.cell? ⟨gf, 1, none⟩ = some (.int .i64 0) := (blk_cell Bf.out 1).trans rfl; have fwff_1 := blk_frozen Bf.out 1; have cwff_2 : wf.cell? ⟨gf, 2, none⟩ = some (.int .i64 0) := (blk_cell Bf.out 2).trans rfl; have fwff_2 := blk_frozen Bf.out 2; have cwff_3 : wf.cell? ⟨gf, 3, none⟩ = some (.slice none 0 0) := (blk_cell Bf.out 3).trans rfl; have fwff_3 := blk_frozen Bf.out 3; have GE := Aside0.mk (by rw [hgs_]; exact Nat.le_refl _ : w3.heap.size ≤ gf); have BW := Aside0.mk hb; clear hb hg hgs_))
    first | go_ret2 | go_ret
    exact ⟨.slice none 0 0, rfl, Kd.R_nil _ _ _ _ _, (below_set (below_set (below_set (below_set HB.out Gf.out (j := 0) (v := .int .i64 q0)) Gf.out (j := 1) (v := .int .i64 q1)) Gf.out (j := 2) (v := .int .i64 q2)) Gf.out (j := 3) (v := .slice Aq q3.length cq))⟩
  | true =>
    simp only [if_true] at H
    obtain ⟨t, A2e, H2⟩ := Option.bind_eq_some_iff.mp H
    clear H
    replace A2e := Aside0.mk A2e
    cases t with
    | false =>
      simp only [Bool.false_eq_true, if_false, Option.some.injEq, Prod.mk.injEq] at H2
      obtain ⟨rfl, rfl⟩ := H2
      go_enter Try.func20, Try.ntmps20
      go_wp2_with (first | (go_at_call 43; refine (impl_periodsOf.calls k a0 a1 q0 q1 q2 q3 _ _ A1.out).mono ?_; rintro e w3 ⟨v3, rfl, ho3, hb⟩; have mHB_ := Aside0.mk (below_step HB.out hb); clear HB; have HB := mHB_; clear mHB_; obtain ⟨Aq, cq, rfl⟩ := Kd.R_slice ho3; have HP := Aside0.mk (Kd.R_reads' ho3).2.2; have HBp := HB; clear hb ho3) | ((with_reducible refine gate_dst (N := 10) rfl ?_); refine box_event ?hg (N := 10) ?hd (cs := #[.int .i64 0, .int .i64 0, .int .i64 0, .slice none 0 0]) (t := 58) ?hr ?_; (case hd => rfl); (case hg => rfl); (case hr => first | (go_simp; done) | (go_simp; rfl)); intro gf hg wf hbox hb; have Gf := Aside0.mk (by rw [hg]; exact below_size HB.out : w.heap.size ≤ gf); have hgs_ := hg; have mHB_ := Aside0.mk (below_step HB.out hb); clear HB; have HB := mHB_; clear mHB_; have Bf := Aside0.mk hbox; clear hbox; have cwff_0 : wf.cell? ⟨gf, 0, none⟩ = some (.int .i64 0) := (blk_cell Bf.out 0).trans rfl; have fwff_0 := blk_frozen Bf.out 0; have cwff_1 : wf.cell? ⟨gf, 1, none⟩ = some (.int .i64 0) := (blk_cell Bf.out 1).trans rfl; have fwff_1 := blk_frozen Bf.out 1; have cwff_2 : wf.cell? ⟨gf, 2, none⟩ = some (.int .i64 0) := (blk_cell Bf.out 2).trans rfl; have fwff_2 := blk_frozen Bf.out 2; have cwff_3 : wf.cell? ⟨gf, 3, none⟩ = some (.slice none 0 0) := (blk_cell Bf.out 3).trans rfl; have fwff_3 := blk_frozen Bf.out 3; have GE := Aside0.mk (by rw [hgs_]; exact Nat.le_refl _ : w3.heap.size ≤ gf); have BW := Aside0.mk hb; clear hb hg hgs_) | ((with_reducible refine gate_dst (N := 24) rfl ?_); (try (refine gate_guard (by rfl) ?_; dsimp only)); have HG := Aside0.mk (blk_put (cs := #[.int .i64 q0, .int .i64 q1, .int .i64 q2, .slice none 0 0]) (blk_put (cs := #[.int .i64 q0, .int .i64 q1, .int .i64 0, .slice none 0 0]) (blk_put (cs := #[.int .i64 q0, .int .i64 0, .int .i64 0, .slice none 0 0]) (blk_put (cs := #[.int .i64 0, .int .i64 0, .int .i64 0, .slice none 0 0]) Bf.out 0 (.int .i64 q0) rfl) 1 (.int .i64 q1) rfl) 2 (.int .i64 q2) rfl) 3 (.slice Aq q3.length cq) rfl); have HI : Aside0 (IsS58 w3 _ gf q0 q1 q2 q3) := Aside0.mk ⟨Aq, cq, HG.out, GE.out, HP.out⟩; have mB_ := Aside0.mk (below_set (below_set (below_set (below_set HB.out Gf.out (j := 0) (v := .int .i64 q0)) Gf.out (j := 1) (v := .int .i64 q1)) Gf.out (j := 2) (v := .int .i64 q2)) Gf.out (j := 3) (v := .slice Aq q3.length cq)); have mW_ := Aside0.mk (below_set (below_set (below_set (below_set BW.out GE.out (j := 0) (v := .int .i64 q0)) GE.out (j := 1) (v := .int .i64 q1)) GE.out (j := 2) (v := .int .i64 q2)) GE.out (j := 3) (v := .slice Aq q3.length cq)); clear HB BW; have HB := mB_; have BW := mW_; clear mB_ mW_; refine Kd.N_lit (Kd.slice 2 (Kd.int .i64)) _ 25 ?hg (N' := 24) ?hd (xs := ([l2, l3] : List (List Int))) (inner := [.slice A2 l2.length c2, .slice A3 l3.length c3]) (ok := fun _ => True) (okp := fun _ => True) ?hr ?hp (fun _ hk => hk) trivial (Below.refl _ _) (Nat.le_refl _) (by simp only [List.length_cons, List.length_nil]; omega) ?_; (case hd => rfl); (case hg => rfl); (case hr => first | (go_simp; done) | (go_simp; rfl)); (case hp => exact (Reps.one (show Kd.FK (Kd.slice 2 (Kd.int .i64)) _ _ l2 [.slice A2 l2.length c2] from Kd.FK_slice_mk HC2.out (Kd.F_mono (Kd.F_below (Kd.C_F (Kd.heap_int .i64) HR2.out) HB.out) (fun _ _ => trivial))) (Reps.one (show Kd.FK (Kd.slice 2 (Kd.int .i64)) _ _ l3 [.slice A3 l3.length c3] from Kd.FK_slice_mk HC3.out (Kd.F_mono (Kd.F_below (Kd.C_F (Kd.heap_int .i64) HR3.out) HB.out) (fun _ _ => trivial))) (Reps.none _ _)))); intro vL wL hoL hb hg_ hnew_; clear hg_ hnew_; have mI_ := Aside0.mk (IsS58.below HI.out hb); have mB_ := Aside0.mk (below_step HB.out hb); have mW_ := Aside0.mk (below_step BW.out hb); clear HI HB BW; have HI := mI_; have HB := mB_; have BW := mW_; clear mI_ mB_ mW_ hb; obtain ⟨AL, cL, eL⟩ := Kd.N_slice hoL; subst eL; have HOL := Aside0.mk hoL; clear hoL) | (go_at_call 44; refine (impl_isPeriodSum.calls k a1 _ _ [l2, l3] _ _ (Kd.N_reads' HOL.out).2.2 (Kd.N_reads' HOL.out).2.1 A2e.out).mono ?_; rintro e w6 ⟨rfl, hb⟩; have mI_ := Aside0.mk (IsS58.below HI.out hb); have mB_ := Aside0.mk (below_step HB.out hb); have mW_ := Aside0.mk (below_step BW.out hb); clear HI HB BW; have HI := mI_; have HB := mB_; have BW := mW_; clear mI_ mB_ mW_ hb))
      first | go_ret2 | go_ret
      exact ⟨.slice none 0 0, rfl, Kd.R_nil _ _ _ _ _, HB.out⟩
    | true =>
      simp only [if_true] at H2
      obtain ⟨⟨r1_, d2, d3, d4⟩, A3e, H3⟩ := Option.bind_eq_some_iff.mp H2
      clear H2
      simp only [Option.some.injEq, Prod.mk.injEq] at H3
      obtain ⟨rfl, rfl⟩ := H3
      replace A3e := Aside0.mk A3e
      go_enter Try.func20, Try.ntmps20
      go_wp2_with (first | (go_at_call 43; refine (impl_periodsOf.calls k a0 a1 q0 q1 q2 q3 _ _ A1.out).mono ?_; rintro e w3 ⟨v3, rfl, ho3, hb⟩; have mHB_ := Aside0.mk (below_step HB.out hb); clear HB; have HB := mHB_; clear mHB_; obtain ⟨Aq, cq, rfl⟩ := Kd.R_slice ho3; have HP := Aside0.mk (Kd.R_reads' ho3).2.2; have HBp := HB; clear hb ho3) | ((with_reducible refine gate_dst (N := 10) rfl ?_); refine box_event ?hg (N := 10) ?hd (cs := #[.int .i64 0, .int .i64 0, .int .i64 0, .slice none 0 0]) (t := 58) ?hr ?_; (case hd => rfl); (case hg => rfl); (case hr => first | (go_simp; done) | (go_simp; rfl)); intro gf hg wf hbox hb; have Gf := Aside0.mk (by rw [hg]; exact below_size HB.out : w.heap.size ≤ gf); have hgs_ := hg; have mHB_ := Aside0.mk (below_step HB.out hb); clear HB; have HB := mHB_; clear mHB_; have Bf := Aside0.mk hbox; clear hbox; have cwff_0 : wf.cell? ⟨gf, 0, none⟩ = some (.int .i64 0) := (blk_cell Bf.out 0).trans rfl; have fwff_0 := blk_frozen Bf.out 0; have cwff_1 : wf.cell? ⟨gf, 1, none⟩ = some (.int .i64 0) := (blk_cell Bf.out 1).trans rfl; have fwff_1 := blk_frozen Bf.out 1; have cwff_2 : wf.cell? ⟨gf, 2, none⟩ = some (.int .i64 0) := (blk_cell Bf.out 2).trans rfl; have fwff_2 := blk_frozen Bf.out 2; have cwff_3 : wf.cell? ⟨gf, 3, none⟩ = some (.slice none 0 0) := (blk_cell Bf.out 3).trans rfl; have fwff_3 := blk_frozen Bf.out 3; have GE := Aside0.mk (by rw [hgs_]; exact Nat.le_refl _ : w3.heap.size ≤ gf); have BW := Aside0.mk hb; clear hb hg hgs_) | ((with_reducible refine gate_dst (N := 24) rfl ?_); (try (refine gate_guard (by rfl) ?_; dsimp only)); have HG := Aside0.mk (blk_put (cs := #[.int .i64 q0, .int .i64 q1, .int .i64 q2, .slice none 0 0]) (blk_put (cs := #[.int .i64 q0, .int .i64 q1, .int .i64 0, .slice none 0 0]) (blk_put (cs := #[.int .i64 q0, .int .i64 0, .int .i64 0, .slice none 0 0]) (blk_put (cs := #[.int .i64 0, .int .i64 0, .int .i64 0, .slice none 0 0]) Bf.out 0 (.int .i64 q0) rfl) 1 (.int .i64 q1) rfl) 2 (.int .i64 q2) rfl) 3 (.slice Aq q3.length cq) rfl); have HI : Aside0 (IsS58 w3 _ gf q0 q1 q2 q3) := Aside0.mk ⟨Aq, cq, HG.out, GE.out, HP.out⟩; have mB_ := Aside0.mk (below_set (below_set (below_set (below_set HB.out Gf.out (j := 0) (v := .int .i64 q0)) Gf.out (j := 1) (v := .int .i64 q1)) Gf.out (j := 2) (v := .int .i64 q2)) Gf.out (j := 3) (v := .slice Aq q3.length cq)); have mW_ := Aside0.mk (below_set (below_set (below_set (below_set BW.out GE.out (j := 0) (v := .int .i64 q0)) GE.out (j := 1) (v := .int .i64 q1)) GE.out (j := 2) (v := .int .i64 q2)) GE.out (j := 3) (v := .slice Aq q3.length cq)); clear HB BW; have HB := mB_; have BW := mW_; clear mB_ mW_; refine Kd.N_lit (Kd.slice 2 (Kd.int .i64)) _ 25 ?hg (N' := 24) ?hd (xs := ([l2, l3] : List (List Int))) (inner := [.slice A2 l2.length c2, .slice A3 l3.length c3]) (ok := fun _ => True) (okp := fun _ => True) ?hr ?hp (fun _ hk => hk) trivial (Below.refl _ _) (Nat.le_refl _) (by simp only [List.length_cons, List.length_nil]; omega) ?_; (case hd => rfl); (case hg => rfl); (case hr => first | (go_simp; done) | (go_simp; rfl)); (case hp => exact (Reps.one (show Kd.FK (Kd.slice 2 (Kd.int .i64)) _ _ l2 [.slice A2 l2.length c2] from Kd.FK_slice_mk HC2.out (Kd.F_mono (Kd.F_below (Kd.C_F (Kd.heap_int .i64) HR2.out) HB.out) (fun _ _ => trivial))) (Reps.one (show Kd.FK (Kd.slice 2 (Kd.int .i64)) _ _ l3 [.slice A3 l3.length c3] from Kd.FK_slice_mk HC3.out (Kd.F_mono (Kd.F_below (Kd.C_F (Kd.heap_int .i64) HR3.out) HB.out) (fun _ _ => trivial))) (Reps.none _ _)))); intro vL wL hoL hb hg_ hnew_; clear hg_ hnew_; have mI_ := Aside0.mk (IsS58.below HI.out hb); have mB_ := Aside0.mk (below_step HB.out hb); have mW_ := Aside0.mk (below_step BW.out hb); clear HI HB BW; have HI := mI_; have HB := mB_; have BW := mW_; clear mI_ mB_ mW_ hb; obtain ⟨AL, cL, eL⟩ := Kd.N_slice hoL; subst eL; have HOL := Aside0.mk hoL; clear hoL) | (go_at_call 44; refine (impl_isPeriodSum.calls k a1 _ _ [l2, l3] _ _ (Kd.N_reads' HOL.out).2.2 (Kd.N_reads' HOL.out).2.1 A2e.out).mono ?_; rintro e w6 ⟨rfl, hb⟩; have mI_ := Aside0.mk (IsS58.below HI.out hb); have mB_ := Aside0.mk (below_step HB.out hb); have mW_ := Aside0.mk (below_step BW.out hb); clear HI HB BW; have HI := mI_; have HB := mB_; have BW := mW_; clear mI_ mB_ mW_ hb) | (go_at_call 45; refine (impl_periods_times.calls k gf q0 q1 q2 q3 A2 c2 l2 A3 c3 l3 r1_ d2 d3 d4 w3 _ HI.out BW.out (Kd.C_below HR2.out HB.out) HC2.out (Kd.far_C (0 : Int) HR2.out Gf.out) (Kd.C_below HR3.out HB.out) HC3.out (Kd.far_C (0 : Int) HR3.out Gf.out) A3e.out).mono ?_; rintro e w9 ⟨v9, rfl, ho, hi, hb, hk⟩; have HO := Aside0.mk (Kd.R_lower ho (below_size HB.out)); have HE := Aside0.mk (below_step HBp.out hb); clear ho hi hb hk))
      first | go_ret2 | go_ret
      exact ⟨v9, rfl, HO.out, HE.out⟩

/-! ### laws_FnExactMultiplyPeriods: function 5 -/
mutual
def laws_FnExactMultiplyPeriods.j0 : Nat → Int → Int → List Int → List Int → List Int → Int → List Int → List Int → List Int → Int → Bool → Option (Bool)
  | 0, _, _, _, _, _, _, _, _, _, _, _ => none
  | k + 1, x0, x1, x2, x3, x9, x10, x11, x12, x13, x14, x56 => if x56 = true then (some false) else ((laws_toInt64S.f k x2).bind fun t262 => ((laws_eqInt64S.f k x11 t262).bind fun t265 => (if t265 = true then ((laws_toInt64S.f k x3).bind fun t266 => ((laws_eqInt64S.f k x12 t266).bind fun t269 => (if t269 = true then ((laws_markInt64S.f k x11 1).bind fun bt270 => ((laws_markInt64S.f k x12 bt270.1).bind fun bt272 => (if bt272.1 < 0 then (laws_FnExactMultiplyPeriods.j1 k x0 x1 x2 x3 x9 x10 x13 true) else ((laws_eqInt64S.f k x13 x9).bind fun t274 => (if t274 = true then (laws_FnExactMultiplyPeriods.j1 k x0 x1 x2 x3 x9 x10 x13 (x14 != x10)) else (laws_FnExactMultiplyPeriods.j1 k x0 x1 x2 x3 x9 x10 x13 true)))))) else (some false)))) else (some false))))
def laws_FnExactMultiplyPeriods.j1 : Nat → Int → Int → List Int → List Int → List Int → Int → List Int → Bool → Option (Bool)
  | 0, _, _, _, _, _, _, _, _ => none
  | k + 1, x0, x1, x2, x3, x9, x10, x13, x85 => if x85 = true then (some false) else ((laws_markInt64S.f k x13 1).bind fun bt275 => ((laws_heldInt64S.f k bt275.2 1).bind fun t277 => (if t277 < 0 then (some false) else (if t277 = bt275.1 then ((laws_toInt64S.f k x2).bind fun t278 => ((laws_toInt64S.f k x3).bind fun t281 => ((impl_MultiplyPeriods.f k x0 x1 t278 t281).bind fun bt284 => ((laws_eqInt64S.f k bt284.1 x9).bind fun t288 => (if t288 = true then (laws_FnExactMultiplyPeriods.j2 k bt275.2 bt275.1 (bt284.2 != x10)) else (laws_FnExactMultiplyPeriods.j2 k bt275.2 bt275.1 true)))))) else (some false)))))
def laws_FnExactMultiplyPeriods.j2 : Nat → List Int → Int → Bool → Option (Bool)
  | 0, _, _, _ => none
  | k + 1, x13, x16, x115 => if x115 = true then (some false) else ((laws_heldInt64S.f k x13 1).bind fun t289 => (if t289 < 0 then (some false) else (if t289 = x16 then (some true) else (some false))))
end
def laws_FnExactMultiplyPeriods.f (k : Nat) (a0 : Int) (a1 : Int) (l2 : List Int) (l3 : List Int) : Option (Bool) := if (l2.length : Int) > 1048576 then (some true) else (if (l3.length : Int) > 1048576 then (some true) else ((laws_toInt64S.f k l2).bind fun t241 => ((laws_toInt64S.f k l3).bind fun t244 => ((spec_MultiplyPeriods.f k a0 a1 t241 t244).bind fun bt247 => ((laws_toInt64S.f k l2).bind fun t251 => ((laws_toInt64S.f k l3).bind fun t254 => ((impl_MultiplyPeriods.f k a0 a1 t251 t254).bind fun bt257 => ((laws_eqInt64S.f k bt257.1 bt247.1).bind fun t261 => (if t261 = true then (laws_FnExactMultiplyPeriods.j0 k a0 a1 l2 l3 bt247.1 bt247.2 t251 t254 bt257.1 bt257.2 (bt257.2 != bt247.2)) else (laws_FnExactMultiplyPeriods.j0 k a0 a1 l2 l3 bt247.1 bt247.2 t251 t254 bt257.1 bt257.2 true))))))))))
theorem laws_FnExactMultiplyPeriods.mono_l : ∀ k, (∀ y0 y1 y2 y3 y4 y5 y6 y7 y8 y9 y10, LeO (laws_FnExactMultiplyPeriods.j0 k y0 y1 y2 y3 y4 y5 y6 y7 y8 y9 y10) (laws_FnExactMultiplyPeriods.j0 (k + 1) y0 y1 y2 y3 y4 y5 y6 y7 y8 y9 y10)) ∧ (∀ y0 y1 y2 y3 y4 y5 y6 y7, LeO (laws_FnExactMultiplyPeriods.j1 k y0 y1 y2 y3 y4 y5 y6 y7) (laws_FnExactMultiplyPeriods.j1 (k + 1) y0 y1 y2 y3 y4 y5 y6 y7)) ∧ (∀ y0 y1 y2, LeO (laws_FnExactMultiplyPeriods.j2 k y0 y1 y2) (laws_FnExactMultiplyPeriods.j2 (k + 1) y0 y1 y2))
  | 0 => ⟨fun _ _ _ _ _ _ _ _ _ _ _ r h => by simp [laws_FnExactMultiplyPeriods.j0] at h, fun _ _ _ _ _ _ _ _ r h => by simp [laws_FnExactMultiplyPeriods.j1] at h, fun _ _ _ r h => by simp [laws_FnExactMultiplyPeriods.j2] at h⟩
  | k + 1 => by
    obtain ⟨ih0, ih1, ih2⟩ := laws_FnExactMultiplyPeriods.mono_l k
    refine ⟨?_, ?_, ?_⟩
    · intro y0 y1 y2 y3 y4 y5 y6 y7 y8 y9 y10
      unfold laws_FnExactMultiplyPeriods.j0
      repeat' first
      | (with_reducible exact ih0 _ _ _ _ _ _ _ _ _ _ _)
      | (with_reducible exact ih1 _ _ _ _ _ _ _ _)
      | (with_reducible exact ih2 _ _ _)
      | (with_reducible exact impl_MultiplyPeriods.mono _ _ _ _ _)
      | (with_reducible exact laws_eqInt64S.mono _ _ _)
      | (with_reducible exact laws_heldInt64S.mono _ _ _)
      | (with_reducible exact laws_markInt64S.mono _ _ _)
      | (with_reducible exact laws_toInt64S.mono _ _)
      | (with_reducible exact spec_MultiplyPeriods.mono _ _ _ _ _)
      | (with_reducible exact LeO.refl _)
      | (with_reducible exact LeO.none _)
      | (with_reducible refine LeO.ite ?_ ?_)
      | (with_reducible refine LeO.bind ?_ (fun _ => ?_))
      | exact ih0 _ _ _ _ _ _ _ _ _ _ _
      | exact ih1 _ _ _ _ _ _ _ _
      | exact ih2 _ _ _
      | exact impl_MultiplyPeriods.mono _ _ _ _ _
      | exact laws_eqInt64S.mono _ _ _
      | exact laws_heldInt64S.mono _ _ _
      | exact laws_markInt64S.mono _ _ _
      | exact laws_toInt64S.mono _ _
      | exact spec_MultiplyPeriods.mono _ _ _ _ _
      | exact LeO.none _
      | refine LeO.ite ?_ ?_
      | refine LeO.bind ?_ (fun _ => ?_)
    · intro y0 y1 y2 y3 y4 y5 y6 y7
      unfold laws_FnExactMultiplyPeriods.j1
      repeat' first
      | (with_reducible exact ih0 _ _ _ _ _ _ _ _ _ _ _)
      | (with_reducible exact ih1 _ _ _ _ _ _ _ _)
      | (with_reducible exact ih2 _ _ _)
      | (with_reducible exact impl_MultiplyPeriods.mono _ _ _ _ _)
      | (with_reducible exact laws_eqInt64S.mono _ _ _)
      | (with_reducible exact laws_heldInt64S.mono _ _ _)
      | (with_reducible exact laws_markInt64S.mono _ _ _)
      | (with_reducible exact laws_toInt64S.mono _ _)
      | (with_reducible exact spec_MultiplyPeriods.mono _ _ _ _ _)
      | (with_reducible exact LeO.refl _)
      | (with_reducible exact LeO.none _)
      | (with_reducible refine LeO.ite ?_ ?_)
      | (with_reducible refine LeO.bind ?_ (fun _ => ?_))
      | exact ih0 _ _ _ _ _ _ _ _ _ _ _
      | exact ih1 _ _ _ _ _ _ _ _
      | exact ih2 _ _ _
      | exact impl_MultiplyPeriods.mono _ _ _ _ _
      | exact laws_eqInt64S.mono _ _ _
      | exact laws_heldInt64S.mono _ _ _
      | exact laws_markInt64S.mono _ _ _
      | exact laws_toInt64S.mono _ _
      | exact spec_MultiplyPeriods.mono _ _ _ _ _
      | exact LeO.none _
      | refine LeO.ite ?_ ?_
      | refine LeO.bind ?_ (fun _ => ?_)
    · intro y0 y1 y2
      unfold laws_FnExactMultiplyPeriods.j2
      repeat' first
      | (with_reducible exact ih0 _ _ _ _ _ _ _ _ _ _ _)
      | (with_reducible exact ih1 _ _ _ _ _ _ _ _)
      | (with_reducible exact ih2 _ _ _)
      | (with_reducible exact impl_MultiplyPeriods.mono _ _ _ _ _)
      | (with_reducible exact laws_eqInt64S.mono _ _ _)
      | (with_reducible exact laws_heldInt64S.mono _ _ _)
      | (with_reducible exact laws_markInt64S.mono _ _ _)
      | (with_reducible exact laws_toInt64S.mono _ _)
      | (with_reducible exact spec_MultiplyPeriods.mono _ _ _ _ _)
      | (with_reducible exact LeO.refl _)
      | (with_reducible exact LeO.none _)
      | (with_reducible refine LeO.ite ?_ ?_)
      | (with_reducible refine LeO.bind ?_ (fun _ => ?_))
      | exact ih0 _ _ _ _ _ _ _ _ _ _ _
      | exact ih1 _ _ _ _ _ _ _ _
      | exact ih2 _ _ _
      | exact impl_MultiplyPeriods.mono _ _ _ _ _
      | exact laws_eqInt64S.mono _ _ _
      | exact laws_heldInt64S.mono _ _ _
      | exact laws_markInt64S.mono _ _ _
      | exact laws_toInt64S.mono _ _
      | exact spec_MultiplyPeriods.mono _ _ _ _ _
      | exact LeO.none _
      | refine LeO.ite ?_ ?_
      | refine LeO.bind ?_ (fun _ => ?_)
theorem laws_FnExactMultiplyPeriods.mono : ∀ a0 a1 a2 a3 k, LeO (laws_FnExactMultiplyPeriods.f k a0 a1 a2 a3) (laws_FnExactMultiplyPeriods.f (k + 1) a0 a1 a2 a3) := by
  intro a0 a1 a2 a3 k
  obtain ⟨ih0, ih1, ih2⟩ := laws_FnExactMultiplyPeriods.mono_l k
  unfold laws_FnExactMultiplyPeriods.f
  repeat' first
      | (with_reducible exact ih0 _ _ _ _ _ _ _ _ _ _ _)
      | (with_reducible exact ih1 _ _ _ _ _ _ _ _)
      | (with_reducible exact ih2 _ _ _)
      | (with_reducible exact impl_MultiplyPeriods.mono _ _ _ _ _)
      | (with_reducible exact laws_eqInt64S.mono _ _ _)
      | (with_reducible exact laws_heldInt64S.mono _ _ _)
      | (with_reducible exact laws_markInt64S.mono _ _ _)
      | (with_reducible exact laws_toInt64S.mono _ _)
      | (with_reducible exact spec_MultiplyPeriods.mono _ _ _ _ _)
      | (with_reducible exact LeO.refl _)
      | (with_reducible exact LeO.none _)
      | (with_reducible refine LeO.ite ?_ ?_)
      | (with_reducible refine LeO.bind ?_ (fun _ => ?_))
      | exact ih0 _ _ _ _ _ _ _ _ _ _ _
      | exact ih1 _ _ _ _ _ _ _ _
      | exact ih2 _ _ _
      | exact impl_MultiplyPeriods.mono _ _ _ _ _
      | exact laws_eqInt64S.mono _ _ _
      | exact laws_heldInt64S.mono _ _ _
      | exact laws_markInt64S.mono _ _ _
      | exact laws_toInt64S.mono _ _
      | exact spec_MultiplyPeriods.mono _ _ _ _ _
      | exact LeO.none _
      | refine LeO.ite ?_ ?_
      | refine LeO.bind ?_ (fun _ => ?_)
-- TRUE ALONE
theorem laws_FnExactMultiplyPeriods.j0_no (k : Nat) (y0 : Int) (y1 : Int) (y2 : List Int) (y3 : List Int) (y4 : List Int) (y5 : Int) (y6 : List Int) (y7 : List Int) (y8 : List Int) (y9 : Int) (h : laws_FnExactMultiplyPeriods.j0 k y0 y1 y2 y3 y4 y5 y6 y7 y8 y9 true = some true) : False := by
  cases k with
  | zero => first | (simp only [laws_FnExactMultiplyPeriods.j0] at h; done) | (simp only [laws_FnExactMultiplyPeriods.j0] at h; cases h)
  | succ k => rw [laws_FnExactMultiplyPeriods.j0, if_pos rfl] at h; cases h
theorem laws_FnExactMultiplyPeriods.j1_no (k : Nat) (y0 : Int) (y1 : Int) (y2 : List Int) (y3 : List Int) (y4 : List Int) (y5 : Int) (y6 : List Int) (h : laws_FnExactMultiplyPeriods.j1 k y0 y1 y2 y3 y4 y5 y6 true = some true) : False := by
  cases k with
  | zero => first | (simp only [laws_FnExactMultiplyPeriods.j1] at h; done) | (simp only [laws_FnExactMultiplyPeriods.j1] at h; cases h)
  | succ k => rw [laws_FnExactMultiplyPeriods.j1, if_pos rfl] at h; cases h
theorem laws_FnExactMultiplyPeriods.j2_no (k : Nat) (y0 : List Int) (y1 : Int) (h : laws_FnExactMultiplyPeriods.j2 k y0 y1 true = some true) : False := by
  cases k with
  | zero => first | (simp only [laws_FnExactMultiplyPeriods.j2] at h; done) | (simp only [laws_FnExactMultiplyPeriods.j2] at h; cases h)
  | succ k => rw [laws_FnExactMultiplyPeriods.j2, if_pos rfl] at h; cases h
set_option maxHeartbeats 8000000 in
set_option maxRecDepth 100000 in
theorem laws_FnExactMultiplyPeriods.calls (k : Nat) (a0 : Int) (a1 : Int) (A2 : Option Addr) (c2 : Nat) (l2 : List Int) (A3 : Option Addr) (c3 : Nat) (l3 : List Int) (w : World) (hr2 : Kd.C (Kd.int .i64) w A2 l2.length l2) (hc2 : l2.length ≤ c2) (hr3 : Kd.C (Kd.int .i64) w A3 l3.length l3) (hc3 : l3.length ≤ c3) (h : laws_FnExactMultiplyPeriods.f k a0 a1 l2 l3 = some true) :
    Calls Try.prog 5 #[.int .i64 a0, .int .i64 a1, .slice A2 l2.length c2, .slice A3 l3.length c3] w fun e w' => e = .returned (.bool true) ∧ Below w.heap.size w w' := by
  have HR2 := Aside0.mk hr2
  have HC2 := Aside0.mk hc2
  clear hr2 hc2
  have HR3 := Aside0.mk hr3
  have HC3 := Aside0.mk hc3
  clear hr3 hc3
  have HB := Aside0.mk (Below.refl w.heap.size w)
  have H : (if (l2.length : Int) > 1048576 then (some true) else (if (l3.length : Int) > 1048576 then (some true) else ((laws_toInt64S.f k l2).bind fun t241 => ((laws_toInt64S.f k l3).bind fun t244 => ((spec_MultiplyPeriods.f k a0 a1 t241 t244).bind fun bt247 => ((laws_toInt64S.f k l2).bind fun t251 => ((laws_toInt64S.f k l3).bind fun t254 => ((impl_MultiplyPeriods.f k a0 a1 t251 t254).bind fun bt257 => ((laws_eqInt64S.f k bt257.1 bt247.1).bind fun t261 => (if t261 = true then (laws_FnExactMultiplyPeriods.j0 k a0 a1 l2 l3 bt247.1 bt247.2 t251 t254 bt257.1 bt257.2 (bt257.2 != bt247.2)) else (laws_FnExactMultiplyPeriods.j0 k a0 a1 l2 l3 bt247.1 bt247.2 t251 t254 bt257.1 bt257.2 true))))))))))) = some true := h
  clear h
  by_cases c5 : (l2.length : Int) > 1048576
  · rw [if_pos c5] at H
    have c5b0 : decide (1048576 < (l2.length : Int)) = true := decide_eq_true c5
    have c5b1 : decide (1048576 < l2.length) = true := decide_eq_true (by omega)
    clear c5
    clear H
    go_enter Try.func5, Try.ntmps5
    go_wp2
    go_ret
    exact ⟨by first | rfl | (simp [errW_none, errW_some] <;> rfl) | (simp [*, errW_none, errW_some] <;> rfl), by repeat (first | (with_reducible first | exact HB.out | apply below_alloc | apply pw_below_drewN | apply below_drew1) | exact HB.out)⟩
  · rw [if_neg c5] at H
    have c5b0 : decide (1048576 < (l2.length : Int)) = false := decide_eq_false c5
    have c5b1 : decide (1048576 < l2.length) = false := decide_eq_false (by omega)
    clear c5
    by_cases c6 : (l3.length : Int) > 1048576
    · rw [if_pos c6] at H
      have c6b0 : decide (1048576 < (l3.length : Int)) = true := decide_eq_true c6
      have c6b1 : decide (1048576 < l3.length) = true := decide_eq_true (by omega)
      clear c6
      clear H
      go_enter Try.func5, Try.ntmps5
      go_wp2
      go_ret
      exact ⟨by first | rfl | (simp [errW_none, errW_some] <;> rfl) | (simp [*, errW_none, errW_some] <;> rfl), by repeat (first | (with_reducible first | exact HB.out | apply below_alloc | apply pw_below_drewN | apply below_drew1) | exact HB.out)⟩
    · rw [if_neg c6] at H
      have c6b0 : decide (1048576 < (l3.length : Int)) = false := decide_eq_false c6
      have c6b1 : decide (1048576 < l3.length) = false := decide_eq_false (by omega)
      clear c6
      replace H := Option.bind_eq_some_iff.mp H
      obtain ⟨t241, A70, H⟩ := H
      replace H : ((laws_toInt64S.f k l3).bind fun t244 => ((spec_MultiplyPeriods.f k a0 a1 t241 t244).bind fun bt247 => ((laws_toInt64S.f k l2).bind fun t251 => ((laws_toInt64S.f k l3).bind fun t254 => ((impl_MultiplyPeriods.f k a0 a1 t251 t254).bind fun bt257 => ((laws_eqInt64S.f k bt257.1 bt247.1).bind fun t261 => (if t261 = true then (laws_FnExactMultiplyPeriods.j0 k a0 a1 l2 l3 bt247.1 bt247.2 t251 t254 bt257.1 bt257.2 (bt257.2 != bt247.2)) else (laws_FnExactMultiplyPeriods.j0 k a0 a1 l2 l3 bt247.1 bt247.2 t251 t254 bt257.1 bt257.2 true)))))))) = some true := H
      have A7 := Aside0.mk A70
      clear A70
      replace H := Option.bind_eq_some_iff.mp H
      obtain ⟨t244, A80, H⟩ := H
      replace H : ((spec_MultiplyPeriods.f k a0 a1 t241 t244).bind fun bt247 => ((laws_toInt64S.f k l2).bind fun t251 => ((laws_toInt64S.f k l3).bind fun t254 => ((impl_MultiplyPeriods.f k a0 a1 t251 t254).bind fun bt257 => ((laws_eqInt64S.f k bt257.1 bt247.1).bind fun t261 => (if t261 = true then (laws_FnExactMultiplyPeriods.j0 k a0 a1 l2 l3 bt247.1 bt247.2 t251 t254 bt257.1 bt257.2 (bt257.2 != bt247.2)) else (laws_FnExactMultiplyPeriods.j0 k a0 a1 l2 l3 bt247.1 bt247.2 t251 t254 bt257.1 bt257.2 true))))))) = some true := H
      have A8 := Aside0.mk A80
      clear A80
      replace H := Option.bind_eq_some_iff.mp H
      obtain ⟨⟨t247, t250⟩, A90, H⟩ := H
      replace H : ((laws_toInt64S.f k l2).bind fun t251 => ((laws_toInt64S.f k l3).bind fun t254 => ((impl_MultiplyPeriods.f k a0 a1 t251 t254).bind fun bt257 => ((laws_eqInt64S.f k bt257.1 t247).bind fun t261 => (if t261 = true then (laws_FnExactMultiplyPeriods.j0 k a0 a1 l2 l3 t247 t250 t251 t254 bt257.1 bt257.2 (bt257.2 != t250)) else (laws_FnExactMultiplyPeriods.j0 k a0 a1 l2 l3 t247 t250 t251 t254 bt257.1 bt257.2 true)))))) = some true := H
      have A9 := Aside0.mk A90
      clear A90
      replace H := Option.bind_eq_some_iff.mp H
      obtain ⟨t251, A100, H⟩ := H
      replace H : ((laws_toInt64S.f k l3).bind fun t254 => ((impl_MultiplyPeriods.f k a0 a1 t251 t254).bind fun bt257 => ((laws_eqInt64S.f k bt257.1 t247).bind fun t261 => (if t261 = true then (laws_FnExactMultiplyPeriods.j0 k a0 a1 l2 l3 t247 t250 t251 t254 bt257.1 bt257.2 (bt257.2 != t250)) else (laws_FnExactMultiplyPeriods.j0 k a0 a1 l2 l3 t247 t250 t251 t254 bt257.1 bt257.2 true))))) = some true := H
      have A10 := Aside0.mk A100
      clear A100
      replace H := Option.bind_eq_some_iff.mp H
      obtain ⟨t254, A110, H⟩ := H
      replace H : ((impl_MultiplyPeriods.f k a0 a1 t251 t254).bind fun bt257 => ((laws_eqInt64S.f k bt257.1 t247).bind fun t261 => (if t261 = true then (laws_FnExactMultiplyPeriods.j0 k a0 a1 l2 l3 t247 t250 t251 t254 bt257.1 bt257.2 (bt257.2 != t250)) else (laws_FnExactMultiplyPeriods.j0 k a0 a1 l2 l3 t247 t250 t251 t254 bt257.1 bt257.2 true)))) = some true := H
      have A11 := Aside0.mk A110
      clear A110
      replace H := Option.bind_eq_some_iff.mp H
      obtain ⟨⟨t257, t258⟩, A120, H⟩ := H
      replace H : ((laws_eqInt64S.f k t257 t247).bind fun t261 => (if t261 = true then (laws_FnExactMultiplyPeriods.j0 k a0 a1 l2 l3 t247 t250 t251 t254 t257 t258 (t258 != t250)) else (laws_FnExactMultiplyPeriods.j0 k a0 a1 l2 l3 t247 t250 t251 t254 t257 t258 true))) = some true := H
      have A12 := Aside0.mk A120
      clear A120
      have HC13 := Aside0.mk H
      clear H
      go_enter Try.func5, Try.ntmps5
      go_upto_region 9 with (first | ((with_reducible refine gate_callee (f := 19) rfl ?_); refine goesL_ (some 30) rfl rfl Try.func19 (by kernel_rfl) rfl #[.slice A2 l2.length c2] rfl qB11 ?_; (with_reducible refine (laws_toInt64S.calls k _ _ l2 t241 _ ?side1 ?side2 A7.out).mono ?_); (case side1 => repeat (first | exact HR2.out | (with_reducible refine Kd.C_alloc ?_ _) | (with_reducible refine Kd.C_drewN ?_ _) | (with_reducible refine Kd.C_drew ?_))); (case side2 => exact HC2.out); rintro e w14 ⟨v242, rfl, ho0, hb⟩; refine ⟨_, rfl, ?_⟩; have n0_ := Aside0.mk (Kd.R_lower ho0 (below_size qB13)); have n1_ := Aside0.mk (below_step qB13 hb); clear HB; have HO243 := n0_; have HB := n1_; clear n0_ n1_; (try clear hb); (try clear hb2); (try clear hk); (try clear hi); (try clear ho0)) | ((with_reducible refine gate_callee (f := 19) rfl ?_); refine goesL_ (some 32) rfl rfl Try.func19 (by kernel_rfl) rfl #[.slice A3 l3.length c3] rfl qB11 ?_; (with_reducible refine (laws_toInt64S.calls k _ _ l3 t244 _ ?side1 ?side2 A8.out).mono ?_); (case side1 => repeat (first | exact (Kd.C_below HR3.out HB.out) | (with_reducible refine Kd.C_alloc ?_ _) | (with_reducible refine Kd.C_drewN ?_ _) | (with_reducible refine Kd.C_drew ?_))); (case side2 => exact HC3.out); rintro e w15 ⟨v245, rfl, ho0, hb⟩; refine ⟨_, rfl, ?_⟩; have n0_ := Aside0.mk (Kd.R_elder' qB20 (Kd.R_base ho0) hb); have n1_ := Aside0.mk (Kd.R_lower (Kd.R_new' ho0 (Kd.R_lt qB20)) (below_size qB13)); have n2_ := Aside0.mk (below_step qB13 hb); clear HO243; clear HB; have HO243 := n0_; have HO246 := n1_; have HB := n2_; clear n0_ n1_ n2_; (try clear hb); (try clear hb2); (try clear hk); (try clear hi); (try clear ho0); obtain ⟨Ao16, co16, eo16⟩ := Kd.R_slice HO243.out; subst eo16; obtain ⟨Ao17, co17, eo17⟩ := Kd.R_slice HO246.out; subst eo17) | ((with_reducible refine gate_callee (f := 18) rfl ?_); refine goesL_ (some 33) rfl rfl Try.func18 (by kernel_rfl) rfl #[.int .i64 a0, .int .i64 a1, .slice Ao16 t241.length co16, .slice Ao17 t244.length co17] rfl qB11 ?_; (with_reducible refine (spec_MultiplyPeriods.calls k a0 a1 (fun k_ => some k_ = (.slice Ao16 t241.length co16 : Value).ownBlock) _ _ t241 (fun k_ => some k_ = (.slice Ao17 t244.length co17 : Value).ownBlock) _ _ t244 t247 t250 _ ?side1 ?side2 A9.out).mono ?_); (case side1 => exact Kd.R_V (Kd.R_tight rfl (HO243.out))); (case side2 => exact Kd.R_V (Kd.R_tight rfl (HO246.out))); rintro e w18 ⟨v248, rfl, ho0, hb⟩; refine ⟨_, rfl, ?_⟩; have n0_ := Aside0.mk (Kd.R_elder' qB20 (Kd.R_base ho0) hb); have n1_ := Aside0.mk (Kd.R_elder' qB21 (Kd.R_base ho0) hb); have n2_ := Aside0.mk (Kd.R_lower (Kd.R_new' (Kd.R_new' (Kd.R_mono (ok' := fun k_ => True) ho0 (fun _ hk_ => trivial)) (Kd.R_lt qB20)) (Kd.R_lt qB21)) (below_size qB13)); have n3_ := Aside0.mk (below_step qB13 hb); clear HO243; clear HO246; clear HB; have HO243 := n0_; have HO246 := n1_; have HO249 := n2_; have HB := n3_; clear n0_ n1_ n2_ n3_; (try clear hb); (try clear hb2); (try clear hk); (try clear hi); (try clear ho0)) | ((with_reducible refine gate_callee (f := 19) rfl ?_); refine goesL_ (some 37) rfl rfl Try.func19 (by kernel_rfl) rfl #[.slice A2 l2.length c2] rfl qB11 ?_; (with_reducible refine (laws_toInt64S.calls k _ _ l2 t251 _ ?side1 ?side2 A10.out).mono ?_); (case side1 => repeat (first | exact (Kd.C_below HR2.out HB.out) | (with_reducible refine Kd.C_alloc ?_ _) | (with_reducible refine Kd.C_drewN ?_ _) | (with_reducible refine Kd.C_drew ?_))); (case side2 => exact HC2.out); rintro e w19 ⟨v252, rfl, ho0, hb⟩; refine ⟨_, rfl, ?_⟩; have n0_ := Aside0.mk (Kd.R_elder' qB20 (Kd.R_base ho0) hb); have n1_ := Aside0.mk (Kd.R_elder' qB21 (Kd.R_base ho0) hb); have n2_ := Aside0.mk (Kd.R_elder' qB22 (Kd.R_base ho0) hb); have n3_ := Aside0.mk (Kd.R_lower (Kd.R_new' (Kd.R_new' (Kd.R_new' ho0 (Kd.R_lt qB20)) (Kd.R_lt qB21)) (Kd.R_lt qB22)) (below_size qB13)); have n4_ := Aside0.mk (below_step qB13 hb); clear HO243; clear HO246; clear HO249; clear HB; have HO243 := n0_; have HO246 := n1_; have HO249 := n2_; have HO253 := n3_; have HB := n4_; clear n0_ n1_ n2_ n3_ n4_; (try clear hb); (try clear hb2); (try clear hk); (try clear hi); (try clear ho0)) | ((with_reducible refine gate_callee (f := 19) rfl ?_); refine goesL_ (some 39) rfl rfl Try.func19 (by kernel_rfl) rfl #[.slice A3 l3.length c3] rfl qB11 ?_; (with_reducible refine (laws_toInt64S.calls k _ _ l3 t254 _ ?side1 ?side2 A11.out).mono ?_); (case side1 => repeat (first | exact (Kd.C_below HR3.out HB.out) | (with_reducible refine Kd.C_alloc ?_ _) | (with_reducible refine Kd.C_drewN ?_ _) | (with_reducible refine Kd.C_drew ?_))); (case side2 => exact HC3.out); rintro e w20 ⟨v255, rfl, ho0, hb⟩; refine ⟨_, rfl, ?_⟩; have n0_ := Aside0.mk (Kd.R_elder' qB20 (Kd.R_base ho0) hb); have n1_ := Aside0.mk (Kd.R_elder' qB21 (Kd.R_base ho0) hb); have n2_ := Aside0.mk (Kd.R_elder' qB22 (Kd.R_base ho0) hb); have n3_ := Aside0.mk (Kd.R_elder' qB23 (Kd.R_base ho0) hb); have n4_ := Aside0.mk (Kd.R_lower (Kd.R_new' (Kd.R_new' (Kd.R_new' (Kd.R_new' ho0 (Kd.R_lt qB20)) (Kd.R_lt qB21)) (Kd.R_lt qB22)) (Kd.R_lt qB23)) (below_size qB13)); have n5_ := Aside0.mk (below_step qB13 hb); clear HO243; clear HO246; clear HO249; clear HO253; clear HB; have HO243 := n0_; have HO246 := n1_; have HO249 := n2_; have HO253 := n3_; have HO256 := n4_; have HB := n5_; clear n0_ n1_ n2_ n3_ n4_ n5_; (try clear hb); (try clear hb2); (try clear hk); (try clear hi); (try clear ho0); obtain ⟨Ao21, co21, eo21⟩ := Kd.R_slice HO253.out; subst eo21; obtain ⟨Ao22, co22, eo22⟩ := Kd.R_slice HO256.out; subst eo22) | ((with_reducible refine gate_callee (f := 20) rfl ?_); refine goesL_ (some 45) rfl rfl Try.func20 (by kernel_rfl) rfl #[.int .i64 a0, .int .i64 a1, .slice Ao21 t251.length co21, .slice Ao22 t254.length co22] rfl qB11 ?_; (with_reducible refine (impl_MultiplyPeriods.calls k a0 a1 _ _ t251 _ _ t254 t257 t258 _ ?side1 ?side2 ?side3 ?side4 A12.out).mono ?_); (case side1 => repeat (first | exact (Kd.R_reads' HO253.out).2.2 | (with_reducible refine Kd.C_alloc ?_ _) | (with_reducible refine Kd.C_drewN ?_ _) | (with_reducible refine Kd.C_drew ?_))); (case side2 => exact (Kd.R_reads' HO253.out).2.1); (case side3 => repeat (first | exact (Kd.R_reads' HO256.out).2.2 | (with_reducible refine Kd.C_alloc ?_ _) | (with_reducible refine Kd.C_drewN ?_ _) | (with_reducible refine Kd.C_drew ?_))); (case side4 => exact (Kd.R_reads' HO256.out).2.1); rintro e w23 ⟨v259, rfl, ho0, hb⟩; refine ⟨_, rfl, ?_⟩; have n0_ := Aside0.mk (Kd.R_elder' qB20 (Kd.R_base ho0) hb); have n1_ := Aside0.mk (Kd.R_elder' qB21 (Kd.R_base ho0) hb); have n2_ := Aside0.mk (Kd.R_elder' qB22 (Kd.R_base ho0) hb); have n3_ := Aside0.mk (Kd.R_elder' qB23 (Kd.R_base ho0) hb); have n4_ := Aside0.mk (Kd.R_elder' qB24 (Kd.R_base ho0) hb); have n5_ := Aside0.mk (Kd.R_lower (Kd.R_new' (Kd.R_new' (Kd.R_new' (Kd.R_new' (Kd.R_new' ho0 (Kd.R_lt qB20)) (Kd.R_lt qB21)) (Kd.R_lt qB22)) (Kd.R_lt qB23)) (Kd.R_lt qB24)) (below_size qB13)); have n6_ := Aside0.mk (below_step qB13 hb); clear HO243; clear HO246; clear HO249; clear HO253; clear HO256; clear HB; have HO243 := n0_; have HO246 := n1_; have HO249 := n2_; have HO253 := n3_; have HO256 := n4_; have HO260 := n5_; have HB := n6_; clear n0_ n1_ n2_ n3_ n4_ n5_ n6_; (try clear hb); (try clear hb2); (try clear hk); (try clear hi); (try clear ho0)))
      (try simp only [Act.put, List.setIfInBounds_toArray, List.set_cons_zero, List.set_cons_succ])
      go_cut [56] (fun v56 wc => ∃ (kq : Nat) (x56_12 : Bool), v56 = .bool x56_12 ∧ Aside0 (laws_FnExactMultiplyPeriods.j0 kq a0 a1 l2 l3 t247 t250 t251 t254 t257 t258 x56_12 = some true) ∧ Aside0 (kq ≤ k) ∧ Aside0 (Kd.R (Kd.int .i64) 2 wc w.heap.size (fun k_ => some k_ ≠ ((.slice Ao21 t251.length co21) : Value).ownBlock ∧ some k_ ≠ ((.slice Ao22 t254.length co22) : Value).ownBlock ∧ some k_ ≠ (v259 : Value).ownBlock) v248 t247) ∧ Aside0 (Kd.R (Kd.int .i64) 2 wc w.heap.size (fun k_ => some k_ ≠ (v248 : Value).ownBlock ∧ some k_ ≠ ((.slice Ao22 t254.length co22) : Value).ownBlock ∧ some k_ ≠ (v259 : Value).ownBlock) (.slice Ao21 t251.length co21) t251) ∧ Aside0 (Kd.R (Kd.int .i64) 2 wc w.heap.size (fun k_ => some k_ ≠ (v248 : Value).ownBlock ∧ some k_ ≠ ((.slice Ao21 t251.length co21) : Value).ownBlock ∧ some k_ ≠ (v259 : Value).ownBlock) (.slice Ao22 t254.length co22) t254) ∧ Aside0 (Kd.R (Kd.int .i64) 2 wc w.heap.size (fun k_ => some k_ ≠ (v248 : Value).ownBlock ∧ some k_ ≠ ((.slice Ao21 t251.length co21) : Value).ownBlock ∧ some k_ ≠ ((.slice Ao22 t254.length co22) : Value).ownBlock) v259 t257) ∧ Aside0 (Below w.heap.size w wc))
      case first =>
        have H := HC13.out
        clear HC13
        replace H := Option.bind_eq_some_iff.mp H
        obtain ⟨t261, A240, H⟩ := H
        replace H : (if t261 = true then (laws_FnExactMultiplyPeriods.j0 k a0 a1 l2 l3 t247 t250 t251 t254 t257 t258 (t258 != t250)) else (laws_FnExactMultiplyPeriods.j0 k a0 a1 l2 l3 t247 t250 t251 t254 t257 t258 true)) = some true := H
        have A24 := Aside0.mk A240
        clear A240
        by_cases c25 : t261 = true
        · subst c25
          have H1 : (laws_FnExactMultiplyPeriods.j0 k a0 a1 l2 l3 t247 t250 t251 t254 t257 t258 (t258 != t250)) = some true := by rw [if_pos rfl] at H; exact H
          clear H
          have H := H1
          clear H1
          have H' := Aside0.mk H
          clear H
          obtain ⟨Ao26, co26, eo26⟩ := Kd.R_slice HO260.out
          subst eo26
          obtain ⟨Ao27, co27, eo27⟩ := Kd.R_slice HO249.out
          subst eo27
          go_wp2_with (first | ((with_reducible refine gate_callee (f := 15) rfl ?_); refine goesL_ (some 50) rfl rfl Try.func15 (by kernel_rfl) rfl #[.slice Ao26 t257.length co26, .slice Ao27 t247.length co27] rfl qB11 ?_; (with_reducible refine (laws_eqInt64S.calls k _ _ t257 _ _ t247 true _ ?side1 ?side2 ?side3 ?side4 A24.out).mono ?_); (case side1 => repeat (first | exact (Kd.R_reads' HO260.out).2.2 | (with_reducible refine Kd.C_alloc ?_ _) | (with_reducible refine Kd.C_drewN ?_ _) | (with_reducible refine Kd.C_drew ?_))); (case side2 => exact (Kd.R_reads' HO260.out).2.1); (case side3 => repeat (first | exact (Kd.R_reads' HO249.out).2.2 | (with_reducible refine Kd.C_alloc ?_ _) | (with_reducible refine Kd.C_drewN ?_ _) | (with_reducible refine Kd.C_drew ?_))); (case side4 => exact (Kd.R_reads' HO249.out).2.1); rintro e w' ⟨rfl, ⟨nd, rfl⟩⟩; refine ⟨_, rfl, ?_⟩))
          go_meet
          case rel => exact ⟨_, ((t258 != t250)), qB38, H', ⟨by first | omega | exact Nat.le_refl _⟩, ⟨by (with_reducible repeat (first | apply Kd.R_alloc | apply Kd.R_drewN | apply Kd.R_drew)); exact Kd.R_mono HO249.out (fun _ hk => ⟨hk.1.1.2, ⟨hk.1.2, hk.2⟩⟩)⟩, ⟨by (with_reducible repeat (first | apply Kd.R_alloc | apply Kd.R_drewN | apply Kd.R_drew)); exact Kd.R_mono HO253.out (fun _ hk => ⟨hk.1.1.2, ⟨hk.1.2, hk.2⟩⟩)⟩, ⟨by (with_reducible repeat (first | apply Kd.R_alloc | apply Kd.R_drewN | apply Kd.R_drew)); exact Kd.R_mono HO256.out (fun _ hk => ⟨hk.1.1.2, ⟨hk.1.2, hk.2⟩⟩)⟩, ⟨by (with_reducible repeat (first | apply Kd.R_alloc | apply Kd.R_drewN | apply Kd.R_drew)); exact Kd.R_mono HO260.out (fun _ hk => ⟨hk.1.1.2, ⟨hk.1.2, hk.2⟩⟩)⟩, ⟨by repeat (first | (with_reducible first | exact HB.out | apply below_alloc | apply pw_below_drewN | apply below_drew1) | exact HB.out)⟩⟩
        · replace c25 := Bool.eq_false_iff.mpr c25
          subst c25
          have H1 : (laws_FnExactMultiplyPeriods.j0 k a0 a1 l2 l3 t247 t250 t251 t254 t257 t258 true) = some true := by rw [if_neg (show ¬ (false = true) by decide)] at H; exact H
          exact (laws_FnExactMultiplyPeriods.j0_no _ _ _ _ _ _ _ _ _ _ _ H1).elim
      case rest =>
        clear HC13
        try clear c1
        try clear c2
        try clear p2
        try clear c3
        try clear c5
        try clear c5b0
        try clear c5b1
        try clear c6
        try clear c6b0
        try clear c6b1
        try clear c15
        try clear c18
        try clear c19
        try clear c20
        try clear c25
        obtain ⟨kq, x56_12, rfl, HA, HJ12, HO_9, HO_11, HO_12, HO_13, HB⟩ := hcut
        cases kq with
        | zero => exact absurd HA.out (by simp [laws_FnExactMultiplyPeriods.j0])
        | succ kj12 =>
          have H := HA.out
          clear HA
          simp only [laws_FnExactMultiplyPeriods.j0] at H
          by_cases c30 : x56_12 = true
          · subst c30
            have H1 : (some false) = some true := by rw [if_pos rfl] at H; exact H
            cases H1
          · replace c30 := Bool.eq_false_iff.mpr c30
            subst c30
            have H1 : ((laws_toInt64S.f kj12 l2).bind fun t262 => ((laws_eqInt64S.f kj12 t251 t262).bind fun t265 => (if t265 = true then ((laws_toInt64S.f kj12 l3).bind fun t266 => ((laws_eqInt64S.f kj12 t254 t266).bind fun t269 => (if t269 = true then ((laws_markInt64S.f kj12 t251 1).bind fun bt270 => ((laws_markInt64S.f kj12 t254 bt270.1).bind fun bt272 => (if bt272.1 < 0 then (laws_FnExactMultiplyPeriods.j1 kj12 a0 a1 l2 l3 t247 t250 t257 true) else ((laws_eqInt64S.f kj12 t257 t247).bind fun t274 => (if t274 = true then (laws_FnExactMultiplyPeriods.j1 kj12 a0 a1 l2 l3 t247 t250 t257 (t258 != t250)) else (laws_FnExactMultiplyPeriods.j1 kj12 a0 a1 l2 l3 t247 t250 t257 true)))))) else (some false)))) else (some false)))) = some true := by rw [if_neg (show ¬ (false = true) by decide)] at H; exact H
            clear H
            have H := H1
            clear H1
            replace H := Option.bind_eq_some_iff.mp H
            obtain ⟨t262, A310, H⟩ := H
            replace H : ((laws_eqInt64S.f kj12 t251 t262).bind fun t265 => (if t265 = true then ((laws_toInt64S.f kj12 l3).bind fun t266 => ((laws_eqInt64S.f kj12 t254 t266).bind fun t269 => (if t269 = true then ((laws_markInt64S.f kj12 t251 1).bind fun bt270 => ((laws_markInt64S.f kj12 t254 bt270.1).bind fun bt272 => (if bt272.1 < 0 then (laws_FnExactMultiplyPeriods.j1 kj12 a0 a1 l2 l3 t247 t250 t257 true) else ((laws_eqInt64S.f kj12 t257 t247).bind fun t274 => (if t274 = true then (laws_FnExactMultiplyPeriods.j1 kj12 a0 a1 l2 l3 t247 t250 t257 (t258 != t250)) else (laws_FnExactMultiplyPeriods.j1 kj12 a0 a1 l2 l3 t247 t250 t257 true)))))) else (some false)))) else (some false))) = some true := H
            have A31 := Aside0.mk A310
            clear A310
            replace H := Option.bind_eq_some_iff.mp H
            obtain ⟨t265, A320, H⟩ := H
            replace H : (if t265 = true then ((laws_toInt64S.f kj12 l3).bind fun t266 => ((laws_eqInt64S.f kj12 t254 t266).bind fun t269 => (if t269 = true then ((laws_markInt64S.f kj12 t251 1).bind fun bt270 => ((laws_markInt64S.f kj12 t254 bt270.1).bind fun bt272 => (if bt272.1 < 0 then (laws_FnExactMultiplyPeriods.j1 kj12 a0 a1 l2 l3 t247 t250 t257 true) else ((laws_eqInt64S.f kj12 t257 t247).bind fun t274 => (if t274 = true then (laws_FnExactMultiplyPeriods.j1 kj12 a0 a1 l2 l3 t247 t250 t257 (t258 != t250)) else (laws_FnExactMultiplyPeriods.j1 kj12 a0 a1 l2 l3 t247 t250 t257 true)))))) else (some false)))) else (some false)) = some true := H
            have A32 := Aside0.mk A320
            clear A320
            by_cases c33 : t265 = true
            · subst c33
              have H1 : ((laws_toInt64S.f kj12 l3).bind fun t266 => ((laws_eqInt64S.f kj12 t254 t266).bind fun t269 => (if t269 = true then ((laws_markInt64S.f kj12 t251 1).bind fun bt270 => ((laws_markInt64S.f kj12 t254 bt270.1).bind fun bt272 => (if bt272.1 < 0 then (laws_FnExactMultiplyPeriods.j1 kj12 a0 a1 l2 l3 t247 t250 t257 true) else ((laws_eqInt64S.f kj12 t257 t247).bind fun t274 => (if t274 = true then (laws_FnExactMultiplyPeriods.j1 kj12 a0 a1 l2 l3 t247 t250 t257 (t258 != t250)) else (laws_FnExactMultiplyPeriods.j1 kj12 a0 a1 l2 l3 t247 t250 t257 true)))))) else (some false)))) = some true := by rw [if_pos rfl] at H; exact H
              clear H
              have H := H1
              clear H1
              replace H := Option.bind_eq_some_iff.mp H
              obtain ⟨t266, A340, H⟩ := H
              replace H : ((laws_eqInt64S.f kj12 t254 t266).bind fun t269 => (if t269 = true then ((laws_markInt64S.f kj12 t251 1).bind fun bt270 => ((laws_markInt64S.f kj12 t254 bt270.1).bind fun bt272 => (if bt272.1 < 0 then (laws_FnExactMultiplyPeriods.j1 kj12 a0 a1 l2 l3 t247 t250 t257 true) else ((laws_eqInt64S.f kj12 t257 t247).bind fun t274 => (if t274 = true then (laws_FnExactMultiplyPeriods.j1 kj12 a0 a1 l2 l3 t247 t250 t257 (t258 != t250)) else (laws_FnExactMultiplyPeriods.j1 kj12 a0 a1 l2 l3 t247 t250 t257 true)))))) else (some false))) = some true := H
              have A34 := Aside0.mk A340
              clear A340
              replace H := Option.bind_eq_some_iff.mp H
              obtain ⟨t269, A350, H⟩ := H
              replace H : (if t269 = true then ((laws_markInt64S.f kj12 t251 1).bind fun bt270 => ((laws_markInt64S.f kj12 t254 bt270.1).bind fun bt272 => (if bt272.1 < 0 then (laws_FnExactMultiplyPeriods.j1 kj12 a0 a1 l2 l3 t247 t250 t257 true) else ((laws_eqInt64S.f kj12 t257 t247).bind fun t274 => (if t274 = true then (laws_FnExactMultiplyPeriods.j1 kj12 a0 a1 l2 l3 t247 t250 t257 (t258 != t250)) else (laws_FnExactMultiplyPeriods.j1 kj12 a0 a1 l2 l3 t247 t250 t257 true)))))) else (some false)) = some true := H
              have A35 := Aside0.mk A350
              clear A350
              by_cases c36 : t269 = true
              · subst c36
                have H1 : ((laws_markInt64S.f kj12 t251 1).bind fun bt270 => ((laws_markInt64S.f kj12 t254 bt270.1).bind fun bt272 => (if bt272.1 < 0 then (laws_FnExactMultiplyPeriods.j1 kj12 a0 a1 l2 l3 t247 t250 t257 true) else ((laws_eqInt64S.f kj12 t257 t247).bind fun t274 => (if t274 = true then (laws_FnExactMultiplyPeriods.j1 kj12 a0 a1 l2 l3 t247 t250 t257 (t258 != t250)) else (laws_FnExactMultiplyPeriods.j1 kj12 a0 a1 l2 l3 t247 t250 t257 true)))))) = some true := by rw [if_pos rfl] at H; exact H
                clear H
                have H := H1
                clear H1
                replace H := Option.bind_eq_some_iff.mp H
                obtain ⟨⟨t270, t271⟩, A370, H⟩ := H
                replace H : ((laws_markInt64S.f kj12 t254 t270).bind fun bt272 => (if bt272.1 < 0 then (laws_FnExactMultiplyPeriods.j1 kj12 a0 a1 l2 l3 t247 t250 t257 true) else ((laws_eqInt64S.f kj12 t257 t247).bind fun t274 => (if t274 = true then (laws_FnExactMultiplyPeriods.j1 kj12 a0 a1 l2 l3 t247 t250 t257 (t258 != t250)) else (laws_FnExactMultiplyPeriods.j1 kj12 a0 a1 l2 l3 t247 t250 t257 true))))) = some true := H
                have A37 := Aside0.mk A370
                clear A370
                replace H := Option.bind_eq_some_iff.mp H
                obtain ⟨⟨t272, t273⟩, A380, H⟩ := H
                replace H : (if t272 < 0 then (laws_FnExactMultiplyPeriods.j1 kj12 a0 a1 l2 l3 t247 t250 t257 true) else ((laws_eqInt64S.f kj12 t257 t247).bind fun t274 => (if t274 = true then (laws_FnExactMultiplyPeriods.j1 kj12 a0 a1 l2 l3 t247 t250 t257 (t258 != t250)) else (laws_FnExactMultiplyPeriods.j1 kj12 a0 a1 l2 l3 t247 t250 t257 true)))) = some true := H
                have A38 := Aside0.mk A380
                clear A380
                have HC39 := Aside0.mk H
                clear H
                go_upto_region 18 with (first | ((with_reducible refine gate_callee (f := 19) rfl ?_); refine goesL_ (some 59) rfl rfl Try.func19 (by kernel_rfl) rfl #[.slice A2 l2.length c2] rfl qB11 ?_; (with_reducible refine (laws_toInt64S.calls kj12 _ _ l2 t262 _ ?side1 ?side2 A31.out).mono ?_); (case side1 => repeat (first | exact (Kd.C_below HR2.out HB.out) | (with_reducible refine Kd.C_alloc ?_ _) | (with_reducible refine Kd.C_drewN ?_ _) | (with_reducible refine Kd.C_drew ?_))); (case side2 => exact HC2.out); rintro e w40 ⟨v263, rfl, ho0, hb⟩; refine ⟨_, rfl, ?_⟩; have n0_ := Aside0.mk (Kd.R_elder' qB33 (Kd.R_base ho0) hb); have n1_ := Aside0.mk (Kd.R_elder' qB25 (Kd.R_base ho0) hb); have n2_ := Aside0.mk (Kd.R_elder' qB26 (Kd.R_base ho0) hb); have n3_ := Aside0.mk (Kd.R_elder' qB27 (Kd.R_base ho0) hb); have n4_ := Aside0.mk (Kd.R_lower (Kd.R_new' (Kd.R_new' (Kd.R_new' (Kd.R_new' ho0 (Kd.R_lt qB33)) (Kd.R_lt qB25)) (Kd.R_lt qB26)) (Kd.R_lt qB27)) (below_size qB13)); have n5_ := Aside0.mk (below_step qB13 hb); clear HO_9; clear HO_11; clear HO_12; clear HO_13; clear HB; have HO_9 := n0_; have HO_11 := n1_; have HO_12 := n2_; have HO_13 := n3_; have HO264 := n4_; have HB := n5_; clear n0_ n1_ n2_ n3_ n4_ n5_; (try clear hb); (try clear hb2); (try clear hk); (try clear hi); (try clear ho0); obtain ⟨Ao41, co41, eo41⟩ := Kd.R_slice HO264.out; subst eo41) | ((with_reducible refine gate_callee (f := 15) rfl ?_); refine goesL_ (some 60) rfl rfl Try.func15 (by kernel_rfl) rfl #[.slice Ao21 t251.length co21, .slice Ao41 t262.length co41] rfl qB11 ?_; (with_reducible refine (laws_eqInt64S.calls kj12 _ _ t251 _ _ t262 true _ ?side1 ?side2 ?side3 ?side4 A32.out).mono ?_); (case side1 => repeat (first | exact (Kd.R_reads' HO_11.out).2.2 | (with_reducible refine Kd.C_alloc ?_ _) | (with_reducible refine Kd.C_drewN ?_ _) | (with_reducible refine Kd.C_drew ?_))); (case side2 => exact (Kd.R_reads' HO_11.out).2.1); (case side3 => repeat (first | exact (Kd.R_reads' HO264.out).2.2 | (with_reducible refine Kd.C_alloc ?_ _) | (with_reducible refine Kd.C_drewN ?_ _) | (with_reducible refine Kd.C_drew ?_))); (case side4 => exact (Kd.R_reads' HO264.out).2.1); rintro e w' ⟨rfl, ⟨nd, rfl⟩⟩; refine ⟨_, rfl, ?_⟩) | ((with_reducible refine gate_callee (f := 19) rfl ?_); refine goesL_ (some 64) rfl rfl Try.func19 (by kernel_rfl) rfl #[.slice A3 l3.length c3] rfl qB11 ?_; (with_reducible refine (laws_toInt64S.calls kj12 _ _ l3 t266 _ ?side1 ?side2 A34.out).mono ?_); (case side1 => repeat (first | exact (Kd.C_below HR3.out qB13) | (with_reducible refine Kd.C_alloc ?_ _) | (with_reducible refine Kd.C_drewN ?_ _) | (with_reducible refine Kd.C_drew ?_))); (case side2 => exact HC3.out); rintro e w42 ⟨v267, rfl, ho0, hb⟩; refine ⟨_, rfl, ?_⟩; have n0_ := Aside0.mk (Kd.R_elder' qB33 (Kd.R_base ho0) hb); have n1_ := Aside0.mk (Kd.R_elder' qB25 (Kd.R_base ho0) hb); have n2_ := Aside0.mk (Kd.R_elder' qB26 (Kd.R_base ho0) hb); have n3_ := Aside0.mk (Kd.R_elder' qB27 (Kd.R_base ho0) hb); have n4_ := Aside0.mk (Kd.R_elder' qB28 (Kd.R_base ho0) hb); have n5_ := Aside0.mk (Kd.R_lower (Kd.R_new' (Kd.R_new' (Kd.R_new' (Kd.R_new' (Kd.R_new' ho0 (Kd.R_lt qB33)) (Kd.R_lt qB25)) (Kd.R_lt qB26)) (Kd.R_lt qB27)) (Kd.R_lt qB28)) (below_size qB13)); have n6_ := Aside0.mk (below_step qB13 hb); clear HO_9; clear HO_11; clear HO_12; clear HO_13; clear HO264; clear HB; have HO_9 := n0_; have HO_11 := n1_; have HO_12 := n2_; have HO_13 := n3_; have HO264 := n4_; have HO268 := n5_; have HB := n6_; clear n0_ n1_ n2_ n3_ n4_ n5_ n6_; (try clear hb); (try clear hb2); (try clear hk); (try clear hi); (try clear ho0); obtain ⟨Ao43, co43, eo43⟩ := Kd.R_slice HO268.out; subst eo43) | ((with_reducible refine gate_callee (f := 15) rfl ?_); refine goesL_ (some 65) rfl rfl Try.func15 (by kernel_rfl) rfl #[.slice Ao22 t254.length co22, .slice Ao43 t266.length co43] rfl qB11 ?_; (with_reducible refine (laws_eqInt64S.calls kj12 _ _ t254 _ _ t266 true _ ?side1 ?side2 ?side3 ?side4 A35.out).mono ?_); (case side1 => repeat (first | exact (Kd.R_reads' HO_12.out).2.2 | (with_reducible refine Kd.C_alloc ?_ _) | (with_reducible refine Kd.C_drewN ?_ _) | (with_reducible refine Kd.C_drew ?_))); (case side2 => exact (Kd.R_reads' HO_12.out).2.1); (case side3 => repeat (first | exact (Kd.R_reads' HO268.out).2.2 | (with_reducible refine Kd.C_alloc ?_ _) | (with_reducible refine Kd.C_drewN ?_ _) | (with_reducible refine Kd.C_drew ?_))); (case side4 => exact (Kd.R_reads' HO268.out).2.1); rintro e w' ⟨rfl, ⟨nd, rfl⟩⟩; refine ⟨_, rfl, ?_⟩) | ((with_reducible refine gate_callee (f := 16) rfl ?_); refine goesL_ (some 69) rfl rfl Try.func16 (by kernel_rfl) rfl #[.slice Ao21 t251.length co21, .int .i64 1] rfl qB11 ?_; (with_reducible refine (laws_markInt64S.calls kj12 (fun k_ => some k_ = (.slice Ao21 t251.length co21 : Value).ownBlock) (.slice Ao21 t251.length co21) t251 1 t270 t271 w _ ?side1 ?side2 A37.out).mono ?_); (case side1 => repeat (first | (with_reducible first | exact HB.out | apply below_alloc | apply pw_below_drewN | apply below_drew1) | exact HB.out)); (case side2 => exact Kd.R_tight rfl HO_11.out); rintro e w44 ⟨rfl, hy0, hb, hkp⟩; refine ⟨_, rfl, ?_⟩; have n0_ := Aside0.mk (Kd.R_mono (ok' := fun k_ => some k_ ≠ (.slice Ao21 t251.length co21 : Value).ownBlock ∧ some k_ ≠ (.slice Ao22 t254.length co22 : Value).ownBlock ∧ some k_ ≠ (v259 : Value).ownBlock ∧ some k_ ≠ (.slice Ao41 t262.length co41 : Value).ownBlock ∧ some k_ ≠ (.slice Ao43 t266.length co43 : Value).ownBlock) (Kd.R_keptB (HO_9.out) hkp (fun k_ hk_ hs_ => (hk_.1.1.1) hs_)) (fun k_ hk_ => ⟨hk_.1.1.1.1, hk_.1.1.1.2.1, hk_.1.1.1.2.2, hk_.1.1.2, hk_.1.2⟩)); have n1_ := Aside0.mk (Kd.R_reok rfl hy0 (fun k_ e_ => HO_11.out.1 k_ e_)); have n2_ := Aside0.mk (Kd.R_mono (ok' := fun k_ => some k_ ≠ (v248 : Value).ownBlock ∧ some k_ ≠ (.slice Ao21 t251.length co21 : Value).ownBlock ∧ some k_ ≠ (v259 : Value).ownBlock ∧ some k_ ≠ (.slice Ao41 t262.length co41 : Value).ownBlock ∧ some k_ ≠ (.slice Ao43 t266.length co43 : Value).ownBlock) (Kd.R_keptB (HO_12.out) hkp (fun k_ hk_ hs_ => (hk_.1.1.2.1) hs_)) (fun k_ hk_ => ⟨hk_.1.1.1.1, hk_.1.1.1.2.1, hk_.1.1.1.2.2, hk_.1.1.2, hk_.1.2⟩)); have n3_ := Aside0.mk (Kd.R_mono (ok' := fun k_ => some k_ ≠ (v248 : Value).ownBlock ∧ some k_ ≠ (.slice Ao21 t251.length co21 : Value).ownBlock ∧ some k_ ≠ (.slice Ao22 t254.length co22 : Value).ownBlock ∧ some k_ ≠ (.slice Ao41 t262.length co41 : Value).ownBlock ∧ some k_ ≠ (.slice Ao43 t266.length co43 : Value).ownBlock) (Kd.R_keptB (HO_13.out) hkp (fun k_ hk_ hs_ => (hk_.1.1.2.1) hs_)) (fun k_ hk_ => ⟨hk_.1.1.1.1, hk_.1.1.1.2.1, hk_.1.1.1.2.2, hk_.1.1.2, hk_.1.2⟩)); have n4_ := Aside0.mk (Kd.R_mono (ok' := fun k_ => some k_ ≠ (v248 : Value).ownBlock ∧ some k_ ≠ (.slice Ao21 t251.length co21 : Value).ownBlock ∧ some k_ ≠ (.slice Ao22 t254.length co22 : Value).ownBlock ∧ some k_ ≠ (v259 : Value).ownBlock ∧ some k_ ≠ (.slice Ao43 t266.length co43 : Value).ownBlock) (Kd.R_keptB (HO264.out) hkp (fun k_ hk_ hs_ => (hk_.1.1.1.2) hs_)) (fun k_ hk_ => ⟨hk_.1.1.1.1.1.2, hk_.1.1.1.1.2, hk_.1.1.1.2, hk_.1.1.2, hk_.1.2⟩)); have n5_ := Aside0.mk (Kd.R_mono (ok' := fun k_ => some k_ ≠ (v248 : Value).ownBlock ∧ some k_ ≠ (.slice Ao21 t251.length co21 : Value).ownBlock ∧ some k_ ≠ (.slice Ao22 t254.length co22 : Value).ownBlock ∧ some k_ ≠ (v259 : Value).ownBlock ∧ some k_ ≠ (.slice Ao41 t262.length co41 : Value).ownBlock) (Kd.R_keptB (HO268.out) hkp (fun k_ hk_ hs_ => (hk_.1.1.1.2) hs_)) (fun k_ hk_ => ⟨hk_.1.1.1.1.1.2, hk_.1.1.1.1.2, hk_.1.1.1.2, hk_.1.1.2, hk_.1.2⟩)); have n6_ := Aside0.mk (hb); clear HO_9; clear HO_11; clear HO_12; clear HO_13; clear HO264; clear HO268; clear HB; have HO_9 := n0_; have HO_11 := n1_; have HO_12 := n2_; have HO_13 := n3_; have HO264 := n4_; have HO268 := n5_; have HB := n6_; clear n0_ n1_ n2_ n3_ n4_ n5_ n6_; (try clear hb); (try clear hkp); (try clear hy0)) | ((with_reducible refine gate_callee (f := 16) rfl ?_); refine goesL_ (some 72) rfl rfl Try.func16 (by kernel_rfl) rfl #[.slice Ao22 t254.length co22, .int .i64 t270] rfl qB11 ?_; (with_reducible refine (laws_markInt64S.calls kj12 (fun k_ => some k_ = (.slice Ao22 t254.length co22 : Value).ownBlock) (.slice Ao22 t254.length co22) t254 t270 t272 t273 w _ ?side1 ?side2 A38.out).mono ?_); (case side1 => repeat (first | (with_reducible first | exact HB.out | apply below_alloc | apply pw_below_drewN | apply below_drew1) | exact HB.out)); (case side2 => exact Kd.R_tight rfl HO_12.out); rintro e w45 ⟨rfl, hy0, hb, hkp⟩; refine ⟨_, rfl, ?_⟩; have n0_ := Aside0.mk (Kd.R_mono (ok' := fun k_ => some k_ ≠ (.slice Ao21 t251.length co21 : Value).ownBlock ∧ some k_ ≠ (.slice Ao22 t254.length co22 : Value).ownBlock ∧ some k_ ≠ (v259 : Value).ownBlock ∧ some k_ ≠ (.slice Ao41 t262.length co41 : Value).ownBlock ∧ some k_ ≠ (.slice Ao43 t266.length co43 : Value).ownBlock) (Kd.R_keptB (HO_9.out) hkp (fun k_ hk_ hs_ => (hk_.2.1) hs_)) (fun k_ hk_ => ⟨hk_.1.1, hk_.1.2.1, hk_.1.2.2.1, hk_.1.2.2.2.1, hk_.1.2.2.2.2⟩)); have n1_ := Aside0.mk (Kd.R_mono (ok' := fun k_ => some k_ ≠ (v248 : Value).ownBlock ∧ some k_ ≠ (.slice Ao22 t254.length co22 : Value).ownBlock ∧ some k_ ≠ (v259 : Value).ownBlock ∧ some k_ ≠ (.slice Ao41 t262.length co41 : Value).ownBlock ∧ some k_ ≠ (.slice Ao43 t266.length co43 : Value).ownBlock) (Kd.R_keptB (HO_11.out) hkp (fun k_ hk_ hs_ => (hk_.1.1.2.1) hs_)) (fun k_ hk_ => ⟨hk_.1.1.1.1, hk_.1.1.1.2.1, hk_.1.1.1.2.2, hk_.1.1.2, hk_.1.2⟩)); have n2_ := Aside0.mk (Kd.R_reok rfl hy0 (fun k_ e_ => HO_12.out.1 k_ e_)); have n3_ := Aside0.mk (Kd.R_mono (ok' := fun k_ => some k_ ≠ (v248 : Value).ownBlock ∧ some k_ ≠ (.slice Ao21 t251.length co21 : Value).ownBlock ∧ some k_ ≠ (.slice Ao22 t254.length co22 : Value).ownBlock ∧ some k_ ≠ (.slice Ao41 t262.length co41 : Value).ownBlock ∧ some k_ ≠ (.slice Ao43 t266.length co43 : Value).ownBlock) (Kd.R_keptB (HO_13.out) hkp (fun k_ hk_ hs_ => (hk_.2.2.1) hs_)) (fun k_ hk_ => ⟨hk_.1.1, hk_.1.2.1, hk_.1.2.2.1, hk_.1.2.2.2.1, hk_.1.2.2.2.2⟩)); have n4_ := Aside0.mk (Kd.R_mono (ok' := fun k_ => some k_ ≠ (v248 : Value).ownBlock ∧ some k_ ≠ (.slice Ao21 t251.length co21 : Value).ownBlock ∧ some k_ ≠ (.slice Ao22 t254.length co22 : Value).ownBlock ∧ some k_ ≠ (v259 : Value).ownBlock ∧ some k_ ≠ (.slice Ao43 t266.length co43 : Value).ownBlock) (Kd.R_keptB (HO264.out) hkp (fun k_ hk_ hs_ => (hk_.2.2.1) hs_)) (fun k_ hk_ => ⟨hk_.1.1, hk_.1.2.1, hk_.1.2.2.1, hk_.1.2.2.2.1, hk_.1.2.2.2.2⟩)); have n5_ := Aside0.mk (Kd.R_mono (ok' := fun k_ => some k_ ≠ (v248 : Value).ownBlock ∧ some k_ ≠ (.slice Ao21 t251.length co21 : Value).ownBlock ∧ some k_ ≠ (.slice Ao22 t254.length co22 : Value).ownBlock ∧ some k_ ≠ (v259 : Value).ownBlock ∧ some k_ ≠ (.slice Ao41 t262.length co41 : Value).ownBlock) (Kd.R_keptB (HO268.out) hkp (fun k_ hk_ hs_ => (hk_.2.2.1) hs_)) (fun k_ hk_ => ⟨hk_.1.1, hk_.1.2.1, hk_.1.2.2.1, hk_.1.2.2.2.1, hk_.1.2.2.2.2⟩)); have n6_ := Aside0.mk (hb); clear HO_9; clear HO_11; clear HO_12; clear HO_13; clear HO264; clear HO268; clear HB; have HO_9 := n0_; have HO_11 := n1_; have HO_12 := n2_; have HO_13 := n3_; have HO264 := n4_; have HO268 := n5_; have HB := n6_; clear n0_ n1_ n2_ n3_ n4_ n5_ n6_; (try clear hb); (try clear hkp); (try clear hy0)))
                (try simp only [Act.put, List.setIfInBounds_toArray, List.set_cons_zero, List.set_cons_succ])
                go_cut [85] (fun v85 wc => ∃ (kq : Nat) (x85_38 : Bool), v85 = .bool x85_38 ∧ Aside0 (laws_FnExactMultiplyPeriods.j1 kq a0 a1 l2 l3 t247 t250 t257 x85_38 = some true) ∧ Aside0 (kq ≤ kj12) ∧ Aside0 (Kd.R (Kd.int .i64) 2 wc w.heap.size (fun k_ => some k_ ≠ (v259 : Value).ownBlock) v248 t247) ∧ Aside0 (Kd.R (Kd.int .i64) 2 wc w.heap.size (fun k_ => some k_ ≠ (v248 : Value).ownBlock) v259 t257) ∧ Aside0 (Below w.heap.size w wc))
                case first =>
                  have H := HC39.out
                  clear HC39
                  by_cases c46 : t272 < 0
                  · rw [if_pos c46] at H
                    exact (laws_FnExactMultiplyPeriods.j1_no _ _ _ _ _ _ _ _ H).elim
                  · rw [if_neg c46] at H
                    have c46b0 : decide (t272 < 0) = false := decide_eq_false c46
                    clear c46
                    (first | rw [c46b0] | (simp only [i64_w, i32_w]; rw [c46b0]) | skip)
                    replace H := Option.bind_eq_some_iff.mp H
                    obtain ⟨t274, A470, H⟩ := H
                    replace H : (if t274 = true then (laws_FnExactMultiplyPeriods.j1 kj12 a0 a1 l2 l3 t247 t250 t257 (t258 != t250)) else (laws_FnExactMultiplyPeriods.j1 kj12 a0 a1 l2 l3 t247 t250 t257 true)) = some true := H
                    have A47 := Aside0.mk A470
                    clear A470
                    by_cases c48 : t274 = true
                    · subst c48
                      have H1 : (laws_FnExactMultiplyPeriods.j1 kj12 a0 a1 l2 l3 t247 t250 t257 (t258 != t250)) = some true := by rw [if_pos rfl] at H; exact H
                      clear H
                      have H := H1
                      clear H1
                      have H' := Aside0.mk H
                      clear H
                      obtain ⟨Ao49, co49, eo49⟩ := Kd.R_slice HO_13.out
                      subst eo49
                      obtain ⟨Ao50, co50, eo50⟩ := Kd.R_slice HO_9.out
                      subst eo50
                      go_wp2_with (first | (go_at_call 15; (with_reducible refine (laws_eqInt64S.calls kj12 _ _ t257 _ _ t247 true _ ?side1 ?side2 ?side3 ?side4 A47.out).mono ?_); (case side1 => repeat (first | exact (Kd.R_reads' HO_13.out).2.2 | (with_reducible refine Kd.C_alloc ?_ _) | (with_reducible refine Kd.C_drewN ?_ _) | (with_reducible refine Kd.C_drew ?_))); (case side2 => exact (Kd.R_reads' HO_13.out).2.1); (case side3 => repeat (first | exact (Kd.R_reads' HO_9.out).2.2 | (with_reducible refine Kd.C_alloc ?_ _) | (with_reducible refine Kd.C_drewN ?_ _) | (with_reducible refine Kd.C_drew ?_))); (case side4 => exact (Kd.R_reads' HO_9.out).2.1); rintro e w' ⟨rfl, ⟨nd, rfl⟩⟩))
                      go_meet
                      case rel => exact ⟨_, ((t258 != t250)), qB38, H', ⟨by have := HJ12.out; first | omega | exact Nat.le_refl _⟩, ⟨by (with_reducible repeat (first | apply Kd.R_alloc | apply Kd.R_drewN | apply Kd.R_drew)); exact Kd.R_mono HO_9.out (fun _ hk => hk.2.2.1)⟩, ⟨by (with_reducible repeat (first | apply Kd.R_alloc | apply Kd.R_drewN | apply Kd.R_drew)); exact Kd.R_mono HO_13.out (fun _ hk => hk.1)⟩, ⟨by repeat (first | (with_reducible first | exact HB.out | apply below_alloc | apply pw_below_drewN | apply below_drew1) | exact HB.out)⟩⟩
                    · replace c48 := Bool.eq_false_iff.mpr c48
                      subst c48
                      have H1 : (laws_FnExactMultiplyPeriods.j1 kj12 a0 a1 l2 l3 t247 t250 t257 true) = some true := by rw [if_neg (show ¬ (false = true) by decide)] at H; exact H
                      exact (laws_FnExactMultiplyPeriods.j1_no _ _ _ _ _ _ _ _ H1).elim
                case rest =>
                  clear HC39
                  try clear c1
                  try clear c2
                  try clear p2
                  try clear c3
                  try clear c4
                  try clear c5
                  try clear c5b0
                  try clear c5b1
                  try clear c6
                  try clear c6b0
                  try clear c6b1
                  try clear c15
                  try clear c16
                  try clear c18
                  try clear c19
                  try clear c20
                  try clear c25
                  try clear c30
                  try clear c33
                  try clear c36
                  try clear c46
                  try clear c46b0
                  try clear c48
                  try clear p2
                  obtain ⟨kq, x85_38, rfl, HA, HJ38, HO_9, HO_13, HB⟩ := hcut
                  cases kq with
                  | zero => exact absurd HA.out (by simp [laws_FnExactMultiplyPeriods.j1])
                  | succ kj38 =>
                    have H := HA.out
                    clear HA
                    simp only [laws_FnExactMultiplyPeriods.j1] at H
                    by_cases c53 : x85_38 = true
                    · subst c53
                      have H1 : (some false) = some true := by rw [if_pos rfl] at H; exact H
                      cases H1
                    · replace c53 := Bool.eq_false_iff.mpr c53
                      subst c53
                      have H1 : ((laws_markInt64S.f kj38 t257 1).bind fun bt275 => ((laws_heldInt64S.f kj38 bt275.2 1).bind fun t277 => (if t277 < 0 then (some false) else (if t277 = bt275.1 then ((laws_toInt64S.f kj38 l2).bind fun t278 => ((laws_toInt64S.f kj38 l3).bind fun t281 => ((impl_MultiplyPeriods.f kj38 a0 a1 t278 t281).bind fun bt284 => ((laws_eqInt64S.f kj38 bt284.1 t247).bind fun t288 => (if t288 = true then (laws_FnExactMultiplyPeriods.j2 kj38 bt275.2 bt275.1 (bt284.2 != t250)) else (laws_FnExactMultiplyPeriods.j2 kj38 bt275.2 bt275.1 true)))))) else (some false))))) = some true := by rw [if_neg (show ¬ (false = true) by decide)] at H; exact H
                      clear H
                      have H := H1
                      clear H1
                      replace H := Option.bind_eq_some_iff.mp H
                      obtain ⟨⟨t275, t276⟩, A540, H⟩ := H
                      replace H : ((laws_heldInt64S.f kj38 t276 1).bind fun t277 => (if t277 < 0 then (some false) else (if t277 = t275 then ((laws_toInt64S.f kj38 l2).bind fun t278 => ((laws_toInt64S.f kj38 l3).bind fun t281 => ((impl_MultiplyPeriods.f kj38 a0 a1 t278 t281).bind fun bt284 => ((laws_eqInt64S.f kj38 bt284.1 t247).bind fun t288 => (if t288 = true then (laws_FnExactMultiplyPeriods.j2 kj38 t276 t275 (bt284.2 != t250)) else (laws_FnExactMultiplyPeriods.j2 kj38 t276 t275 true)))))) else (some false)))) = some true := H
                      have A54 := Aside0.mk A540
                      clear A540
                      replace H := Option.bind_eq_some_iff.mp H
                      obtain ⟨t277, A550, H⟩ := H
                      replace H : (if t277 < 0 then (some false) else (if t277 = t275 then ((laws_toInt64S.f kj38 l2).bind fun t278 => ((laws_toInt64S.f kj38 l3).bind fun t281 => ((impl_MultiplyPeriods.f kj38 a0 a1 t278 t281).bind fun bt284 => ((laws_eqInt64S.f kj38 bt284.1 t247).bind fun t288 => (if t288 = true then (laws_FnExactMultiplyPeriods.j2 kj38 t276 t275 (bt284.2 != t250)) else (laws_FnExactMultiplyPeriods.j2 kj38 t276 t275 true)))))) else (some false))) = some true := H
                      have A55 := Aside0.mk A550
                      clear A550
                      by_cases c56 : t277 < 0
                      · rw [if_pos c56] at H
                        cases H
                      · rw [if_neg c56] at H
                        have c56b0 : decide (t277 < 0) = false := decide_eq_false c56
                        clear c56
                        by_cases c59 : t277 = t275
                        · rw [if_pos c59] at H
                          have c59b0 : (t277 == t275) = true := beq_iff_eq.mpr c59
                          have c59b1 : (t277 != t275) = false := bne_eq_false_iff_eq.mpr c59
                          clear c59
                          replace H := Option.bind_eq_some_iff.mp H
                          obtain ⟨t278, A600, H⟩ := H
                          replace H : ((laws_toInt64S.f kj38 l3).bind fun t281 => ((impl_MultiplyPeriods.f kj38 a0 a1 t278 t281).bind fun bt284 => ((laws_eqInt64S.f kj38 bt284.1 t247).bind fun t288 => (if t288 = true then (laws_FnExactMultiplyPeriods.j2 kj38 t276 t275 (bt284.2 != t250)) else (laws_FnExactMultiplyPeriods.j2 kj38 t276 t275 true))))) = some true := H
                          have A60 := Aside0.mk A600
                          clear A600
                          replace H := Option.bind_eq_some_iff.mp H
                          obtain ⟨t281, A610, H⟩ := H
                          replace H : ((impl_MultiplyPeriods.f kj38 a0 a1 t278 t281).bind fun bt284 => ((laws_eqInt64S.f kj38 bt284.1 t247).bind fun t288 => (if t288 = true then (laws_FnExactMultiplyPeriods.j2 kj38 t276 t275 (bt284.2 != t250)) else (laws_FnExactMultiplyPeriods.j2 kj38 t276 t275 true)))) = some true := H
                          have A61 := Aside0.mk A610
                          clear A610
                          replace H := Option.bind_eq_some_iff.mp H
                          obtain ⟨⟨t284, t285⟩, A620, H⟩ := H
                          replace H : ((laws_eqInt64S.f kj38 t284 t247).bind fun t288 => (if t288 = true then (laws_FnExactMultiplyPeriods.j2 kj38 t276 t275 (t285 != t250)) else (laws_FnExactMultiplyPeriods.j2 kj38 t276 t275 true))) = some true := H
                          have A62 := Aside0.mk A620
                          clear A620
                          have HC63 := Aside0.mk H
                          clear H
                          obtain ⟨Ao64, co64, eo64⟩ := Kd.R_slice HO_13.out
                          subst eo64
                          go_upto_region 29 with (first | ((with_reducible refine gate_callee (f := 16) rfl ?_); refine goesL_ (some 88) rfl rfl Try.func16 (by kernel_rfl) rfl #[.slice Ao64 t257.length co64, .int .i64 1] rfl qB11 ?_; (with_reducible refine (laws_markInt64S.calls kj38 (fun k_ => some k_ = (.slice Ao64 t257.length co64 : Value).ownBlock) (.slice Ao64 t257.length co64) t257 1 t275 t276 w _ ?side1 ?side2 A54.out).mono ?_); (case side1 => repeat (first | (with_reducible first | exact HB.out | apply below_alloc | apply pw_below_drewN | apply below_drew1) | exact HB.out)); (case side2 => exact Kd.R_tight rfl HO_13.out); rintro e w65 ⟨rfl, hy0, hb, hkp⟩; refine ⟨_, rfl, ?_⟩; have n0_ := Aside0.mk (Kd.R_mono (ok' := fun k_ => some k_ ≠ (.slice Ao64 t257.length co64 : Value).ownBlock) (Kd.R_keptB (HO_9.out) hkp (fun k_ hk_ hs_ => (hk_) hs_)) (fun k_ hk_ => hk_.1)); have n1_ := Aside0.mk (Kd.R_reok rfl hy0 (fun k_ e_ => HO_13.out.1 k_ e_)); have n2_ := Aside0.mk (hb); clear HO_9; clear HO_13; clear HB; have HO_9 := n0_; have HO_13 := n1_; have HB := n2_; clear n0_ n1_ n2_; (try clear hb); (try clear hkp); (try clear hy0)) | ((with_reducible refine gate_callee (f := 17) rfl ?_); refine goesL_ (some 91) rfl rfl Try.func17 (by kernel_rfl) rfl #[.slice Ao64 t276.length co64, .int .i64 1] rfl (by (try simp only [List.map_toArray, List.map_cons, List.map_nil]); first | done | (rw [show t276.length = t257.length from (Kd.R_reads' HO_13.out).1.symm] <;> rfl) | rfl | (simp only [List.length_drop, List.length_take]; rfl)) ?_; (with_reducible refine (laws_heldInt64S.calls kj38 _ _ t276 1 t277 _ ?side1 ?side2 A55.out).mono ?_); (case side1 => repeat (first | exact (Kd.R_reads' HO_13.out).2.2 | (with_reducible refine Kd.C_alloc ?_ _) | (with_reducible refine Kd.C_drewN ?_ _) | (with_reducible refine Kd.C_drew ?_))); (case side2 => rw [show t276.length = t257.length from (Kd.R_reads' HO_13.out).1.symm]; exact (Kd.R_reads' HO_13.out).2.1); rintro e w' ⟨rfl, ⟨nd, rfl⟩⟩; refine ⟨_, rfl, ?_⟩) | ((with_reducible refine gate_callee (f := 19) rfl ?_); refine goesL_ (some 101) rfl rfl Try.func19 (by kernel_rfl) rfl #[.slice A2 l2.length c2] rfl qB11 ?_; (with_reducible refine (laws_toInt64S.calls kj38 _ _ l2 t278 _ ?side1 ?side2 A60.out).mono ?_); (case side1 => repeat (first | exact (Kd.C_below HR2.out qB13) | (with_reducible refine Kd.C_alloc ?_ _) | (with_reducible refine Kd.C_drewN ?_ _) | (with_reducible refine Kd.C_drew ?_))); (case side2 => exact HC2.out); rintro e w66 ⟨v279, rfl, ho0, hb⟩; refine ⟨_, rfl, ?_⟩; have n0_ := Aside0.mk (Kd.R_elder' qB33 (Kd.R_base ho0) hb); have n1_ := Aside0.mk (Kd.R_elder' qB27 (Kd.R_base ho0) hb); have n2_ := Aside0.mk (Kd.R_lower (Kd.R_new' (Kd.R_new' ho0 (Kd.R_lt qB33)) (Kd.R_lt qB27)) (below_size qB13)); have n3_ := Aside0.mk (below_step qB13 hb); clear HO_9; clear HO_13; clear HB; have HO_9 := n0_; have HO_13 := n1_; have HO280 := n2_; have HB := n3_; clear n0_ n1_ n2_ n3_; (try clear hb); (try clear hb2); (try clear hk); (try clear hi); (try clear ho0)) | ((with_reducible refine gate_callee (f := 19) rfl ?_); refine goesL_ (some 103) rfl rfl Try.func19 (by kernel_rfl) rfl #[.slice A3 l3.length c3] rfl qB11 ?_; (with_reducible refine (laws_toInt64S.calls kj38 _ _ l3 t281 _ ?side1 ?side2 A61.out).mono ?_); (case side1 => repeat (first | exact (Kd.C_below HR3.out HB.out) | (with_reducible refine Kd.C_alloc ?_ _) | (with_reducible refine Kd.C_drewN ?_ _) | (with_reducible refine Kd.C_drew ?_))); (case side2 => exact HC3.out); rintro e w67 ⟨v282, rfl, ho0, hb⟩; refine ⟨_, rfl, ?_⟩; have n0_ := Aside0.mk (Kd.R_elder' qB33 (Kd.R_base ho0) hb); have n1_ := Aside0.mk (Kd.R_elder' qB27 (Kd.R_base ho0) hb); have n2_ := Aside0.mk (Kd.R_elder' qB29 (Kd.R_base ho0) hb); have n3_ := Aside0.mk (Kd.R_lower (Kd.R_new' (Kd.R_new' (Kd.R_new' ho0 (Kd.R_lt qB33)) (Kd.R_lt qB27)) (Kd.R_lt qB29)) (below_size qB13)); have n4_ := Aside0.mk (below_step qB13 hb); clear HO_9; clear HO_13; clear HO280; clear HB; have HO_9 := n0_; have HO_13 := n1_; have HO280 := n2_; have HO283 := n3_; have HB := n4_; clear n0_ n1_ n2_ n3_ n4_; (try clear hb); (try clear hb2); (try clear hk); (try clear hi); (try clear ho0); obtain ⟨Ao68, co68, eo68⟩ := Kd.R_slice HO280.out; subst eo68; obtain ⟨Ao69, co69, eo69⟩ := Kd.R_slice HO283.out; subst eo69) | ((with_reducible refine gate_callee (f := 20) rfl ?_); refine goesL_ (some 104) rfl rfl Try.func20 (by kernel_rfl) rfl #[.int .i64 a0, .int .i64 a1, .slice Ao68 t278.length co68, .slice Ao69 t281.length co69] rfl qB11 ?_; (with_reducible refine (impl_MultiplyPeriods.calls kj38 a0 a1 _ _ t278 _ _ t281 t284 t285 _ ?side1 ?side2 ?side3 ?side4 A62.out).mono ?_); (case side1 => repeat (first | exact (Kd.R_reads' HO280.out).2.2 | (with_reducible refine Kd.C_alloc ?_ _) | (with_reducible refine Kd.C_drewN ?_ _) | (with_reducible refine Kd.C_drew ?_))); (case side2 => exact (Kd.R_reads' HO280.out).2.1); (case side3 => repeat (first | exact (Kd.R_reads' HO283.out).2.2 | (with_reducible refine Kd.C_alloc ?_ _) | (with_reducible refine Kd.C_drewN ?_ _) | (with_reducible refine Kd.C_drew ?_))); (case side4 => exact (Kd.R_reads' HO283.out).2.1); rintro e w70 ⟨v286, rfl, ho0, hb⟩; refine ⟨_, rfl, ?_⟩; have n0_ := Aside0.mk (Kd.R_elder' qB33 (Kd.R_base ho0) hb); have n1_ := Aside0.mk (Kd.R_elder' qB27 (Kd.R_base ho0) hb); have n2_ := Aside0.mk (Kd.R_elder' qB29 (Kd.R_base ho0) hb); have n3_ := Aside0.mk (Kd.R_elder' qB30 (Kd.R_base ho0) hb); have n4_ := Aside0.mk (Kd.R_lower (Kd.R_new' (Kd.R_new' (Kd.R_new' (Kd.R_new' ho0 (Kd.R_lt qB33)) (Kd.R_lt qB27)) (Kd.R_lt qB29)) (Kd.R_lt qB30)) (below_size qB13)); have n5_ := Aside0.mk (below_step qB13 hb); clear HO_9; clear HO_13; clear HO280; clear HO283; clear HB; have HO_9 := n0_; have HO_13 := n1_; have HO280 := n2_; have HO283 := n3_; have HO287 := n4_; have HB := n5_; clear n0_ n1_ n2_ n3_ n4_ n5_; (try clear hb); (try clear hb2); (try clear hk); (try clear hi); (try clear ho0)))
                          (try simp only [Act.put, List.setIfInBounds_toArray, List.set_cons_zero, List.set_cons_succ])
                          go_cut [115] (fun v115 wc => ∃ (kq : Nat) (x115_62 : Bool), v115 = .bool x115_62 ∧ Aside0 (laws_FnExactMultiplyPeriods.j2 kq t276 t275 x115_62 = some true) ∧ Aside0 (kq ≤ kj38) ∧ Aside0 (Kd.R (Kd.int .i64) 2 wc w.heap.size (fun _ => True) (.slice Ao64 t257.length co64) t276) ∧ Aside0 (Below w.heap.size w wc))
                          case first =>
                            have H := HC63.out
                            clear HC63
                            replace H := Option.bind_eq_some_iff.mp H
                            obtain ⟨t288, A710, H⟩ := H
                            replace H : (if t288 = true then (laws_FnExactMultiplyPeriods.j2 kj38 t276 t275 (t285 != t250)) else (laws_FnExactMultiplyPeriods.j2 kj38 t276 t275 true)) = some true := H
                            have A71 := Aside0.mk A710
                            clear A710
                            by_cases c72 : t288 = true
                            · subst c72
                              have H1 : (laws_FnExactMultiplyPeriods.j2 kj38 t276 t275 (t285 != t250)) = some true := by rw [if_pos rfl] at H; exact H
                              clear H
                              have H := H1
                              clear H1
                              have H' := Aside0.mk H
                              clear H
                              obtain ⟨Ao73, co73, eo73⟩ := Kd.R_slice HO287.out
                              subst eo73
                              obtain ⟨Ao74, co74, eo74⟩ := Kd.R_slice HO_9.out
                              subst eo74
                              go_wp2_with (first | ((with_reducible refine gate_callee (f := 15) rfl ?_); refine goesL_ (some 109) rfl rfl Try.func15 (by kernel_rfl) rfl #[.slice Ao73 t284.length co73, .slice Ao74 t247.length co74] rfl qB11 ?_; (with_reducible refine (laws_eqInt64S.calls kj38 _ _ t284 _ _ t247 true _ ?side1 ?side2 ?side3 ?side4 A71.out).mono ?_); (case side1 => repeat (first | exact (Kd.R_reads' HO287.out).2.2 | (with_reducible refine Kd.C_alloc ?_ _) | (with_reducible refine Kd.C_drewN ?_ _) | (with_reducible refine Kd.C_drew ?_))); (case side2 => exact (Kd.R_reads' HO287.out).2.1); (case side3 => repeat (first | exact (Kd.R_reads' HO_9.out).2.2 | (with_reducible refine Kd.C_alloc ?_ _) | (with_reducible refine Kd.C_drewN ?_ _) | (with_reducible refine Kd.C_drew ?_))); (case side4 => exact (Kd.R_reads' HO_9.out).2.1); rintro e w' ⟨rfl, ⟨nd, rfl⟩⟩; refine ⟨_, rfl, ?_⟩))
                              go_meet
                              case rel => exact ⟨_, ((t285 != t250)), qB38, H', ⟨by have := HJ12.out; have := HJ38.out; first | omega | exact Nat.le_refl _⟩, ⟨by (with_reducible repeat (first | apply Kd.R_alloc | apply Kd.R_drewN | apply Kd.R_drew)); exact Kd.R_mono HO_13.out (fun _ hk => trivial)⟩, ⟨by repeat (first | (with_reducible first | exact HB.out | apply below_alloc | apply pw_below_drewN | apply below_drew1) | exact HB.out)⟩⟩
                            · replace c72 := Bool.eq_false_iff.mpr c72
                              subst c72
                              have H1 : (laws_FnExactMultiplyPeriods.j2 kj38 t276 t275 true) = some true := by rw [if_neg (show ¬ (false = true) by decide)] at H; exact H
                              exact (laws_FnExactMultiplyPeriods.j2_no _ _ _ H1).elim
                          case rest =>
                            clear HC63
                            try clear c1
                            try clear c2
                            try clear p2
                            try clear c3
                            try clear c4
                            try clear c5
                            try clear c5b0
                            try clear c5b1
                            try clear c6
                            try clear c6b0
                            try clear c6b1
                            try clear c7
                            try clear c15
                            try clear c16
                            try clear c17
                            try clear c18
                            try clear c19
                            try clear c20
                            try clear c25
                            try clear c30
                            try clear c33
                            try clear c36
                            try clear c46
                            try clear c46b0
                            try clear c48
                            try clear c53
                            try clear c56
                            try clear c56b0
                            try clear c59
                            try clear c59b0
                            try clear c59b1
                            try clear c72
                            try clear p2
                            obtain ⟨kq, x115_62, rfl, HA, HJ62, HO_13, HB⟩ := hcut
                            have hl13_62 := (Kd.R_reads' HO_13.out).1
                            rw [hl13_62] at HO_13
                            (try simp only [hl13_62])
                            cases kq with
                            | zero => exact absurd HA.out (by simp [laws_FnExactMultiplyPeriods.j2])
                            | succ kj62 =>
                              have H := HA.out
                              clear HA
                              simp only [laws_FnExactMultiplyPeriods.j2] at H
                              by_cases c77 : x115_62 = true
                              · subst c77
                                have H1 : (some false) = some true := by rw [if_pos rfl] at H; exact H
                                cases H1
                              · replace c77 := Bool.eq_false_iff.mpr c77
                                subst c77
                                have H1 : ((laws_heldInt64S.f kj62 t276 1).bind fun t289 => (if t289 < 0 then (some false) else (if t289 = t275 then (some true) else (some false)))) = some true := by rw [if_neg (show ¬ (false = true) by decide)] at H; exact H
                                clear H
                                have H := H1
                                clear H1
                                replace H := Option.bind_eq_some_iff.mp H
                                obtain ⟨t289, A780, H⟩ := H
                                replace H : (if t289 < 0 then (some false) else (if t289 = t275 then (some true) else (some false))) = some true := H
                                have A78 := Aside0.mk A780
                                clear A780
                                by_cases c79 : t289 < 0
                                · rw [if_pos c79] at H
                                  cases H
                                · rw [if_neg c79] at H
                                  have c79b0 : decide (t289 < 0) = false := decide_eq_false c79
                                  clear c79
                                  by_cases c80 : t289 = t275
                                  · rw [if_pos c80] at H
                                    have c80b0 : (t289 == t275) = true := beq_iff_eq.mpr c80
                                    have c80b1 : (t289 != t275) = false := bne_eq_false_iff_eq.mpr c80
                                    clear c80
                                    clear H
                                    go_wp2_with (first | ((with_reducible refine gate_callee (f := 17) rfl ?_); refine goesL_ (some 118) rfl rfl Try.func17 (by kernel_rfl) rfl #[.slice Ao64 t276.length co64, .int .i64 1] rfl qB11 ?_; (with_reducible refine (laws_heldInt64S.calls kj62 _ _ t276 1 t289 _ ?side1 ?side2 A78.out).mono ?_); (case side1 => repeat (first | exact (Kd.R_reads' HO_13.out).2.2 | (with_reducible refine Kd.C_alloc ?_ _) | (with_reducible refine Kd.C_drewN ?_ _) | (with_reducible refine Kd.C_drew ?_))); (case side2 => exact (Kd.R_reads' HO_13.out).2.1); rintro e w' ⟨rfl, ⟨nd, rfl⟩⟩; refine ⟨_, rfl, ?_⟩))
                                    go_ret
                                    exact ⟨by first | rfl | (simp [errW_none, errW_some] <;> rfl) | (simp [*, errW_none, errW_some] <;> rfl), by repeat (first | (with_reducible first | exact HB.out | apply below_alloc | apply pw_below_drewN | apply below_drew1) | exact HB.out)⟩
                                  · rw [if_neg c80] at H
                                    cases H
                        · rw [if_neg c59] at H
                          cases H
              · replace c36 := Bool.eq_false_iff.mpr c36
                subst c36
                have H1 : (some false) = some true := by rw [if_neg (show ¬ (false = true) by decide)] at H; exact H
                cases H1
            · replace c33 := Bool.eq_false_iff.mpr c33
              subst c33
              have H1 : (some false) = some true := by rw [if_neg (show ¬ (false = true) by decide)] at H; exact H
              cases H1

/-- THE ONE PURE STATEMENT of laws_FnExactMultiplyPeriods: yours. -/
def laws_FnExactMultiplyPeriods.Pure : Prop := ∀ (a0 : Int) (a1 : Int) (l2 : List Int) (l3 : List Int), (Lit.int .i64 a0).wf = true → (Lit.int .i64 a1).wf = true → l2.length ≤ maxLen → l2.length * 8 ≤ 140737488351232 → (∀ x ∈ l2, (Lit.int .i64 x).wf = true) → l3.length ≤ maxLen → l3.length * 8 ≤ 140737488351232 → (∀ x ∈ l3, (Lit.int .i64 x).wf = true) → ∃ k, laws_FnExactMultiplyPeriods.f k a0 a1 l2 l3 = some true
theorem laws_FnExactMultiplyPeriods.walk (P : laws_FnExactMultiplyPeriods.Pure) (a0 : Int) (a1 : Int) (a2 : Option Addr) (len2 cap2 : Nat) (z2 : List Int) (a3 : Option Addr) (len3 cap3 : Nat) (z3 : List Int) (w : World) (w0 : (Lit.int .i64 a0).wf = true) (w1 : (Lit.int .i64 a1).wf = true) (w2 : (a2 = none ∧ len2 = 0 ∧ cap2 = 0 ∧ z2 = []) ∨ ∃ x, a2 = some x ∧ len2 ≤ cap2 ∧ cap2 ≤ maxLen ∧ z2.length = cap2 ∧ (∀ i, i < z2.length → w.cell? (x.add i) = some (.int .i64 (z2.getD i 0))) ∧ ∀ n ∈ z2, (Lit.int .i64 n).wf = true) (y2 : len2 * 8 ≤ 140737488351232) (w3 : (a3 = none ∧ len3 = 0 ∧ cap3 = 0 ∧ z3 = []) ∨ ∃ x, a3 = some x ∧ len3 ≤ cap3 ∧ cap3 ≤ maxLen ∧ z3.length = cap3 ∧ (∀ i, i < z3.length → w.cell? (x.add i) = some (.int .i64 (z3.getD i 0))) ∧ ∀ n ∈ z3, (Lit.int .i64 n).wf = true) (y3 : len3 * 8 ≤ 140737488351232) :
    Calls Try.prog 5 #[.int .i64 a0, .int .i64 a1, .slice a2 len2 cap2, .slice a3 len3 cap3] w fun e w' => e = .returned (.bool true) ∧ Below w.heap.size w w' := by
  obtain ⟨l2, rfl, hr2, hm2, hw2, hc2⟩ := ReadsInt.ofRowC w2
  obtain ⟨l3, rfl, hr3, hm3, hw3, hc3⟩ := ReadsInt.ofRowC w3
  obtain ⟨k, h⟩ := P a0 a1 l2 l3 w0 w1 hm2 y2 hw2 hm3 y3 hw3
  refine (laws_FnExactMultiplyPeriods.calls k a0 a1 _ _ l2 _ _ l3 w (Kd.C_of_reads (d := (0 : Int)) (h1 := fun _ => rfl) hr2) hc2 (Kd.C_of_reads (d := (0 : Int)) (h1 := fun _ => rfl) hr3) hc3 h).mono ?_
  rintro e w' ⟨rfl, hd⟩
  exact ⟨rfl, hd⟩

end Go.Proofs.Ytghlmdjedpnglaa.PFnExactMultiplyPeriods
