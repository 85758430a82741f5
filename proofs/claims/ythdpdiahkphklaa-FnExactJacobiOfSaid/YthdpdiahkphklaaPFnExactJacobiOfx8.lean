/- The functions that the law reaches, as plain functions, each with the proof that the program comes to it; no condition. Written by a program of this session (wip/mp.py) over the printing of the kit; what is marked HAND is told by hand. -/
import Derived.Test.YthdpdiahkphklaaPFnExactJacobiOfx0
import Derived.Test.YthdpdiahkphklaaPFnExactJacobiOfx2
import Derived.Test.YthdpdiahkphklaaPFnExactJacobiOfx7
namespace Go.Proofs.Ythdpdiahkphklaa.PFnExactJacobiOf
open Go.RowKit Go.Proofs.YthdpdiahkphklaaW.PrintWords Go.Proofs.YthdpdiahkphklaaW.PrintLast Go.Proofs.YthdpdiahkphklaaW.PrintMore
attribute [local go_sem] max2_int min2_int max_two min_two max_three min_three max_four min_four   -- for this text's walks alone
set_option linter.unusedVariables false
set_option linter.unusedSimpArgs false

/-! ### spec_JacobiOf: function 34 -/
def spec_JacobiOf.f (k : Nat) (l0 : List (S37)) : Option (Int × List Int × Int) := (spec_l04Code.f k l0).bind fun t228 => (if t228 = 0 then ((spec_l04Sum.f k l0 1).bind fun bt229 => (some (bt229.1, bt229.2, 0))) else (some (0, ([] : List Int), t228)))
theorem spec_JacobiOf.mono : ∀ a0 k, LeO (spec_JacobiOf.f k a0) (spec_JacobiOf.f (k + 1) a0) := by
 intro a0 k
 unfold spec_JacobiOf.f
 repeat' first
   | (with_reducible exact spec_l04Code.mono _ _)
   | (with_reducible exact spec_l04Sum.mono _ _ _)
   | (with_reducible exact LeO.refl _)
   | (with_reducible exact LeO.none _)
   | (with_reducible refine LeO.ite ?_ ?_)
   | (with_reducible refine LeO.bind ?_ (fun _ => ?_))
   | exact spec_l04Code.mono _ _
   | exact spec_l04Sum.mono _ _ _
   | exact LeO.none _
   | refine LeO.ite ?_ ?_
   | refine LeO.bind ?_ (fun _ => ?_)
set_option maxHeartbeats 8000000 in
set_option maxRecDepth 100000 in
theorem spec_JacobiOf.calls (k : Nat) (A0 : Option Addr) (c0 : Nat) (l0 : List (S37)) (r1 : Int) (r2 : List Int) (r3 : Int) (w : World) (hr0 : Kd.C k37 w A0 l0.length l0) (hc0 : l0.length ≤ c0) (h : spec_JacobiOf.f k l0 = some (r1, r2, r3)) :
  Calls Try.prog 34 #[.slice A0 l0.length c0] w fun e w' => ∃ v1_ : Value, e = .returned (.tuple #[.agg #[.int .i64 r1, v1_], .int .i64 r3]) ∧ Kd.R (Kd.int .i64) 2 w' w.heap.size (fun _ => True) v1_ r2 ∧ Below w.heap.size w w' := by
 have hu34 := Try.underlying34
 have HR0 := Aside0.mk hr0
 have HC0 := Aside0.mk hc0
 clear hr0 hc0
 have HB := Aside0.mk (Below.refl w.heap.size w)
 have H : ((spec_l04Code.f k l0).bind fun t228 => (if t228 = 0 then ((spec_l04Sum.f k l0 1).bind fun bt229 => (some (bt229.1, bt229.2, 0))) else (some (0, ([] : List Int), t228)))) = some (r1, r2, r3) := h
 clear h
 replace H := Option.bind_eq_some_iff.mp H
 obtain ⟨t228, A20, H⟩ := H
 replace H : (if t228 = 0 then ((spec_l04Sum.f k l0 1).bind fun bt229 => (some (bt229.1, bt229.2, 0))) else (some (0, ([] : List Int), t228))) = some (r1, r2, r3) := H
 have A2 := Aside0.mk A20
 clear A20
 by_cases c3 : t228 = 0
 ·rw [if_pos c3] at H
  have c3b0 : (t228 == 0) = true := beq_iff_eq.mpr c3
  have c3b1 : (t228 != 0) = false := bne_eq_false_iff_eq.mpr c3
  clear c3
  replace H := Option.bind_eq_some_iff.mp H
  obtain ⟨⟨t229, t230⟩, A40, H⟩ := H
  replace H : (some (t229, t230, 0)) = some (r1, r2, r3) := H
  have A4 := Aside0.mk A40
  clear A40
  simp only [Option.some.injEq, Prod.mk.injEq] at H
  obtain ⟨rfl, rfl, rfl⟩ := H
  go_enter Try.func34, Try.ntmps34
  go_wp2_with (first | ((with_reducible refine gate_dst (N := 2) rfl ?_); refine box_event ?hg (N := 2) ?hd (cs := #[.int .i64 0, .slice none 0 0]) (t := 34) ?hr ?_; (case hd => rfl); (case hg => rfl); (case hr => first | (go_simp; done) | (go_simp; rfl)); intro gb227 hg w5 hbox hb; have n0_ := Aside0.mk (below_step qB44 hb); have n1_ := Aside0.mk (hbox); have n2_ := Aside0.mk ((by rw [hg]; exact (below_size qB44) : w.heap.size ≤ gb227)); have n3_ := Aside0.mk ((by rw [hg]; exact (below_size qB44) : w.heap.size ≤ gb227)); clear HB; have HB := n0_; have BK227 := n1_; have GW227 := n2_; have GE227 := n3_; clear n0_ n1_ n2_ n3_; clear hb hbox hg) | ((with_reducible refine gate_callee (f := 63) rfl ?_); refine goesL_ (some 6) rfl rfl Try.func63 (by kernel_rfl) rfl #[.slice A0 l0.length c0] rfl qB43 ?_; (with_reducible refine (spec_l04Code.calls k _ _ l0 t228 _ ?side1 ?side2 A2.out).mono ?_); (case side1 => repeat (first | exact (Kd.C_below HR0.out HB.out) | (with_reducible refine Kd.C_alloc ?_ _) | (with_reducible refine Kd.C_drewN ?_ _) | (with_reducible refine Kd.C_drew ?_))); (case side2 => exact HC0.out); rintro e w6 ⟨rfl, hb⟩; refine ⟨_, rfl, ?_⟩; have n0_ := Aside0.mk (blk_below (g := gb227) (o := .cells #[.int .i64 0, .slice none 0 0] 34 (0, 0)) qB56 hb); have n1_ := Aside0.mk (below_step qB28 hb); clear BK227; clear HB; have BK227 := n0_; have HB := n1_; clear n0_ n1_; (try clear hb); (try clear hb2); (try clear hk); (try clear hi)) | ((with_reducible refine gate_callee (f := 64) rfl ?_); refine goesL_ (some 12) rfl rfl Try.func64 (by kernel_rfl) rfl #[.slice A0 l0.length c0, .int .i64 1] rfl qB43 ?_; (with_reducible refine (spec_l04Sum.calls k _ _ l0 1 t229 t230 _ ?side1 ?side2 A4.out).mono ?_); (case side1 => repeat (first | exact (Kd.C_below HR0.out HB.out) | (with_reducible refine Kd.C_alloc ?_ _) | (with_reducible refine Kd.C_drewN ?_ _) | (with_reducible refine Kd.C_drew ?_))); (case side2 => exact HC0.out); rintro e w7 ⟨v231, rfl, ho0, hb⟩; refine ⟨_, rfl, ?_⟩; have n0_ := Aside0.mk (Kd.R_lower ho0 (below_size qB28)); have n1_ := Aside0.mk (blk_below (g := gb227) (o := .cells #[.int .i64 0, .slice none 0 0] 34 (0, 0)) qB56 hb); have n2_ := Aside0.mk (below_step qB28 hb); clear BK227; clear HB; have HO232 := n0_; have BK227 := n1_; have HB := n2_; clear n0_ n1_ n2_; (try clear hb); (try clear hb2); (try clear hk); (try clear hi); (try clear ho0); have hcz8_0 : w7.cell? ⟨gb227, 0, none⟩ = some (.int .i64 0) := (blk_cell BK227.out 0).trans rfl; have hcz8_1 : w7.cell? ⟨gb227, 1, none⟩ = some (.slice none 0 0) := (blk_cell BK227.out 1).trans rfl; have hfz8_0 := blk_frozen BK227.out 0; have hfz8_1 := blk_frozen BK227.out 1; obtain ⟨Ao9, co9, eo9⟩ := Kd.R_slice HO232.out; subst eo9))
  refine bodyPost_ret (results_ct rfl _ _ gb227 34 #[.int .i64 t229, .slice Ao9 t230.length co9] (0, 0) _ rfl (by (with_reducible repeat (first | refine blk_drewN ?_ _ | refine blk_drew ?_ | refine blk_alloc ?_ _)); refine blk_put (cs := #[.int .i64 t229, .slice none 0 0]) ?_ 1 _ rfl; (with_reducible repeat (first | refine blk_drewN ?_ _ | refine blk_drew ?_ | refine blk_alloc ?_ _)); refine blk_put (cs := #[.int .i64 0, .slice none 0 0]) ?_ 0 _ rfl; (with_reducible repeat (first | refine blk_drewN ?_ _ | refine blk_drew ?_ | refine blk_alloc ?_ _)); exact BK227.out) Try.underlying34 rfl (by kernel_rfl)) rfl ?_
  exact ⟨_, by first | rfl | (simp [errW_none, errW_some] <;> rfl) | (simp [*, errW_none, errW_some] <;> rfl), by (with_reducible repeat (first | apply Kd.R_alloc | apply Kd.R_drewN | apply Kd.R_drew)); exact Kd.R_mono (Kd.R_far (p := ⟨gb227, 1, none⟩) (Kd.R_far (p := ⟨gb227, 0, none⟩) (Kd.R_types HO232.out BK227.out (by decide)) (fun _ hk => hk.2) (.int .i64 t229)) (fun _ hk => hk.2) (.slice Ao9 t230.length co9)) (fun _ hk => trivial), by repeat (first | (with_reducible first | exact HB.out | apply below_alloc | apply pw_below_drewN | apply below_drew1 | refine below_set ?_ GE227.out) | exact HB.out)⟩
 ·rw [if_neg c3] at H
  have c3b0 : (t228 == 0) = false := beq_eq_false_iff_ne.mpr c3
  have c3b1 : (t228 != 0) = true := bne_iff_ne.mpr c3
  simp only [Option.some.injEq, Prod.mk.injEq] at H
  obtain ⟨rfl, rfl, rfl⟩ := H
  go_enter Try.func34, Try.ntmps34
  go_wp2_with (first | ((with_reducible refine gate_dst (N := 2) rfl ?_); refine box_event ?hg (N := 2) ?hd (cs := #[.int .i64 0, .slice none 0 0]) (t := 34) ?hr ?_; (case hd => rfl); (case hg => rfl); (case hr => first | (go_simp; done) | (go_simp; rfl)); intro gb227 hg w10 hbox hb; have n0_ := Aside0.mk (below_step qB44 hb); have n1_ := Aside0.mk (hbox); have n2_ := Aside0.mk ((by rw [hg]; exact (below_size qB44) : w.heap.size ≤ gb227)); have n3_ := Aside0.mk ((by rw [hg]; exact (below_size qB44) : w.heap.size ≤ gb227)); clear HB; have HB := n0_; have BK227 := n1_; have GW227 := n2_; have GE227 := n3_; clear n0_ n1_ n2_ n3_; clear hb hbox hg) | ((with_reducible refine gate_callee (f := 63) rfl ?_); refine goesL_ (some 6) rfl rfl Try.func63 (by kernel_rfl) rfl #[.slice A0 l0.length c0] rfl qB43 ?_; (with_reducible refine (spec_l04Code.calls k _ _ l0 t228 _ ?side1 ?side2 A2.out).mono ?_); (case side1 => repeat (first | exact (Kd.C_below HR0.out HB.out) | (with_reducible refine Kd.C_alloc ?_ _) | (with_reducible refine Kd.C_drewN ?_ _) | (with_reducible refine Kd.C_drew ?_))); (case side2 => exact HC0.out); rintro e w11 ⟨rfl, hb⟩; refine ⟨_, rfl, ?_⟩; have n0_ := Aside0.mk (blk_below (g := gb227) (o := .cells #[.int .i64 0, .slice none 0 0] 34 (0, 0)) qB56 hb); have n1_ := Aside0.mk (below_step qB28 hb); clear BK227; clear HB; have BK227 := n0_; have HB := n1_; clear n0_ n1_; (try clear hb); (try clear hb2); (try clear hk); (try clear hi); have hcz12_0 : w11.cell? ⟨gb227, 0, none⟩ = some (.int .i64 0) := (blk_cell BK227.out 0).trans rfl; have hcz12_1 : w11.cell? ⟨gb227, 1, none⟩ = some (.slice none 0 0) := (blk_cell BK227.out 1).trans rfl; have hfz12_0 := blk_frozen BK227.out 0; have hfz12_1 := blk_frozen BK227.out 1))
  refine bodyPost_ret (results_ct rfl _ _ gb227 34 #[.int .i64 0, .slice none 0 0] (0, 0) _ rfl (by (with_reducible repeat (first | refine blk_drewN ?_ _ | refine blk_drew ?_ | refine blk_alloc ?_ _)); refine blk_put (cs := #[.int .i64 0, .slice none 0 0]) ?_ 1 _ rfl; (with_reducible repeat (first | refine blk_drewN ?_ _ | refine blk_drew ?_ | refine blk_alloc ?_ _)); refine blk_put (cs := #[.int .i64 0, .slice none 0 0]) ?_ 0 _ rfl; (with_reducible repeat (first | refine blk_drewN ?_ _ | refine blk_drew ?_ | refine blk_alloc ?_ _)); exact BK227.out) Try.underlying34 rfl (by kernel_rfl)) rfl ?_
  exact ⟨_, by first | rfl | (simp [errW_none, errW_some] <;> rfl) | (simp [*, errW_none, errW_some] <;> rfl), by first | exact Kd.R_nil _ _ _ _ _ | exact Kd.N_nil _ _ _ _ _ | exact Kd.V_nil _ _ _ _ _ | exact Kd.Q_nil _ _ _ _ _ | exact Kd.S_nil _ _ _ _ _, by repeat (first | (with_reducible first | exact HB.out | apply below_alloc | apply pw_below_drewN | apply below_drew1 | refine below_set ?_ GE227.out) | exact HB.out)⟩

/-! ### laws_toCharacter: function 18 -/
def laws_toCharacter.f (a0_0 : Int) (a0_1 : Int) (a0_2 : Int) : Option (Int × Int × Int) := some (a0_0, a0_1, a0_2)
set_option maxHeartbeats 8000000 in
set_option maxRecDepth 100000 in
theorem laws_toCharacter.calls (a0_0 : Int) (a0_1 : Int) (a0_2 : Int) (r1 : Int) (r2 : Int) (r3 : Int) (w : World) (h : laws_toCharacter.f a0_0 a0_1 a0_2 = some (r1, r2, r3)) :
  Calls Try.prog 18 #[.agg #[.int .i64 a0_0, .int .i64 a0_1, .int .i64 a0_2]] w fun e w' => e = .returned (.agg #[.int .i64 r1, .int .i64 r2, .int .i64 r3]) ∧ Below w.heap.size w w' := by
 have hu32 := Try.underlying32
 have hu37 := Try.underlying37
 have HB := Aside0.mk (Below.refl w.heap.size w)
 have H : (some (a0_0, a0_1, a0_2)) = some (r1, r2, r3) := h
 clear h
 simp only [Option.some.injEq, Prod.mk.injEq] at H
 obtain ⟨rfl, rfl, rfl⟩ := H
 go_enter Try.func18, Try.ntmps18
 go_wp2_with (first | ((with_reducible refine gate_dst (N := 1) rfl ?_); refine box_event ?hg (N := 1) ?hd (cs := #[.int .i64 a0_0, .int .i64 a0_1, .int .i64 a0_2]) (t := 32) ?hr ?_; (case hd => rfl); (case hg => rfl); (case hr => first | (go_simp; done) | (go_simp; rfl)); intro gb233 hg w2 hbox hb; have n0_ := Aside0.mk (below_step qB44 hb); have n1_ := Aside0.mk (hbox); have n2_ := Aside0.mk ((by rw [hg]; exact (below_size qB44) : w.heap.size ≤ gb233)); have n3_ := Aside0.mk ((by rw [hg]; exact (below_size qB44) : w.heap.size ≤ gb233)); clear HB; have HB := n0_; have BK233 := n1_; have GW233 := n2_; have GE233 := n3_; clear n0_ n1_ n2_ n3_; clear hb hbox hg) | ((with_reducible refine gate_dst (N := 2) rfl ?_); refine box_event ?hg (N := 2) ?hd (cs := #[.int .i64 0, .int .i64 0, .int .i64 0]) (t := 37) ?hr ?_; (case hd => rfl); (case hg => rfl); (case hr => first | (go_simp; done) | (go_simp; rfl)); intro gb234 hg w3 hbox hb; have n0_ := Aside0.mk (blk_below (g := gb233) (o := .cells #[.int .i64 a0_0, .int .i64 a0_1, .int .i64 a0_2] 32 (0, 0)) qB57 hb); have n1_ := Aside0.mk (below_step qB29 hb); have n2_ := Aside0.mk (hbox); have n3_ := Aside0.mk ((by rw [hg]; exact (below_size qB29) : w.heap.size ≤ gb234)); have n4_ := Aside0.mk ((by rw [hg]; exact (below_size qB29) : w.heap.size ≤ gb234)); have n5_ := Aside0.mk ((by rw [hg]; exact Nat.ne_of_lt (blk_lt (g := gb233) (o := .cells #[.int .i64 a0_0, .int .i64 a0_1, .int .i64 a0_2] 32 (0, 0)) qB57) : gb233 ≠ gb234)); have n6_ := Aside0.mk ((by rw [hg]; exact Nat.ne_of_gt (blk_lt (g := gb233) (o := .cells #[.int .i64 a0_0, .int .i64 a0_1, .int .i64 a0_2] 32 (0, 0)) qB57) : gb234 ≠ gb233)); clear BK233; clear HB; have BK233 := n0_; have HB := n1_; have BK234 := n2_; have GW234 := n3_; have GE234 := n4_; have NB233_234 := n5_; have NB234_233 := n6_; clear n0_ n1_ n2_ n3_ n4_ n5_ n6_; clear hb hbox hg) | ((with_reducible refine gate_dst (N := 3) rfl ?_); refine box_event ?hg (N := 3) ?hd (cs := #[.int .i64 0, .int .i64 0, .int .i64 0]) (t := 37) ?hr ?_; (case hd => rfl); (case hg => rfl); (case hr => first | (go_simp; done) | (go_simp; rfl)); intro gb235 hg w4 hbox hb; have n0_ := Aside0.mk (blk_below (g := gb233) (o := .cells #[.int .i64 a0_0, .int .i64 a0_1, .int .i64 a0_2] 32 (0, 0)) qB57 hb); have n1_ := Aside0.mk (blk_below (g := gb234) (o := .cells #[.int .i64 0, .int .i64 0, .int .i64 0] 37 (0, 0)) qB58 hb); have n2_ := Aside0.mk (below_step qB19 hb); have n3_ := Aside0.mk (hbox); have n4_ := Aside0.mk ((by rw [hg]; exact (below_size qB19) : w.heap.size ≤ gb235)); have n5_ := Aside0.mk ((by rw [hg]; exact (below_size qB19) : w.heap.size ≤ gb235)); have n6_ := Aside0.mk ((by rw [hg]; exact Nat.ne_of_lt (blk_lt (g := gb233) (o := .cells #[.int .i64 a0_0, .int .i64 a0_1, .int .i64 a0_2] 32 (0, 0)) qB57) : gb233 ≠ gb235)); have n7_ := Aside0.mk ((by rw [hg]; exact Nat.ne_of_gt (blk_lt (g := gb233) (o := .cells #[.int .i64 a0_0, .int .i64 a0_1, .int .i64 a0_2] 32 (0, 0)) qB57) : gb235 ≠ gb233)); have n8_ := Aside0.mk ((by rw [hg]; exact Nat.ne_of_lt (blk_lt (g := gb234) (o := .cells #[.int .i64 0, .int .i64 0, .int .i64 0] 37 (0, 0)) qB58) : gb234 ≠ gb235)); have n9_ := Aside0.mk ((by rw [hg]; exact Nat.ne_of_gt (blk_lt (g := gb234) (o := .cells #[.int .i64 0, .int .i64 0, .int .i64 0] 37 (0, 0)) qB58) : gb235 ≠ gb234)); clear BK233; clear BK234; clear HB; have BK233 := n0_; have BK234 := n1_; have HB := n2_; have BK235 := n3_; have GW235 := n4_; have GE235 := n5_; have NB233_235 := n6_; have NB235_233 := n7_; have NB234_235 := n8_; have NB235_234 := n9_; clear n0_ n1_ n2_ n3_ n4_ n5_ n6_ n7_ n8_ n9_; clear hb hbox hg; have hnb5 := NB233_234.out; have hnc5 := NB234_233.out; have hnb6 := NB233_235.out; have hnc6 := NB235_233.out; have hcz7_0 : w4.cell? ⟨gb233, 0, none⟩ = some (.int .i64 a0_0) := (blk_cell BK233.out 0).trans rfl; have hcz7_1 : w4.cell? ⟨gb233, 1, none⟩ = some (.int .i64 a0_1) := (blk_cell BK233.out 1).trans rfl; have hcz7_2 : w4.cell? ⟨gb233, 2, none⟩ = some (.int .i64 a0_2) := (blk_cell BK233.out 2).trans rfl; have hfz7_0 := blk_frozen BK233.out 0; have hfz7_1 := blk_frozen BK233.out 1; have hfz7_2 := blk_frozen BK233.out 2; have hnb8 := NB235_234.out; have hnc8 := NB234_235.out; have hcz9_0 : w4.cell? ⟨gb235, 0, none⟩ = some (.int .i64 0) := (blk_cell BK235.out 0).trans rfl; have hcz9_1 : w4.cell? ⟨gb235, 1, none⟩ = some (.int .i64 0) := (blk_cell BK235.out 1).trans rfl; have hcz9_2 : w4.cell? ⟨gb235, 2, none⟩ = some (.int .i64 0) := (blk_cell BK235.out 2).trans rfl; have hfz9_0 := blk_frozen BK235.out 0; have hfz9_1 := blk_frozen BK235.out 1; have hfz9_2 := blk_frozen BK235.out 2; have hcz10_0 : w4.cell? ⟨gb234, 0, none⟩ = some (.int .i64 0) := (blk_cell BK234.out 0).trans rfl; have hcz10_1 : w4.cell? ⟨gb234, 1, none⟩ = some (.int .i64 0) := (blk_cell BK234.out 1).trans rfl; have hcz10_2 : w4.cell? ⟨gb234, 2, none⟩ = some (.int .i64 0) := (blk_cell BK234.out 2).trans rfl; have hfz10_0 := blk_frozen BK234.out 0; have hfz10_1 := blk_frozen BK234.out 1; have hfz10_2 := blk_frozen BK234.out 2))
 refine bodyPost_ret (results_cell_row rfl _ _ gb234 37 #[.int .i64 a0_0, .int .i64 a0_1, .int .i64 a0_2] (0, 0) _ rfl (by (with_reducible repeat (first | refine blk_drewN ?_ _ | refine blk_drew ?_ | refine blk_alloc ?_ _)); refine blk_put (cs := #[.int .i64 a0_0, .int .i64 a0_1, .int .i64 0]) ?_ 2 _ rfl; (with_reducible repeat (first | refine blk_drewN ?_ _ | refine blk_drew ?_ | refine blk_alloc ?_ _)); refine blk_put (cs := #[.int .i64 a0_0, .int .i64 0, .int .i64 0]) ?_ 1 _ rfl; (with_reducible repeat (first | refine blk_drewN ?_ _ | refine blk_drew ?_ | refine blk_alloc ?_ _)); refine blk_put (cs := #[.int .i64 0, .int .i64 0, .int .i64 0]) ?_ 0 _ rfl; (with_reducible repeat (first | refine blk_drewN ?_ _ | refine blk_drew ?_ | refine blk_alloc ?_ _)); refine blk_far ?_ NB234_235.out _; (with_reducible repeat (first | refine blk_drewN ?_ _ | refine blk_drew ?_ | refine blk_alloc ?_ _)); refine blk_far ?_ NB234_235.out _; (with_reducible repeat (first | refine blk_drewN ?_ _ | refine blk_drew ?_ | refine blk_alloc ?_ _)); refine blk_far ?_ NB234_235.out _; (with_reducible repeat (first | refine blk_drewN ?_ _ | refine blk_drew ?_ | refine blk_alloc ?_ _)); exact BK234.out) Try.underlying37 rfl (by kernel_rfl)) rfl ?_
 exact ⟨by first | rfl | (simp [errW_none, errW_some] <;> rfl) | (simp [*, errW_none, errW_some] <;> rfl), by repeat (first | (with_reducible first | exact HB.out | apply below_alloc | apply pw_below_drewN | apply below_drew1 | refine below_set ?_ GE233.out | refine below_set ?_ GE234.out | refine below_set ?_ GE235.out) | exact HB.out)⟩

/-! ### laws_toCharacterS: function 35 -/
def laws_toCharacterS.l0 : Nat → List (S32) → List (S37) → Int → Option ((List (S37)))
 | 0, _, _, _ => none
 | k + 1, x0, x3, x4 => if x4 < (x0.length : Int) then (if 0 ≤ x4 then ((laws_toCharacter.f ((rd_T32 x0 x4).f0) ((rd_T32 x0 x4).f1) ((rd_T32 x0 x4).f2)).bind fun bt240 => (if x4 < (x3.length : Int) then (laws_toCharacterS.l0 k x0 (x3.set (x4 : Int).toNat (⟨bt240.1, bt240.2.1, bt240.2.2⟩ : S37)) (wrap64 (x4 + 1))) else (none))) else (none)) else (some x3)
def laws_toCharacterS.f (k : Nat) (l0 : List (S32)) : Option ((List (S37))) := if 0 ≤ (l0.length : Int) then (if ((l0.length : Int) : Int).toNat ≤ 11728124029610 then (laws_toCharacterS.l0 k l0 (List.replicate ((l0.length : Int) : Int).toNat z37) 0) else (none)) else (none)
theorem laws_toCharacterS.mono_l : ∀ k, (∀ y0 y1 y2, LeO (laws_toCharacterS.l0 k y0 y1 y2) (laws_toCharacterS.l0 (k + 1) y0 y1 y2))
 | 0 => fun _ _ _ r h => by simp [laws_toCharacterS.l0] at h
 | k + 1 => by
  have ih0 := laws_toCharacterS.mono_l k
  ·intro y0 y1 y2
   unfold laws_toCharacterS.l0
   repeat' first
   | (with_reducible exact ih0 _ _ _)
   | (with_reducible exact LeO.refl _)
   | (with_reducible exact LeO.none _)
   | (with_reducible refine LeO.ite ?_ ?_)
   | (with_reducible refine LeO.bind ?_ (fun _ => ?_))
   | exact ih0 _ _ _
   | exact LeO.none _
   | refine LeO.ite ?_ ?_
   | refine LeO.bind ?_ (fun _ => ?_)
theorem laws_toCharacterS.mono : ∀ a0 k, LeO (laws_toCharacterS.f k a0) (laws_toCharacterS.f (k + 1) a0) := by
 intro a0 k
 have ih0 := laws_toCharacterS.mono_l k
 unfold laws_toCharacterS.f
 repeat' first
   | (with_reducible exact ih0 _ _ _)
   | (with_reducible exact LeO.refl _)
   | (with_reducible exact LeO.none _)
   | (with_reducible refine LeO.ite ?_ ?_)
   | (with_reducible refine LeO.bind ?_ (fun _ => ?_))
   | exact ih0 _ _ _
   | exact LeO.none _
   | refine LeO.ite ?_ ?_
   | refine LeO.bind ?_ (fun _ => ?_)
set_option maxHeartbeats 8000000 in
set_option maxRecDepth 100000 in
theorem laws_toCharacterS.calls (k : Nat) (A0 : Option Addr) (c0 : Nat) (l0 : List (S32)) (r : List (S37)) (w : World) (hr0 : Kd.C k32 w A0 l0.length l0) (hc0 : l0.length ≤ c0) (h : laws_toCharacterS.f k l0 = some r) :
  Calls Try.prog 35 #[.slice A0 l0.length c0] w fun e w' => ∃ v0_ : Value, e = .returned (v0_) ∧ Kd.R k37 37 w' w.heap.size (fun _ => True) v0_ r ∧ Below w.heap.size w w' := by
 have hu32 := Try.underlying32
 have hu37 := Try.underlying37
 have HR0 := Aside0.mk hr0
 have HC0 := Aside0.mk hc0
 clear hr0 hc0
 have HB := Aside0.mk (Below.refl w.heap.size w)
 have H : (if 0 ≤ (l0.length : Int) then (if ((l0.length : Int) : Int).toNat ≤ 11728124029610 then (laws_toCharacterS.l0 k l0 (List.replicate ((l0.length : Int) : Int).toNat z37) 0) else (none)) else (none)) = some r := h
 clear h
 by_cases c2 : 0 ≤ (l0.length : Int)
 ·rw [if_pos c2] at H
  have c2b0 := eq_true c2
  have c2b1 : decide (0 ≤ (l0.length : Int)) = true := decide_eq_true c2
  clear c2
  by_cases c3 : ((l0.length : Int) : Int).toNat ≤ 11728124029610
  ·rw [if_pos c3] at H
   have c3b0 := eq_true c3
   have c3b1 : decide (((l0.length : Int) : Int).toNat ≤ 11728124029610) = true := decide_eq_true c3
   clear c3
   obtain ⟨y236, hy236⟩ : ∃ y_ : List (S37), y_ = (List.replicate ((l0.length : Int) : Int).toNat z37) := ⟨_, rfl⟩
   replace H : (laws_toCharacterS.l0 k l0 y236 0) = some r := by first | (rw [hy236]; with_reducible exact H) | (have H2_ := (Option.bind_some _ _).symm.trans H; rw [hy236]; with_reducible exact H2_) | (have H2_ := (Option.bind_some _ _).symm.trans H; with_reducible exact H2_) | with_reducible exact H | (rw [hy236]; exact H) | exact H
   have Ny236 := Aside0.mk hy236
   clear hy236
   have H' := Aside0.mk H
   clear H
   go_enter Try.func35, Try.ntmps35
   go_wp2_with (first | ((with_reducible refine gate_dst (N := 7) rfl ?_); refine Kd.R_make k37 _ 37 rfl (N := 7) rfl 56 _ _ rfl (l0.length : Int) rfl rfl Try.underlying56 (.agg #[(.int .i64 0), (.int .i64 0), (.int .i64 0)]) 24 info37 rfl (by decide) (by omega) z37 (ok := fun _ => True) (okp := fun _ => True) (k37_mkM _ _ _ z37 ) (fun _ hk => hk) trivial (of_decide_eq_true qB98) (Nat.le_trans (Nat.mul_le_mul_right _ (of_decide_eq_true qB98 : (l0.length : Int).toNat ≤ 11728124029610)) (by omega)) (Below.refl _ _) (Nat.le_refl _) ?_; intro v237 w4 ho5 hb hg_ hnew_; clear hg_ hnew_; (first | rw [← Ny236.out] at ho5 | (simp only [Int.reduceToNat] at ho5; rw [← Ny236.out] at ho5)); have n0_ := Aside0.mk (Kd.R_lower ho5 (below_size qB44)); have n1_ := Aside0.mk (below_step qB44 hb); clear HB; have HO238 := n0_; have HB := n1_; clear n0_ n1_; clear hb ho5))
   try simp only [Act.put, List.setIfInBounds_toArray, List.set_cons_succ, List.set_cons_zero]
   go_loopg [4] k (fun kq v4 w' => ∃ (x3_1 : List (S37)) (x4_1 : Int), v4 = .int .i64 x4_1 ∧ Aside0 (laws_toCharacterS.l0 kq l0 x3_1 x4_1 = some r) ∧ Aside0 (kq ≤ k) ∧ Aside0 (Kd.R k37 37 w' w.heap.size (fun _ => True) v237 x3_1) ∧ Aside0 (Below w.heap.size w w'))
   case atStart => exact ⟨(y236), (0), qB99, H', ⟨Nat.le_refl _⟩, ⟨by (with_reducible repeat (first | apply Kd.R_alloc | apply Kd.R_drewN | apply Kd.R_drew)); exact HO238.out⟩, ⟨by repeat (first | (with_reducible first | exact HB.out | apply below_alloc | apply pw_below_drewN | apply below_drew1) | exact HB.out)⟩⟩
   case round =>
    clear H'
    try clear c2
    try clear c2b0
    try clear c2b1
    try clear p2
    try clear c3
    try clear c3b0
    try clear c3b1
    obtain ⟨x3_1, x4_1, rfl, HA, HK1, HO_3, HB⟩ := hrel
    cases gk with
    | zero => exact absurd HA.out (by simp [laws_toCharacterS.l0])
    | succ k1 =>
     have H := HA.out
     clear HA
     simp only [laws_toCharacterS.l0] at H
     by_cases c6 : x4_1 < (l0.length : Int)
     ·rw [if_pos c6] at H
      have c6b0 : decide (x4_1 < (l0.length : Int)) = true := decide_eq_true c6
      clear c6
      by_cases c7 : 0 ≤ x4_1
      ·rw [if_pos c7] at H
       have c7b0 : decide (0 ≤ x4_1) = true := decide_eq_true c7
       clear c7
       replace H := Option.bind_eq_some_iff.mp H
       obtain ⟨⟨t240, t241, t242⟩, A80, H⟩ := H
       replace H : (if x4_1 < (x3_1.length : Int) then (laws_toCharacterS.l0 k1 l0 (x3_1.set (x4_1 : Int).toNat (⟨t240, t241, t242⟩ : S37)) (wrap64 (x4_1 + 1))) else (none)) = some r := H
       have A8 := Aside0.mk A80
       clear A80
       by_cases c9 : x4_1 < (x3_1.length : Int)
       ·rw [if_pos c9] at H
        have c9b0 : decide (x4_1 < (x3_1.length : Int)) = true := decide_eq_true c9
        clear c9
        obtain ⟨y243, hy243⟩ : ∃ y_ : List (S37), y_ = (x3_1.set (x4_1 : Int).toNat (⟨t240, t241, t242⟩ : S37)) := ⟨_, rfl⟩
        replace H : (laws_toCharacterS.l0 k1 l0 y243 (wrap64 (x4_1 + 1))) = some r := by first | (rw [hy243]; with_reducible exact H) | (have H2_ := (Option.bind_some _ _).symm.trans H; rw [hy243]; with_reducible exact H2_) | (have H2_ := (Option.bind_some _ _).symm.trans H; with_reducible exact H2_) | with_reducible exact H | (rw [hy243]; exact H) | exact H
        have Ny243 := Aside0.mk hy243
        clear hy243
        have H' := Aside0.mk H
        clear H
        have p239 : 0 ≤ (x4_1 : Int) := of_decide_eq_true qB98
        have q239 : x4_1 < (l0.length : Int) := of_decide_eq_true qB98
        obtain ⟨ad239, e239, hx239_0, hx239_1, hx239_2⟩ := at_T32 HR0.out x4_1 p239 q239
        cases e239
        replace hx239_0 := (HB.out.cell (World.block_lt_of_cell? w _ hx239_0)).trans hx239_0
        replace hx239_1 := (HB.out.cell (World.block_lt_of_cell? w _ hx239_1)).trans hx239_1
        replace hx239_2 := (HB.out.cell (World.block_lt_of_cell? w _ hx239_2)).trans hx239_2
        replace p239 := eq_true p239
        replace q239 := eq_true q239
        go_wp2_with (first | ((with_reducible refine gate_callee (f := 18) rfl ?_); refine goesL_ (some 20) rfl rfl Try.func18 (by kernel_rfl) rfl #[.agg #[.int .i64 ((rd_T32 l0 x4_1).f0), .int .i64 ((rd_T32 l0 x4_1).f1), .int .i64 ((rd_T32 l0 x4_1).f2)]] rfl qB43 ?_; (with_reducible refine (laws_toCharacter.calls ((rd_T32 l0 x4_1).f0) ((rd_T32 l0 x4_1).f1) ((rd_T32 l0 x4_1).f2) t240 t241 t242 _ A8.out).mono ?_); rintro e w11 ⟨rfl, hb⟩; refine ⟨_, rfl, ?_⟩; have n0_ := Aside0.mk (Kd.R_below qB89 hb); have n1_ := Aside0.mk (below_step qB44 hb); clear HO_3; clear HB; have HO_3 := n0_; have HB := n1_; clear n0_ n1_; (try clear hb); (try clear hb2); (try clear hk); (try clear hi); have p10 : 0 ≤ (x4_1 : Int) := of_decide_eq_true qB98; have q10 : (x4_1 : Int) < ((x3_1.length : Int) : Int) := of_decide_eq_true qB98; obtain ⟨go10, co10, eo10, gb10, gl10, cl10, HG10⟩ := Kd.R_form HO_3.out (by omega); (first | cases eo10 | (injection eo10 with ea_ en_ ec_; (first | subst ea_ | (injection ea_ with ea_; subst ea_)); subst ec_; clear en_)); have GB10 := Aside0.mk gb10; have GG10 := Aside0.mk HG10; clear gb10 gl10 HG10; obtain ⟨ce10, hcl10, hM10, hcc10, hfr10⟩ := Kd.R_elem HO_3.out z37 (x4_1 : Int) p10 q10; obtain rfl := k37_openM hM10; have hx10_0 : w11.cell? ⟨go10, (x4_1 : Int).toNat * 3, none⟩ = some (.int .i64 ((rd_T37 x3_1 x4_1).f0)) := hcc10 0 _ rfl; have hx10_1 : w11.cell? ⟨go10, (x4_1 : Int).toNat * 3 + 1, none⟩ = some (.int .i64 ((rd_T37 x3_1 x4_1).f1)) := hcc10 1 _ rfl; have hx10_2 : w11.cell? ⟨go10, (x4_1 : Int).toNat * 3 + 2, none⟩ = some (.int .i64 ((rd_T37 x3_1 x4_1).f2)) := hcc10 2 _ rfl; have hf10_0 : w11.frozen? ⟨go10, (x4_1 : Int).toNat * 3, none⟩ = false := hfr10 0; have hf10_1 : w11.frozen? ⟨go10, (x4_1 : Int).toNat * 3 + 1, none⟩ = false := hfr10 1; have hf10_2 : w11.frozen? ⟨go10, (x4_1 : Int).toNat * 3 + 2, none⟩ = false := hfr10 2; clear hcl10 hcc10 hfr10; (try clear hM10); replace p10 := eq_true p10; replace q10 := eq_true q10; have HX12 := Aside0.mk (show Kd.R k37 37 w11 w.heap.size (fun _ => True) (.slice (some ⟨go10, 0, none⟩) x3_1.length co10) x3_1 from qB89); obtain ⟨ce12, hcl12, hM12, hcc12, hfr12⟩ := Kd.R_elem HX12.out z37 (x4_1 : Int) (of_decide_eq_true qB98) (by have h_ : (x4_1 : Int) < ((x3_1.length : Int) : Int) := of_decide_eq_true qB98; first | exact h_ | (have e_ := (Kd.R_reads' HO_3.out).1; omega) | simpa using h_); obtain rfl := k37_openM hM12; have HP12 := Kd.R_seg HX12.out (x4_1 : Int) (of_decide_eq_true qB98) (by have h_ : (x4_1 : Int) < ((x3_1.length : Int) : Int) := of_decide_eq_true qB98; first | exact h_ | (have e_ := (Kd.R_reads' HO_3.out).1; omega) | simpa using h_) (seg := [.int .i64 t240, .int .i64 t241, .int .i64 t242]) (j := 0) hcl12 hcc12 (show 3 ≤ 3 from by decide) (x' := (⟨t240, t241, t242⟩ : S37)) (k37_mkM _ _ _ (⟨t240, t241, t242⟩ : S37) ) (fun _ hk => hk); have hx12_0 := hcc12 0 _ rfl; (try simp only [show (k37).sz = 3 from rfl, Nat.mul_one, Nat.add_zero] at hx12_0); have hf12_0 := hfr12 0; (try simp only [show (k37).sz = 3 from rfl, Nat.mul_one, Nat.add_zero] at hf12_0); have hx12_1 := hcc12 1 _ rfl; (try simp only [show (k37).sz = 3 from rfl, Nat.mul_one, Nat.add_zero] at hx12_1); have hf12_1 := hfr12 1; (try simp only [show (k37).sz = 3 from rfl, Nat.mul_one, Nat.add_zero] at hf12_1); have hx12_2 := hcc12 2 _ rfl; (try simp only [show (k37).sz = 3 from rfl, Nat.mul_one, Nat.add_zero] at hx12_2); have hf12_2 := hfr12 2; (try simp only [show (k37).sz = 3 from rfl, Nat.mul_one, Nat.add_zero] at hf12_2); clear hcl12 hcc12 hfr12; (try clear hM12)) | ((with_reducible refine gate_store (t := 37) (p := 21) rfl ?_); refine store_event (t := 37) (p := 21) (v := ?vo_w13) (w1 := (((w11.setCell ⟨go10, (x4_1 : Int).toNat * 3, none⟩ (.int .i64 t240)).setCell ⟨go10, (x4_1 : Int).toNat * 3 + 1, none⟩ (.int .i64 t241)).setCell ⟨go10, (x4_1 : Int).toNat * 3 + 2, none⟩ (.int .i64 t242))) ?hg ?ho ?hn ?hr ?_; (case ho => rfl); (case hg => rfl); (case hn => rfl); (case hr => first | (go_simp; done) | (go_simp; rfl)); intro w13 hw; have hg : w11.grownBy w13 (some go10) := (by rw [hw]; exact HP12.2); have hp_ : Kd.R k37 37 w13 w.heap.size (fun _ => True) (.slice (some ⟨go10, 0, none⟩) x3_1.length co10) y243 := (by rw [hw, Ny243.out]; exact HP12.1); clear HP12; have n0_ := Aside0.mk (hp_); have n1_ := Aside0.mk ((by rw [hw]; exact below_set (below_set (below_set (HB.out) GB10.out) GB10.out) GB10.out : Below w.heap.size w w13)); clear HO_3; clear HB; have HO_3 := n0_; have HB := n1_; clear n0_ n1_; clear hg hw hp_))
        (first | go_roundg k1 | ((try simp only [add_plain] at *); go_roundg k1))
        case measure => have := HK1.out; omega
        case rel => exact ⟨(y243), (wrap64 (x4_1 + 1)), qB99, H', ⟨by have := HK1.out; omega⟩, ⟨by (with_reducible repeat (first | apply Kd.R_alloc | apply Kd.R_drewN | apply Kd.R_drew)); exact HO_3.out⟩, ⟨by repeat (first | (with_reducible first | exact HB.out | apply below_alloc | apply pw_below_drewN | apply below_drew1) | exact HB.out)⟩⟩
       ·rw [if_neg c9] at H
        exact absurd H (by simp)
      ·rw [if_neg c7] at H
       exact absurd H (by simp)
     ·rw [if_neg c6] at H
      have c6b0 : decide (x4_1 < (l0.length : Int)) = false := decide_eq_false c6
      clear c6
      obtain rfl := Option.some.inj H
      go_wp2
      go_ret
      exact ⟨_, by first | rfl | (simp [errW_none, errW_some] <;> rfl) | (simp [*, errW_none, errW_some] <;> rfl), by (with_reducible repeat (first | apply Kd.R_alloc | apply Kd.R_drewN | apply Kd.R_drew)); exact HO_3.out, by repeat (first | (with_reducible first | exact HB.out | apply below_alloc | apply pw_below_drewN | apply below_drew1) | exact HB.out)⟩
  ·rw [if_neg c3] at H
   exact absurd H (by simp)
 ·rw [if_neg c2] at H
  exact absurd H (by simp)

/-! ### impl_within: function 71 -/
def impl_within.f (a0 : Int) (a1 : Int) (a2 : Int) : Option (Bool) := if a1 ≤ a0 then (some (decide (a0 ≤ a2))) else (some false)
set_option maxHeartbeats 8000000 in
set_option maxRecDepth 100000 in
theorem impl_within.calls (a0 : Int) (a1 : Int) (a2 : Int) (r : Bool) (w : World) (h : impl_within.f a0 a1 a2 = some r) :
  Calls Try.prog 71 #[.int .i64 a0, .int .i64 a1, .int .i64 a2] w fun e w' => e = .returned (.bool r) ∧ Drawn0 w w' := by
 have H : (if a1 ≤ a0 then (some (decide (a0 ≤ a2))) else (some false)) = some r := h
 clear h
 by_cases c4 : a1 ≤ a0
 ·rw [if_pos c4] at H
  have c4b0 : decide (a1 ≤ a0) = true := decide_eq_true c4
  clear c4
  obtain rfl := Option.some.inj H
  go_enter Try.func71, Try.ntmps71
  go_wp2
  go_ret
  exact ⟨by first | rfl | (simp; done) | (simp [*]; done), by repeat (first | exact Drawn0.refl _ | apply Drawn0.step)⟩
 ·rw [if_neg c4] at H
  have c4b0 : decide (a1 ≤ a0) = false := decide_eq_false c4
  clear c4
  obtain rfl := Option.some.inj H
  go_enter Try.func71, Try.ntmps71
  go_wp2
  go_ret
  exact ⟨by first | rfl | (simp; done) | (simp [*]; done), by repeat (first | exact Drawn0.refl _ | apply Drawn0.step)⟩

/-! ### impl_isPrime: function 46 -/
def impl_isPrime.l0 : Nat → Int → Int → Option (Bool)
 | 0, _, _ => none
 | k + 1, x0, x3 => if (wrap64 (x3 * x3)) ≤ x0 then (if x3 = 0 then (none) else (if (Int.tmod x0 x3) = 0 then (some false) else (impl_isPrime.l0 k x0 (wrap64 (x3 + 1))))) else ((impl_within.f x0 3 61).bind fun t244 => (some t244))
def impl_isPrime.f (k : Nat) (a0 : Int) : Option (Bool) := impl_isPrime.l0 k a0 2
theorem impl_isPrime.mono_l : ∀ k, (∀ y0 y1, LeO (impl_isPrime.l0 k y0 y1) (impl_isPrime.l0 (k + 1) y0 y1))
 | 0 => fun _ _ r h => by simp [impl_isPrime.l0] at h
 | k + 1 => by
  have ih0 := impl_isPrime.mono_l k
  ·intro y0 y1
   unfold impl_isPrime.l0
   repeat' first
   | (with_reducible exact ih0 _ _)
   | (with_reducible exact LeO.refl _)
   | (with_reducible exact LeO.none _)
   | (with_reducible refine LeO.ite ?_ ?_)
   | (with_reducible refine LeO.bind ?_ (fun _ => ?_))
   | exact ih0 _ _
   | exact LeO.none _
   | refine LeO.ite ?_ ?_
   | refine LeO.bind ?_ (fun _ => ?_)
theorem impl_isPrime.mono : ∀ a0 k, LeO (impl_isPrime.f k a0) (impl_isPrime.f (k + 1) a0) := by
 intro a0 k
 have ih0 := impl_isPrime.mono_l k
 unfold impl_isPrime.f
 repeat' first
   | (with_reducible exact ih0 _ _)
   | (with_reducible exact LeO.refl _)
   | (with_reducible exact LeO.none _)
   | (with_reducible refine LeO.ite ?_ ?_)
   | (with_reducible refine LeO.bind ?_ (fun _ => ?_))
   | exact ih0 _ _
   | exact LeO.none _
   | refine LeO.ite ?_ ?_
   | refine LeO.bind ?_ (fun _ => ?_)
set_option maxHeartbeats 8000000 in
set_option maxRecDepth 100000 in
theorem impl_isPrime.calls (k : Nat) (a0 : Int) (r : Bool) (w : World) (h : impl_isPrime.f k a0 = some r) :
  Calls Try.prog 46 #[.int .i64 a0] w fun e w' => e = .returned (.bool r) ∧ Drawn0 w w' := by
 have H : (impl_isPrime.l0 k a0 2) = some r := h
 clear h
 have H' := Aside0.mk H
 clear H
 go_enter Try.func46, Try.ntmps46
 go_wp2
 try simp only [Act.put, List.setIfInBounds_toArray, List.set_cons_succ, List.set_cons_zero]
 go_loopg [3] k (fun kq v3 w' => ∃ (x3_1 : Int), v3 = .int .i64 x3_1 ∧ Aside0 (impl_isPrime.l0 kq a0 x3_1 = some r) ∧ Aside0 (kq ≤ k) ∧ Drawn0 w w')
 case atStart => exact ⟨(2), qB99, H', ⟨Nat.le_refl _⟩, by repeat (first | exact Drawn0.refl _ | apply Drawn0.step)⟩
 case round =>
  clear H'
  obtain ⟨x3_1, rfl, HA, HK1, ⟨m1, rfl⟩⟩ := hrel
  cases gk with
  | zero => exact absurd HA.out (by simp [impl_isPrime.l0])
  | succ k1 =>
   have H := HA.out
   clear HA
   simp only [impl_isPrime.l0] at H
   by_cases c2 : (wrap64 (x3_1 * x3_1)) ≤ a0
   ·rw [if_pos c2] at H
    have c2b0 : decide ((wrap64 (x3_1 * x3_1)) ≤ a0) = true := decide_eq_true c2
    clear c2
    by_cases c3 : x3_1 = 0
    ·rw [if_pos c3] at H
     exact absurd H (by simp)
    ·rw [if_neg c3] at H
     have c3b0 : (x3_1 == 0) = false := beq_eq_false_iff_ne.mpr c3
     have c3b1 : (x3_1 != 0) = true := bne_iff_ne.mpr c3
     by_cases c4 : (Int.tmod a0 x3_1) = 0
     ·rw [if_pos c4] at H
      have c4b0 : ((Int.tmod a0 x3_1) == 0) = true := beq_iff_eq.mpr c4
      have c4b1 : ((Int.tmod a0 x3_1) != 0) = false := bne_eq_false_iff_eq.mpr c4
      clear c4
      obtain rfl := Option.some.inj H
      go_wp2
      go_ret
      exact ⟨by first | rfl | (simp; done) | (simp [*]; done), by repeat (first | exact Drawn0.refl _ | apply Drawn0.step)⟩
     ·rw [if_neg c4] at H
      have c4b0 : ((Int.tmod a0 x3_1) == 0) = false := beq_eq_false_iff_ne.mpr c4
      have c4b1 : ((Int.tmod a0 x3_1) != 0) = true := bne_iff_ne.mpr c4
      have H' := Aside0.mk H
      clear H
      go_wp2
      (first | go_roundg k1 | ((try simp only [add_plain] at *); go_roundg k1))
      case measure => have := HK1.out; omega
      case rel => exact ⟨(wrap64 (x3_1 + 1)), qB99, H', ⟨by have := HK1.out; omega⟩, by repeat (first | exact Drawn0.refl _ | apply Drawn0.step)⟩
   ·rw [if_neg c2] at H
    have c2b0 : decide ((wrap64 (x3_1 * x3_1)) ≤ a0) = false := decide_eq_false c2
    clear c2
    replace H := Option.bind_eq_some_iff.mp H
    obtain ⟨t244, A50, H⟩ := H
    replace H : (some t244) = some r := H
    have A5 := Aside0.mk A50
    clear A50
    obtain rfl := Option.some.inj H
    go_wp2_with (first | ((with_reducible refine gate_callee (f := 71) rfl ?_); refine goesL_ (some 16) rfl rfl Try.func71 (by kernel_rfl) rfl #[.int .i64 a0, .int .i64 3, .int .i64 61] rfl qB43 ?_; (with_reducible refine (impl_within.calls a0 3 61 t244 _ A5.out).mono ?_); rintro e w' ⟨rfl, ⟨nd, rfl⟩⟩; refine ⟨_, rfl, ?_⟩))
    go_ret
    exact ⟨by first | rfl | (simp; done) | (simp [*]; done), by repeat (first | exact Drawn0.refl _ | apply Drawn0.step)⟩

/-! ### impl_isOrder: function 86 -/
def impl_isOrder.f (a0 : Int) : Option (Bool) := (impl_within.f a0 1 16).bind fun t245 => (some t245)
set_option maxHeartbeats 8000000 in
set_option maxRecDepth 100000 in
theorem impl_isOrder.calls (a0 : Int) (r : Bool) (w : World) (h : impl_isOrder.f a0 = some r) :
  Calls Try.prog 86 #[.int .i64 a0] w fun e w' => e = .returned (.bool r) ∧ Drawn0 w w' := by
 have H : ((impl_within.f a0 1 16).bind fun t245 => (some t245)) = some r := h
 clear h
 replace H := Option.bind_eq_some_iff.mp H
 obtain ⟨t245, A20, H⟩ := H
 replace H : (some t245) = some r := H
 have A2 := Aside0.mk A20
 clear A20
 obtain rfl := Option.some.inj H
 go_enter Try.func86, Try.ntmps86
 go_wp2_with (first | ((with_reducible refine gate_callee (f := 71) rfl ?_); refine goesL_ (some 4) rfl rfl Try.func71 (by kernel_rfl) rfl #[.int .i64 a0, .int .i64 1, .int .i64 16] rfl qB43 ?_; (with_reducible refine (impl_within.calls a0 1 16 t245 _ A2.out).mono ?_); rintro e w' ⟨rfl, ⟨nd, rfl⟩⟩; refine ⟨_, rfl, ?_⟩))
 go_ret
 exact ⟨by first | rfl | (simp; done) | (simp [*]; done), by repeat (first | exact Drawn0.refl _ | apply Drawn0.step)⟩

/-! ### impl_areOf: function 75 -/
def impl_areOf.f (k : Nat) (a0 : Int) (a1 : Int) : Option (Bool) := (impl_isPrime.f k a0).bind fun t246 => (if t246 = true then ((impl_isOrder.f a1).bind fun t247 => (if t247 = true then (if a1 = 0 then (none) else (some ((Int.tmod (wrap64 (a0 - 1)) a1) == 0))) else (some false))) else (some false))
theorem impl_areOf.mono : ∀ a0 a1 k, LeO (impl_areOf.f k a0 a1) (impl_areOf.f (k + 1) a0 a1) := by
 intro a0 a1 k
 unfold impl_areOf.f
 repeat' first
   | (with_reducible exact impl_isPrime.mono _ _)
   | (with_reducible exact LeO.refl _)
   | (with_reducible exact LeO.none _)
   | (with_reducible refine LeO.ite ?_ ?_)
   | (with_reducible refine LeO.bind ?_ (fun _ => ?_))
   | exact impl_isPrime.mono _ _
   | exact LeO.none _
   | refine LeO.ite ?_ ?_
   | refine LeO.bind ?_ (fun _ => ?_)
set_option maxHeartbeats 8000000 in
set_option maxRecDepth 100000 in
theorem impl_areOf.calls (k : Nat) (a0 : Int) (a1 : Int) (r : Bool) (w : World) (h : impl_areOf.f k a0 a1 = some r) :
  Calls Try.prog 75 #[.int .i64 a0, .int .i64 a1] w fun e w' => e = .returned (.bool r) ∧ Drawn0 w w' := by
 have H : ((impl_isPrime.f k a0).bind fun t246 => (if t246 = true then ((impl_isOrder.f a1).bind fun t247 => (if t247 = true then (if a1 = 0 then (none) else (some ((Int.tmod (wrap64 (a0 - 1)) a1) == 0))) else (some false))) else (some false))) = some r := h
 clear h
 replace H := Option.bind_eq_some_iff.mp H
 obtain ⟨t246, A30, H⟩ := H
 replace H : (if t246 = true then ((impl_isOrder.f a1).bind fun t247 => (if t247 = true then (if a1 = 0 then (none) else (some ((Int.tmod (wrap64 (a0 - 1)) a1) == 0))) else (some false))) else (some false)) = some r := H
 have A3 := Aside0.mk A30
 clear A30
 by_cases c4 : t246 = true
 ·subst c4
  have H1 : ((impl_isOrder.f a1).bind fun t247 => (if t247 = true then (if a1 = 0 then (none) else (some ((Int.tmod (wrap64 (a0 - 1)) a1) == 0))) else (some false))) = some r := by rw [if_pos rfl] at H; exact H
  clear H
  have H := H1
  clear H1
  replace H := Option.bind_eq_some_iff.mp H
  obtain ⟨t247, A50, H⟩ := H
  replace H : (if t247 = true then (if a1 = 0 then (none) else (some ((Int.tmod (wrap64 (a0 - 1)) a1) == 0))) else (some false)) = some r := H
  have A5 := Aside0.mk A50
  clear A50
  by_cases c6 : t247 = true
  ·subst c6
   have H1 : (if a1 = 0 then (none) else (some ((Int.tmod (wrap64 (a0 - 1)) a1) == 0))) = some r := by rw [if_pos rfl] at H; exact H
   clear H
   have H := H1
   clear H1
   by_cases c7 : a1 = 0
   ·rw [if_pos c7] at H
    exact absurd H (by simp)
   ·rw [if_neg c7] at H
    have c7b0 : (a1 == 0) = false := beq_eq_false_iff_ne.mpr c7
    have c7b1 : (a1 != 0) = true := bne_iff_ne.mpr c7
    obtain rfl := Option.some.inj H
    go_enter Try.func75, Try.ntmps75
    go_wp2_with (first | ((with_reducible refine gate_callee (f := 46) rfl ?_); refine goesL_ (some 6) rfl rfl Try.func46 (by kernel_rfl) rfl #[.int .i64 a0] rfl qB43 ?_; (with_reducible refine (impl_isPrime.calls k a0 true _ A3.out).mono ?_); rintro e w' ⟨rfl, ⟨nd, rfl⟩⟩; refine ⟨_, rfl, ?_⟩) | (go_at_call 86; (with_reducible refine (impl_isOrder.calls a1 true _ A5.out).mono ?_); rintro e w' ⟨rfl, ⟨nd, rfl⟩⟩))
    go_ret
    exact ⟨by first | rfl | (simp; done) | (simp [*]; done), by repeat (first | exact Drawn0.refl _ | apply Drawn0.step)⟩
  ·replace c6 := Bool.eq_false_iff.mpr c6
   subst c6
   have H1 : (some false) = some r := by rw [if_neg (show ¬ (false = true) by decide)] at H; exact H
   clear H
   have H := H1
   clear H1
   obtain rfl := Option.some.inj H
   go_enter Try.func75, Try.ntmps75
   go_wp2_with (first | ((with_reducible refine gate_callee (f := 46) rfl ?_); refine goesL_ (some 6) rfl rfl Try.func46 (by kernel_rfl) rfl #[.int .i64 a0] rfl qB43 ?_; (with_reducible refine (impl_isPrime.calls k a0 true _ A3.out).mono ?_); rintro e w' ⟨rfl, ⟨nd, rfl⟩⟩; refine ⟨_, rfl, ?_⟩) | (go_at_call 86; (with_reducible refine (impl_isOrder.calls a1 false _ A5.out).mono ?_); rintro e w' ⟨rfl, ⟨nd, rfl⟩⟩))
   go_ret
   exact ⟨by first | rfl | (simp; done) | (simp [*]; done), by repeat (first | exact Drawn0.refl _ | apply Drawn0.step)⟩
 ·replace c4 := Bool.eq_false_iff.mpr c4
  subst c4
  have H1 : (some false) = some r := by rw [if_neg (show ¬ (false = true) by decide)] at H; exact H
  clear H
  have H := H1
  clear H1
  obtain rfl := Option.some.inj H
  go_enter Try.func75, Try.ntmps75
  go_wp2_with (first | ((with_reducible refine gate_callee (f := 46) rfl ?_); refine goesL_ (some 6) rfl rfl Try.func46 (by kernel_rfl) rfl #[.int .i64 a0] rfl qB43 ?_; (with_reducible refine (impl_isPrime.calls k a0 false _ A3.out).mono ?_); rintro e w' ⟨rfl, ⟨nd, rfl⟩⟩; refine ⟨_, rfl, ?_⟩))
  go_ret
  exact ⟨by first | rfl | (simp; done) | (simp [*]; done), by repeat (first | exact Drawn0.refl _ | apply Drawn0.step)⟩

/-! ### impl_IsCharacter: function 53 -/
def impl_IsCharacter.f (k : Nat) (a0_0 : Int) (a0_1 : Int) (a0_2 : Int) : Option (Bool) := (impl_areOf.f k a0_0 a0_1).bind fun t249 => (if t249 = true then ((impl_within.f a0_2 0 (wrap64 (a0_1 - 1))).bind fun t250 => (some t250)) else (some false))
theorem impl_IsCharacter.mono : ∀ a0 a1 a2 k, LeO (impl_IsCharacter.f k a0 a1 a2) (impl_IsCharacter.f (k + 1) a0 a1 a2) := by
 intro a0 a1 a2 k
 unfold impl_IsCharacter.f
 repeat' first
   | (with_reducible exact impl_areOf.mono _ _ _)
   | (with_reducible exact LeO.refl _)
   | (with_reducible exact LeO.none _)
   | (with_reducible refine LeO.ite ?_ ?_)
   | (with_reducible refine LeO.bind ?_ (fun _ => ?_))
   | exact impl_areOf.mono _ _ _
   | exact LeO.none _
   | refine LeO.ite ?_ ?_
   | refine LeO.bind ?_ (fun _ => ?_)
set_option maxHeartbeats 8000000 in
set_option maxRecDepth 100000 in
theorem impl_IsCharacter.calls (k : Nat) (a0_0 : Int) (a0_1 : Int) (a0_2 : Int) (r : Bool) (w : World) (h : impl_IsCharacter.f k a0_0 a0_1 a0_2 = some r) :
  Calls Try.prog 53 #[.agg #[.int .i64 a0_0, .int .i64 a0_1, .int .i64 a0_2]] w fun e w' => e = .returned (.bool r) ∧ Below w.heap.size w w' := by
 have hu37 := Try.underlying37
 have HB := Aside0.mk (Below.refl w.heap.size w)
 have H : ((impl_areOf.f k a0_0 a0_1).bind fun t249 => (if t249 = true then ((impl_within.f a0_2 0 (wrap64 (a0_1 - 1))).bind fun t250 => (some t250)) else (some false))) = some r := h
 clear h
 replace H := Option.bind_eq_some_iff.mp H
 obtain ⟨t249, A20, H⟩ := H
 replace H : (if t249 = true then ((impl_within.f a0_2 0 (wrap64 (a0_1 - 1))).bind fun t250 => (some t250)) else (some false)) = some r := H
 have A2 := Aside0.mk A20
 clear A20
 by_cases c3 : t249 = true
 ·subst c3
  have H1 : ((impl_within.f a0_2 0 (wrap64 (a0_1 - 1))).bind fun t250 => (some t250)) = some r := by rw [if_pos rfl] at H; exact H
  clear H
  have H := H1
  clear H1
  replace H := Option.bind_eq_some_iff.mp H
  obtain ⟨t250, A40, H⟩ := H
  replace H : (some t250) = some r := H
  have A4 := Aside0.mk A40
  clear A40
  obtain rfl := Option.some.inj H
  go_enter Try.func53, Try.ntmps53
  go_wp2_with (first | ((with_reducible refine gate_dst (N := 1) rfl ?_); refine box_event ?hg (N := 1) ?hd (cs := #[.int .i64 a0_0, .int .i64 a0_1, .int .i64 a0_2]) (t := 37) ?hr ?_; (case hd => rfl); (case hg => rfl); (case hr => first | (go_simp; done) | (go_simp; rfl)); intro gb248 hg w5 hbox hb; have n0_ := Aside0.mk (below_step qB44 hb); have n1_ := Aside0.mk (hbox); have n2_ := Aside0.mk ((by rw [hg]; exact (below_size qB44) : w.heap.size ≤ gb248)); have n3_ := Aside0.mk ((by rw [hg]; exact (below_size qB44) : w.heap.size ≤ gb248)); clear HB; have HB := n0_; have BK248 := n1_; have GW248 := n2_; have GE248 := n3_; clear n0_ n1_ n2_ n3_; clear hb hbox hg; have hcz6_0 : w5.cell? ⟨gb248, 0, none⟩ = some (.int .i64 a0_0) := (blk_cell BK248.out 0).trans rfl; have hcz6_1 : w5.cell? ⟨gb248, 1, none⟩ = some (.int .i64 a0_1) := (blk_cell BK248.out 1).trans rfl; have hcz6_2 : w5.cell? ⟨gb248, 2, none⟩ = some (.int .i64 a0_2) := (blk_cell BK248.out 2).trans rfl; have hfz6_0 := blk_frozen BK248.out 0; have hfz6_1 := blk_frozen BK248.out 1; have hfz6_2 := blk_frozen BK248.out 2) | ((with_reducible refine gate_callee (f := 75) rfl ?_); refine goesL_ (some 7) rfl rfl Try.func75 (by kernel_rfl) rfl #[.int .i64 a0_0, .int .i64 a0_1] rfl qB43 ?_; (with_reducible refine (impl_areOf.calls k a0_0 a0_1 true _ A2.out).mono ?_); rintro e w' ⟨rfl, ⟨nd, rfl⟩⟩; refine ⟨_, rfl, ?_⟩) | (go_at_call 71; (with_reducible refine (impl_within.calls a0_2 0 (wrap64 (a0_1 - 1)) t250 _ A4.out).mono ?_); rintro e w' ⟨rfl, ⟨nd, rfl⟩⟩))
  go_ret
  exact ⟨by first | rfl | (simp [errW_none, errW_some] <;> rfl) | (simp [*, errW_none, errW_some] <;> rfl), by repeat (first | (with_reducible first | exact HB.out | apply below_alloc | apply pw_below_drewN | apply below_drew1 | refine below_set ?_ GE248.out) | exact HB.out)⟩
 ·replace c3 := Bool.eq_false_iff.mpr c3
  subst c3
  have H1 : (some false) = some r := by rw [if_neg (show ¬ (false = true) by decide)] at H; exact H
  clear H
  have H := H1
  clear H1
  obtain rfl := Option.some.inj H
  go_enter Try.func53, Try.ntmps53
  go_wp2_with (first | ((with_reducible refine gate_dst (N := 1) rfl ?_); refine box_event ?hg (N := 1) ?hd (cs := #[.int .i64 a0_0, .int .i64 a0_1, .int .i64 a0_2]) (t := 37) ?hr ?_; (case hd => rfl); (case hg => rfl); (case hr => first | (go_simp; done) | (go_simp; rfl)); intro gb248 hg w7 hbox hb; have n0_ := Aside0.mk (below_step qB44 hb); have n1_ := Aside0.mk (hbox); have n2_ := Aside0.mk ((by rw [hg]; exact (below_size qB44) : w.heap.size ≤ gb248)); have n3_ := Aside0.mk ((by rw [hg]; exact (below_size qB44) : w.heap.size ≤ gb248)); clear HB; have HB := n0_; have BK248 := n1_; have GW248 := n2_; have GE248 := n3_; clear n0_ n1_ n2_ n3_; clear hb hbox hg; have hcz8_0 : w7.cell? ⟨gb248, 0, none⟩ = some (.int .i64 a0_0) := (blk_cell BK248.out 0).trans rfl; have hcz8_1 : w7.cell? ⟨gb248, 1, none⟩ = some (.int .i64 a0_1) := (blk_cell BK248.out 1).trans rfl; have hcz8_2 : w7.cell? ⟨gb248, 2, none⟩ = some (.int .i64 a0_2) := (blk_cell BK248.out 2).trans rfl; have hfz8_0 := blk_frozen BK248.out 0; have hfz8_1 := blk_frozen BK248.out 1; have hfz8_2 := blk_frozen BK248.out 2) | ((with_reducible refine gate_callee (f := 75) rfl ?_); refine goesL_ (some 7) rfl rfl Try.func75 (by kernel_rfl) rfl #[.int .i64 a0_0, .int .i64 a0_1] rfl qB43 ?_; (with_reducible refine (impl_areOf.calls k a0_0 a0_1 false _ A2.out).mono ?_); rintro e w' ⟨rfl, ⟨nd, rfl⟩⟩; refine ⟨_, rfl, ?_⟩))
  go_ret
  exact ⟨by first | rfl | (simp [errW_none, errW_some] <;> rfl) | (simp [*, errW_none, errW_some] <;> rfl), by repeat (first | (with_reducible first | exact HB.out | apply below_alloc | apply pw_below_drewN | apply below_drew1 | refine below_set ?_ GE248.out) | exact HB.out)⟩

/-! ### impl_listCode: function 65 -/
mutual
def impl_listCode.l0 : Nat → List (S37) → List (S37) → Int → Int → Option (Int)
 | 0, _, _, _, _ => none
 | k + 1, x0, x7, x8, x9 => if x9 < x8 then (if 0 ≤ x9 then (if x9 < (x7.length : Int) then ((impl_IsCharacter.f k ((rd_T37 x7 x9).f0) ((rd_T37 x7 x9).f1) ((rd_T37 x7 x9).f2)).bind fun t253 => (if t253 = true then (impl_listCode.l0 k x0 x7 x8 (wrap64 (x9 + 1))) else (some 1))) else (none)) else (none)) else ((impl_within.f (x0.length : Int) 1 4).bind fun t254 => (if t254 = true then (impl_listCode.l1 k x0 x0 (x0.length : Int) 0) else (some 2)))
def impl_listCode.l1 : Nat → List (S37) → List (S37) → Int → Int → Option (Int)
 | 0, _, _, _, _ => none
 | k + 1, x0, x21, x22, x23 => if x23 < x22 then (if 0 ≤ x23 then (if x23 < (x21.length : Int) then (if 0 < (x0.length : Int) then (if ((rd_T37 x21 x23).f0) = ((rd_T37 x0 0).f0) then (if ((rd_T37 x21 x23).f1) = ((rd_T37 x0 0).f1) then (impl_listCode.l1 k x0 x21 x22 (wrap64 (x23 + 1))) else (some 2)) else (some 2)) else (none)) else (none)) else (none)) else (some 0)
end
def impl_listCode.f (k : Nat) (l0 : List (S37)) : Option (Int) := impl_listCode.l0 k l0 l0 (l0.length : Int) 0
theorem impl_listCode.mono_l : ∀ k, (∀ y0 y1 y2 y3, LeO (impl_listCode.l0 k y0 y1 y2 y3) (impl_listCode.l0 (k + 1) y0 y1 y2 y3)) ∧ (∀ y0 y1 y2 y3, LeO (impl_listCode.l1 k y0 y1 y2 y3) (impl_listCode.l1 (k + 1) y0 y1 y2 y3))
 | 0 => ⟨fun _ _ _ _ r h => by simp [impl_listCode.l0] at h, fun _ _ _ _ r h => by simp [impl_listCode.l1] at h⟩
 | k + 1 => by
  obtain ⟨ih0, ih1⟩ := impl_listCode.mono_l k
  refine ⟨?_, ?_⟩
  ·intro y0 y1 y2 y3
   unfold impl_listCode.l0
   repeat' first
   | (with_reducible exact ih0 _ _ _ _)
   | (with_reducible exact ih1 _ _ _ _)
   | (with_reducible exact impl_IsCharacter.mono _ _ _ _)
   | (with_reducible exact LeO.refl _)
   | (with_reducible exact LeO.none _)
   | (with_reducible refine LeO.ite ?_ ?_)
   | (with_reducible refine LeO.bind ?_ (fun _ => ?_))
   | exact ih0 _ _ _ _
   | exact ih1 _ _ _ _
   | exact impl_IsCharacter.mono _ _ _ _
   | exact LeO.none _
   | refine LeO.ite ?_ ?_
   | refine LeO.bind ?_ (fun _ => ?_)
  ·intro y0 y1 y2 y3
   unfold impl_listCode.l1
   repeat' first
   | (with_reducible exact ih0 _ _ _ _)
   | (with_reducible exact ih1 _ _ _ _)
   | (with_reducible exact impl_IsCharacter.mono _ _ _ _)
   | (with_reducible exact LeO.refl _)
   | (with_reducible exact LeO.none _)
   | (with_reducible refine LeO.ite ?_ ?_)
   | (with_reducible refine LeO.bind ?_ (fun _ => ?_))
   | exact ih0 _ _ _ _
   | exact ih1 _ _ _ _
   | exact impl_IsCharacter.mono _ _ _ _
   | exact LeO.none _
   | refine LeO.ite ?_ ?_
   | refine LeO.bind ?_ (fun _ => ?_)
theorem impl_listCode.mono : ∀ a0 k, LeO (impl_listCode.f k a0) (impl_listCode.f (k + 1) a0) := by
 intro a0 k
 obtain ⟨ih0, ih1⟩ := impl_listCode.mono_l k
 unfold impl_listCode.f
 repeat' first
   | (with_reducible exact ih0 _ _ _ _)
   | (with_reducible exact ih1 _ _ _ _)
   | (with_reducible exact impl_IsCharacter.mono _ _ _ _)
   | (with_reducible exact LeO.refl _)
   | (with_reducible exact LeO.none _)
   | (with_reducible refine LeO.ite ?_ ?_)
   | (with_reducible refine LeO.bind ?_ (fun _ => ?_))
   | exact ih0 _ _ _ _
   | exact ih1 _ _ _ _
   | exact impl_IsCharacter.mono _ _ _ _
   | exact LeO.none _
   | refine LeO.ite ?_ ?_
   | refine LeO.bind ?_ (fun _ => ?_)
set_option maxHeartbeats 8000000 in
set_option maxRecDepth 100000 in
theorem impl_listCode.calls (k : Nat) (A0 : Option Addr) (c0 : Nat) (l0 : List (S37)) (r : Int) (w : World) (hr0 : Kd.C k37 w A0 l0.length l0) (hc0 : l0.length ≤ c0) (h : impl_listCode.f k l0 = some r) :
  Calls Try.prog 65 #[.slice A0 l0.length c0] w fun e w' => e = .returned (.int .i64 r) ∧ Below w.heap.size w w' := by
 have hu37 := Try.underlying37
 have HR0 := Aside0.mk hr0
 have HC0 := Aside0.mk hc0
 clear hr0 hc0
 have HB := Aside0.mk (Below.refl w.heap.size w)
 have H : (impl_listCode.l0 k l0 l0 (l0.length : Int) 0) = some r := h
 clear h
 have H' := Aside0.mk H
 clear H
 go_enter Try.func65, Try.ntmps65
 go_wp2
 repeat (go_quiet (fail); try go_wp2)
 try simp only [Act.put, List.setIfInBounds_toArray, List.set_cons_succ, List.set_cons_zero]
 go_loopg [9] k (fun kq v9 w' => ∃ (x9_1 : Int), v9 = .int .i64 x9_1 ∧ Aside0 (impl_listCode.l0 kq l0 l0 (l0.length : Int) x9_1 = some r) ∧ Aside0 (kq ≤ k) ∧ Aside0 (Below w.heap.size w w'))
 case atStart => exact ⟨(0), qB99, H', ⟨Nat.le_refl _⟩, ⟨by repeat (first | (with_reducible first | exact HB.out | apply below_alloc | apply pw_below_drewN | apply below_drew1) | exact HB.out)⟩⟩
 case round =>
  clear H'
  obtain ⟨x9_1, rfl, HA, HK1, HB⟩ := hrel
  cases gk with
  | zero => exact absurd HA.out (by simp [impl_listCode.l0])
  | succ k1 =>
   have H := HA.out
   clear HA
   simp only [impl_listCode.l0] at H
   by_cases c2 : x9_1 < (l0.length : Int)
   ·rw [if_pos c2] at H
    have c2b0 : decide (x9_1 < (l0.length : Int)) = true := decide_eq_true c2
    clear c2
    by_cases c3 : 0 ≤ x9_1
    ·rw [if_pos c3] at H
     have c3b0 : decide (0 ≤ x9_1) = true := decide_eq_true c3
     clear c3
     by_cases c4 : x9_1 < (l0.length : Int)
     ·rw [if_pos c4] at H
      have c4b0 : decide (x9_1 < (l0.length : Int)) = true := decide_eq_true c4
      clear c4
      replace H := Option.bind_eq_some_iff.mp H
      obtain ⟨t253, A50, H⟩ := H
      replace H : (if t253 = true then (impl_listCode.l0 k1 l0 l0 (l0.length : Int) (wrap64 (x9_1 + 1))) else (some 1)) = some r := H
      have A5 := Aside0.mk A50
      clear A50
      by_cases c6 : t253 = true
      ·subst c6
       have H1 : (impl_listCode.l0 k1 l0 l0 (l0.length : Int) (wrap64 (x9_1 + 1))) = some r := by rw [if_pos rfl] at H; exact H
       clear H
       have H := H1
       clear H1
       have H' := Aside0.mk H
       clear H
       have p251 : 0 ≤ (x9_1 : Int) := of_decide_eq_true qB98
       have q251 : x9_1 < (l0.length : Int) := of_decide_eq_true qB98
       obtain ⟨ad251, e251, hx251_0, hx251_1, hx251_2⟩ := at_T37 HR0.out x9_1 p251 q251
       cases e251
       replace hx251_0 := (HB.out.cell (World.block_lt_of_cell? w _ hx251_0)).trans hx251_0
       replace hx251_1 := (HB.out.cell (World.block_lt_of_cell? w _ hx251_1)).trans hx251_1
       replace hx251_2 := (HB.out.cell (World.block_lt_of_cell? w _ hx251_2)).trans hx251_2
       replace p251 := eq_true p251
       replace q251 := eq_true q251
       go_wp2_with (first | ((with_reducible refine gate_dst (N := 4) rfl ?_); refine box_event ?hg (N := 4) ?hd (cs := #[.int .i64 0, .int .i64 0, .int .i64 0]) (t := 37) ?hr ?_; (case hd => rfl); (case hg => rfl); (case hr => first | (go_simp; done) | (go_simp; rfl)); intro gb252 hg w7 hbox hb; have n0_ := Aside0.mk (below_step qB44 hb); have n1_ := Aside0.mk (hbox); have n2_ := Aside0.mk ((by rw [hg]; exact (below_size qB44) : w.heap.size ≤ gb252)); have n3_ := Aside0.mk ((by rw [hg]; exact (below_size qB44) : w.heap.size ≤ gb252)); clear HB; have HB := n0_; have BK252 := n1_; have GW252 := n2_; have GE252 := n3_; clear n0_ n1_ n2_ n3_; clear hb hbox hg; have hcz8_0 : w7.cell? ⟨gb252, 0, none⟩ = some (.int .i64 0) := (blk_cell BK252.out 0).trans rfl; have hcz8_1 : w7.cell? ⟨gb252, 1, none⟩ = some (.int .i64 0) := (blk_cell BK252.out 1).trans rfl; have hcz8_2 : w7.cell? ⟨gb252, 2, none⟩ = some (.int .i64 0) := (blk_cell BK252.out 2).trans rfl; have hfz8_0 := blk_frozen BK252.out 0; have hfz8_1 := blk_frozen BK252.out 1; have hfz8_2 := blk_frozen BK252.out 2) | (go_at_call 53; (with_reducible refine (impl_IsCharacter.calls k1 ((rd_T37 l0 x9_1).f0) ((rd_T37 l0 x9_1).f1) ((rd_T37 l0 x9_1).f2) true _ A5.out).mono ?_); rintro e w9 ⟨rfl, hb⟩; have n0_ := Aside0.mk (blk_below (g := gb252) (o := .cells #[.int .i64 ((rd_T37 l0 x9_1).f0), .int .i64 ((rd_T37 l0 x9_1).f1), .int .i64 ((rd_T37 l0 x9_1).f2)] 37 (0, 0)) qB1 hb); have n1_ := Aside0.mk (below_step qB30 hb); clear BK252; clear HB; have BK252 := n0_; have HB := n1_; clear n0_ n1_; (try clear hb); (try clear hb2); (try clear hk); (try clear hi)))
       repeat (go_quiet (first | ((with_reducible refine gate_dst (N := 4) rfl ?_); refine box_event ?hg (N := 4) ?hd (cs := #[.int .i64 0, .int .i64 0, .int .i64 0]) (t := 37) ?hr ?_; (case hd => rfl); (case hg => rfl); (case hr => first | (go_simp; done) | (go_simp; rfl)); intro gb252 hg w7 hbox hb; have n0_ := Aside0.mk (below_step qB44 hb); have n1_ := Aside0.mk (hbox); have n2_ := Aside0.mk ((by rw [hg]; exact (below_size qB44) : w.heap.size ≤ gb252)); have n3_ := Aside0.mk ((by rw [hg]; exact (below_size qB44) : w.heap.size ≤ gb252)); clear HB; have HB := n0_; have BK252 := n1_; have GW252 := n2_; have GE252 := n3_; clear n0_ n1_ n2_ n3_; clear hb hbox hg; have hcz8_0 : w7.cell? ⟨gb252, 0, none⟩ = some (.int .i64 0) := (blk_cell BK252.out 0).trans rfl; have hcz8_1 : w7.cell? ⟨gb252, 1, none⟩ = some (.int .i64 0) := (blk_cell BK252.out 1).trans rfl; have hcz8_2 : w7.cell? ⟨gb252, 2, none⟩ = some (.int .i64 0) := (blk_cell BK252.out 2).trans rfl; have hfz8_0 := blk_frozen BK252.out 0; have hfz8_1 := blk_frozen BK252.out 1; have hfz8_2 := blk_frozen BK252.out 2) | (go_at_call 53; (with_reducible refine (impl_IsCharacter.calls k1 ((rd_T37 l0 x9_1).f0) ((rd_T37 l0 x9_1).f1) ((rd_T37 l0 x9_1).f2) true _ A5.out).mono ?_); rintro e w9 ⟨rfl, hb⟩; have n0_ := Aside0.mk (blk_below (g := gb252) (o := .cells #[.int .i64 ((rd_T37 l0 x9_1).f0), .int .i64 ((rd_T37 l0 x9_1).f1), .int .i64 ((rd_T37 l0 x9_1).f2)] 37 (0, 0)) qB1 hb); have n1_ := Aside0.mk (below_step qB30 hb); clear BK252; clear HB; have BK252 := n0_; have HB := n1_; clear n0_ n1_; (try clear hb); (try clear hb2); (try clear hk); (try clear hi))); try go_wp2_with (first | ((with_reducible refine gate_dst (N := 4) rfl ?_); refine box_event ?hg (N := 4) ?hd (cs := #[.int .i64 0, .int .i64 0, .int .i64 0]) (t := 37) ?hr ?_; (case hd => rfl); (case hg => rfl); (case hr => first | (go_simp; done) | (go_simp; rfl)); intro gb252 hg w7 hbox hb; have n0_ := Aside0.mk (below_step qB44 hb); have n1_ := Aside0.mk (hbox); have n2_ := Aside0.mk ((by rw [hg]; exact (below_size qB44) : w.heap.size ≤ gb252)); have n3_ := Aside0.mk ((by rw [hg]; exact (below_size qB44) : w.heap.size ≤ gb252)); clear HB; have HB := n0_; have BK252 := n1_; have GW252 := n2_; have GE252 := n3_; clear n0_ n1_ n2_ n3_; clear hb hbox hg; have hcz8_0 : w7.cell? ⟨gb252, 0, none⟩ = some (.int .i64 0) := (blk_cell BK252.out 0).trans rfl; have hcz8_1 : w7.cell? ⟨gb252, 1, none⟩ = some (.int .i64 0) := (blk_cell BK252.out 1).trans rfl; have hcz8_2 : w7.cell? ⟨gb252, 2, none⟩ = some (.int .i64 0) := (blk_cell BK252.out 2).trans rfl; have hfz8_0 := blk_frozen BK252.out 0; have hfz8_1 := blk_frozen BK252.out 1; have hfz8_2 := blk_frozen BK252.out 2) | (go_at_call 53; (with_reducible refine (impl_IsCharacter.calls k1 ((rd_T37 l0 x9_1).f0) ((rd_T37 l0 x9_1).f1) ((rd_T37 l0 x9_1).f2) true _ A5.out).mono ?_); rintro e w9 ⟨rfl, hb⟩; have n0_ := Aside0.mk (blk_below (g := gb252) (o := .cells #[.int .i64 ((rd_T37 l0 x9_1).f0), .int .i64 ((rd_T37 l0 x9_1).f1), .int .i64 ((rd_T37 l0 x9_1).f2)] 37 (0, 0)) qB1 hb); have n1_ := Aside0.mk (below_step qB30 hb); clear BK252; clear HB; have BK252 := n0_; have HB := n1_; clear n0_ n1_; (try clear hb); (try clear hb2); (try clear hk); (try clear hi))))
       (first | go_roundg k1 | ((try simp only [add_plain] at *); go_roundg k1))
       case measure => have := HK1.out; omega
       case rel => exact ⟨(wrap64 (x9_1 + 1)), qB99, H', ⟨by have := HK1.out; omega⟩, ⟨by repeat (first | (with_reducible first | exact HB.out | apply below_alloc | apply pw_below_drewN | apply below_drew1 | refine below_set ?_ GE252.out) | exact HB.out)⟩⟩
      ·replace c6 := Bool.eq_false_iff.mpr c6
       subst c6
       have H1 : (some 1) = some r := by rw [if_neg (show ¬ (false = true) by decide)] at H; exact H
       clear H
       have H := H1
       clear H1
       obtain rfl := Option.some.inj H
       have p251 : 0 ≤ (x9_1 : Int) := of_decide_eq_true qB98
       have q251 : x9_1 < (l0.length : Int) := of_decide_eq_true qB98
       obtain ⟨ad251, e251, hx251_0, hx251_1, hx251_2⟩ := at_T37 HR0.out x9_1 p251 q251
       cases e251
       replace hx251_0 := (HB.out.cell (World.block_lt_of_cell? w _ hx251_0)).trans hx251_0
       replace hx251_1 := (HB.out.cell (World.block_lt_of_cell? w _ hx251_1)).trans hx251_1
       replace hx251_2 := (HB.out.cell (World.block_lt_of_cell? w _ hx251_2)).trans hx251_2
       replace p251 := eq_true p251
       replace q251 := eq_true q251
       go_wp2_with (first | ((with_reducible refine gate_dst (N := 4) rfl ?_); refine box_event ?hg (N := 4) ?hd (cs := #[.int .i64 0, .int .i64 0, .int .i64 0]) (t := 37) ?hr ?_; (case hd => rfl); (case hg => rfl); (case hr => first | (go_simp; done) | (go_simp; rfl)); intro gb252 hg w10 hbox hb; have n0_ := Aside0.mk (below_step qB44 hb); have n1_ := Aside0.mk (hbox); have n2_ := Aside0.mk ((by rw [hg]; exact (below_size qB44) : w.heap.size ≤ gb252)); have n3_ := Aside0.mk ((by rw [hg]; exact (below_size qB44) : w.heap.size ≤ gb252)); clear HB; have HB := n0_; have BK252 := n1_; have GW252 := n2_; have GE252 := n3_; clear n0_ n1_ n2_ n3_; clear hb hbox hg; have hcz11_0 : w10.cell? ⟨gb252, 0, none⟩ = some (.int .i64 0) := (blk_cell BK252.out 0).trans rfl; have hcz11_1 : w10.cell? ⟨gb252, 1, none⟩ = some (.int .i64 0) := (blk_cell BK252.out 1).trans rfl; have hcz11_2 : w10.cell? ⟨gb252, 2, none⟩ = some (.int .i64 0) := (blk_cell BK252.out 2).trans rfl; have hfz11_0 := blk_frozen BK252.out 0; have hfz11_1 := blk_frozen BK252.out 1; have hfz11_2 := blk_frozen BK252.out 2) | (go_at_call 53; (with_reducible refine (impl_IsCharacter.calls k1 ((rd_T37 l0 x9_1).f0) ((rd_T37 l0 x9_1).f1) ((rd_T37 l0 x9_1).f2) false _ A5.out).mono ?_); rintro e w12 ⟨rfl, hb⟩; have n0_ := Aside0.mk (blk_below (g := gb252) (o := .cells #[.int .i64 ((rd_T37 l0 x9_1).f0), .int .i64 ((rd_T37 l0 x9_1).f1), .int .i64 ((rd_T37 l0 x9_1).f2)] 37 (0, 0)) qB1 hb); have n1_ := Aside0.mk (below_step qB30 hb); clear BK252; clear HB; have BK252 := n0_; have HB := n1_; clear n0_ n1_; (try clear hb); (try clear hb2); (try clear hk); (try clear hi)))
       repeat (go_quiet (first | ((with_reducible refine gate_dst (N := 4) rfl ?_); refine box_event ?hg (N := 4) ?hd (cs := #[.int .i64 0, .int .i64 0, .int .i64 0]) (t := 37) ?hr ?_; (case hd => rfl); (case hg => rfl); (case hr => first | (go_simp; done) | (go_simp; rfl)); intro gb252 hg w10 hbox hb; have n0_ := Aside0.mk (below_step qB44 hb); have n1_ := Aside0.mk (hbox); have n2_ := Aside0.mk ((by rw [hg]; exact (below_size qB44) : w.heap.size ≤ gb252)); have n3_ := Aside0.mk ((by rw [hg]; exact (below_size qB44) : w.heap.size ≤ gb252)); clear HB; have HB := n0_; have BK252 := n1_; have GW252 := n2_; have GE252 := n3_; clear n0_ n1_ n2_ n3_; clear hb hbox hg; have hcz11_0 : w10.cell? ⟨gb252, 0, none⟩ = some (.int .i64 0) := (blk_cell BK252.out 0).trans rfl; have hcz11_1 : w10.cell? ⟨gb252, 1, none⟩ = some (.int .i64 0) := (blk_cell BK252.out 1).trans rfl; have hcz11_2 : w10.cell? ⟨gb252, 2, none⟩ = some (.int .i64 0) := (blk_cell BK252.out 2).trans rfl; have hfz11_0 := blk_frozen BK252.out 0; have hfz11_1 := blk_frozen BK252.out 1; have hfz11_2 := blk_frozen BK252.out 2) | (go_at_call 53; (with_reducible refine (impl_IsCharacter.calls k1 ((rd_T37 l0 x9_1).f0) ((rd_T37 l0 x9_1).f1) ((rd_T37 l0 x9_1).f2) false _ A5.out).mono ?_); rintro e w12 ⟨rfl, hb⟩; have n0_ := Aside0.mk (blk_below (g := gb252) (o := .cells #[.int .i64 ((rd_T37 l0 x9_1).f0), .int .i64 ((rd_T37 l0 x9_1).f1), .int .i64 ((rd_T37 l0 x9_1).f2)] 37 (0, 0)) qB1 hb); have n1_ := Aside0.mk (below_step qB30 hb); clear BK252; clear HB; have BK252 := n0_; have HB := n1_; clear n0_ n1_; (try clear hb); (try clear hb2); (try clear hk); (try clear hi))); try go_wp2_with (first | ((with_reducible refine gate_dst (N := 4) rfl ?_); refine box_event ?hg (N := 4) ?hd (cs := #[.int .i64 0, .int .i64 0, .int .i64 0]) (t := 37) ?hr ?_; (case hd => rfl); (case hg => rfl); (case hr => first | (go_simp; done) | (go_simp; rfl)); intro gb252 hg w10 hbox hb; have n0_ := Aside0.mk (below_step qB44 hb); have n1_ := Aside0.mk (hbox); have n2_ := Aside0.mk ((by rw [hg]; exact (below_size qB44) : w.heap.size ≤ gb252)); have n3_ := Aside0.mk ((by rw [hg]; exact (below_size qB44) : w.heap.size ≤ gb252)); clear HB; have HB := n0_; have BK252 := n1_; have GW252 := n2_; have GE252 := n3_; clear n0_ n1_ n2_ n3_; clear hb hbox hg; have hcz11_0 : w10.cell? ⟨gb252, 0, none⟩ = some (.int .i64 0) := (blk_cell BK252.out 0).trans rfl; have hcz11_1 : w10.cell? ⟨gb252, 1, none⟩ = some (.int .i64 0) := (blk_cell BK252.out 1).trans rfl; have hcz11_2 : w10.cell? ⟨gb252, 2, none⟩ = some (.int .i64 0) := (blk_cell BK252.out 2).trans rfl; have hfz11_0 := blk_frozen BK252.out 0; have hfz11_1 := blk_frozen BK252.out 1; have hfz11_2 := blk_frozen BK252.out 2) | (go_at_call 53; (with_reducible refine (impl_IsCharacter.calls k1 ((rd_T37 l0 x9_1).f0) ((rd_T37 l0 x9_1).f1) ((rd_T37 l0 x9_1).f2) false _ A5.out).mono ?_); rintro e w12 ⟨rfl, hb⟩; have n0_ := Aside0.mk (blk_below (g := gb252) (o := .cells #[.int .i64 ((rd_T37 l0 x9_1).f0), .int .i64 ((rd_T37 l0 x9_1).f1), .int .i64 ((rd_T37 l0 x9_1).f2)] 37 (0, 0)) qB1 hb); have n1_ := Aside0.mk (below_step qB30 hb); clear BK252; clear HB; have BK252 := n0_; have HB := n1_; clear n0_ n1_; (try clear hb); (try clear hb2); (try clear hk); (try clear hi))))
       go_ret
       exact ⟨by first | rfl | (simp [errW_none, errW_some] <;> rfl) | (simp [*, errW_none, errW_some] <;> rfl), by repeat (first | (with_reducible first | exact HB.out | apply below_alloc | apply pw_below_drewN | apply below_drew1 | refine below_set ?_ GE252.out) | exact HB.out)⟩
     ·rw [if_neg c4] at H
      exact absurd H (by simp)
    ·rw [if_neg c3] at H
     exact absurd H (by simp)
   ·rw [if_neg c2] at H
    have c2b0 : decide (x9_1 < (l0.length : Int)) = false := decide_eq_false c2
    clear c2
    replace H := Option.bind_eq_some_iff.mp H
    obtain ⟨t254, A130, H⟩ := H
    replace H : (if t254 = true then (impl_listCode.l1 k1 l0 l0 (l0.length : Int) 0) else (some 2)) = some r := H
    have A13 := Aside0.mk A130
    clear A130
    by_cases c14 : t254 = true
    ·subst c14
     have H1 : (impl_listCode.l1 k1 l0 l0 (l0.length : Int) 0) = some r := by rw [if_pos rfl] at H; exact H
     clear H
     have H := H1
     clear H1
     have H' := Aside0.mk H
     clear H
     go_wp2_with (first | (go_at_call 71; (with_reducible refine (impl_within.calls (l0.length : Int) 1 4 true _ A13.out).mono ?_); rintro e w' ⟨rfl, ⟨nd, rfl⟩⟩; (try first | exact ⟨rfl, _, World.drewN_drewN _ _ _⟩ | exact ⟨rfl, _, Eq.trans (World.drewN_drewN _ _ _) (congrArg (World.drewN _) (Nat.add_assoc _ _ _))⟩)))
     repeat (go_quiet (first | (go_at_call 71; (with_reducible refine (impl_within.calls (l0.length : Int) 1 4 true _ A13.out).mono ?_); rintro e w' ⟨rfl, ⟨nd, rfl⟩⟩; (try first | exact ⟨rfl, _, World.drewN_drewN _ _ _⟩ | exact ⟨rfl, _, Eq.trans (World.drewN_drewN _ _ _) (congrArg (World.drewN _) (Nat.add_assoc _ _ _))⟩))); try go_wp2_with (first | (go_at_call 71; (with_reducible refine (impl_within.calls (l0.length : Int) 1 4 true _ A13.out).mono ?_); rintro e w' ⟨rfl, ⟨nd, rfl⟩⟩; (try first | exact ⟨rfl, _, World.drewN_drewN _ _ _⟩ | exact ⟨rfl, _, Eq.trans (World.drewN_drewN _ _ _) (congrArg (World.drewN _) (Nat.add_assoc _ _ _))⟩))))
     try simp only [Act.put, List.setIfInBounds_toArray, List.set_cons_succ, List.set_cons_zero]
     go_loopg [23] k1 (fun kq v23 w' => ∃ (x23_2 : Int), v23 = .int .i64 x23_2 ∧ Aside0 (impl_listCode.l1 kq l0 l0 (l0.length : Int) x23_2 = some r) ∧ Aside0 (kq ≤ k1) ∧ Aside0 (Below w.heap.size w w'))
     case atStart => exact ⟨(0), qB99, H', ⟨Nat.le_refl _⟩, ⟨by repeat (first | (with_reducible first | exact HB.out | apply below_alloc | apply pw_below_drewN | apply below_drew1) | exact HB.out)⟩⟩
     case round =>
      clear H'
      try clear c1
      try clear c2
      try clear c2b0
      try clear p2
      try clear q2
      try clear hx2
      try clear c3
      try clear c3b0
      try clear c4
      try clear c4b0
      try clear c6
      try clear p6
      try clear c14
      try clear hcz11_0
      try clear hcz11_1
      try clear hcz11_2
      try clear hcz8_0
      try clear hcz8_1
      try clear hcz8_2
      try clear hfz11_0
      try clear hfz11_1
      try clear hfz11_2
      try clear hfz8_0
      try clear hfz8_1
      try clear hfz8_2
      try clear hx251_0
      try clear hx251_1
      try clear hx251_2
      try clear p251
      try clear q251
      obtain ⟨x23_2, rfl, HA, HK2, HB⟩ := hrel
      cases gk with
      | zero => exact absurd HA.out (by simp [impl_listCode.l1])
      | succ k2 =>
       have H := HA.out
       clear HA
       simp only [impl_listCode.l1] at H
       by_cases c15 : x23_2 < (l0.length : Int)
       ·rw [if_pos c15] at H
        have c15b0 : decide (x23_2 < (l0.length : Int)) = true := decide_eq_true c15
        clear c15
        by_cases c16 : 0 ≤ x23_2
        ·rw [if_pos c16] at H
         have c16b0 : decide (0 ≤ x23_2) = true := decide_eq_true c16
         clear c16
         by_cases c17 : x23_2 < (l0.length : Int)
         ·rw [if_pos c17] at H
          have c17b0 : decide (x23_2 < (l0.length : Int)) = true := decide_eq_true c17
          clear c17
          by_cases c18 : 0 < (l0.length : Int)
          ·rw [if_pos c18] at H
           have c18b0 : decide (0 < (l0.length : Int)) = true := decide_eq_true c18
           have c18b1 : decide (0 < l0.length) = true := decide_eq_true (by omega)
           clear c18
           by_cases c19 : ((rd_T37 l0 x23_2).f0) = ((rd_T37 l0 0).f0)
           ·rw [if_pos c19] at H
            have c19b0 : (((rd_T37 l0 x23_2).f0) == ((rd_T37 l0 0).f0)) = true := beq_iff_eq.mpr c19
            have c19b1 : (((rd_T37 l0 x23_2).f0) != ((rd_T37 l0 0).f0)) = false := bne_eq_false_iff_eq.mpr c19
            clear c19
            by_cases c20 : ((rd_T37 l0 x23_2).f1) = ((rd_T37 l0 0).f1)
            ·rw [if_pos c20] at H
             have c20b0 : (((rd_T37 l0 x23_2).f1) == ((rd_T37 l0 0).f1)) = true := beq_iff_eq.mpr c20
             have c20b1 : (((rd_T37 l0 x23_2).f1) != ((rd_T37 l0 0).f1)) = false := bne_eq_false_iff_eq.mpr c20
             clear c20
             have H' := Aside0.mk H
             clear H
             have p255 : 0 ≤ (x23_2 : Int) := of_decide_eq_true qB98
             have q255 : x23_2 < (l0.length : Int) := of_decide_eq_true qB98
             obtain ⟨ad255, e255, hx255_0, hx255_1, hx255_2⟩ := at_T37 HR0.out x23_2 p255 q255
             cases e255
             replace hx255_0 := (HB.out.cell (World.block_lt_of_cell? w _ hx255_0)).trans hx255_0
             replace hx255_1 := (HB.out.cell (World.block_lt_of_cell? w _ hx255_1)).trans hx255_1
             replace hx255_2 := (HB.out.cell (World.block_lt_of_cell? w _ hx255_2)).trans hx255_2
             replace p255 := eq_true p255
             replace q255 := eq_true q255
             go_wp2_with (first | ((with_reducible refine gate_dst (N := 6) rfl ?_); refine box_event ?hg (N := 6) ?hd (cs := #[.int .i64 0, .int .i64 0, .int .i64 0]) (t := 37) ?hr ?_; (case hd => rfl); (case hg => rfl); (case hr => first | (go_simp; done) | (go_simp; rfl)); intro gb256 hg w21 hbox hb; have n0_ := Aside0.mk (below_step qB44 hb); have n1_ := Aside0.mk (hbox); have n2_ := Aside0.mk ((by rw [hg]; exact (below_size qB44) : w.heap.size ≤ gb256)); have n3_ := Aside0.mk ((by rw [hg]; exact (below_size qB44) : w.heap.size ≤ gb256)); clear HB; have HB := n0_; have BK256 := n1_; have GW256 := n2_; have GE256 := n3_; clear n0_ n1_ n2_ n3_; clear hb hbox hg; have hcz22_0 : w21.cell? ⟨gb256, 0, none⟩ = some (.int .i64 0) := (blk_cell BK256.out 0).trans rfl; have hcz22_1 : w21.cell? ⟨gb256, 1, none⟩ = some (.int .i64 0) := (blk_cell BK256.out 1).trans rfl; have hcz22_2 : w21.cell? ⟨gb256, 2, none⟩ = some (.int .i64 0) := (blk_cell BK256.out 2).trans rfl; have hfz22_0 := blk_frozen BK256.out 0; have hfz22_1 := blk_frozen BK256.out 1; have hfz22_2 := blk_frozen BK256.out 2; have p257 : 0 ≤ (0 : Int) := (by omega); have q257 : 0 < (l0.length : Int) := of_decide_eq_true qB98; obtain ⟨ad257, e257, hx257_0, hx257_1, hx257_2⟩ := at_T37 HR0.out 0 p257 q257; obtain rfl : ad255 = ad257 := (by injection e257); have qi257 : (0 < l0.length) = True := eq_true (by omega); (try rw [show ((0 : Int)).toNat = 0 from rfl] at hx257_0); (try rw [show 0 * 3 = 0 from rfl] at hx257_0); (try rw [Addr.add_zero'] at hx257_0); (try rw [show ((0 : Int)).toNat = 0 from rfl] at hx257_1); (try rw [show 0 * 3 = 0 from rfl] at hx257_1); (try rw [Addr.add_zero'] at hx257_1); (try rw [show ((0 : Int)).toNat = 0 from rfl] at hx257_2); (try rw [show 0 * 3 = 0 from rfl] at hx257_2); (try rw [Addr.add_zero'] at hx257_2); have hn257_0 : ad255.block ≠ gb256 := Nat.ne_of_lt (Nat.lt_of_lt_of_le qB96 GW256.out); have hn257_1 : ad255.block ≠ gb256 := Nat.ne_of_lt (Nat.lt_of_lt_of_le qB96 GW256.out); have hn257_2 : ad255.block ≠ gb256 := Nat.ne_of_lt (Nat.lt_of_lt_of_le qB96 GW256.out); replace hx257_0 := (HB.out.cell (World.block_lt_of_cell? w _ hx257_0)).trans hx257_0; replace hx257_1 := (HB.out.cell (World.block_lt_of_cell? w _ hx257_1)).trans hx257_1; replace hx257_2 := (HB.out.cell (World.block_lt_of_cell? w _ hx257_2)).trans hx257_2; replace hx257_0 := (cell_far (p := ⟨gb256, 0, none⟩) qB46 (.int .i64 ((rd_T37 l0 x23_2).f0))).trans hx257_0; replace hx257_1 := (cell_far (p := ⟨gb256, 0, none⟩) qB46 (.int .i64 ((rd_T37 l0 x23_2).f0))).trans hx257_1; replace hx257_2 := (cell_far (p := ⟨gb256, 0, none⟩) qB46 (.int .i64 ((rd_T37 l0 x23_2).f0))).trans hx257_2; replace hx257_0 := (cell_far (p := ⟨gb256, 1, none⟩) qB47 (.int .i64 ((rd_T37 l0 x23_2).f1))).trans hx257_0; replace hx257_1 := (cell_far (p := ⟨gb256, 1, none⟩) qB47 (.int .i64 ((rd_T37 l0 x23_2).f1))).trans hx257_1; replace hx257_2 := (cell_far (p := ⟨gb256, 1, none⟩) qB47 (.int .i64 ((rd_T37 l0 x23_2).f1))).trans hx257_2; replace hx257_0 := (cell_far (p := ⟨gb256, 2, none⟩) qB48 (.int .i64 ((rd_T37 l0 x23_2).f2))).trans hx257_0; replace hx257_1 := (cell_far (p := ⟨gb256, 2, none⟩) qB48 (.int .i64 ((rd_T37 l0 x23_2).f2))).trans hx257_1; replace hx257_2 := (cell_far (p := ⟨gb256, 2, none⟩) qB48 (.int .i64 ((rd_T37 l0 x23_2).f2))).trans hx257_2; (try have hy257_0 := fun (n_ : Nat) => (show (((((w21.drewN n_).setCell ⟨gb256, 0, none⟩ (.int .i64 ((rd_T37 l0 x23_2).f0))).setCell ⟨gb256, 1, none⟩ (.int .i64 ((rd_T37 l0 x23_2).f1))).setCell ⟨gb256, 2, none⟩ (.int .i64 ((rd_T37 l0 x23_2).f2)))).cell? _ = some _ from hx257_0)); (try have hy257_1 := fun (n_ : Nat) => (show (((((w21.drewN n_).setCell ⟨gb256, 0, none⟩ (.int .i64 ((rd_T37 l0 x23_2).f0))).setCell ⟨gb256, 1, none⟩ (.int .i64 ((rd_T37 l0 x23_2).f1))).setCell ⟨gb256, 2, none⟩ (.int .i64 ((rd_T37 l0 x23_2).f2)))).cell? _ = some _ from hx257_1)); (try have hy257_2 := fun (n_ : Nat) => (show (((((w21.drewN n_).setCell ⟨gb256, 0, none⟩ (.int .i64 ((rd_T37 l0 x23_2).f0))).setCell ⟨gb256, 1, none⟩ (.int .i64 ((rd_T37 l0 x23_2).f1))).setCell ⟨gb256, 2, none⟩ (.int .i64 ((rd_T37 l0 x23_2).f2)))).cell? _ = some _ from hx257_2)); clear hn257_0; clear hn257_1; clear hn257_2; replace p257 := eq_true p257; replace q257 := eq_true q257; have p258 : 0 ≤ (0 : Int) := (by omega); have q258 : 0 < (l0.length : Int) := of_decide_eq_true qB98; obtain ⟨ad258, e258, hx258_0, hx258_1, hx258_2⟩ := at_T37 HR0.out 0 p258 q258; obtain rfl : ad255 = ad258 := (by injection e258); have qi258 : (0 < l0.length) = True := eq_true (by omega); (try rw [show ((0 : Int)).toNat = 0 from rfl] at hx258_0); (try rw [show 0 * 3 = 0 from rfl] at hx258_0); (try rw [Addr.add_zero'] at hx258_0); (try rw [show ((0 : Int)).toNat = 0 from rfl] at hx258_1); (try rw [show 0 * 3 = 0 from rfl] at hx258_1); (try rw [Addr.add_zero'] at hx258_1); (try rw [show ((0 : Int)).toNat = 0 from rfl] at hx258_2); (try rw [show 0 * 3 = 0 from rfl] at hx258_2); (try rw [Addr.add_zero'] at hx258_2); have hn258_0 : ad255.block ≠ gb256 := Nat.ne_of_lt (Nat.lt_of_lt_of_le qB97 GW256.out); have hn258_1 : ad255.block ≠ gb256 := Nat.ne_of_lt (Nat.lt_of_lt_of_le qB97 GW256.out); have hn258_2 : ad255.block ≠ gb256 := Nat.ne_of_lt (Nat.lt_of_lt_of_le qB97 GW256.out); replace hx258_0 := (HB.out.cell (World.block_lt_of_cell? w _ hx258_0)).trans hx258_0; replace hx258_1 := (HB.out.cell (World.block_lt_of_cell? w _ hx258_1)).trans hx258_1; replace hx258_2 := (HB.out.cell (World.block_lt_of_cell? w _ hx258_2)).trans hx258_2; replace hx258_0 := (cell_far (p := ⟨gb256, 0, none⟩) qB49 (.int .i64 ((rd_T37 l0 x23_2).f0))).trans hx258_0; replace hx258_1 := (cell_far (p := ⟨gb256, 0, none⟩) qB49 (.int .i64 ((rd_T37 l0 x23_2).f0))).trans hx258_1; replace hx258_2 := (cell_far (p := ⟨gb256, 0, none⟩) qB49 (.int .i64 ((rd_T37 l0 x23_2).f0))).trans hx258_2; replace hx258_0 := (cell_far (p := ⟨gb256, 1, none⟩) qB50 (.int .i64 ((rd_T37 l0 x23_2).f1))).trans hx258_0; replace hx258_1 := (cell_far (p := ⟨gb256, 1, none⟩) qB50 (.int .i64 ((rd_T37 l0 x23_2).f1))).trans hx258_1; replace hx258_2 := (cell_far (p := ⟨gb256, 1, none⟩) qB50 (.int .i64 ((rd_T37 l0 x23_2).f1))).trans hx258_2; replace hx258_0 := (cell_far (p := ⟨gb256, 2, none⟩) qB51 (.int .i64 ((rd_T37 l0 x23_2).f2))).trans hx258_0; replace hx258_1 := (cell_far (p := ⟨gb256, 2, none⟩) qB51 (.int .i64 ((rd_T37 l0 x23_2).f2))).trans hx258_1; replace hx258_2 := (cell_far (p := ⟨gb256, 2, none⟩) qB51 (.int .i64 ((rd_T37 l0 x23_2).f2))).trans hx258_2; (try have hy258_0 := fun (n_ : Nat) => (show (((((w21.drewN n_).setCell ⟨gb256, 0, none⟩ (.int .i64 ((rd_T37 l0 x23_2).f0))).setCell ⟨gb256, 1, none⟩ (.int .i64 ((rd_T37 l0 x23_2).f1))).setCell ⟨gb256, 2, none⟩ (.int .i64 ((rd_T37 l0 x23_2).f2)))).cell? _ = some _ from hx258_0)); (try have hy258_1 := fun (n_ : Nat) => (show (((((w21.drewN n_).setCell ⟨gb256, 0, none⟩ (.int .i64 ((rd_T37 l0 x23_2).f0))).setCell ⟨gb256, 1, none⟩ (.int .i64 ((rd_T37 l0 x23_2).f1))).setCell ⟨gb256, 2, none⟩ (.int .i64 ((rd_T37 l0 x23_2).f2)))).cell? _ = some _ from hx258_1)); (try have hy258_2 := fun (n_ : Nat) => (show (((((w21.drewN n_).setCell ⟨gb256, 0, none⟩ (.int .i64 ((rd_T37 l0 x23_2).f0))).setCell ⟨gb256, 1, none⟩ (.int .i64 ((rd_T37 l0 x23_2).f1))).setCell ⟨gb256, 2, none⟩ (.int .i64 ((rd_T37 l0 x23_2).f2)))).cell? _ = some _ from hx258_2)); clear hn258_0; clear hn258_1; clear hn258_2; replace p258 := eq_true p258; replace q258 := eq_true q258))
             repeat (go_quiet (first | ((with_reducible refine gate_dst (N := 6) rfl ?_); refine box_event ?hg (N := 6) ?hd (cs := #[.int .i64 0, .int .i64 0, .int .i64 0]) (t := 37) ?hr ?_; (case hd => rfl); (case hg => rfl); (case hr => first | (go_simp; done) | (go_simp; rfl)); intro gb256 hg w21 hbox hb; have n0_ := Aside0.mk (below_step qB44 hb); have n1_ := Aside0.mk (hbox); have n2_ := Aside0.mk ((by rw [hg]; exact (below_size qB44) : w.heap.size ≤ gb256)); have n3_ := Aside0.mk ((by rw [hg]; exact (below_size qB44) : w.heap.size ≤ gb256)); clear HB; have HB := n0_; have BK256 := n1_; have GW256 := n2_; have GE256 := n3_; clear n0_ n1_ n2_ n3_; clear hb hbox hg; have hcz22_0 : w21.cell? ⟨gb256, 0, none⟩ = some (.int .i64 0) := (blk_cell BK256.out 0).trans rfl; have hcz22_1 : w21.cell? ⟨gb256, 1, none⟩ = some (.int .i64 0) := (blk_cell BK256.out 1).trans rfl; have hcz22_2 : w21.cell? ⟨gb256, 2, none⟩ = some (.int .i64 0) := (blk_cell BK256.out 2).trans rfl; have hfz22_0 := blk_frozen BK256.out 0; have hfz22_1 := blk_frozen BK256.out 1; have hfz22_2 := blk_frozen BK256.out 2; have p257 : 0 ≤ (0 : Int) := (by omega); have q257 : 0 < (l0.length : Int) := of_decide_eq_true qB98; obtain ⟨ad257, e257, hx257_0, hx257_1, hx257_2⟩ := at_T37 HR0.out 0 p257 q257; obtain rfl : ad255 = ad257 := (by injection e257); have qi257 : (0 < l0.length) = True := eq_true (by omega); (try rw [show ((0 : Int)).toNat = 0 from rfl] at hx257_0); (try rw [show 0 * 3 = 0 from rfl] at hx257_0); (try rw [Addr.add_zero'] at hx257_0); (try rw [show ((0 : Int)).toNat = 0 from rfl] at hx257_1); (try rw [show 0 * 3 = 0 from rfl] at hx257_1); (try rw [Addr.add_zero'] at hx257_1); (try rw [show ((0 : Int)).toNat = 0 from rfl] at hx257_2); (try rw [show 0 * 3 = 0 from rfl] at hx257_2); (try rw [Addr.add_zero'] at hx257_2); have hn257_0 : ad255.block ≠ gb256 := Nat.ne_of_lt (Nat.lt_of_lt_of_le qB96 GW256.out); have hn257_1 : ad255.block ≠ gb256 := Nat.ne_of_lt (Nat.lt_of_lt_of_le qB96 GW256.out); have hn257_2 : ad255.block ≠ gb256 := Nat.ne_of_lt (Nat.lt_of_lt_of_le qB96 GW256.out); replace hx257_0 := (HB.out.cell (World.block_lt_of_cell? w _ hx257_0)).trans hx257_0; replace hx257_1 := (HB.out.cell (World.block_lt_of_cell? w _ hx257_1)).trans hx257_1; replace hx257_2 := (HB.out.cell (World.block_lt_of_cell? w _ hx257_2)).trans hx257_2; replace hx257_0 := (cell_far (p := ⟨gb256, 0, none⟩) qB46 (.int .i64 ((rd_T37 l0 x23_2).f0))).trans hx257_0; replace hx257_1 := (cell_far (p := ⟨gb256, 0, none⟩) qB46 (.int .i64 ((rd_T37 l0 x23_2).f0))).trans hx257_1; replace hx257_2 := (cell_far (p := ⟨gb256, 0, none⟩) qB46 (.int .i64 ((rd_T37 l0 x23_2).f0))).trans hx257_2; replace hx257_0 := (cell_far (p := ⟨gb256, 1, none⟩) qB47 (.int .i64 ((rd_T37 l0 x23_2).f1))).trans hx257_0; replace hx257_1 := (cell_far (p := ⟨gb256, 1, none⟩) qB47 (.int .i64 ((rd_T37 l0 x23_2).f1))).trans hx257_1; replace hx257_2 := (cell_far (p := ⟨gb256, 1, none⟩) qB47 (.int .i64 ((rd_T37 l0 x23_2).f1))).trans hx257_2; replace hx257_0 := (cell_far (p := ⟨gb256, 2, none⟩) qB48 (.int .i64 ((rd_T37 l0 x23_2).f2))).trans hx257_0; replace hx257_1 := (cell_far (p := ⟨gb256, 2, none⟩) qB48 (.int .i64 ((rd_T37 l0 x23_2).f2))).trans hx257_1; replace hx257_2 := (cell_far (p := ⟨gb256, 2, none⟩) qB48 (.int .i64 ((rd_T37 l0 x23_2).f2))).trans hx257_2; (try have hy257_0 := fun (n_ : Nat) => (show (((((w21.drewN n_).setCell ⟨gb256, 0, none⟩ (.int .i64 ((rd_T37 l0 x23_2).f0))).setCell ⟨gb256, 1, none⟩ (.int .i64 ((rd_T37 l0 x23_2).f1))).setCell ⟨gb256, 2, none⟩ (.int .i64 ((rd_T37 l0 x23_2).f2)))).cell? _ = some _ from hx257_0)); (try have hy257_1 := fun (n_ : Nat) => (show (((((w21.drewN n_).setCell ⟨gb256, 0, none⟩ (.int .i64 ((rd_T37 l0 x23_2).f0))).setCell ⟨gb256, 1, none⟩ (.int .i64 ((rd_T37 l0 x23_2).f1))).setCell ⟨gb256, 2, none⟩ (.int .i64 ((rd_T37 l0 x23_2).f2)))).cell? _ = some _ from hx257_1)); (try have hy257_2 := fun (n_ : Nat) => (show (((((w21.drewN n_).setCell ⟨gb256, 0, none⟩ (.int .i64 ((rd_T37 l0 x23_2).f0))).setCell ⟨gb256, 1, none⟩ (.int .i64 ((rd_T37 l0 x23_2).f1))).setCell ⟨gb256, 2, none⟩ (.int .i64 ((rd_T37 l0 x23_2).f2)))).cell? _ = some _ from hx257_2)); clear hn257_0; clear hn257_1; clear hn257_2; replace p257 := eq_true p257; replace q257 := eq_true q257; have p258 : 0 ≤ (0 : Int) := (by omega); have q258 : 0 < (l0.length : Int) := of_decide_eq_true qB98; obtain ⟨ad258, e258, hx258_0, hx258_1, hx258_2⟩ := at_T37 HR0.out 0 p258 q258; obtain rfl : ad255 = ad258 := (by injection e258); have qi258 : (0 < l0.length) = True := eq_true (by omega); (try rw [show ((0 : Int)).toNat = 0 from rfl] at hx258_0); (try rw [show 0 * 3 = 0 from rfl] at hx258_0); (try rw [Addr.add_zero'] at hx258_0); (try rw [show ((0 : Int)).toNat = 0 from rfl] at hx258_1); (try rw [show 0 * 3 = 0 from rfl] at hx258_1); (try rw [Addr.add_zero'] at hx258_1); (try rw [show ((0 : Int)).toNat = 0 from rfl] at hx258_2); (try rw [show 0 * 3 = 0 from rfl] at hx258_2); (try rw [Addr.add_zero'] at hx258_2); have hn258_0 : ad255.block ≠ gb256 := Nat.ne_of_lt (Nat.lt_of_lt_of_le qB97 GW256.out); have hn258_1 : ad255.block ≠ gb256 := Nat.ne_of_lt (Nat.lt_of_lt_of_le qB97 GW256.out); have hn258_2 : ad255.block ≠ gb256 := Nat.ne_of_lt (Nat.lt_of_lt_of_le qB97 GW256.out); replace hx258_0 := (HB.out.cell (World.block_lt_of_cell? w _ hx258_0)).trans hx258_0; replace hx258_1 := (HB.out.cell (World.block_lt_of_cell? w _ hx258_1)).trans hx258_1; replace hx258_2 := (HB.out.cell (World.block_lt_of_cell? w _ hx258_2)).trans hx258_2; replace hx258_0 := (cell_far (p := ⟨gb256, 0, none⟩) qB49 (.int .i64 ((rd_T37 l0 x23_2).f0))).trans hx258_0; replace hx258_1 := (cell_far (p := ⟨gb256, 0, none⟩) qB49 (.int .i64 ((rd_T37 l0 x23_2).f0))).trans hx258_1; replace hx258_2 := (cell_far (p := ⟨gb256, 0, none⟩) qB49 (.int .i64 ((rd_T37 l0 x23_2).f0))).trans hx258_2; replace hx258_0 := (cell_far (p := ⟨gb256, 1, none⟩) qB50 (.int .i64 ((rd_T37 l0 x23_2).f1))).trans hx258_0; replace hx258_1 := (cell_far (p := ⟨gb256, 1, none⟩) qB50 (.int .i64 ((rd_T37 l0 x23_2).f1))).trans hx258_1; replace hx258_2 := (cell_far (p := ⟨gb256, 1, none⟩) qB50 (.int .i64 ((rd_T37 l0 x23_2).f1))).trans hx258_2; replace hx258_0 := (cell_far (p := ⟨gb256, 2, none⟩) qB51 (.int .i64 ((rd_T37 l0 x23_2).f2))).trans hx258_0; replace hx258_1 := (cell_far (p := ⟨gb256, 2, none⟩) qB51 (.int .i64 ((rd_T37 l0 x23_2).f2))).trans hx258_1; replace hx258_2 := (cell_far (p := ⟨gb256, 2, none⟩) qB51 (.int .i64 ((rd_T37 l0 x23_2).f2))).trans hx258_2; (try have hy258_0 := fun (n_ : Nat) => (show (((((w21.drewN n_).setCell ⟨gb256, 0, none⟩ (.int .i64 ((rd_T37 l0 x23_2).f0))).setCell ⟨gb256, 1, none⟩ (.int .i64 ((rd_T37 l0 x23_2).f1))).setCell ⟨gb256, 2, none⟩ (.int .i64 ((rd_T37 l0 x23_2).f2)))).cell? _ = some _ from hx258_0)); (try have hy258_1 := fun (n_ : Nat) => (show (((((w21.drewN n_).setCell ⟨gb256, 0, none⟩ (.int .i64 ((rd_T37 l0 x23_2).f0))).setCell ⟨gb256, 1, none⟩ (.int .i64 ((rd_T37 l0 x23_2).f1))).setCell ⟨gb256, 2, none⟩ (.int .i64 ((rd_T37 l0 x23_2).f2)))).cell? _ = some _ from hx258_1)); (try have hy258_2 := fun (n_ : Nat) => (show (((((w21.drewN n_).setCell ⟨gb256, 0, none⟩ (.int .i64 ((rd_T37 l0 x23_2).f0))).setCell ⟨gb256, 1, none⟩ (.int .i64 ((rd_T37 l0 x23_2).f1))).setCell ⟨gb256, 2, none⟩ (.int .i64 ((rd_T37 l0 x23_2).f2)))).cell? _ = some _ from hx258_2)); clear hn258_0; clear hn258_1; clear hn258_2; replace p258 := eq_true p258; replace q258 := eq_true q258)); try go_wp2_with (first | ((with_reducible refine gate_dst (N := 6) rfl ?_); refine box_event ?hg (N := 6) ?hd (cs := #[.int .i64 0, .int .i64 0, .int .i64 0]) (t := 37) ?hr ?_; (case hd => rfl); (case hg => rfl); (case hr => first | (go_simp; done) | (go_simp; rfl)); intro gb256 hg w21 hbox hb; have n0_ := Aside0.mk (below_step qB44 hb); have n1_ := Aside0.mk (hbox); have n2_ := Aside0.mk ((by rw [hg]; exact (below_size qB44) : w.heap.size ≤ gb256)); have n3_ := Aside0.mk ((by rw [hg]; exact (below_size qB44) : w.heap.size ≤ gb256)); clear HB; have HB := n0_; have BK256 := n1_; have GW256 := n2_; have GE256 := n3_; clear n0_ n1_ n2_ n3_; clear hb hbox hg; have hcz22_0 : w21.cell? ⟨gb256, 0, none⟩ = some (.int .i64 0) := (blk_cell BK256.out 0).trans rfl; have hcz22_1 : w21.cell? ⟨gb256, 1, none⟩ = some (.int .i64 0) := (blk_cell BK256.out 1).trans rfl; have hcz22_2 : w21.cell? ⟨gb256, 2, none⟩ = some (.int .i64 0) := (blk_cell BK256.out 2).trans rfl; have hfz22_0 := blk_frozen BK256.out 0; have hfz22_1 := blk_frozen BK256.out 1; have hfz22_2 := blk_frozen BK256.out 2; have p257 : 0 ≤ (0 : Int) := (by omega); have q257 : 0 < (l0.length : Int) := of_decide_eq_true qB98; obtain ⟨ad257, e257, hx257_0, hx257_1, hx257_2⟩ := at_T37 HR0.out 0 p257 q257; obtain rfl : ad255 = ad257 := (by injection e257); have qi257 : (0 < l0.length) = True := eq_true (by omega); (try rw [show ((0 : Int)).toNat = 0 from rfl] at hx257_0); (try rw [show 0 * 3 = 0 from rfl] at hx257_0); (try rw [Addr.add_zero'] at hx257_0); (try rw [show ((0 : Int)).toNat = 0 from rfl] at hx257_1); (try rw [show 0 * 3 = 0 from rfl] at hx257_1); (try rw [Addr.add_zero'] at hx257_1); (try rw [show ((0 : Int)).toNat = 0 from rfl] at hx257_2); (try rw [show 0 * 3 = 0 from rfl] at hx257_2); (try rw [Addr.add_zero'] at hx257_2); have hn257_0 : ad255.block ≠ gb256 := Nat.ne_of_lt (Nat.lt_of_lt_of_le qB96 GW256.out); have hn257_1 : ad255.block ≠ gb256 := Nat.ne_of_lt (Nat.lt_of_lt_of_le qB96 GW256.out); have hn257_2 : ad255.block ≠ gb256 := Nat.ne_of_lt (Nat.lt_of_lt_of_le qB96 GW256.out); replace hx257_0 := (HB.out.cell (World.block_lt_of_cell? w _ hx257_0)).trans hx257_0; replace hx257_1 := (HB.out.cell (World.block_lt_of_cell? w _ hx257_1)).trans hx257_1; replace hx257_2 := (HB.out.cell (World.block_lt_of_cell? w _ hx257_2)).trans hx257_2; replace hx257_0 := (cell_far (p := ⟨gb256, 0, none⟩) qB46 (.int .i64 ((rd_T37 l0 x23_2).f0))).trans hx257_0; replace hx257_1 := (cell_far (p := ⟨gb256, 0, none⟩) qB46 (.int .i64 ((rd_T37 l0 x23_2).f0))).trans hx257_1; replace hx257_2 := (cell_far (p := ⟨gb256, 0, none⟩) qB46 (.int .i64 ((rd_T37 l0 x23_2).f0))).trans hx257_2; replace hx257_0 := (cell_far (p := ⟨gb256, 1, none⟩) qB47 (.int .i64 ((rd_T37 l0 x23_2).f1))).trans hx257_0; replace hx257_1 := (cell_far (p := ⟨gb256, 1, none⟩) qB47 (.int .i64 ((rd_T37 l0 x23_2).f1))).trans hx257_1; replace hx257_2 := (cell_far (p := ⟨gb256, 1, none⟩) qB47 (.int .i64 ((rd_T37 l0 x23_2).f1))).trans hx257_2; replace hx257_0 := (cell_far (p := ⟨gb256, 2, none⟩) qB48 (.int .i64 ((rd_T37 l0 x23_2).f2))).trans hx257_0; replace hx257_1 := (cell_far (p := ⟨gb256, 2, none⟩) qB48 (.int .i64 ((rd_T37 l0 x23_2).f2))).trans hx257_1; replace hx257_2 := (cell_far (p := ⟨gb256, 2, none⟩) qB48 (.int .i64 ((rd_T37 l0 x23_2).f2))).trans hx257_2; (try have hy257_0 := fun (n_ : Nat) => (show (((((w21.drewN n_).setCell ⟨gb256, 0, none⟩ (.int .i64 ((rd_T37 l0 x23_2).f0))).setCell ⟨gb256, 1, none⟩ (.int .i64 ((rd_T37 l0 x23_2).f1))).setCell ⟨gb256, 2, none⟩ (.int .i64 ((rd_T37 l0 x23_2).f2)))).cell? _ = some _ from hx257_0)); (try have hy257_1 := fun (n_ : Nat) => (show (((((w21.drewN n_).setCell ⟨gb256, 0, none⟩ (.int .i64 ((rd_T37 l0 x23_2).f0))).setCell ⟨gb256, 1, none⟩ (.int .i64 ((rd_T37 l0 x23_2).f1))).setCell ⟨gb256, 2, none⟩ (.int .i64 ((rd_T37 l0 x23_2).f2)))).cell? _ = some _ from hx257_1)); (try have hy257_2 := fun (n_ : Nat) => (show (((((w21.drewN n_).setCell ⟨gb256, 0, none⟩ (.int .i64 ((rd_T37 l0 x23_2).f0))).setCell ⟨gb256, 1, none⟩ (.int .i64 ((rd_T37 l0 x23_2).f1))).setCell ⟨gb256, 2, none⟩ (.int .i64 ((rd_T37 l0 x23_2).f2)))).cell? _ = some _ from hx257_2)); clear hn257_0; clear hn257_1; clear hn257_2; replace p257 := eq_true p257; replace q257 := eq_true q257; have p258 : 0 ≤ (0 : Int) := (by omega); have q258 : 0 < (l0.length : Int) := of_decide_eq_true qB98; obtain ⟨ad258, e258, hx258_0, hx258_1, hx258_2⟩ := at_T37 HR0.out 0 p258 q258; obtain rfl : ad255 = ad258 := (by injection e258); have qi258 : (0 < l0.length) = True := eq_true (by omega); (try rw [show ((0 : Int)).toNat = 0 from rfl] at hx258_0); (try rw [show 0 * 3 = 0 from rfl] at hx258_0); (try rw [Addr.add_zero'] at hx258_0); (try rw [show ((0 : Int)).toNat = 0 from rfl] at hx258_1); (try rw [show 0 * 3 = 0 from rfl] at hx258_1); (try rw [Addr.add_zero'] at hx258_1); (try rw [show ((0 : Int)).toNat = 0 from rfl] at hx258_2); (try rw [show 0 * 3 = 0 from rfl] at hx258_2); (try rw [Addr.add_zero'] at hx258_2); have hn258_0 : ad255.block ≠ gb256 := Nat.ne_of_lt (Nat.lt_of_lt_of_le qB97 GW256.out); have hn258_1 : ad255.block ≠ gb256 := Nat.ne_of_lt (Nat.lt_of_lt_of_le qB97 GW256.out); have hn258_2 : ad255.block ≠ gb256 := Nat.ne_of_lt (Nat.lt_of_lt_of_le qB97 GW256.out); replace hx258_0 := (HB.out.cell (World.block_lt_of_cell? w _ hx258_0)).trans hx258_0; replace hx258_1 := (HB.out.cell (World.block_lt_of_cell? w _ hx258_1)).trans hx258_1; replace hx258_2 := (HB.out.cell (World.block_lt_of_cell? w _ hx258_2)).trans hx258_2; replace hx258_0 := (cell_far (p := ⟨gb256, 0, none⟩) qB49 (.int .i64 ((rd_T37 l0 x23_2).f0))).trans hx258_0; replace hx258_1 := (cell_far (p := ⟨gb256, 0, none⟩) qB49 (.int .i64 ((rd_T37 l0 x23_2).f0))).trans hx258_1; replace hx258_2 := (cell_far (p := ⟨gb256, 0, none⟩) qB49 (.int .i64 ((rd_T37 l0 x23_2).f0))).trans hx258_2; replace hx258_0 := (cell_far (p := ⟨gb256, 1, none⟩) qB50 (.int .i64 ((rd_T37 l0 x23_2).f1))).trans hx258_0; replace hx258_1 := (cell_far (p := ⟨gb256, 1, none⟩) qB50 (.int .i64 ((rd_T37 l0 x23_2).f1))).trans hx258_1; replace hx258_2 := (cell_far (p := ⟨gb256, 1, none⟩) qB50 (.int .i64 ((rd_T37 l0 x23_2).f1))).trans hx258_2; replace hx258_0 := (cell_far (p := ⟨gb256, 2, none⟩) qB51 (.int .i64 ((rd_T37 l0 x23_2).f2))).trans hx258_0; replace hx258_1 := (cell_far (p := ⟨gb256, 2, none⟩) qB51 (.int .i64 ((rd_T37 l0 x23_2).f2))).trans hx258_1; replace hx258_2 := (cell_far (p := ⟨gb256, 2, none⟩) qB51 (.int .i64 ((rd_T37 l0 x23_2).f2))).trans hx258_2; (try have hy258_0 := fun (n_ : Nat) => (show (((((w21.drewN n_).setCell ⟨gb256, 0, none⟩ (.int .i64 ((rd_T37 l0 x23_2).f0))).setCell ⟨gb256, 1, none⟩ (.int .i64 ((rd_T37 l0 x23_2).f1))).setCell ⟨gb256, 2, none⟩ (.int .i64 ((rd_T37 l0 x23_2).f2)))).cell? _ = some _ from hx258_0)); (try have hy258_1 := fun (n_ : Nat) => (show (((((w21.drewN n_).setCell ⟨gb256, 0, none⟩ (.int .i64 ((rd_T37 l0 x23_2).f0))).setCell ⟨gb256, 1, none⟩ (.int .i64 ((rd_T37 l0 x23_2).f1))).setCell ⟨gb256, 2, none⟩ (.int .i64 ((rd_T37 l0 x23_2).f2)))).cell? _ = some _ from hx258_1)); (try have hy258_2 := fun (n_ : Nat) => (show (((((w21.drewN n_).setCell ⟨gb256, 0, none⟩ (.int .i64 ((rd_T37 l0 x23_2).f0))).setCell ⟨gb256, 1, none⟩ (.int .i64 ((rd_T37 l0 x23_2).f1))).setCell ⟨gb256, 2, none⟩ (.int .i64 ((rd_T37 l0 x23_2).f2)))).cell? _ = some _ from hx258_2)); clear hn258_0; clear hn258_1; clear hn258_2; replace p258 := eq_true p258; replace q258 := eq_true q258)))
             (first | go_roundg k2 | ((try simp only [add_plain] at *); go_roundg k2))
             case measure => have := HK1.out; have := HK2.out; omega
             case rel => exact ⟨(wrap64 (x23_2 + 1)), qB99, H', ⟨by have := HK1.out; have := HK2.out; omega⟩, ⟨by repeat (first | (with_reducible first | exact HB.out | apply below_alloc | apply pw_below_drewN | apply below_drew1 | refine below_set ?_ GE256.out) | exact HB.out)⟩⟩
            ·rw [if_neg c20] at H
             have c20b0 : (((rd_T37 l0 x23_2).f1) == ((rd_T37 l0 0).f1)) = false := beq_eq_false_iff_ne.mpr c20
             have c20b1 : (((rd_T37 l0 x23_2).f1) != ((rd_T37 l0 0).f1)) = true := bne_iff_ne.mpr c20
             obtain rfl := Option.some.inj H
             have p255 : 0 ≤ (x23_2 : Int) := of_decide_eq_true qB98
             have q255 : x23_2 < (l0.length : Int) := of_decide_eq_true qB98
             obtain ⟨ad255, e255, hx255_0, hx255_1, hx255_2⟩ := at_T37 HR0.out x23_2 p255 q255
             cases e255
             replace hx255_0 := (HB.out.cell (World.block_lt_of_cell? w _ hx255_0)).trans hx255_0
             replace hx255_1 := (HB.out.cell (World.block_lt_of_cell? w _ hx255_1)).trans hx255_1
             replace hx255_2 := (HB.out.cell (World.block_lt_of_cell? w _ hx255_2)).trans hx255_2
             replace p255 := eq_true p255
             replace q255 := eq_true q255
             go_wp2_with (first | ((with_reducible refine gate_dst (N := 6) rfl ?_); refine box_event ?hg (N := 6) ?hd (cs := #[.int .i64 0, .int .i64 0, .int .i64 0]) (t := 37) ?hr ?_; (case hd => rfl); (case hg => rfl); (case hr => first | (go_simp; done) | (go_simp; rfl)); intro gb256 hg w23 hbox hb; have n0_ := Aside0.mk (below_step qB44 hb); have n1_ := Aside0.mk (hbox); have n2_ := Aside0.mk ((by rw [hg]; exact (below_size qB44) : w.heap.size ≤ gb256)); have n3_ := Aside0.mk ((by rw [hg]; exact (below_size qB44) : w.heap.size ≤ gb256)); clear HB; have HB := n0_; have BK256 := n1_; have GW256 := n2_; have GE256 := n3_; clear n0_ n1_ n2_ n3_; clear hb hbox hg; have hcz24_0 : w23.cell? ⟨gb256, 0, none⟩ = some (.int .i64 0) := (blk_cell BK256.out 0).trans rfl; have hcz24_1 : w23.cell? ⟨gb256, 1, none⟩ = some (.int .i64 0) := (blk_cell BK256.out 1).trans rfl; have hcz24_2 : w23.cell? ⟨gb256, 2, none⟩ = some (.int .i64 0) := (blk_cell BK256.out 2).trans rfl; have hfz24_0 := blk_frozen BK256.out 0; have hfz24_1 := blk_frozen BK256.out 1; have hfz24_2 := blk_frozen BK256.out 2; have p257 : 0 ≤ (0 : Int) := (by omega); have q257 : 0 < (l0.length : Int) := of_decide_eq_true qB98; obtain ⟨ad257, e257, hx257_0, hx257_1, hx257_2⟩ := at_T37 HR0.out 0 p257 q257; obtain rfl : ad255 = ad257 := (by injection e257); have qi257 : (0 < l0.length) = True := eq_true (by omega); (try rw [show ((0 : Int)).toNat = 0 from rfl] at hx257_0); (try rw [show 0 * 3 = 0 from rfl] at hx257_0); (try rw [Addr.add_zero'] at hx257_0); (try rw [show ((0 : Int)).toNat = 0 from rfl] at hx257_1); (try rw [show 0 * 3 = 0 from rfl] at hx257_1); (try rw [Addr.add_zero'] at hx257_1); (try rw [show ((0 : Int)).toNat = 0 from rfl] at hx257_2); (try rw [show 0 * 3 = 0 from rfl] at hx257_2); (try rw [Addr.add_zero'] at hx257_2); have hn257_0 : ad255.block ≠ gb256 := Nat.ne_of_lt (Nat.lt_of_lt_of_le qB96 GW256.out); have hn257_1 : ad255.block ≠ gb256 := Nat.ne_of_lt (Nat.lt_of_lt_of_le qB96 GW256.out); have hn257_2 : ad255.block ≠ gb256 := Nat.ne_of_lt (Nat.lt_of_lt_of_le qB96 GW256.out); replace hx257_0 := (HB.out.cell (World.block_lt_of_cell? w _ hx257_0)).trans hx257_0; replace hx257_1 := (HB.out.cell (World.block_lt_of_cell? w _ hx257_1)).trans hx257_1; replace hx257_2 := (HB.out.cell (World.block_lt_of_cell? w _ hx257_2)).trans hx257_2; replace hx257_0 := (cell_far (p := ⟨gb256, 0, none⟩) qB46 (.int .i64 ((rd_T37 l0 x23_2).f0))).trans hx257_0; replace hx257_1 := (cell_far (p := ⟨gb256, 0, none⟩) qB46 (.int .i64 ((rd_T37 l0 x23_2).f0))).trans hx257_1; replace hx257_2 := (cell_far (p := ⟨gb256, 0, none⟩) qB46 (.int .i64 ((rd_T37 l0 x23_2).f0))).trans hx257_2; replace hx257_0 := (cell_far (p := ⟨gb256, 1, none⟩) qB47 (.int .i64 ((rd_T37 l0 x23_2).f1))).trans hx257_0; replace hx257_1 := (cell_far (p := ⟨gb256, 1, none⟩) qB47 (.int .i64 ((rd_T37 l0 x23_2).f1))).trans hx257_1; replace hx257_2 := (cell_far (p := ⟨gb256, 1, none⟩) qB47 (.int .i64 ((rd_T37 l0 x23_2).f1))).trans hx257_2; replace hx257_0 := (cell_far (p := ⟨gb256, 2, none⟩) qB48 (.int .i64 ((rd_T37 l0 x23_2).f2))).trans hx257_0; replace hx257_1 := (cell_far (p := ⟨gb256, 2, none⟩) qB48 (.int .i64 ((rd_T37 l0 x23_2).f2))).trans hx257_1; replace hx257_2 := (cell_far (p := ⟨gb256, 2, none⟩) qB48 (.int .i64 ((rd_T37 l0 x23_2).f2))).trans hx257_2; (try have hy257_0 := fun (n_ : Nat) => (show (((((w23.drewN n_).setCell ⟨gb256, 0, none⟩ (.int .i64 ((rd_T37 l0 x23_2).f0))).setCell ⟨gb256, 1, none⟩ (.int .i64 ((rd_T37 l0 x23_2).f1))).setCell ⟨gb256, 2, none⟩ (.int .i64 ((rd_T37 l0 x23_2).f2)))).cell? _ = some _ from hx257_0)); (try have hy257_1 := fun (n_ : Nat) => (show (((((w23.drewN n_).setCell ⟨gb256, 0, none⟩ (.int .i64 ((rd_T37 l0 x23_2).f0))).setCell ⟨gb256, 1, none⟩ (.int .i64 ((rd_T37 l0 x23_2).f1))).setCell ⟨gb256, 2, none⟩ (.int .i64 ((rd_T37 l0 x23_2).f2)))).cell? _ = some _ from hx257_1)); (try have hy257_2 := fun (n_ : Nat) => (show (((((w23.drewN n_).setCell ⟨gb256, 0, none⟩ (.int .i64 ((rd_T37 l0 x23_2).f0))).setCell ⟨gb256, 1, none⟩ (.int .i64 ((rd_T37 l0 x23_2).f1))).setCell ⟨gb256, 2, none⟩ (.int .i64 ((rd_T37 l0 x23_2).f2)))).cell? _ = some _ from hx257_2)); clear hn257_0; clear hn257_1; clear hn257_2; replace p257 := eq_true p257; replace q257 := eq_true q257; have p258 : 0 ≤ (0 : Int) := (by omega); have q258 : 0 < (l0.length : Int) := of_decide_eq_true qB98; obtain ⟨ad258, e258, hx258_0, hx258_1, hx258_2⟩ := at_T37 HR0.out 0 p258 q258; obtain rfl : ad255 = ad258 := (by injection e258); have qi258 : (0 < l0.length) = True := eq_true (by omega); (try rw [show ((0 : Int)).toNat = 0 from rfl] at hx258_0); (try rw [show 0 * 3 = 0 from rfl] at hx258_0); (try rw [Addr.add_zero'] at hx258_0); (try rw [show ((0 : Int)).toNat = 0 from rfl] at hx258_1); (try rw [show 0 * 3 = 0 from rfl] at hx258_1); (try rw [Addr.add_zero'] at hx258_1); (try rw [show ((0 : Int)).toNat = 0 from rfl] at hx258_2); (try rw [show 0 * 3 = 0 from rfl] at hx258_2); (try rw [Addr.add_zero'] at hx258_2); have hn258_0 : ad255.block ≠ gb256 := Nat.ne_of_lt (Nat.lt_of_lt_of_le qB97 GW256.out); have hn258_1 : ad255.block ≠ gb256 := Nat.ne_of_lt (Nat.lt_of_lt_of_le qB97 GW256.out); have hn258_2 : ad255.block ≠ gb256 := Nat.ne_of_lt (Nat.lt_of_lt_of_le qB97 GW256.out); replace hx258_0 := (HB.out.cell (World.block_lt_of_cell? w _ hx258_0)).trans hx258_0; replace hx258_1 := (HB.out.cell (World.block_lt_of_cell? w _ hx258_1)).trans hx258_1; replace hx258_2 := (HB.out.cell (World.block_lt_of_cell? w _ hx258_2)).trans hx258_2; replace hx258_0 := (cell_far (p := ⟨gb256, 0, none⟩) qB49 (.int .i64 ((rd_T37 l0 x23_2).f0))).trans hx258_0; replace hx258_1 := (cell_far (p := ⟨gb256, 0, none⟩) qB49 (.int .i64 ((rd_T37 l0 x23_2).f0))).trans hx258_1; replace hx258_2 := (cell_far (p := ⟨gb256, 0, none⟩) qB49 (.int .i64 ((rd_T37 l0 x23_2).f0))).trans hx258_2; replace hx258_0 := (cell_far (p := ⟨gb256, 1, none⟩) qB50 (.int .i64 ((rd_T37 l0 x23_2).f1))).trans hx258_0; replace hx258_1 := (cell_far (p := ⟨gb256, 1, none⟩) qB50 (.int .i64 ((rd_T37 l0 x23_2).f1))).trans hx258_1; replace hx258_2 := (cell_far (p := ⟨gb256, 1, none⟩) qB50 (.int .i64 ((rd_T37 l0 x23_2).f1))).trans hx258_2; replace hx258_0 := (cell_far (p := ⟨gb256, 2, none⟩) qB51 (.int .i64 ((rd_T37 l0 x23_2).f2))).trans hx258_0; replace hx258_1 := (cell_far (p := ⟨gb256, 2, none⟩) qB51 (.int .i64 ((rd_T37 l0 x23_2).f2))).trans hx258_1; replace hx258_2 := (cell_far (p := ⟨gb256, 2, none⟩) qB51 (.int .i64 ((rd_T37 l0 x23_2).f2))).trans hx258_2; (try have hy258_0 := fun (n_ : Nat) => (show (((((w23.drewN n_).setCell ⟨gb256, 0, none⟩ (.int .i64 ((rd_T37 l0 x23_2).f0))).setCell ⟨gb256, 1, none⟩ (.int .i64 ((rd_T37 l0 x23_2).f1))).setCell ⟨gb256, 2, none⟩ (.int .i64 ((rd_T37 l0 x23_2).f2)))).cell? _ = some _ from hx258_0)); (try have hy258_1 := fun (n_ : Nat) => (show (((((w23.drewN n_).setCell ⟨gb256, 0, none⟩ (.int .i64 ((rd_T37 l0 x23_2).f0))).setCell ⟨gb256, 1, none⟩ (.int .i64 ((rd_T37 l0 x23_2).f1))).setCell ⟨gb256, 2, none⟩ (.int .i64 ((rd_T37 l0 x23_2).f2)))).cell? _ = some _ from hx258_1)); (try have hy258_2 := fun (n_ : Nat) => (show (((((w23.drewN n_).setCell ⟨gb256, 0, none⟩ (.int .i64 ((rd_T37 l0 x23_2).f0))).setCell ⟨gb256, 1, none⟩ (.int .i64 ((rd_T37 l0 x23_2).f1))).setCell ⟨gb256, 2, none⟩ (.int .i64 ((rd_T37 l0 x23_2).f2)))).cell? _ = some _ from hx258_2)); clear hn258_0; clear hn258_1; clear hn258_2; replace p258 := eq_true p258; replace q258 := eq_true q258))
             repeat (go_quiet (first | ((with_reducible refine gate_dst (N := 6) rfl ?_); refine box_event ?hg (N := 6) ?hd (cs := #[.int .i64 0, .int .i64 0, .int .i64 0]) (t := 37) ?hr ?_; (case hd => rfl); (case hg => rfl); (case hr => first | (go_simp; done) | (go_simp; rfl)); intro gb256 hg w23 hbox hb; have n0_ := Aside0.mk (below_step qB44 hb); have n1_ := Aside0.mk (hbox); have n2_ := Aside0.mk ((by rw [hg]; exact (below_size qB44) : w.heap.size ≤ gb256)); have n3_ := Aside0.mk ((by rw [hg]; exact (below_size qB44) : w.heap.size ≤ gb256)); clear HB; have HB := n0_; have BK256 := n1_; have GW256 := n2_; have GE256 := n3_; clear n0_ n1_ n2_ n3_; clear hb hbox hg; have hcz24_0 : w23.cell? ⟨gb256, 0, none⟩ = some (.int .i64 0) := (blk_cell BK256.out 0).trans rfl; have hcz24_1 : w23.cell? ⟨gb256, 1, none⟩ = some (.int .i64 0) := (blk_cell BK256.out 1).trans rfl; have hcz24_2 : w23.cell? ⟨gb256, 2, none⟩ = some (.int .i64 0) := (blk_cell BK256.out 2).trans rfl; have hfz24_0 := blk_frozen BK256.out 0; have hfz24_1 := blk_frozen BK256.out 1; have hfz24_2 := blk_frozen BK256.out 2; have p257 : 0 ≤ (0 : Int) := (by omega); have q257 : 0 < (l0.length : Int) := of_decide_eq_true qB98; obtain ⟨ad257, e257, hx257_0, hx257_1, hx257_2⟩ := at_T37 HR0.out 0 p257 q257; obtain rfl : ad255 = ad257 := (by injection e257); have qi257 : (0 < l0.length) = True := eq_true (by omega); (try rw [show ((0 : Int)).toNat = 0 from rfl] at hx257_0); (try rw [show 0 * 3 = 0 from rfl] at hx257_0); (try rw [Addr.add_zero'] at hx257_0); (try rw [show ((0 : Int)).toNat = 0 from rfl] at hx257_1); (try rw [show 0 * 3 = 0 from rfl] at hx257_1); (try rw [Addr.add_zero'] at hx257_1); (try rw [show ((0 : Int)).toNat = 0 from rfl] at hx257_2); (try rw [show 0 * 3 = 0 from rfl] at hx257_2); (try rw [Addr.add_zero'] at hx257_2); have hn257_0 : ad255.block ≠ gb256 := Nat.ne_of_lt (Nat.lt_of_lt_of_le qB96 GW256.out); have hn257_1 : ad255.block ≠ gb256 := Nat.ne_of_lt (Nat.lt_of_lt_of_le qB96 GW256.out); have hn257_2 : ad255.block ≠ gb256 := Nat.ne_of_lt (Nat.lt_of_lt_of_le qB96 GW256.out); replace hx257_0 := (HB.out.cell (World.block_lt_of_cell? w _ hx257_0)).trans hx257_0; replace hx257_1 := (HB.out.cell (World.block_lt_of_cell? w _ hx257_1)).trans hx257_1; replace hx257_2 := (HB.out.cell (World.block_lt_of_cell? w _ hx257_2)).trans hx257_2; replace hx257_0 := (cell_far (p := ⟨gb256, 0, none⟩) qB46 (.int .i64 ((rd_T37 l0 x23_2).f0))).trans hx257_0; replace hx257_1 := (cell_far (p := ⟨gb256, 0, none⟩) qB46 (.int .i64 ((rd_T37 l0 x23_2).f0))).trans hx257_1; replace hx257_2 := (cell_far (p := ⟨gb256, 0, none⟩) qB46 (.int .i64 ((rd_T37 l0 x23_2).f0))).trans hx257_2; replace hx257_0 := (cell_far (p := ⟨gb256, 1, none⟩) qB47 (.int .i64 ((rd_T37 l0 x23_2).f1))).trans hx257_0; replace hx257_1 := (cell_far (p := ⟨gb256, 1, none⟩) qB47 (.int .i64 ((rd_T37 l0 x23_2).f1))).trans hx257_1; replace hx257_2 := (cell_far (p := ⟨gb256, 1, none⟩) qB47 (.int .i64 ((rd_T37 l0 x23_2).f1))).trans hx257_2; replace hx257_0 := (cell_far (p := ⟨gb256, 2, none⟩) qB48 (.int .i64 ((rd_T37 l0 x23_2).f2))).trans hx257_0; replace hx257_1 := (cell_far (p := ⟨gb256, 2, none⟩) qB48 (.int .i64 ((rd_T37 l0 x23_2).f2))).trans hx257_1; replace hx257_2 := (cell_far (p := ⟨gb256, 2, none⟩) qB48 (.int .i64 ((rd_T37 l0 x23_2).f2))).trans hx257_2; (try have hy257_0 := fun (n_ : Nat) => (show (((((w23.drewN n_).setCell ⟨gb256, 0, none⟩ (.int .i64 ((rd_T37 l0 x23_2).f0))).setCell ⟨gb256, 1, none⟩ (.int .i64 ((rd_T37 l0 x23_2).f1))).setCell ⟨gb256, 2, none⟩ (.int .i64 ((rd_T37 l0 x23_2).f2)))).cell? _ = some _ from hx257_0)); (try have hy257_1 := fun (n_ : Nat) => (show (((((w23.drewN n_).setCell ⟨gb256, 0, none⟩ (.int .i64 ((rd_T37 l0 x23_2).f0))).setCell ⟨gb256, 1, none⟩ (.int .i64 ((rd_T37 l0 x23_2).f1))).setCell ⟨gb256, 2, none⟩ (.int .i64 ((rd_T37 l0 x23_2).f2)))).cell? _ = some _ from hx257_1)); (try have hy257_2 := fun (n_ : Nat) => (show (((((w23.drewN n_).setCell ⟨gb256, 0, none⟩ (.int .i64 ((rd_T37 l0 x23_2).f0))).setCell ⟨gb256, 1, none⟩ (.int .i64 ((rd_T37 l0 x23_2).f1))).setCell ⟨gb256, 2, none⟩ (.int .i64 ((rd_T37 l0 x23_2).f2)))).cell? _ = some _ from hx257_2)); clear hn257_0; clear hn257_1; clear hn257_2; replace p257 := eq_true p257; replace q257 := eq_true q257; have p258 : 0 ≤ (0 : Int) := (by omega); have q258 : 0 < (l0.length : Int) := of_decide_eq_true qB98; obtain ⟨ad258, e258, hx258_0, hx258_1, hx258_2⟩ := at_T37 HR0.out 0 p258 q258; obtain rfl : ad255 = ad258 := (by injection e258); have qi258 : (0 < l0.length) = True := eq_true (by omega); (try rw [show ((0 : Int)).toNat = 0 from rfl] at hx258_0); (try rw [show 0 * 3 = 0 from rfl] at hx258_0); (try rw [Addr.add_zero'] at hx258_0); (try rw [show ((0 : Int)).toNat = 0 from rfl] at hx258_1); (try rw [show 0 * 3 = 0 from rfl] at hx258_1); (try rw [Addr.add_zero'] at hx258_1); (try rw [show ((0 : Int)).toNat = 0 from rfl] at hx258_2); (try rw [show 0 * 3 = 0 from rfl] at hx258_2); (try rw [Addr.add_zero'] at hx258_2); have hn258_0 : ad255.block ≠ gb256 := Nat.ne_of_lt (Nat.lt_of_lt_of_le qB97 GW256.out); have hn258_1 : ad255.block ≠ gb256 := Nat.ne_of_lt (Nat.lt_of_lt_of_le qB97 GW256.out); have hn258_2 : ad255.block ≠ gb256 := Nat.ne_of_lt (Nat.lt_of_lt_of_le qB97 GW256.out); replace hx258_0 := (HB.out.cell (World.block_lt_of_cell? w _ hx258_0)).trans hx258_0; replace hx258_1 := (HB.out.cell (World.block_lt_of_cell? w _ hx258_1)).trans hx258_1; replace hx258_2 := (HB.out.cell (World.block_lt_of_cell? w _ hx258_2)).trans hx258_2; replace hx258_0 := (cell_far (p := ⟨gb256, 0, none⟩) qB49 (.int .i64 ((rd_T37 l0 x23_2).f0))).trans hx258_0; replace hx258_1 := (cell_far (p := ⟨gb256, 0, none⟩) qB49 (.int .i64 ((rd_T37 l0 x23_2).f0))).trans hx258_1; replace hx258_2 := (cell_far (p := ⟨gb256, 0, none⟩) qB49 (.int .i64 ((rd_T37 l0 x23_2).f0))).trans hx258_2; replace hx258_0 := (cell_far (p := ⟨gb256, 1, none⟩) qB50 (.int .i64 ((rd_T37 l0 x23_2).f1))).trans hx258_0; replace hx258_1 := (cell_far (p := ⟨gb256, 1, none⟩) qB50 (.int .i64 ((rd_T37 l0 x23_2).f1))).trans hx258_1; replace hx258_2 := (cell_far (p := ⟨gb256, 1, none⟩) qB50 (.int .i64 ((rd_T37 l0 x23_2).f1))).trans hx258_2; replace hx258_0 := (cell_far (p := ⟨gb256, 2, none⟩) qB51 (.int .i64 ((rd_T37 l0 x23_2).f2))).trans hx258_0; replace hx258_1 := (cell_far (p := ⟨gb256, 2, none⟩) qB51 (.int .i64 ((rd_T37 l0 x23_2).f2))).trans hx258_1; replace hx258_2 := (cell_far (p := ⟨gb256, 2, none⟩) qB51 (.int .i64 ((rd_T37 l0 x23_2).f2))).trans hx258_2; (try have hy258_0 := fun (n_ : Nat) => (show (((((w23.drewN n_).setCell ⟨gb256, 0, none⟩ (.int .i64 ((rd_T37 l0 x23_2).f0))).setCell ⟨gb256, 1, none⟩ (.int .i64 ((rd_T37 l0 x23_2).f1))).setCell ⟨gb256, 2, none⟩ (.int .i64 ((rd_T37 l0 x23_2).f2)))).cell? _ = some _ from hx258_0)); (try have hy258_1 := fun (n_ : Nat) => (show (((((w23.drewN n_).setCell ⟨gb256, 0, none⟩ (.int .i64 ((rd_T37 l0 x23_2).f0))).setCell ⟨gb256, 1, none⟩ (.int .i64 ((rd_T37 l0 x23_2).f1))).setCell ⟨gb256, 2, none⟩ (.int .i64 ((rd_T37 l0 x23_2).f2)))).cell? _ = some _ from hx258_1)); (try have hy258_2 := fun (n_ : Nat) => (show (((((w23.drewN n_).setCell ⟨gb256, 0, none⟩ (.int .i64 ((rd_T37 l0 x23_2).f0))).setCell ⟨gb256, 1, none⟩ (.int .i64 ((rd_T37 l0 x23_2).f1))).setCell ⟨gb256, 2, none⟩ (.int .i64 ((rd_T37 l0 x23_2).f2)))).cell? _ = some _ from hx258_2)); clear hn258_0; clear hn258_1; clear hn258_2; replace p258 := eq_true p258; replace q258 := eq_true q258)); try go_wp2_with (first | ((with_reducible refine gate_dst (N := 6) rfl ?_); refine box_event ?hg (N := 6) ?hd (cs := #[.int .i64 0, .int .i64 0, .int .i64 0]) (t := 37) ?hr ?_; (case hd => rfl); (case hg => rfl); (case hr => first | (go_simp; done) | (go_simp; rfl)); intro gb256 hg w23 hbox hb; have n0_ := Aside0.mk (below_step qB44 hb); have n1_ := Aside0.mk (hbox); have n2_ := Aside0.mk ((by rw [hg]; exact (below_size qB44) : w.heap.size ≤ gb256)); have n3_ := Aside0.mk ((by rw [hg]; exact (below_size qB44) : w.heap.size ≤ gb256)); clear HB; have HB := n0_; have BK256 := n1_; have GW256 := n2_; have GE256 := n3_; clear n0_ n1_ n2_ n3_; clear hb hbox hg; have hcz24_0 : w23.cell? ⟨gb256, 0, none⟩ = some (.int .i64 0) := (blk_cell BK256.out 0).trans rfl; have hcz24_1 : w23.cell? ⟨gb256, 1, none⟩ = some (.int .i64 0) := (blk_cell BK256.out 1).trans rfl; have hcz24_2 : w23.cell? ⟨gb256, 2, none⟩ = some (.int .i64 0) := (blk_cell BK256.out 2).trans rfl; have hfz24_0 := blk_frozen BK256.out 0; have hfz24_1 := blk_frozen BK256.out 1; have hfz24_2 := blk_frozen BK256.out 2; have p257 : 0 ≤ (0 : Int) := (by omega); have q257 : 0 < (l0.length : Int) := of_decide_eq_true qB98; obtain ⟨ad257, e257, hx257_0, hx257_1, hx257_2⟩ := at_T37 HR0.out 0 p257 q257; obtain rfl : ad255 = ad257 := (by injection e257); have qi257 : (0 < l0.length) = True := eq_true (by omega); (try rw [show ((0 : Int)).toNat = 0 from rfl] at hx257_0); (try rw [show 0 * 3 = 0 from rfl] at hx257_0); (try rw [Addr.add_zero'] at hx257_0); (try rw [show ((0 : Int)).toNat = 0 from rfl] at hx257_1); (try rw [show 0 * 3 = 0 from rfl] at hx257_1); (try rw [Addr.add_zero'] at hx257_1); (try rw [show ((0 : Int)).toNat = 0 from rfl] at hx257_2); (try rw [show 0 * 3 = 0 from rfl] at hx257_2); (try rw [Addr.add_zero'] at hx257_2); have hn257_0 : ad255.block ≠ gb256 := Nat.ne_of_lt (Nat.lt_of_lt_of_le qB96 GW256.out); have hn257_1 : ad255.block ≠ gb256 := Nat.ne_of_lt (Nat.lt_of_lt_of_le qB96 GW256.out); have hn257_2 : ad255.block ≠ gb256 := Nat.ne_of_lt (Nat.lt_of_lt_of_le qB96 GW256.out); replace hx257_0 := (HB.out.cell (World.block_lt_of_cell? w _ hx257_0)).trans hx257_0; replace hx257_1 := (HB.out.cell (World.block_lt_of_cell? w _ hx257_1)).trans hx257_1; replace hx257_2 := (HB.out.cell (World.block_lt_of_cell? w _ hx257_2)).trans hx257_2; replace hx257_0 := (cell_far (p := ⟨gb256, 0, none⟩) qB46 (.int .i64 ((rd_T37 l0 x23_2).f0))).trans hx257_0; replace hx257_1 := (cell_far (p := ⟨gb256, 0, none⟩) qB46 (.int .i64 ((rd_T37 l0 x23_2).f0))).trans hx257_1; replace hx257_2 := (cell_far (p := ⟨gb256, 0, none⟩) qB46 (.int .i64 ((rd_T37 l0 x23_2).f0))).trans hx257_2; replace hx257_0 := (cell_far (p := ⟨gb256, 1, none⟩) qB47 (.int .i64 ((rd_T37 l0 x23_2).f1))).trans hx257_0; replace hx257_1 := (cell_far (p := ⟨gb256, 1, none⟩) qB47 (.int .i64 ((rd_T37 l0 x23_2).f1))).trans hx257_1; replace hx257_2 := (cell_far (p := ⟨gb256, 1, none⟩) qB47 (.int .i64 ((rd_T37 l0 x23_2).f1))).trans hx257_2; replace hx257_0 := (cell_far (p := ⟨gb256, 2, none⟩) qB48 (.int .i64 ((rd_T37 l0 x23_2).f2))).trans hx257_0; replace hx257_1 := (cell_far (p := ⟨gb256, 2, none⟩) qB48 (.int .i64 ((rd_T37 l0 x23_2).f2))).trans hx257_1; replace hx257_2 := (cell_far (p := ⟨gb256, 2, none⟩) qB48 (.int .i64 ((rd_T37 l0 x23_2).f2))).trans hx257_2; (try have hy257_0 := fun (n_ : Nat) => (show (((((w23.drewN n_).setCell ⟨gb256, 0, none⟩ (.int .i64 ((rd_T37 l0 x23_2).f0))).setCell ⟨gb256, 1, none⟩ (.int .i64 ((rd_T37 l0 x23_2).f1))).setCell ⟨gb256, 2, none⟩ (.int .i64 ((rd_T37 l0 x23_2).f2)))).cell? _ = some _ from hx257_0)); (try have hy257_1 := fun (n_ : Nat) => (show (((((w23.drewN n_).setCell ⟨gb256, 0, none⟩ (.int .i64 ((rd_T37 l0 x23_2).f0))).setCell ⟨gb256, 1, none⟩ (.int .i64 ((rd_T37 l0 x23_2).f1))).setCell ⟨gb256, 2, none⟩ (.int .i64 ((rd_T37 l0 x23_2).f2)))).cell? _ = some _ from hx257_1)); (try have hy257_2 := fun (n_ : Nat) => (show (((((w23.drewN n_).setCell ⟨gb256, 0, none⟩ (.int .i64 ((rd_T37 l0 x23_2).f0))).setCell ⟨gb256, 1, none⟩ (.int .i64 ((rd_T37 l0 x23_2).f1))).setCell ⟨gb256, 2, none⟩ (.int .i64 ((rd_T37 l0 x23_2).f2)))).cell? _ = some _ from hx257_2)); clear hn257_0; clear hn257_1; clear hn257_2; replace p257 := eq_true p257; replace q257 := eq_true q257; have p258 : 0 ≤ (0 : Int) := (by omega); have q258 : 0 < (l0.length : Int) := of_decide_eq_true qB98; obtain ⟨ad258, e258, hx258_0, hx258_1, hx258_2⟩ := at_T37 HR0.out 0 p258 q258; obtain rfl : ad255 = ad258 := (by injection e258); have qi258 : (0 < l0.length) = True := eq_true (by omega); (try rw [show ((0 : Int)).toNat = 0 from rfl] at hx258_0); (try rw [show 0 * 3 = 0 from rfl] at hx258_0); (try rw [Addr.add_zero'] at hx258_0); (try rw [show ((0 : Int)).toNat = 0 from rfl] at hx258_1); (try rw [show 0 * 3 = 0 from rfl] at hx258_1); (try rw [Addr.add_zero'] at hx258_1); (try rw [show ((0 : Int)).toNat = 0 from rfl] at hx258_2); (try rw [show 0 * 3 = 0 from rfl] at hx258_2); (try rw [Addr.add_zero'] at hx258_2); have hn258_0 : ad255.block ≠ gb256 := Nat.ne_of_lt (Nat.lt_of_lt_of_le qB97 GW256.out); have hn258_1 : ad255.block ≠ gb256 := Nat.ne_of_lt (Nat.lt_of_lt_of_le qB97 GW256.out); have hn258_2 : ad255.block ≠ gb256 := Nat.ne_of_lt (Nat.lt_of_lt_of_le qB97 GW256.out); replace hx258_0 := (HB.out.cell (World.block_lt_of_cell? w _ hx258_0)).trans hx258_0; replace hx258_1 := (HB.out.cell (World.block_lt_of_cell? w _ hx258_1)).trans hx258_1; replace hx258_2 := (HB.out.cell (World.block_lt_of_cell? w _ hx258_2)).trans hx258_2; replace hx258_0 := (cell_far (p := ⟨gb256, 0, none⟩) qB49 (.int .i64 ((rd_T37 l0 x23_2).f0))).trans hx258_0; replace hx258_1 := (cell_far (p := ⟨gb256, 0, none⟩) qB49 (.int .i64 ((rd_T37 l0 x23_2).f0))).trans hx258_1; replace hx258_2 := (cell_far (p := ⟨gb256, 0, none⟩) qB49 (.int .i64 ((rd_T37 l0 x23_2).f0))).trans hx258_2; replace hx258_0 := (cell_far (p := ⟨gb256, 1, none⟩) qB50 (.int .i64 ((rd_T37 l0 x23_2).f1))).trans hx258_0; replace hx258_1 := (cell_far (p := ⟨gb256, 1, none⟩) qB50 (.int .i64 ((rd_T37 l0 x23_2).f1))).trans hx258_1; replace hx258_2 := (cell_far (p := ⟨gb256, 1, none⟩) qB50 (.int .i64 ((rd_T37 l0 x23_2).f1))).trans hx258_2; replace hx258_0 := (cell_far (p := ⟨gb256, 2, none⟩) qB51 (.int .i64 ((rd_T37 l0 x23_2).f2))).trans hx258_0; replace hx258_1 := (cell_far (p := ⟨gb256, 2, none⟩) qB51 (.int .i64 ((rd_T37 l0 x23_2).f2))).trans hx258_1; replace hx258_2 := (cell_far (p := ⟨gb256, 2, none⟩) qB51 (.int .i64 ((rd_T37 l0 x23_2).f2))).trans hx258_2; (try have hy258_0 := fun (n_ : Nat) => (show (((((w23.drewN n_).setCell ⟨gb256, 0, none⟩ (.int .i64 ((rd_T37 l0 x23_2).f0))).setCell ⟨gb256, 1, none⟩ (.int .i64 ((rd_T37 l0 x23_2).f1))).setCell ⟨gb256, 2, none⟩ (.int .i64 ((rd_T37 l0 x23_2).f2)))).cell? _ = some _ from hx258_0)); (try have hy258_1 := fun (n_ : Nat) => (show (((((w23.drewN n_).setCell ⟨gb256, 0, none⟩ (.int .i64 ((rd_T37 l0 x23_2).f0))).setCell ⟨gb256, 1, none⟩ (.int .i64 ((rd_T37 l0 x23_2).f1))).setCell ⟨gb256, 2, none⟩ (.int .i64 ((rd_T37 l0 x23_2).f2)))).cell? _ = some _ from hx258_1)); (try have hy258_2 := fun (n_ : Nat) => (show (((((w23.drewN n_).setCell ⟨gb256, 0, none⟩ (.int .i64 ((rd_T37 l0 x23_2).f0))).setCell ⟨gb256, 1, none⟩ (.int .i64 ((rd_T37 l0 x23_2).f1))).setCell ⟨gb256, 2, none⟩ (.int .i64 ((rd_T37 l0 x23_2).f2)))).cell? _ = some _ from hx258_2)); clear hn258_0; clear hn258_1; clear hn258_2; replace p258 := eq_true p258; replace q258 := eq_true q258)))
             go_ret
             exact ⟨by first | rfl | (simp [errW_none, errW_some] <;> rfl) | (simp [*, errW_none, errW_some] <;> rfl), by repeat (first | (with_reducible first | exact HB.out | apply below_alloc | apply pw_below_drewN | apply below_drew1 | refine below_set ?_ GE256.out) | exact HB.out)⟩
           ·rw [if_neg c19] at H
            have c19b0 : (((rd_T37 l0 x23_2).f0) == ((rd_T37 l0 0).f0)) = false := beq_eq_false_iff_ne.mpr c19
            have c19b1 : (((rd_T37 l0 x23_2).f0) != ((rd_T37 l0 0).f0)) = true := bne_iff_ne.mpr c19
            obtain rfl := Option.some.inj H
            have p255 : 0 ≤ (x23_2 : Int) := of_decide_eq_true qB98
            have q255 : x23_2 < (l0.length : Int) := of_decide_eq_true qB98
            obtain ⟨ad255, e255, hx255_0, hx255_1, hx255_2⟩ := at_T37 HR0.out x23_2 p255 q255
            cases e255
            replace hx255_0 := (HB.out.cell (World.block_lt_of_cell? w _ hx255_0)).trans hx255_0
            replace hx255_1 := (HB.out.cell (World.block_lt_of_cell? w _ hx255_1)).trans hx255_1
            replace hx255_2 := (HB.out.cell (World.block_lt_of_cell? w _ hx255_2)).trans hx255_2
            replace p255 := eq_true p255
            replace q255 := eq_true q255
            go_wp2_with (first | ((with_reducible refine gate_dst (N := 6) rfl ?_); refine box_event ?hg (N := 6) ?hd (cs := #[.int .i64 0, .int .i64 0, .int .i64 0]) (t := 37) ?hr ?_; (case hd => rfl); (case hg => rfl); (case hr => first | (go_simp; done) | (go_simp; rfl)); intro gb256 hg w25 hbox hb; have n0_ := Aside0.mk (below_step qB44 hb); have n1_ := Aside0.mk (hbox); have n2_ := Aside0.mk ((by rw [hg]; exact (below_size qB44) : w.heap.size ≤ gb256)); have n3_ := Aside0.mk ((by rw [hg]; exact (below_size qB44) : w.heap.size ≤ gb256)); clear HB; have HB := n0_; have BK256 := n1_; have GW256 := n2_; have GE256 := n3_; clear n0_ n1_ n2_ n3_; clear hb hbox hg; have hcz26_0 : w25.cell? ⟨gb256, 0, none⟩ = some (.int .i64 0) := (blk_cell BK256.out 0).trans rfl; have hcz26_1 : w25.cell? ⟨gb256, 1, none⟩ = some (.int .i64 0) := (blk_cell BK256.out 1).trans rfl; have hcz26_2 : w25.cell? ⟨gb256, 2, none⟩ = some (.int .i64 0) := (blk_cell BK256.out 2).trans rfl; have hfz26_0 := blk_frozen BK256.out 0; have hfz26_1 := blk_frozen BK256.out 1; have hfz26_2 := blk_frozen BK256.out 2; have p257 : 0 ≤ (0 : Int) := (by omega); have q257 : 0 < (l0.length : Int) := of_decide_eq_true qB98; obtain ⟨ad257, e257, hx257_0, hx257_1, hx257_2⟩ := at_T37 HR0.out 0 p257 q257; obtain rfl : ad255 = ad257 := (by injection e257); have qi257 : (0 < l0.length) = True := eq_true (by omega); (try rw [show ((0 : Int)).toNat = 0 from rfl] at hx257_0); (try rw [show 0 * 3 = 0 from rfl] at hx257_0); (try rw [Addr.add_zero'] at hx257_0); (try rw [show ((0 : Int)).toNat = 0 from rfl] at hx257_1); (try rw [show 0 * 3 = 0 from rfl] at hx257_1); (try rw [Addr.add_zero'] at hx257_1); (try rw [show ((0 : Int)).toNat = 0 from rfl] at hx257_2); (try rw [show 0 * 3 = 0 from rfl] at hx257_2); (try rw [Addr.add_zero'] at hx257_2); have hn257_0 : ad255.block ≠ gb256 := Nat.ne_of_lt (Nat.lt_of_lt_of_le qB96 GW256.out); have hn257_1 : ad255.block ≠ gb256 := Nat.ne_of_lt (Nat.lt_of_lt_of_le qB96 GW256.out); have hn257_2 : ad255.block ≠ gb256 := Nat.ne_of_lt (Nat.lt_of_lt_of_le qB96 GW256.out); replace hx257_0 := (HB.out.cell (World.block_lt_of_cell? w _ hx257_0)).trans hx257_0; replace hx257_1 := (HB.out.cell (World.block_lt_of_cell? w _ hx257_1)).trans hx257_1; replace hx257_2 := (HB.out.cell (World.block_lt_of_cell? w _ hx257_2)).trans hx257_2; replace hx257_0 := (cell_far (p := ⟨gb256, 0, none⟩) qB46 (.int .i64 ((rd_T37 l0 x23_2).f0))).trans hx257_0; replace hx257_1 := (cell_far (p := ⟨gb256, 0, none⟩) qB46 (.int .i64 ((rd_T37 l0 x23_2).f0))).trans hx257_1; replace hx257_2 := (cell_far (p := ⟨gb256, 0, none⟩) qB46 (.int .i64 ((rd_T37 l0 x23_2).f0))).trans hx257_2; replace hx257_0 := (cell_far (p := ⟨gb256, 1, none⟩) qB47 (.int .i64 ((rd_T37 l0 x23_2).f1))).trans hx257_0; replace hx257_1 := (cell_far (p := ⟨gb256, 1, none⟩) qB47 (.int .i64 ((rd_T37 l0 x23_2).f1))).trans hx257_1; replace hx257_2 := (cell_far (p := ⟨gb256, 1, none⟩) qB47 (.int .i64 ((rd_T37 l0 x23_2).f1))).trans hx257_2; replace hx257_0 := (cell_far (p := ⟨gb256, 2, none⟩) qB48 (.int .i64 ((rd_T37 l0 x23_2).f2))).trans hx257_0; replace hx257_1 := (cell_far (p := ⟨gb256, 2, none⟩) qB48 (.int .i64 ((rd_T37 l0 x23_2).f2))).trans hx257_1; replace hx257_2 := (cell_far (p := ⟨gb256, 2, none⟩) qB48 (.int .i64 ((rd_T37 l0 x23_2).f2))).trans hx257_2; (try have hy257_0 := fun (n_ : Nat) => (show (((((w25.drewN n_).setCell ⟨gb256, 0, none⟩ (.int .i64 ((rd_T37 l0 x23_2).f0))).setCell ⟨gb256, 1, none⟩ (.int .i64 ((rd_T37 l0 x23_2).f1))).setCell ⟨gb256, 2, none⟩ (.int .i64 ((rd_T37 l0 x23_2).f2)))).cell? _ = some _ from hx257_0)); (try have hy257_1 := fun (n_ : Nat) => (show (((((w25.drewN n_).setCell ⟨gb256, 0, none⟩ (.int .i64 ((rd_T37 l0 x23_2).f0))).setCell ⟨gb256, 1, none⟩ (.int .i64 ((rd_T37 l0 x23_2).f1))).setCell ⟨gb256, 2, none⟩ (.int .i64 ((rd_T37 l0 x23_2).f2)))).cell? _ = some _ from hx257_1)); (try have hy257_2 := fun (n_ : Nat) => (show (((((w25.drewN n_).setCell ⟨gb256, 0, none⟩ (.int .i64 ((rd_T37 l0 x23_2).f0))).setCell ⟨gb256, 1, none⟩ (.int .i64 ((rd_T37 l0 x23_2).f1))).setCell ⟨gb256, 2, none⟩ (.int .i64 ((rd_T37 l0 x23_2).f2)))).cell? _ = some _ from hx257_2)); clear hn257_0; clear hn257_1; clear hn257_2; replace p257 := eq_true p257; replace q257 := eq_true q257))
            repeat (go_quiet (first | ((with_reducible refine gate_dst (N := 6) rfl ?_); refine box_event ?hg (N := 6) ?hd (cs := #[.int .i64 0, .int .i64 0, .int .i64 0]) (t := 37) ?hr ?_; (case hd => rfl); (case hg => rfl); (case hr => first | (go_simp; done) | (go_simp; rfl)); intro gb256 hg w25 hbox hb; have n0_ := Aside0.mk (below_step qB44 hb); have n1_ := Aside0.mk (hbox); have n2_ := Aside0.mk ((by rw [hg]; exact (below_size qB44) : w.heap.size ≤ gb256)); have n3_ := Aside0.mk ((by rw [hg]; exact (below_size qB44) : w.heap.size ≤ gb256)); clear HB; have HB := n0_; have BK256 := n1_; have GW256 := n2_; have GE256 := n3_; clear n0_ n1_ n2_ n3_; clear hb hbox hg; have hcz26_0 : w25.cell? ⟨gb256, 0, none⟩ = some (.int .i64 0) := (blk_cell BK256.out 0).trans rfl; have hcz26_1 : w25.cell? ⟨gb256, 1, none⟩ = some (.int .i64 0) := (blk_cell BK256.out 1).trans rfl; have hcz26_2 : w25.cell? ⟨gb256, 2, none⟩ = some (.int .i64 0) := (blk_cell BK256.out 2).trans rfl; have hfz26_0 := blk_frozen BK256.out 0; have hfz26_1 := blk_frozen BK256.out 1; have hfz26_2 := blk_frozen BK256.out 2; have p257 : 0 ≤ (0 : Int) := (by omega); have q257 : 0 < (l0.length : Int) := of_decide_eq_true qB98; obtain ⟨ad257, e257, hx257_0, hx257_1, hx257_2⟩ := at_T37 HR0.out 0 p257 q257; obtain rfl : ad255 = ad257 := (by injection e257); have qi257 : (0 < l0.length) = True := eq_true (by omega); (try rw [show ((0 : Int)).toNat = 0 from rfl] at hx257_0); (try rw [show 0 * 3 = 0 from rfl] at hx257_0); (try rw [Addr.add_zero'] at hx257_0); (try rw [show ((0 : Int)).toNat = 0 from rfl] at hx257_1); (try rw [show 0 * 3 = 0 from rfl] at hx257_1); (try rw [Addr.add_zero'] at hx257_1); (try rw [show ((0 : Int)).toNat = 0 from rfl] at hx257_2); (try rw [show 0 * 3 = 0 from rfl] at hx257_2); (try rw [Addr.add_zero'] at hx257_2); have hn257_0 : ad255.block ≠ gb256 := Nat.ne_of_lt (Nat.lt_of_lt_of_le qB96 GW256.out); have hn257_1 : ad255.block ≠ gb256 := Nat.ne_of_lt (Nat.lt_of_lt_of_le qB96 GW256.out); have hn257_2 : ad255.block ≠ gb256 := Nat.ne_of_lt (Nat.lt_of_lt_of_le qB96 GW256.out); replace hx257_0 := (HB.out.cell (World.block_lt_of_cell? w _ hx257_0)).trans hx257_0; replace hx257_1 := (HB.out.cell (World.block_lt_of_cell? w _ hx257_1)).trans hx257_1; replace hx257_2 := (HB.out.cell (World.block_lt_of_cell? w _ hx257_2)).trans hx257_2; replace hx257_0 := (cell_far (p := ⟨gb256, 0, none⟩) qB46 (.int .i64 ((rd_T37 l0 x23_2).f0))).trans hx257_0; replace hx257_1 := (cell_far (p := ⟨gb256, 0, none⟩) qB46 (.int .i64 ((rd_T37 l0 x23_2).f0))).trans hx257_1; replace hx257_2 := (cell_far (p := ⟨gb256, 0, none⟩) qB46 (.int .i64 ((rd_T37 l0 x23_2).f0))).trans hx257_2; replace hx257_0 := (cell_far (p := ⟨gb256, 1, none⟩) qB47 (.int .i64 ((rd_T37 l0 x23_2).f1))).trans hx257_0; replace hx257_1 := (cell_far (p := ⟨gb256, 1, none⟩) qB47 (.int .i64 ((rd_T37 l0 x23_2).f1))).trans hx257_1; replace hx257_2 := (cell_far (p := ⟨gb256, 1, none⟩) qB47 (.int .i64 ((rd_T37 l0 x23_2).f1))).trans hx257_2; replace hx257_0 := (cell_far (p := ⟨gb256, 2, none⟩) qB48 (.int .i64 ((rd_T37 l0 x23_2).f2))).trans hx257_0; replace hx257_1 := (cell_far (p := ⟨gb256, 2, none⟩) qB48 (.int .i64 ((rd_T37 l0 x23_2).f2))).trans hx257_1; replace hx257_2 := (cell_far (p := ⟨gb256, 2, none⟩) qB48 (.int .i64 ((rd_T37 l0 x23_2).f2))).trans hx257_2; (try have hy257_0 := fun (n_ : Nat) => (show (((((w25.drewN n_).setCell ⟨gb256, 0, none⟩ (.int .i64 ((rd_T37 l0 x23_2).f0))).setCell ⟨gb256, 1, none⟩ (.int .i64 ((rd_T37 l0 x23_2).f1))).setCell ⟨gb256, 2, none⟩ (.int .i64 ((rd_T37 l0 x23_2).f2)))).cell? _ = some _ from hx257_0)); (try have hy257_1 := fun (n_ : Nat) => (show (((((w25.drewN n_).setCell ⟨gb256, 0, none⟩ (.int .i64 ((rd_T37 l0 x23_2).f0))).setCell ⟨gb256, 1, none⟩ (.int .i64 ((rd_T37 l0 x23_2).f1))).setCell ⟨gb256, 2, none⟩ (.int .i64 ((rd_T37 l0 x23_2).f2)))).cell? _ = some _ from hx257_1)); (try have hy257_2 := fun (n_ : Nat) => (show (((((w25.drewN n_).setCell ⟨gb256, 0, none⟩ (.int .i64 ((rd_T37 l0 x23_2).f0))).setCell ⟨gb256, 1, none⟩ (.int .i64 ((rd_T37 l0 x23_2).f1))).setCell ⟨gb256, 2, none⟩ (.int .i64 ((rd_T37 l0 x23_2).f2)))).cell? _ = some _ from hx257_2)); clear hn257_0; clear hn257_1; clear hn257_2; replace p257 := eq_true p257; replace q257 := eq_true q257)); try go_wp2_with (first | ((with_reducible refine gate_dst (N := 6) rfl ?_); refine box_event ?hg (N := 6) ?hd (cs := #[.int .i64 0, .int .i64 0, .int .i64 0]) (t := 37) ?hr ?_; (case hd => rfl); (case hg => rfl); (case hr => first | (go_simp; done) | (go_simp; rfl)); intro gb256 hg w25 hbox hb; have n0_ := Aside0.mk (below_step qB44 hb); have n1_ := Aside0.mk (hbox); have n2_ := Aside0.mk ((by rw [hg]; exact (below_size qB44) : w.heap.size ≤ gb256)); have n3_ := Aside0.mk ((by rw [hg]; exact (below_size qB44) : w.heap.size ≤ gb256)); clear HB; have HB := n0_; have BK256 := n1_; have GW256 := n2_; have GE256 := n3_; clear n0_ n1_ n2_ n3_; clear hb hbox hg; have hcz26_0 : w25.cell? ⟨gb256, 0, none⟩ = some (.int .i64 0) := (blk_cell BK256.out 0).trans rfl; have hcz26_1 : w25.cell? ⟨gb256, 1, none⟩ = some (.int .i64 0) := (blk_cell BK256.out 1).trans rfl; have hcz26_2 : w25.cell? ⟨gb256, 2, none⟩ = some (.int .i64 0) := (blk_cell BK256.out 2).trans rfl; have hfz26_0 := blk_frozen BK256.out 0; have hfz26_1 := blk_frozen BK256.out 1; have hfz26_2 := blk_frozen BK256.out 2; have p257 : 0 ≤ (0 : Int) := (by omega); have q257 : 0 < (l0.length : Int) := of_decide_eq_true qB98; obtain ⟨ad257, e257, hx257_0, hx257_1, hx257_2⟩ := at_T37 HR0.out 0 p257 q257; obtain rfl : ad255 = ad257 := (by injection e257); have qi257 : (0 < l0.length) = True := eq_true (by omega); (try rw [show ((0 : Int)).toNat = 0 from rfl] at hx257_0); (try rw [show 0 * 3 = 0 from rfl] at hx257_0); (try rw [Addr.add_zero'] at hx257_0); (try rw [show ((0 : Int)).toNat = 0 from rfl] at hx257_1); (try rw [show 0 * 3 = 0 from rfl] at hx257_1); (try rw [Addr.add_zero'] at hx257_1); (try rw [show ((0 : Int)).toNat = 0 from rfl] at hx257_2); (try rw [show 0 * 3 = 0 from rfl] at hx257_2); (try rw [Addr.add_zero'] at hx257_2); have hn257_0 : ad255.block ≠ gb256 := Nat.ne_of_lt (Nat.lt_of_lt_of_le qB96 GW256.out); have hn257_1 : ad255.block ≠ gb256 := Nat.ne_of_lt (Nat.lt_of_lt_of_le qB96 GW256.out); have hn257_2 : ad255.block ≠ gb256 := Nat.ne_of_lt (Nat.lt_of_lt_of_le qB96 GW256.out); replace hx257_0 := (HB.out.cell (World.block_lt_of_cell? w _ hx257_0)).trans hx257_0; replace hx257_1 := (HB.out.cell (World.block_lt_of_cell? w _ hx257_1)).trans hx257_1; replace hx257_2 := (HB.out.cell (World.block_lt_of_cell? w _ hx257_2)).trans hx257_2; replace hx257_0 := (cell_far (p := ⟨gb256, 0, none⟩) qB46 (.int .i64 ((rd_T37 l0 x23_2).f0))).trans hx257_0; replace hx257_1 := (cell_far (p := ⟨gb256, 0, none⟩) qB46 (.int .i64 ((rd_T37 l0 x23_2).f0))).trans hx257_1; replace hx257_2 := (cell_far (p := ⟨gb256, 0, none⟩) qB46 (.int .i64 ((rd_T37 l0 x23_2).f0))).trans hx257_2; replace hx257_0 := (cell_far (p := ⟨gb256, 1, none⟩) qB47 (.int .i64 ((rd_T37 l0 x23_2).f1))).trans hx257_0; replace hx257_1 := (cell_far (p := ⟨gb256, 1, none⟩) qB47 (.int .i64 ((rd_T37 l0 x23_2).f1))).trans hx257_1; replace hx257_2 := (cell_far (p := ⟨gb256, 1, none⟩) qB47 (.int .i64 ((rd_T37 l0 x23_2).f1))).trans hx257_2; replace hx257_0 := (cell_far (p := ⟨gb256, 2, none⟩) qB48 (.int .i64 ((rd_T37 l0 x23_2).f2))).trans hx257_0; replace hx257_1 := (cell_far (p := ⟨gb256, 2, none⟩) qB48 (.int .i64 ((rd_T37 l0 x23_2).f2))).trans hx257_1; replace hx257_2 := (cell_far (p := ⟨gb256, 2, none⟩) qB48 (.int .i64 ((rd_T37 l0 x23_2).f2))).trans hx257_2; (try have hy257_0 := fun (n_ : Nat) => (show (((((w25.drewN n_).setCell ⟨gb256, 0, none⟩ (.int .i64 ((rd_T37 l0 x23_2).f0))).setCell ⟨gb256, 1, none⟩ (.int .i64 ((rd_T37 l0 x23_2).f1))).setCell ⟨gb256, 2, none⟩ (.int .i64 ((rd_T37 l0 x23_2).f2)))).cell? _ = some _ from hx257_0)); (try have hy257_1 := fun (n_ : Nat) => (show (((((w25.drewN n_).setCell ⟨gb256, 0, none⟩ (.int .i64 ((rd_T37 l0 x23_2).f0))).setCell ⟨gb256, 1, none⟩ (.int .i64 ((rd_T37 l0 x23_2).f1))).setCell ⟨gb256, 2, none⟩ (.int .i64 ((rd_T37 l0 x23_2).f2)))).cell? _ = some _ from hx257_1)); (try have hy257_2 := fun (n_ : Nat) => (show (((((w25.drewN n_).setCell ⟨gb256, 0, none⟩ (.int .i64 ((rd_T37 l0 x23_2).f0))).setCell ⟨gb256, 1, none⟩ (.int .i64 ((rd_T37 l0 x23_2).f1))).setCell ⟨gb256, 2, none⟩ (.int .i64 ((rd_T37 l0 x23_2).f2)))).cell? _ = some _ from hx257_2)); clear hn257_0; clear hn257_1; clear hn257_2; replace p257 := eq_true p257; replace q257 := eq_true q257)))
            go_ret
            exact ⟨by first | rfl | (simp [errW_none, errW_some] <;> rfl) | (simp [*, errW_none, errW_some] <;> rfl), by repeat (first | (with_reducible first | exact HB.out | apply below_alloc | apply pw_below_drewN | apply below_drew1 | refine below_set ?_ GE256.out) | exact HB.out)⟩
          ·rw [if_neg c18] at H
           exact absurd H (by simp)
         ·rw [if_neg c17] at H
          exact absurd H (by simp)
        ·rw [if_neg c16] at H
         exact absurd H (by simp)
       ·rw [if_neg c15] at H
        have c15b0 : decide (x23_2 < (l0.length : Int)) = false := decide_eq_false c15
        clear c15
        obtain rfl := Option.some.inj H
        go_wp2
        repeat (go_quiet (fail); try go_wp2)
        go_ret
        exact ⟨by first | rfl | (simp [errW_none, errW_some] <;> rfl) | (simp [*, errW_none, errW_some] <;> rfl), by repeat (first | (with_reducible first | exact HB.out | apply below_alloc | apply pw_below_drewN | apply below_drew1) | exact HB.out)⟩
    ·replace c14 := Bool.eq_false_iff.mpr c14
     subst c14
     have H1 : (some 2) = some r := by rw [if_neg (show ¬ (false = true) by decide)] at H; exact H
     clear H
     have H := H1
     clear H1
     obtain rfl := Option.some.inj H
     go_wp2_with (first | (go_at_call 71; (with_reducible refine (impl_within.calls (l0.length : Int) 1 4 false _ A13.out).mono ?_); rintro e w' ⟨rfl, ⟨nd, rfl⟩⟩; (try first | exact ⟨rfl, _, World.drewN_drewN _ _ _⟩ | exact ⟨rfl, _, Eq.trans (World.drewN_drewN _ _ _) (congrArg (World.drewN _) (Nat.add_assoc _ _ _))⟩)))
     repeat (go_quiet (first | (go_at_call 71; (with_reducible refine (impl_within.calls (l0.length : Int) 1 4 false _ A13.out).mono ?_); rintro e w' ⟨rfl, ⟨nd, rfl⟩⟩; (try first | exact ⟨rfl, _, World.drewN_drewN _ _ _⟩ | exact ⟨rfl, _, Eq.trans (World.drewN_drewN _ _ _) (congrArg (World.drewN _) (Nat.add_assoc _ _ _))⟩))); try go_wp2_with (first | (go_at_call 71; (with_reducible refine (impl_within.calls (l0.length : Int) 1 4 false _ A13.out).mono ?_); rintro e w' ⟨rfl, ⟨nd, rfl⟩⟩; (try first | exact ⟨rfl, _, World.drewN_drewN _ _ _⟩ | exact ⟨rfl, _, Eq.trans (World.drewN_drewN _ _ _) (congrArg (World.drewN _) (Nat.add_assoc _ _ _))⟩))))
     go_ret
     exact ⟨by first | rfl | (simp [errW_none, errW_some] <;> rfl) | (simp [*, errW_none, errW_some] <;> rfl), by repeat (first | (with_reducible first | exact HB.out | apply below_alloc | apply pw_below_drewN | apply below_drew1) | exact HB.out)⟩

/-! ### bits_Mul32: function 96 -/
def bits_Mul32.f (a0 : Int) (a1 : Int) : Option (Int × Int) := some (((IntKind.u64.wrap ((IntKind.u64.wrap (a0)) * (IntKind.u64.wrap (a1)))) / 4294967296) % 4294967296, (IntKind.u64.wrap ((IntKind.u64.wrap (a0)) * (IntKind.u64.wrap (a1)))) % 4294967296)
set_option maxHeartbeats 8000000 in
set_option maxRecDepth 100000 in
theorem bits_Mul32.calls (a0 : Int) (a1 : Int) (r1 : Int) (r2 : Int) (w : World) (h : bits_Mul32.f a0 a1 = some (r1, r2)) :
  Calls Try.prog 96 #[.int .u32 a0, .int .u32 a1] w fun e w' => e = .returned (.tuple #[.int .u32 r1, .int .u32 r2]) ∧ Drawn0 w w' := by
 have H : (some (((IntKind.u64.wrap ((IntKind.u64.wrap (a0)) * (IntKind.u64.wrap (a1)))) / 4294967296) % 4294967296, (IntKind.u64.wrap ((IntKind.u64.wrap (a0)) * (IntKind.u64.wrap (a1)))) % 4294967296)) = some (r1, r2) := h
 clear h
 simp only [Option.some.injEq, Prod.mk.injEq] at H
 obtain ⟨rfl, rfl⟩ := H
 go_enter Try.func96, Try.ntmps96
 go_wp2
 go_ret2
 exact ⟨by first | rfl | (simp; done) | (simp [*]; done), by repeat (first | exact Drawn0.refl _ | apply Drawn0.step)⟩

/-! ### bits_Mul64: function 97 -/
def bits_Mul64.f (a0 : Int) (a1 : Int) : Option (Int × Int) := some (IntKind.u64.wrap ((IntKind.u64.wrap ((IntKind.u64.wrap ((a0 / 4294967296) * (a1 / 4294967296))) + ((IntKind.u64.wrap ((IntKind.u64.wrap ((a0 / 4294967296) * (Go.bits .and .u64 a1 4294967295))) + ((IntKind.u64.wrap ((Go.bits .and .u64 a0 4294967295) * (Go.bits .and .u64 a1 4294967295))) / 4294967296))) / 4294967296))) + ((IntKind.u64.wrap ((Go.bits .and .u64 (IntKind.u64.wrap ((IntKind.u64.wrap ((a0 / 4294967296) * (Go.bits .and .u64 a1 4294967295))) + ((IntKind.u64.wrap ((Go.bits .and .u64 a0 4294967295) * (Go.bits .and .u64 a1 4294967295))) / 4294967296))) 4294967295) + (IntKind.u64.wrap ((Go.bits .and .u64 a0 4294967295) * (a1 / 4294967296))))) / 4294967296)), IntKind.u64.wrap (a0 * a1))
set_option maxHeartbeats 8000000 in
set_option maxRecDepth 100000 in
theorem bits_Mul64.calls (a0 : Int) (a1 : Int) (r1 : Int) (r2 : Int) (w : World) (h : bits_Mul64.f a0 a1 = some (r1, r2)) :
  Calls Try.prog 97 #[.int .u64 a0, .int .u64 a1] w fun e w' => e = .returned (.tuple #[.int .u64 r1, .int .u64 r2]) ∧ Drawn0 w w' := by
 have H : (some (IntKind.u64.wrap ((IntKind.u64.wrap ((IntKind.u64.wrap ((a0 / 4294967296) * (a1 / 4294967296))) + ((IntKind.u64.wrap ((IntKind.u64.wrap ((a0 / 4294967296) * (Go.bits .and .u64 a1 4294967295))) + ((IntKind.u64.wrap ((Go.bits .and .u64 a0 4294967295) * (Go.bits .and .u64 a1 4294967295))) / 4294967296))) / 4294967296))) + ((IntKind.u64.wrap ((Go.bits .and .u64 (IntKind.u64.wrap ((IntKind.u64.wrap ((a0 / 4294967296) * (Go.bits .and .u64 a1 4294967295))) + ((IntKind.u64.wrap ((Go.bits .and .u64 a0 4294967295) * (Go.bits .and .u64 a1 4294967295))) / 4294967296))) 4294967295) + (IntKind.u64.wrap ((Go.bits .and .u64 a0 4294967295) * (a1 / 4294967296))))) / 4294967296)), IntKind.u64.wrap (a0 * a1))) = some (r1, r2) := h
 clear h
 simp only [Option.some.injEq, Prod.mk.injEq] at H
 obtain ⟨rfl, rfl⟩ := H
 go_enter Try.func97, Try.ntmps97
 go_wp2
 go_ret2
 exact ⟨by first | rfl | (simp; done) | (simp [*]; done), by repeat (first | exact Drawn0.refl _ | apply Drawn0.step)⟩

/-! ### bits_Mul: function 90 -/
def bits_Mul.f (a0 : Int) (a1 : Int) : Option (Int × Int) := (bits_Mul64.f a0 a1).bind fun bt259 => (some (bt259.1, bt259.2))
set_option maxHeartbeats 8000000 in
set_option maxRecDepth 100000 in
theorem bits_Mul.calls (a0 : Int) (a1 : Int) (r1 : Int) (r2 : Int) (w : World) (h : bits_Mul.f a0 a1 = some (r1, r2)) :
  Calls Try.prog 90 #[.int .u64 a0, .int .u64 a1] w fun e w' => e = .returned (.tuple #[.int .u64 r1, .int .u64 r2]) ∧ Drawn0 w w' := by
 have H : ((bits_Mul64.f a0 a1).bind fun bt259 => (some (bt259.1, bt259.2))) = some (r1, r2) := h
 clear h
 replace H := Option.bind_eq_some_iff.mp H
 obtain ⟨⟨t259, t260⟩, A30, H⟩ := H
 replace H : (some (t259, t260)) = some (r1, r2) := H
 have A3 := Aside0.mk A30
 clear A30
 simp only [Option.some.injEq, Prod.mk.injEq] at H
 obtain ⟨rfl, rfl⟩ := H
 go_enter Try.func90, Try.ntmps90
 go_wp2_with (first | ((with_reducible refine gate_callee (f := 97) rfl ?_); refine goesL_ (some 25) rfl rfl Try.func97 (by kernel_rfl) rfl #[.int .u64 a0, .int .u64 a1] rfl qB43 ?_; (with_reducible refine (bits_Mul64.calls a0 a1 t259 t260 _ A3.out).mono ?_); rintro e w' ⟨rfl, ⟨nd, rfl⟩⟩; refine ⟨_, rfl, ?_⟩))
 go_ret2
 exact ⟨by first | rfl | (simp; done) | (simp [*]; done), by repeat (first | exact Drawn0.refl _ | apply Drawn0.step)⟩

end Go.Proofs.Ythdpdiahkphklaa.PFnExactJacobiOf
