/- The functions that the law reaches, as plain functions, each with the proof that the program comes to it; no condition. Written by a program of this session (wip/mp.py) over the printing of the kit; what is marked HAND is told by hand. -/
import Derived.Test.YthdpdiahkphklaaPFnExactSumOfCharacterx0
import Derived.Test.YthdpdiahkphklaaPFnExactSumOfCharacterx5
import Derived.Test.YthdpdiahkphklaaPFnExactSumOfCharacterx10
import Derived.Test.YthdpdiahkphklaaPFnExactSumOfCharacterx11
namespace Go.Proofs.Ythdpdiahkphklaa.PFnExactSumOfCharacter
open Go.RowKit Go.Proofs.YthdpdiahkphklaaW.PrintWords Go.Proofs.YthdpdiahkphklaaW.PrintLast Go.Proofs.YthdpdiahkphklaaW.PrintMore
attribute [local go_sem] max2_int min2_int max_two min_two max_three min_three max_four min_four   -- for this text's walks alone
set_option linter.unusedVariables false
set_option linter.unusedSimpArgs false

/-! ### laws_FnExactSumOfCharacter: function 5 -/
mutual
def laws_FnExactSumOfCharacter.j0 : Nat → Int → Bool → Int → Int → Int → Int → List Int → Int → List Int → Option (Bool)
  | 0, _, _, _, _, _, _, _, _, _ => none
  | k + 1, x4, x31, x364000, x364001, x364002, x373000, x373001, x382000, x382001 => if x31 = true then (some false) else ((laws_markCyclo.f k x382000 x382001 1).bind fun bt383 => ((laws_heldCyclo.f k x382000 bt383.2 1).bind fun t385 => (if t385 < 0 then (some false) else (if t385 = bt383.1 then ((laws_toCharacter.f x364000 x364001 x364002).bind fun bt386 => ((impl_SumOfCharacter.f k bt386.1 bt386.2.1 bt386.2.2).bind fun bt389 => ((laws_eqCyclo.f k bt389.1 bt389.2.1 x373000 x373001).bind fun t395 => (if t395 = true then (laws_FnExactSumOfCharacter.j1 k bt383.1 (bt389.2.2 != x4) x382000 bt383.2) else (laws_FnExactSumOfCharacter.j1 k bt383.1 true x382000 bt383.2))))) else (some false)))))
def laws_FnExactSumOfCharacter.j1 : Nat → Int → Bool → Int → List Int → Option (Bool)
  | 0, _, _, _, _ => none
  | k + 1, x7, x57, x382000, x382001 => if x57 = true then (some false) else ((laws_heldCyclo.f k x382000 x382001 1).bind fun t396 => (if t396 < 0 then (some false) else (if t396 = x7 then (some true) else (some false))))
end
def laws_FnExactSumOfCharacter.f (k : Nat) (a0_0 : Int) (a0_1 : Int) (a0_2 : Int) : Option (Bool) := (laws_toCharacter.f a0_0 a0_1 a0_2).bind fun bt364 => ((spec_SumOfCharacter.f k bt364.1 bt364.2.1 bt364.2.2).bind fun bt367 => ((laws_toCharacter.f a0_0 a0_1 a0_2).bind fun bt373 => ((impl_SumOfCharacter.f k bt373.1 bt373.2.1 bt373.2.2).bind fun bt376 => ((laws_eqCyclo.f k bt376.1 bt376.2.1 bt367.1 bt367.2.1).bind fun t382 => (if t382 = true then (laws_FnExactSumOfCharacter.j0 k bt367.2.2 (bt376.2.2 != bt367.2.2) a0_0 a0_1 a0_2 bt367.1 bt367.2.1 bt376.1 bt376.2.1) else (laws_FnExactSumOfCharacter.j0 k bt367.2.2 true a0_0 a0_1 a0_2 bt367.1 bt367.2.1 bt376.1 bt376.2.1))))))
theorem laws_FnExactSumOfCharacter.mono_l : ∀ k, (∀ y0 y1 y2 y3 y4 y5 y6 y7 y8, LeO (laws_FnExactSumOfCharacter.j0 k y0 y1 y2 y3 y4 y5 y6 y7 y8) (laws_FnExactSumOfCharacter.j0 (k + 1) y0 y1 y2 y3 y4 y5 y6 y7 y8)) ∧ (∀ y0 y1 y2 y3, LeO (laws_FnExactSumOfCharacter.j1 k y0 y1 y2 y3) (laws_FnExactSumOfCharacter.j1 (k + 1) y0 y1 y2 y3))
  | 0 => ⟨fun _ _ _ _ _ _ _ _ _ r h => by simp [laws_FnExactSumOfCharacter.j0] at h, fun _ _ _ _ r h => by simp [laws_FnExactSumOfCharacter.j1] at h⟩
  | k + 1 => by
    obtain ⟨ih0, ih1⟩ := laws_FnExactSumOfCharacter.mono_l k
    refine ⟨?_, ?_⟩
    · intro y0 y1 y2 y3 y4 y5 y6 y7 y8
      unfold laws_FnExactSumOfCharacter.j0
      repeat' first
      | (with_reducible exact ih0 _ _ _ _ _ _ _ _ _)
      | (with_reducible exact ih1 _ _ _ _)
      | (with_reducible exact impl_SumOfCharacter.mono _ _ _ _)
      | (with_reducible exact laws_eqCyclo.mono _ _ _ _ _)
      | (with_reducible exact laws_heldCyclo.mono _ _ _ _)
      | (with_reducible exact laws_markCyclo.mono _ _ _ _)
      | (with_reducible exact spec_SumOfCharacter.mono _ _ _ _)
      | (with_reducible exact LeO.refl _)
      | (with_reducible exact LeO.none _)
      | (with_reducible refine LeO.ite ?_ ?_)
      | (with_reducible refine LeO.bind ?_ (fun _ => ?_))
      | exact ih0 _ _ _ _ _ _ _ _ _
      | exact ih1 _ _ _ _
      | exact impl_SumOfCharacter.mono _ _ _ _
      | exact laws_eqCyclo.mono _ _ _ _ _
      | exact laws_heldCyclo.mono _ _ _ _
      | exact laws_markCyclo.mono _ _ _ _
      | exact spec_SumOfCharacter.mono _ _ _ _
      | exact LeO.none _
      | refine LeO.ite ?_ ?_
      | refine LeO.bind ?_ (fun _ => ?_)
    · intro y0 y1 y2 y3
      unfold laws_FnExactSumOfCharacter.j1
      repeat' first
      | (with_reducible exact ih0 _ _ _ _ _ _ _ _ _)
      | (with_reducible exact ih1 _ _ _ _)
      | (with_reducible exact impl_SumOfCharacter.mono _ _ _ _)
      | (with_reducible exact laws_eqCyclo.mono _ _ _ _ _)
      | (with_reducible exact laws_heldCyclo.mono _ _ _ _)
      | (with_reducible exact laws_markCyclo.mono _ _ _ _)
      | (with_reducible exact spec_SumOfCharacter.mono _ _ _ _)
      | (with_reducible exact LeO.refl _)
      | (with_reducible exact LeO.none _)
      | (with_reducible refine LeO.ite ?_ ?_)
      | (with_reducible refine LeO.bind ?_ (fun _ => ?_))
      | exact ih0 _ _ _ _ _ _ _ _ _
      | exact ih1 _ _ _ _
      | exact impl_SumOfCharacter.mono _ _ _ _
      | exact laws_eqCyclo.mono _ _ _ _ _
      | exact laws_heldCyclo.mono _ _ _ _
      | exact laws_markCyclo.mono _ _ _ _
      | exact spec_SumOfCharacter.mono _ _ _ _
      | exact LeO.none _
      | refine LeO.ite ?_ ?_
      | refine LeO.bind ?_ (fun _ => ?_)
theorem laws_FnExactSumOfCharacter.mono : ∀ a0 a1 a2 k, LeO (laws_FnExactSumOfCharacter.f k a0 a1 a2) (laws_FnExactSumOfCharacter.f (k + 1) a0 a1 a2) := by
  intro a0 a1 a2 k
  obtain ⟨ih0, ih1⟩ := laws_FnExactSumOfCharacter.mono_l k
  unfold laws_FnExactSumOfCharacter.f
  repeat' first
      | (with_reducible exact ih0 _ _ _ _ _ _ _ _ _)
      | (with_reducible exact ih1 _ _ _ _)
      | (with_reducible exact impl_SumOfCharacter.mono _ _ _ _)
      | (with_reducible exact laws_eqCyclo.mono _ _ _ _ _)
      | (with_reducible exact laws_heldCyclo.mono _ _ _ _)
      | (with_reducible exact laws_markCyclo.mono _ _ _ _)
      | (with_reducible exact spec_SumOfCharacter.mono _ _ _ _)
      | (with_reducible exact LeO.refl _)
      | (with_reducible exact LeO.none _)
      | (with_reducible refine LeO.ite ?_ ?_)
      | (with_reducible refine LeO.bind ?_ (fun _ => ?_))
      | exact ih0 _ _ _ _ _ _ _ _ _
      | exact ih1 _ _ _ _
      | exact impl_SumOfCharacter.mono _ _ _ _
      | exact laws_eqCyclo.mono _ _ _ _ _
      | exact laws_heldCyclo.mono _ _ _ _
      | exact laws_markCyclo.mono _ _ _ _
      | exact spec_SumOfCharacter.mono _ _ _ _
      | exact LeO.none _
      | refine LeO.ite ?_ ?_
      | refine LeO.bind ?_ (fun _ => ?_)
set_option maxHeartbeats 8000000 in
set_option maxRecDepth 100000 in
theorem laws_FnExactSumOfCharacter.calls (k : Nat) (a0_0 : Int) (a0_1 : Int) (a0_2 : Int) (r : Bool) (w : World) (h : laws_FnExactSumOfCharacter.f k a0_0 a0_1 a0_2 = some r) :
    Calls Try.prog 5 #[.agg #[.int .i64 a0_0, .int .i64 a0_1, .int .i64 a0_2]] w fun e w' => e = .returned (.bool r) ∧ Below w.heap.size w w' := by
  have hu32 := Try.underlying32
  have hu34 := Try.underlying34
  have HB := Aside0.mk (Below.refl w.heap.size w)
  have H : ((laws_toCharacter.f a0_0 a0_1 a0_2).bind fun bt364 => ((spec_SumOfCharacter.f k bt364.1 bt364.2.1 bt364.2.2).bind fun bt367 => ((laws_toCharacter.f a0_0 a0_1 a0_2).bind fun bt373 => ((impl_SumOfCharacter.f k bt373.1 bt373.2.1 bt373.2.2).bind fun bt376 => ((laws_eqCyclo.f k bt376.1 bt376.2.1 bt367.1 bt367.2.1).bind fun t382 => (if t382 = true then (laws_FnExactSumOfCharacter.j0 k bt367.2.2 (bt376.2.2 != bt367.2.2) a0_0 a0_1 a0_2 bt367.1 bt367.2.1 bt376.1 bt376.2.1) else (laws_FnExactSumOfCharacter.j0 k bt367.2.2 true a0_0 a0_1 a0_2 bt367.1 bt367.2.1 bt376.1 bt376.2.1))))))) = some r := h
  clear h
  replace H := Option.bind_eq_some_iff.mp H
  obtain ⟨⟨t364, t365, t366⟩, A20, H⟩ := H
  replace H : ((spec_SumOfCharacter.f k t364 t365 t366).bind fun bt367 => ((laws_toCharacter.f a0_0 a0_1 a0_2).bind fun bt373 => ((impl_SumOfCharacter.f k bt373.1 bt373.2.1 bt373.2.2).bind fun bt376 => ((laws_eqCyclo.f k bt376.1 bt376.2.1 bt367.1 bt367.2.1).bind fun t382 => (if t382 = true then (laws_FnExactSumOfCharacter.j0 k bt367.2.2 (bt376.2.2 != bt367.2.2) a0_0 a0_1 a0_2 bt367.1 bt367.2.1 bt376.1 bt376.2.1) else (laws_FnExactSumOfCharacter.j0 k bt367.2.2 true a0_0 a0_1 a0_2 bt367.1 bt367.2.1 bt376.1 bt376.2.1)))))) = some r := H
  have A2 := Aside0.mk A20
  clear A20
  replace H := Option.bind_eq_some_iff.mp H
  obtain ⟨⟨t367, t368, t371⟩, A30, H⟩ := H
  replace H : ((laws_toCharacter.f a0_0 a0_1 a0_2).bind fun bt373 => ((impl_SumOfCharacter.f k bt373.1 bt373.2.1 bt373.2.2).bind fun bt376 => ((laws_eqCyclo.f k bt376.1 bt376.2.1 t367 t368).bind fun t382 => (if t382 = true then (laws_FnExactSumOfCharacter.j0 k t371 (bt376.2.2 != t371) a0_0 a0_1 a0_2 t367 t368 bt376.1 bt376.2.1) else (laws_FnExactSumOfCharacter.j0 k t371 true a0_0 a0_1 a0_2 t367 t368 bt376.1 bt376.2.1))))) = some r := H
  have A3 := Aside0.mk A30
  clear A30
  replace H := Option.bind_eq_some_iff.mp H
  obtain ⟨⟨t373, t374, t375⟩, A40, H⟩ := H
  replace H : ((impl_SumOfCharacter.f k t373 t374 t375).bind fun bt376 => ((laws_eqCyclo.f k bt376.1 bt376.2.1 t367 t368).bind fun t382 => (if t382 = true then (laws_FnExactSumOfCharacter.j0 k t371 (bt376.2.2 != t371) a0_0 a0_1 a0_2 t367 t368 bt376.1 bt376.2.1) else (laws_FnExactSumOfCharacter.j0 k t371 true a0_0 a0_1 a0_2 t367 t368 bt376.1 bt376.2.1)))) = some r := H
  have A4 := Aside0.mk A40
  clear A40
  replace H := Option.bind_eq_some_iff.mp H
  obtain ⟨⟨t376, t377, t380⟩, A50, H⟩ := H
  replace H : ((laws_eqCyclo.f k t376 t377 t367 t368).bind fun t382 => (if t382 = true then (laws_FnExactSumOfCharacter.j0 k t371 (t380 != t371) a0_0 a0_1 a0_2 t367 t368 t376 t377) else (laws_FnExactSumOfCharacter.j0 k t371 true a0_0 a0_1 a0_2 t367 t368 t376 t377))) = some r := H
  have A5 := Aside0.mk A50
  clear A50
  have HC6 := Aside0.mk H
  clear H
  go_enter Try.func5, Try.ntmps5
  go_upto_region 3 with (first | ((with_reducible refine gate_dst (N := 1) rfl ?_); refine box_event ?hg (N := 1) ?hd (cs := #[.int .i64 a0_0, .int .i64 a0_1, .int .i64 a0_2]) (t := 32) ?hr ?_; (case hd => rfl); (case hg => rfl); (case hr => first | (go_simp; done) | (go_simp; rfl)); intro gb363 hg w7 hbox hb; have n0_ := Aside0.mk (below_step qB47 hb); have n1_ := Aside0.mk (hbox); have n2_ := Aside0.mk ((by rw [hg]; exact (below_size qB47) : w.heap.size ≤ gb363)); have n3_ := Aside0.mk ((by rw [hg]; exact (below_size qB47) : w.heap.size ≤ gb363)); clear HB; have HB := n0_; have BK363 := n1_; have GW363 := n2_; have GE363 := n3_; clear n0_ n1_ n2_ n3_; clear hb hbox hg; have hcz8_0 : w7.cell? ⟨gb363, 0, none⟩ = some (.int .i64 a0_0) := (blk_cell BK363.out 0).trans rfl; have hcz8_1 : w7.cell? ⟨gb363, 1, none⟩ = some (.int .i64 a0_1) := (blk_cell BK363.out 1).trans rfl; have hcz8_2 : w7.cell? ⟨gb363, 2, none⟩ = some (.int .i64 a0_2) := (blk_cell BK363.out 2).trans rfl; have hfz8_0 := blk_frozen BK363.out 0; have hfz8_1 := blk_frozen BK363.out 1; have hfz8_2 := blk_frozen BK363.out 2) | ((with_reducible refine gate_callee (f := 18) rfl ?_); refine goesL_ (some 13) rfl rfl Try.func18 (by kernel_rfl) rfl #[.agg #[.int .i64 a0_0, .int .i64 a0_1, .int .i64 a0_2]] rfl qB46 ?_; (with_reducible refine (laws_toCharacter.calls a0_0 a0_1 a0_2 t364 t365 t366 _ A2.out).mono ?_); rintro e w9 ⟨rfl, hb⟩; refine ⟨_, rfl, ?_⟩; have n0_ := Aside0.mk (blk_below (g := gb363) (o := .cells #[.int .i64 a0_0, .int .i64 a0_1, .int .i64 a0_2] 32 (0, 0)) qB72 hb); have n1_ := Aside0.mk (below_step qB43 hb); clear BK363; clear HB; have BK363 := n0_; have HB := n1_; clear n0_ n1_; (try clear hb); (try clear hb2); (try clear hk); (try clear hi)) | ((with_reducible refine gate_callee (f := 17) rfl ?_); refine goesL_ (some 14) rfl rfl Try.func17 (by kernel_rfl) rfl #[.agg #[.int .i64 t364, .int .i64 t365, .int .i64 t366]] rfl qB46 ?_; (with_reducible refine (spec_SumOfCharacter.calls k t364 t365 t366 t367 t368 t371 _ A3.out).mono ?_); rintro e w10 ⟨v369, rfl, ho0, hb⟩; refine ⟨_, rfl, ?_⟩; have n0_ := Aside0.mk (Kd.R_lower ho0 (below_size qB43)); have n1_ := Aside0.mk (blk_below (g := gb363) (o := .cells #[.int .i64 a0_0, .int .i64 a0_1, .int .i64 a0_2] 32 (0, 0)) qB72 hb); have n2_ := Aside0.mk (below_step qB43 hb); clear BK363; clear HB; have HO370 := n0_; have BK363 := n1_; have HB := n2_; clear n0_ n1_ n2_; (try clear hb); (try clear hb2); (try clear hk); (try clear hi); (try clear ho0)) | ((with_reducible refine gate_dst (N := 3) rfl ?_); refine box_event ?hg (N := 3) ?hd (cs := #[.int .i64 0, .slice none 0 0]) (t := 34) ?hr ?_; (case hd => rfl); (case hg => rfl); (case hr => first | (go_simp; done) | (go_simp; rfl)); intro gb372 hg w11 hbox hb; have n0_ := Aside0.mk (Kd.R_below qB95 hb); have n1_ := Aside0.mk (blk_below (g := gb363) (o := .cells #[.int .i64 a0_0, .int .i64 a0_1, .int .i64 a0_2] 32 (0, 0)) qB72 hb); have n2_ := Aside0.mk (below_step qB43 hb); have n3_ := Aside0.mk (hbox); have n4_ := Aside0.mk ((by rw [hg]; exact (below_size qB43) : w.heap.size ≤ gb372)); have n5_ := Aside0.mk ((by rw [hg]; exact (below_size qB43) : w.heap.size ≤ gb372)); have n6_ := Aside0.mk ((by rw [hg]; exact Nat.ne_of_lt (blk_lt (g := gb363) (o := .cells #[.int .i64 a0_0, .int .i64 a0_1, .int .i64 a0_2] 32 (0, 0)) qB72) : gb363 ≠ gb372)); have n7_ := Aside0.mk ((by rw [hg]; exact Nat.ne_of_gt (blk_lt (g := gb363) (o := .cells #[.int .i64 a0_0, .int .i64 a0_1, .int .i64 a0_2] 32 (0, 0)) qB72) : gb372 ≠ gb363)); clear HO370; clear BK363; clear HB; have HO370 := n0_; have BK363 := n1_; have HB := n2_; have BK372 := n3_; have GW372 := n4_; have GE372 := n5_; have NB363_372 := n6_; have NB372_363 := n7_; clear n0_ n1_ n2_ n3_ n4_ n5_ n6_ n7_; clear hb hbox hg; have hnb12 := NB372_363.out; have hnc12 := NB363_372.out; have hcz13_0 : w11.cell? ⟨gb372, 0, none⟩ = some (.int .i64 0) := (blk_cell BK372.out 0).trans rfl; have hcz13_1 : w11.cell? ⟨gb372, 1, none⟩ = some (.slice none 0 0) := (blk_cell BK372.out 1).trans rfl; have hfz13_0 := blk_frozen BK372.out 0; have hfz13_1 := blk_frozen BK372.out 1; obtain ⟨Ao14, co14, eo14⟩ := Kd.R_slice HO370.out; subst eo14; have hcz15_0 : w11.cell? ⟨gb363, 0, none⟩ = some (.int .i64 a0_0) := (blk_cell BK363.out 0).trans rfl; have hcz15_1 : w11.cell? ⟨gb363, 1, none⟩ = some (.int .i64 a0_1) := (blk_cell BK363.out 1).trans rfl; have hcz15_2 : w11.cell? ⟨gb363, 2, none⟩ = some (.int .i64 a0_2) := (blk_cell BK363.out 2).trans rfl; have hfz15_0 := blk_frozen BK363.out 0; have hfz15_1 := blk_frozen BK363.out 1; have hfz15_2 := blk_frozen BK363.out 2) | ((with_reducible refine gate_callee (f := 18) rfl ?_); refine goesL_ (some 19) rfl rfl Try.func18 (by kernel_rfl) rfl #[.agg #[.int .i64 a0_0, .int .i64 a0_1, .int .i64 a0_2]] rfl qB46 ?_; (with_reducible refine (laws_toCharacter.calls a0_0 a0_1 a0_2 t373 t374 t375 _ A4.out).mono ?_); rintro e w16 ⟨rfl, hb⟩; refine ⟨_, rfl, ?_⟩; have n0_ := Aside0.mk (Kd.R_below (by (with_reducible repeat (first | apply Kd.R_alloc | apply Kd.R_drewN | apply Kd.R_drew)); exact (Kd.R_mono (Kd.R_far (p := ⟨gb372, 1, none⟩) (Kd.R_far (p := ⟨gb372, 0, none⟩) (Kd.R_types HO370.out BK372.out (by decide)) (fun _ hk => hk.2) (.int .i64 t367)) (fun _ hk => hk.2) (.slice Ao14 t368.length co14)) (fun _ h_ => h_.1))) hb); have n1_ := Aside0.mk (blk_below (g := gb363) (o := .cells #[.int .i64 a0_0, .int .i64 a0_1, .int .i64 a0_2] 32 (0, 0)) (by (with_reducible repeat (first | refine blk_drewN ?_ _ | refine blk_drew ?_ | refine blk_alloc ?_ _)); refine blk_far ?_ NB363_372.out _; (with_reducible repeat (first | refine blk_drewN ?_ _ | refine blk_drew ?_ | refine blk_alloc ?_ _)); refine blk_far ?_ NB363_372.out _; (with_reducible repeat (first | refine blk_drewN ?_ _ | refine blk_drew ?_ | refine blk_alloc ?_ _)); exact BK363.out) hb); have n2_ := Aside0.mk (blk_below (g := gb372) (o := .cells #[.int .i64 t367, .slice Ao14 t368.length co14] 34 (0, 0)) (by (with_reducible repeat (first | refine blk_drewN ?_ _ | refine blk_drew ?_ | refine blk_alloc ?_ _)); refine blk_put (cs := #[.int .i64 t367, .slice none 0 0]) ?_ 1 _ rfl; (with_reducible repeat (first | refine blk_drewN ?_ _ | refine blk_drew ?_ | refine blk_alloc ?_ _)); refine blk_put (cs := #[.int .i64 0, .slice none 0 0]) ?_ 0 _ rfl; (with_reducible repeat (first | refine blk_drewN ?_ _ | refine blk_drew ?_ | refine blk_alloc ?_ _)); exact BK372.out) hb); have n3_ := Aside0.mk (below_step qB27 hb); clear HO370; clear BK363; clear BK372; clear HB; have HO370 := n0_; have BK363 := n1_; have BK372 := n2_; have HB := n3_; clear n0_ n1_ n2_ n3_; (try clear hb); (try clear hb2); (try clear hk); (try clear hi)) | ((with_reducible refine gate_callee (f := 19) rfl ?_); refine goesL_ (some 20) rfl rfl Try.func19 (by kernel_rfl) rfl #[.agg #[.int .i64 t373, .int .i64 t374, .int .i64 t375]] rfl qB46 ?_; (with_reducible refine (impl_SumOfCharacter.calls k t373 t374 t375 t376 t377 t380 _ A5.out).mono ?_); rintro e w17 ⟨v378, rfl, ho0, hb⟩; refine ⟨_, rfl, ?_⟩; have n0_ := Aside0.mk (Kd.R_elder' qB95 (Kd.R_base ho0) hb); have n1_ := Aside0.mk (Kd.R_lower (Kd.R_new' ho0 (Kd.R_lt qB95)) (below_size qB27)); have n2_ := Aside0.mk (blk_below (g := gb363) (o := .cells #[.int .i64 a0_0, .int .i64 a0_1, .int .i64 a0_2] 32 (0, 0)) qB72 hb); have n3_ := Aside0.mk (blk_below (g := gb372) (o := .cells #[.int .i64 t367, .slice Ao14 t368.length co14] 34 (0, 0)) qB73 hb); have n4_ := Aside0.mk (below_step qB27 hb); clear HO370; clear BK363; clear BK372; clear HB; have HO370 := n0_; have HO379 := n1_; have BK363 := n2_; have BK372 := n3_; have HB := n4_; clear n0_ n1_ n2_ n3_ n4_; (try clear hb); (try clear hb2); (try clear hk); (try clear hi); (try clear ho0)) | ((with_reducible refine gate_dst (N := 5) rfl ?_); refine box_event ?hg (N := 5) ?hd (cs := #[.int .i64 0, .slice none 0 0]) (t := 34) ?hr ?_; (case hd => rfl); (case hg => rfl); (case hr => first | (go_simp; done) | (go_simp; rfl)); intro gb381 hg w18 hbox hb; have n0_ := Aside0.mk (Kd.R_below qB95 hb); have n1_ := Aside0.mk (Kd.R_below (by (with_reducible repeat (first | apply Kd.R_alloc | apply Kd.R_drewN | apply Kd.R_drew)); exact HO379.out) hb); have n2_ := Aside0.mk (blk_below (g := gb363) (o := .cells #[.int .i64 a0_0, .int .i64 a0_1, .int .i64 a0_2] 32 (0, 0)) qB72 hb); have n3_ := Aside0.mk (blk_below (g := gb372) (o := .cells #[.int .i64 t367, .slice Ao14 t368.length co14] 34 (0, 0)) qB73 hb); have n4_ := Aside0.mk (below_step qB27 hb); have n5_ := Aside0.mk (hbox); have n6_ := Aside0.mk ((by rw [hg]; exact (below_size qB27) : w.heap.size ≤ gb381)); have n7_ := Aside0.mk ((by rw [hg]; exact (below_size qB27) : w.heap.size ≤ gb381)); have n8_ := Aside0.mk ((by rw [hg]; exact Nat.ne_of_lt (blk_lt (g := gb363) (o := .cells #[.int .i64 a0_0, .int .i64 a0_1, .int .i64 a0_2] 32 (0, 0)) qB72) : gb363 ≠ gb381)); have n9_ := Aside0.mk ((by rw [hg]; exact Nat.ne_of_gt (blk_lt (g := gb363) (o := .cells #[.int .i64 a0_0, .int .i64 a0_1, .int .i64 a0_2] 32 (0, 0)) qB72) : gb381 ≠ gb363)); have n10_ := Aside0.mk ((by rw [hg]; exact Nat.ne_of_lt (blk_lt (g := gb372) (o := .cells #[.int .i64 t367, .slice Ao14 t368.length co14] 34 (0, 0)) qB73) : gb372 ≠ gb381)); have n11_ := Aside0.mk ((by rw [hg]; exact Nat.ne_of_gt (blk_lt (g := gb372) (o := .cells #[.int .i64 t367, .slice Ao14 t368.length co14] 34 (0, 0)) qB73) : gb381 ≠ gb372)); clear HO370; clear HO379; clear BK363; clear BK372; clear HB; have HO370 := n0_; have HO379 := n1_; have BK363 := n2_; have BK372 := n3_; have HB := n4_; have BK381 := n5_; have GW381 := n6_; have GE381 := n7_; have NB363_381 := n8_; have NB381_363 := n9_; have NB372_381 := n10_; have NB381_372 := n11_; clear n0_ n1_ n2_ n3_ n4_ n5_ n6_ n7_ n8_ n9_ n10_ n11_; clear hb hbox hg; have hnb19 := NB381_363.out; have hnc19 := NB363_381.out; have hnb20 := NB381_372.out; have hnc20 := NB372_381.out; have hcz21_0 : w18.cell? ⟨gb381, 0, none⟩ = some (.int .i64 0) := (blk_cell BK381.out 0).trans rfl; have hcz21_1 : w18.cell? ⟨gb381, 1, none⟩ = some (.slice none 0 0) := (blk_cell BK381.out 1).trans rfl; have hfz21_0 := blk_frozen BK381.out 0; have hfz21_1 := blk_frozen BK381.out 1; obtain ⟨Ao22, co22, eo22⟩ := Kd.R_slice HO379.out; subst eo22))
  (try simp only [Act.put, List.setIfInBounds_toArray, List.set_cons_zero, List.set_cons_succ])
  go_cut [31] (fun v31 wc => ∃ (kq : Nat) (x31_5 : Bool), v31 = .bool x31_5 ∧ Aside0 (laws_FnExactSumOfCharacter.j0 kq t371 x31_5 a0_0 a0_1 a0_2 t367 t368 t376 t377 = some r) ∧ Aside0 (kq ≤ k) ∧ Aside0 (Kd.R (Kd.int .i64) 2 wc w.heap.size (fun k_ => some k_ ≠ ((.slice Ao22 t377.length co22) : Value).ownBlock) (.slice Ao14 t368.length co14) t368) ∧ Aside0 (Kd.R (Kd.int .i64) 2 wc w.heap.size (fun k_ => some k_ ≠ ((.slice Ao14 t368.length co14) : Value).ownBlock) (.slice Ao22 t377.length co22) t377) ∧ Aside0 (wc.heap[gb363]? = some (.cells #[.int .i64 a0_0, .int .i64 a0_1, .int .i64 a0_2] 32 (0, 0))) ∧ Aside0 (wc.heap[gb372]? = some (.cells #[.int .i64 t367, (.slice Ao14 t368.length co14)] 34 (0, 0))) ∧ Aside0 (wc.heap[gb381]? = some (.cells #[.int .i64 t376, (.slice Ao22 t377.length co22)] 34 (0, 0))) ∧ Aside0 (Below w.heap.size w wc))
  case first =>
    have H := HC6.out
    clear HC6
    replace H := Option.bind_eq_some_iff.mp H
    obtain ⟨t382, A230, H⟩ := H
    replace H : (if t382 = true then (laws_FnExactSumOfCharacter.j0 k t371 (t380 != t371) a0_0 a0_1 a0_2 t367 t368 t376 t377) else (laws_FnExactSumOfCharacter.j0 k t371 true a0_0 a0_1 a0_2 t367 t368 t376 t377)) = some r := H
    have A23 := Aside0.mk A230
    clear A230
    by_cases c24 : t382 = true
    · subst c24
      have H1 : (laws_FnExactSumOfCharacter.j0 k t371 (t380 != t371) a0_0 a0_1 a0_2 t367 t368 t376 t377) = some r := by rw [if_pos rfl] at H; exact H
      clear H
      have H := H1
      clear H1
      have H' := Aside0.mk H
      clear H
      have hnb25 := NB381_363.out
      have hnc25 := NB363_381.out
      have hnb26 := NB381_372.out
      have hnc26 := NB372_381.out
      have hcz27_0 : w18.cell? ⟨gb381, 0, none⟩ = some (.int .i64 0) := (blk_cell BK381.out 0).trans rfl
      have hcz27_1 : w18.cell? ⟨gb381, 1, none⟩ = some (.slice none 0 0) := (blk_cell BK381.out 1).trans rfl
      have hfz27_0 := blk_frozen BK381.out 0
      have hfz27_1 := blk_frozen BK381.out 1
      have hnb28 := NB372_363.out
      have hnc28 := NB363_372.out
      have hcz29_0 : w18.cell? ⟨gb372, 0, none⟩ = some (.int .i64 t367) := (blk_cell BK372.out 0).trans rfl
      have hcz29_1 : w18.cell? ⟨gb372, 1, none⟩ = some (.slice Ao14 t368.length co14) := (blk_cell BK372.out 1).trans rfl
      have hfz29_0 := blk_frozen BK372.out 0
      have hfz29_1 := blk_frozen BK372.out 1
      go_wp2_with (first | ((with_reducible refine gate_callee (f := 20) rfl ?_); refine goesL_ (some 25) rfl rfl Try.func20 (by kernel_rfl) rfl #[.agg #[.int .i64 t376, .slice Ao22 t377.length co22], .agg #[.int .i64 t367, .slice Ao14 t368.length co14]] rfl qB46 ?_; (with_reducible refine (laws_eqCyclo.calls k t376 _ _ t377 t367 _ _ t368 true _ ?side1 ?side2 ?side3 ?side4 A23.out).mono ?_); (case side1 => refine (Kd.R_reads' (e := 2) (base := w.heap.size) (ok := fun k_ => (True ∧ some k_ ≠ (.slice Ao14 t368.length co14 : Value).ownBlock)) (n := t377.length) (c := co22) ?_).2.2; exact qB11); (case side2 => exact (Kd.R_reads' HO379.out).2.1); (case side3 => refine (Kd.R_reads' (e := 2) (base := w.heap.size) (ok := fun k_ => (True ∧ some k_ ≠ (.slice Ao22 t377.length co22 : Value).ownBlock)) (n := t368.length) (c := co14) ?_).2.2; exact qB12); (case side4 => exact (Kd.R_reads' HO370.out).2.1); rintro e w30 ⟨rfl, hb⟩; refine ⟨_, rfl, ?_⟩; have n0_ := Aside0.mk (Kd.R_below qB12 hb); have n1_ := Aside0.mk (Kd.R_below qB11 hb); have n2_ := Aside0.mk (blk_below (g := gb363) (o := .cells #[.int .i64 a0_0, .int .i64 a0_1, .int .i64 a0_2] 32 (0, 0)) qB4 hb); have n3_ := Aside0.mk (blk_below (g := gb372) (o := .cells #[.int .i64 t367, .slice Ao14 t368.length co14] 34 (0, 0)) qB5 hb); have n4_ := Aside0.mk (blk_below (g := gb381) (o := .cells #[.int .i64 t376, .slice Ao22 t377.length co22] 34 (0, 0)) qB2 hb); have n5_ := Aside0.mk (below_step qB18 hb); clear HO370; clear HO379; clear BK363; clear BK372; clear BK381; clear HB; have HO370 := n0_; have HO379 := n1_; have BK363 := n2_; have BK372 := n3_; have BK381 := n4_; have HB := n5_; clear n0_ n1_ n2_ n3_ n4_ n5_; (try clear hb); (try clear hb2); (try clear hk); (try clear hi)))
      go_meet
      case rel => exact ⟨_, ((t380 != t371)), qB103, H', ⟨by first | omega | exact Nat.le_refl _⟩, ⟨by (with_reducible repeat (first | apply Kd.R_alloc | apply Kd.R_drewN | apply Kd.R_drew)); exact Kd.R_mono HO370.out (fun _ hk => hk.2)⟩, ⟨by (with_reducible repeat (first | apply Kd.R_alloc | apply Kd.R_drewN | apply Kd.R_drew)); exact Kd.R_mono HO379.out (fun _ hk => hk.2)⟩, ⟨by (with_reducible repeat (first | refine blk_drewN ?_ _ | refine blk_drew ?_ | refine blk_alloc ?_ _)); exact BK363.out⟩, ⟨by (with_reducible repeat (first | refine blk_drewN ?_ _ | refine blk_drew ?_ | refine blk_alloc ?_ _)); exact BK372.out⟩, ⟨by (with_reducible repeat (first | refine blk_drewN ?_ _ | refine blk_drew ?_ | refine blk_alloc ?_ _)); exact BK381.out⟩, ⟨by repeat (first | (with_reducible first | exact HB.out | apply below_alloc | apply pw_below_drewN | apply below_drew1 | refine below_set ?_ GE363.out | refine below_set ?_ GE372.out | refine below_set ?_ GE381.out) | exact HB.out)⟩⟩
    · replace c24 := Bool.eq_false_iff.mpr c24
      subst c24
      have H1 : (laws_FnExactSumOfCharacter.j0 k t371 true a0_0 a0_1 a0_2 t367 t368 t376 t377) = some r := by rw [if_neg (show ¬ (false = true) by decide)] at H; exact H
      clear H
      have H := H1
      clear H1
      have H' := Aside0.mk H
      clear H
      have hnb31 := NB381_363.out
      have hnc31 := NB363_381.out
      have hnb32 := NB381_372.out
      have hnc32 := NB372_381.out
      have hcz33_0 : w18.cell? ⟨gb381, 0, none⟩ = some (.int .i64 0) := (blk_cell BK381.out 0).trans rfl
      have hcz33_1 : w18.cell? ⟨gb381, 1, none⟩ = some (.slice none 0 0) := (blk_cell BK381.out 1).trans rfl
      have hfz33_0 := blk_frozen BK381.out 0
      have hfz33_1 := blk_frozen BK381.out 1
      have hnb34 := NB372_363.out
      have hnc34 := NB363_372.out
      have hcz35_0 : w18.cell? ⟨gb372, 0, none⟩ = some (.int .i64 t367) := (blk_cell BK372.out 0).trans rfl
      have hcz35_1 : w18.cell? ⟨gb372, 1, none⟩ = some (.slice Ao14 t368.length co14) := (blk_cell BK372.out 1).trans rfl
      have hfz35_0 := blk_frozen BK372.out 0
      have hfz35_1 := blk_frozen BK372.out 1
      go_wp2_with (first | ((with_reducible refine gate_callee (f := 20) rfl ?_); refine goesL_ (some 25) rfl rfl Try.func20 (by kernel_rfl) rfl #[.agg #[.int .i64 t376, .slice Ao22 t377.length co22], .agg #[.int .i64 t367, .slice Ao14 t368.length co14]] rfl qB46 ?_; (with_reducible refine (laws_eqCyclo.calls k t376 _ _ t377 t367 _ _ t368 false _ ?side1 ?side2 ?side3 ?side4 A23.out).mono ?_); (case side1 => refine (Kd.R_reads' (e := 2) (base := w.heap.size) (ok := fun k_ => (True ∧ some k_ ≠ (.slice Ao14 t368.length co14 : Value).ownBlock)) (n := t377.length) (c := co22) ?_).2.2; exact qB11); (case side2 => exact (Kd.R_reads' HO379.out).2.1); (case side3 => refine (Kd.R_reads' (e := 2) (base := w.heap.size) (ok := fun k_ => (True ∧ some k_ ≠ (.slice Ao22 t377.length co22 : Value).ownBlock)) (n := t368.length) (c := co14) ?_).2.2; exact qB12); (case side4 => exact (Kd.R_reads' HO370.out).2.1); rintro e w36 ⟨rfl, hb⟩; refine ⟨_, rfl, ?_⟩; have n0_ := Aside0.mk (Kd.R_below qB12 hb); have n1_ := Aside0.mk (Kd.R_below qB11 hb); have n2_ := Aside0.mk (blk_below (g := gb363) (o := .cells #[.int .i64 a0_0, .int .i64 a0_1, .int .i64 a0_2] 32 (0, 0)) qB4 hb); have n3_ := Aside0.mk (blk_below (g := gb372) (o := .cells #[.int .i64 t367, .slice Ao14 t368.length co14] 34 (0, 0)) qB5 hb); have n4_ := Aside0.mk (blk_below (g := gb381) (o := .cells #[.int .i64 t376, .slice Ao22 t377.length co22] 34 (0, 0)) qB2 hb); have n5_ := Aside0.mk (below_step qB18 hb); clear HO370; clear HO379; clear BK363; clear BK372; clear BK381; clear HB; have HO370 := n0_; have HO379 := n1_; have BK363 := n2_; have BK372 := n3_; have BK381 := n4_; have HB := n5_; clear n0_ n1_ n2_ n3_ n4_ n5_; (try clear hb); (try clear hb2); (try clear hk); (try clear hi)))
      go_meet
      case rel => exact ⟨_, (true), qB103, H', ⟨by first | omega | exact Nat.le_refl _⟩, ⟨by (with_reducible repeat (first | apply Kd.R_alloc | apply Kd.R_drewN | apply Kd.R_drew)); exact Kd.R_mono HO370.out (fun _ hk => hk.2)⟩, ⟨by (with_reducible repeat (first | apply Kd.R_alloc | apply Kd.R_drewN | apply Kd.R_drew)); exact Kd.R_mono HO379.out (fun _ hk => hk.2)⟩, ⟨by (with_reducible repeat (first | refine blk_drewN ?_ _ | refine blk_drew ?_ | refine blk_alloc ?_ _)); exact BK363.out⟩, ⟨by (with_reducible repeat (first | refine blk_drewN ?_ _ | refine blk_drew ?_ | refine blk_alloc ?_ _)); exact BK372.out⟩, ⟨by (with_reducible repeat (first | refine blk_drewN ?_ _ | refine blk_drew ?_ | refine blk_alloc ?_ _)); exact BK381.out⟩, ⟨by repeat (first | (with_reducible first | exact HB.out | apply below_alloc | apply pw_below_drewN | apply below_drew1 | refine below_set ?_ GE363.out | refine below_set ?_ GE372.out | refine below_set ?_ GE381.out) | exact HB.out)⟩⟩
  case rest =>
    clear HC6
    try clear c1
    try clear c2
    try clear p2
    try clear c3
    try clear c5
    try clear c12
    try clear c17
    try clear c18
    try clear c19
    try clear c20
    try clear c24
    try clear c25
    try clear c26
    try clear c28
    try clear c31
    try clear c32
    try clear c34
    try clear hcz13_0
    try clear hcz13_1
    try clear hcz15_0
    try clear hcz15_1
    try clear hcz15_2
    try clear hcz21_0
    try clear hcz21_1
    try clear hcz27_0
    try clear hcz27_1
    try clear hcz29_0
    try clear hcz29_1
    try clear hcz33_0
    try clear hcz33_1
    try clear hcz35_0
    try clear hcz35_1
    try clear hcz8_0
    try clear hcz8_1
    try clear hcz8_2
    try clear hfz13_0
    try clear hfz13_1
    try clear hfz15_0
    try clear hfz15_1
    try clear hfz15_2
    try clear hfz21_0
    try clear hfz21_1
    try clear hfz27_0
    try clear hfz27_1
    try clear hfz29_0
    try clear hfz29_1
    try clear hfz33_0
    try clear hfz33_1
    try clear hfz35_0
    try clear hfz35_1
    try clear hfz8_0
    try clear hfz8_1
    try clear hfz8_2
    obtain ⟨kq, x31_5, rfl, HA, HJ5, HO_373001, HO_382001, BK363, BK372, BK381, HB⟩ := hcut
    cases kq with
    | zero => exact absurd HA.out (by simp [laws_FnExactSumOfCharacter.j0])
    | succ kj5 =>
      have H := HA.out
      clear HA
      simp only [laws_FnExactSumOfCharacter.j0] at H
      by_cases c37 : x31_5 = true
      · subst c37
        have H1 : (some false) = some r := by rw [if_pos rfl] at H; exact H
        clear H
        have H := H1
        clear H1
        obtain rfl := Option.some.inj H
        go_wp2
        go_ret
        exact ⟨by first | rfl | (simp [errW_none, errW_some] <;> rfl) | (simp [*, errW_none, errW_some] <;> rfl), by repeat (first | (with_reducible first | exact HB.out | apply below_alloc | apply pw_below_drewN | apply below_drew1 | refine below_set ?_ GE363.out | refine below_set ?_ GE372.out | refine below_set ?_ GE381.out) | exact HB.out)⟩
      · replace c37 := Bool.eq_false_iff.mpr c37
        subst c37
        have H1 : ((laws_markCyclo.f kj5 t376 t377 1).bind fun bt383 => ((laws_heldCyclo.f kj5 t376 bt383.2 1).bind fun t385 => (if t385 < 0 then (some false) else (if t385 = bt383.1 then ((laws_toCharacter.f a0_0 a0_1 a0_2).bind fun bt386 => ((impl_SumOfCharacter.f kj5 bt386.1 bt386.2.1 bt386.2.2).bind fun bt389 => ((laws_eqCyclo.f kj5 bt389.1 bt389.2.1 t367 t368).bind fun t395 => (if t395 = true then (laws_FnExactSumOfCharacter.j1 kj5 bt383.1 (bt389.2.2 != t371) t376 bt383.2) else (laws_FnExactSumOfCharacter.j1 kj5 bt383.1 true t376 bt383.2))))) else (some false))))) = some r := by rw [if_neg (show ¬ (false = true) by decide)] at H; exact H
        clear H
        have H := H1
        clear H1
        replace H := Option.bind_eq_some_iff.mp H
        obtain ⟨⟨t383, t384⟩, A380, H⟩ := H
        replace H : ((laws_heldCyclo.f kj5 t376 t384 1).bind fun t385 => (if t385 < 0 then (some false) else (if t385 = t383 then ((laws_toCharacter.f a0_0 a0_1 a0_2).bind fun bt386 => ((impl_SumOfCharacter.f kj5 bt386.1 bt386.2.1 bt386.2.2).bind fun bt389 => ((laws_eqCyclo.f kj5 bt389.1 bt389.2.1 t367 t368).bind fun t395 => (if t395 = true then (laws_FnExactSumOfCharacter.j1 kj5 t383 (bt389.2.2 != t371) t376 t384) else (laws_FnExactSumOfCharacter.j1 kj5 t383 true t376 t384))))) else (some false)))) = some r := H
        have A38 := Aside0.mk A380
        clear A380
        replace H := Option.bind_eq_some_iff.mp H
        obtain ⟨t385, A390, H⟩ := H
        replace H : (if t385 < 0 then (some false) else (if t385 = t383 then ((laws_toCharacter.f a0_0 a0_1 a0_2).bind fun bt386 => ((impl_SumOfCharacter.f kj5 bt386.1 bt386.2.1 bt386.2.2).bind fun bt389 => ((laws_eqCyclo.f kj5 bt389.1 bt389.2.1 t367 t368).bind fun t395 => (if t395 = true then (laws_FnExactSumOfCharacter.j1 kj5 t383 (bt389.2.2 != t371) t376 t384) else (laws_FnExactSumOfCharacter.j1 kj5 t383 true t376 t384))))) else (some false))) = some r := H
        have A39 := Aside0.mk A390
        clear A390
        by_cases c40 : t385 < 0
        · rw [if_pos c40] at H
          have c40b0 : decide (t385 < 0) = true := decide_eq_true c40
          clear c40
          obtain rfl := Option.some.inj H
          have hnb41 := NB381_363.out
          have hnc41 := NB363_381.out
          have hnb42 := NB381_372.out
          have hnc42 := NB372_381.out
          have hcz43_0 : wc.cell? ⟨gb381, 0, none⟩ = some (.int .i64 t376) := (blk_cell BK381.out 0).trans rfl
          have hcz43_1 : wc.cell? ⟨gb381, 1, none⟩ = some (.slice Ao22 t377.length co22) := (blk_cell BK381.out 1).trans rfl
          have hfz43_0 := blk_frozen BK381.out 0
          have hfz43_1 := blk_frozen BK381.out 1
          go_wp2_with (first | ((with_reducible refine gate_callee (f := 21) rfl ?_); refine goesL_ (some 34) rfl rfl Try.func21 (by kernel_rfl) rfl #[.agg #[.int .i64 t376, .slice Ao22 t377.length co22], .int .i64 1] rfl qB46 ?_; (with_reducible refine (laws_markCyclo.calls kj5 t376 (fun k_ => some k_ = (.slice Ao22 t377.length co22 : Value).ownBlock) (.slice Ao22 t377.length co22) t377 1 t383 t384 w _ ?side1 ?side2 A38.out).mono ?_); (case side1 => repeat (first | (with_reducible first | exact HB.out | apply below_alloc | apply pw_below_drewN | apply below_drew1 | refine below_set ?_ GE363.out | refine below_set ?_ GE372.out | refine below_set ?_ GE381.out) | exact HB.out)); (case side2 => exact Kd.R_tight rfl HO_382001.out); rintro e w44 ⟨rfl, hy0, hb, hkp⟩; refine ⟨_, rfl, ?_⟩; have n0_ := Aside0.mk (Kd.R_mono (ok' := fun k_ => some k_ ≠ (.slice Ao22 t377.length co22 : Value).ownBlock) (Kd.R_keptB (HO_373001.out) hkp (fun k_ hk_ hs_ => (hk_) hs_)) (fun k_ hk_ => hk_.1)); have n1_ := Aside0.mk (Kd.R_reok rfl hy0 (fun k_ e_ => HO_382001.out.1 k_ e_)); have n2_ := Aside0.mk (blk_kept qB72 hkp (fun hs_ => (fun e_ => (Kd.R_ne HO_382001.out BK363.out (by decide)) e_) hs_)); have n3_ := Aside0.mk (blk_kept qB73 hkp (fun hs_ => (fun e_ => (Kd.R_ne HO_382001.out BK372.out (by decide)) e_) hs_)); have n4_ := Aside0.mk (blk_kept qB74 hkp (fun hs_ => (fun e_ => (Kd.R_ne HO_382001.out BK381.out (by decide)) e_) hs_)); have n5_ := Aside0.mk (hb); clear HO_373001; clear HO_382001; clear BK363; clear BK372; clear BK381; clear HB; have HO_373001 := n0_; have HO_382001 := n1_; have BK363 := n2_; have BK372 := n3_; have BK381 := n4_; have HB := n5_; clear n0_ n1_ n2_ n3_ n4_ n5_; (try clear hb); (try clear hkp); (try clear hy0); have hcz45_0 : w44.cell? ⟨gb381, 0, none⟩ = some (.int .i64 t376) := (blk_cell BK381.out 0).trans rfl; have hcz45_1 : w44.cell? ⟨gb381, 1, none⟩ = some (.slice Ao22 t377.length co22) := (blk_cell BK381.out 1).trans rfl; have hfz45_0 := blk_frozen BK381.out 0; have hfz45_1 := blk_frozen BK381.out 1) | ((with_reducible refine gate_callee (f := 22) rfl ?_); refine goesL_ (some 37) rfl rfl Try.func22 (by kernel_rfl) rfl #[.agg #[.int .i64 t376, .slice Ao22 t384.length co22], .int .i64 1] rfl qB19 ?_; (with_reducible refine (laws_heldCyclo.calls kj5 t376 _ _ t384 1 t385 _ ?side1 ?side2 A39.out).mono ?_); (case side1 => repeat (first | exact (Kd.R_reads' HO_382001.out).2.2 | (with_reducible refine Kd.C_alloc ?_ _) | (with_reducible refine Kd.C_drewN ?_ _) | (with_reducible refine Kd.C_drew ?_))); (case side2 => rw [show t384.length = t377.length from (Kd.R_reads' HO_382001.out).1.symm]; exact (Kd.R_reads' HO_382001.out).2.1); rintro e w46 ⟨rfl, hb⟩; refine ⟨_, rfl, ?_⟩; have n0_ := Aside0.mk (Kd.R_below qB77 hb); have n1_ := Aside0.mk (Kd.R_below qB78 hb); have n2_ := Aside0.mk (blk_below (g := gb363) (o := .cells #[.int .i64 a0_0, .int .i64 a0_1, .int .i64 a0_2] 32 (0, 0)) qB72 hb); have n3_ := Aside0.mk (blk_below (g := gb372) (o := .cells #[.int .i64 t367, .slice Ao14 t368.length co14] 34 (0, 0)) qB73 hb); have n4_ := Aside0.mk (blk_below (g := gb381) (o := .cells #[.int .i64 t376, .slice Ao22 t377.length co22] 34 (0, 0)) qB74 hb); have n5_ := Aside0.mk (below_step qB18 hb); clear HO_373001; clear HO_382001; clear BK363; clear BK372; clear BK381; clear HB; have HO_373001 := n0_; have HO_382001 := n1_; have BK363 := n2_; have BK372 := n3_; have BK381 := n4_; have HB := n5_; clear n0_ n1_ n2_ n3_ n4_ n5_; (try clear hb); (try clear hb2); (try clear hk); (try clear hi)))
          go_ret
          exact ⟨by first | rfl | (simp [errW_none, errW_some] <;> rfl) | (simp [*, errW_none, errW_some] <;> rfl), by repeat (first | (with_reducible first | exact HB.out | apply below_alloc | apply pw_below_drewN | apply below_drew1 | refine below_set ?_ GE363.out | refine below_set ?_ GE372.out | refine below_set ?_ GE381.out) | exact HB.out)⟩
        · rw [if_neg c40] at H
          have c40b0 : decide (t385 < 0) = false := decide_eq_false c40
          clear c40
          by_cases c47 : t385 = t383
          · rw [if_pos c47] at H
            have c47b0 : (t385 == t383) = true := beq_iff_eq.mpr c47
            have c47b1 : (t385 != t383) = false := bne_eq_false_iff_eq.mpr c47
            clear c47
            replace H := Option.bind_eq_some_iff.mp H
            obtain ⟨⟨t386, t387, t388⟩, A480, H⟩ := H
            replace H : ((impl_SumOfCharacter.f kj5 t386 t387 t388).bind fun bt389 => ((laws_eqCyclo.f kj5 bt389.1 bt389.2.1 t367 t368).bind fun t395 => (if t395 = true then (laws_FnExactSumOfCharacter.j1 kj5 t383 (bt389.2.2 != t371) t376 t384) else (laws_FnExactSumOfCharacter.j1 kj5 t383 true t376 t384)))) = some r := H
            have A48 := Aside0.mk A480
            clear A480
            replace H := Option.bind_eq_some_iff.mp H
            obtain ⟨⟨t389, t390, t393⟩, A490, H⟩ := H
            replace H : ((laws_eqCyclo.f kj5 t389 t390 t367 t368).bind fun t395 => (if t395 = true then (laws_FnExactSumOfCharacter.j1 kj5 t383 (t393 != t371) t376 t384) else (laws_FnExactSumOfCharacter.j1 kj5 t383 true t376 t384))) = some r := H
            have A49 := Aside0.mk A490
            clear A490
            have HC50 := Aside0.mk H
            clear H
            have hnb51 := NB381_363.out
            have hnc51 := NB363_381.out
            have hnb52 := NB381_372.out
            have hnc52 := NB372_381.out
            have hcz53_0 : wc.cell? ⟨gb381, 0, none⟩ = some (.int .i64 t376) := (blk_cell BK381.out 0).trans rfl
            have hcz53_1 : wc.cell? ⟨gb381, 1, none⟩ = some (.slice Ao22 t377.length co22) := (blk_cell BK381.out 1).trans rfl
            have hfz53_0 := blk_frozen BK381.out 0
            have hfz53_1 := blk_frozen BK381.out 1
            go_upto_region 14 with (first | ((with_reducible refine gate_callee (f := 21) rfl ?_); refine goesL_ (some 34) rfl rfl Try.func21 (by kernel_rfl) rfl #[.agg #[.int .i64 t376, .slice Ao22 t377.length co22], .int .i64 1] rfl qB46 ?_; (with_reducible refine (laws_markCyclo.calls kj5 t376 (fun k_ => some k_ = (.slice Ao22 t377.length co22 : Value).ownBlock) (.slice Ao22 t377.length co22) t377 1 t383 t384 w _ ?side1 ?side2 A38.out).mono ?_); (case side1 => repeat (first | (with_reducible first | exact HB.out | apply below_alloc | apply pw_below_drewN | apply below_drew1 | refine below_set ?_ GE363.out | refine below_set ?_ GE372.out | refine below_set ?_ GE381.out) | exact HB.out)); (case side2 => exact Kd.R_tight rfl HO_382001.out); rintro e w54 ⟨rfl, hy0, hb, hkp⟩; refine ⟨_, rfl, ?_⟩; have n0_ := Aside0.mk (Kd.R_mono (ok' := fun k_ => some k_ ≠ (.slice Ao22 t377.length co22 : Value).ownBlock) (Kd.R_keptB (HO_373001.out) hkp (fun k_ hk_ hs_ => (hk_) hs_)) (fun k_ hk_ => hk_.1)); have n1_ := Aside0.mk (Kd.R_reok rfl hy0 (fun k_ e_ => HO_382001.out.1 k_ e_)); have n2_ := Aside0.mk (blk_kept qB72 hkp (fun hs_ => (fun e_ => (Kd.R_ne HO_382001.out BK363.out (by decide)) e_) hs_)); have n3_ := Aside0.mk (blk_kept qB73 hkp (fun hs_ => (fun e_ => (Kd.R_ne HO_382001.out BK372.out (by decide)) e_) hs_)); have n4_ := Aside0.mk (blk_kept qB74 hkp (fun hs_ => (fun e_ => (Kd.R_ne HO_382001.out BK381.out (by decide)) e_) hs_)); have n5_ := Aside0.mk (hb); clear HO_373001; clear HO_382001; clear BK363; clear BK372; clear BK381; clear HB; have HO_373001 := n0_; have HO_382001 := n1_; have BK363 := n2_; have BK372 := n3_; have BK381 := n4_; have HB := n5_; clear n0_ n1_ n2_ n3_ n4_ n5_; (try clear hb); (try clear hkp); (try clear hy0); have hcz55_0 : w54.cell? ⟨gb381, 0, none⟩ = some (.int .i64 t376) := (blk_cell BK381.out 0).trans rfl; have hcz55_1 : w54.cell? ⟨gb381, 1, none⟩ = some (.slice Ao22 t377.length co22) := (blk_cell BK381.out 1).trans rfl; have hfz55_0 := blk_frozen BK381.out 0; have hfz55_1 := blk_frozen BK381.out 1) | ((with_reducible refine gate_callee (f := 22) rfl ?_); refine goesL_ (some 37) rfl rfl Try.func22 (by kernel_rfl) rfl #[.agg #[.int .i64 t376, .slice Ao22 t384.length co22], .int .i64 1] rfl qB19 ?_; (with_reducible refine (laws_heldCyclo.calls kj5 t376 _ _ t384 1 t385 _ ?side1 ?side2 A39.out).mono ?_); (case side1 => repeat (first | exact (Kd.R_reads' HO_382001.out).2.2 | (with_reducible refine Kd.C_alloc ?_ _) | (with_reducible refine Kd.C_drewN ?_ _) | (with_reducible refine Kd.C_drew ?_))); (case side2 => rw [show t384.length = t377.length from (Kd.R_reads' HO_382001.out).1.symm]; exact (Kd.R_reads' HO_382001.out).2.1); rintro e w56 ⟨rfl, hb⟩; refine ⟨_, rfl, ?_⟩; have n0_ := Aside0.mk (Kd.R_below qB77 hb); have n1_ := Aside0.mk (Kd.R_below qB78 hb); have n2_ := Aside0.mk (blk_below (g := gb363) (o := .cells #[.int .i64 a0_0, .int .i64 a0_1, .int .i64 a0_2] 32 (0, 0)) qB72 hb); have n3_ := Aside0.mk (blk_below (g := gb372) (o := .cells #[.int .i64 t367, .slice Ao14 t368.length co14] 34 (0, 0)) qB73 hb); have n4_ := Aside0.mk (blk_below (g := gb381) (o := .cells #[.int .i64 t376, .slice Ao22 t377.length co22] 34 (0, 0)) qB74 hb); have n5_ := Aside0.mk (below_step qB18 hb); clear HO_373001; clear HO_382001; clear BK363; clear BK372; clear BK381; clear HB; have HO_373001 := n0_; have HO_382001 := n1_; have BK363 := n2_; have BK372 := n3_; have BK381 := n4_; have HB := n5_; clear n0_ n1_ n2_ n3_ n4_ n5_; (try clear hb); (try clear hb2); (try clear hk); (try clear hi); have hnb57 := NB363_372.out; have hnc57 := NB372_363.out; have hcz58_0 : w56.cell? ⟨gb363, 0, none⟩ = some (.int .i64 a0_0) := (blk_cell BK363.out 0).trans rfl; have hcz58_1 : w56.cell? ⟨gb363, 1, none⟩ = some (.int .i64 a0_1) := (blk_cell BK363.out 1).trans rfl; have hcz58_2 : w56.cell? ⟨gb363, 2, none⟩ = some (.int .i64 a0_2) := (blk_cell BK363.out 2).trans rfl; have hfz58_0 := blk_frozen BK363.out 0; have hfz58_1 := blk_frozen BK363.out 1; have hfz58_2 := blk_frozen BK363.out 2) | ((with_reducible refine gate_callee (f := 18) rfl ?_); refine goesL_ (some 45) rfl rfl Try.func18 (by kernel_rfl) rfl #[.agg #[.int .i64 a0_0, .int .i64 a0_1, .int .i64 a0_2]] rfl qB46 ?_; (with_reducible refine (laws_toCharacter.calls a0_0 a0_1 a0_2 t386 t387 t388 _ A48.out).mono ?_); rintro e w59 ⟨rfl, hb⟩; refine ⟨_, rfl, ?_⟩; have n0_ := Aside0.mk (Kd.R_below qB77 hb); have n1_ := Aside0.mk (Kd.R_below qB78 hb); have n2_ := Aside0.mk (blk_below (g := gb363) (o := .cells #[.int .i64 a0_0, .int .i64 a0_1, .int .i64 a0_2] 32 (0, 0)) qB72 hb); have n3_ := Aside0.mk (blk_below (g := gb372) (o := .cells #[.int .i64 t367, .slice Ao14 t368.length co14] 34 (0, 0)) qB73 hb); have n4_ := Aside0.mk (blk_below (g := gb381) (o := .cells #[.int .i64 t376, .slice Ao22 t377.length co22] 34 (0, 0)) qB74 hb); have n5_ := Aside0.mk (below_step qB18 hb); clear HO_373001; clear HO_382001; clear BK363; clear BK372; clear BK381; clear HB; have HO_373001 := n0_; have HO_382001 := n1_; have BK363 := n2_; have BK372 := n3_; have BK381 := n4_; have HB := n5_; clear n0_ n1_ n2_ n3_ n4_ n5_; (try clear hb); (try clear hb2); (try clear hk); (try clear hi)) | ((with_reducible refine gate_callee (f := 19) rfl ?_); refine goesL_ (some 46) rfl rfl Try.func19 (by kernel_rfl) rfl #[.agg #[.int .i64 t386, .int .i64 t387, .int .i64 t388]] rfl qB46 ?_; (with_reducible refine (impl_SumOfCharacter.calls kj5 t386 t387 t388 t389 t390 t393 _ A49.out).mono ?_); rintro e w60 ⟨v391, rfl, ho0, hb⟩; refine ⟨_, rfl, ?_⟩; have n0_ := Aside0.mk (Kd.R_elder' qB77 (Kd.R_base ho0) hb); have n1_ := Aside0.mk (Kd.R_elder' qB78 (Kd.R_base ho0) hb); have n2_ := Aside0.mk (Kd.R_lower (Kd.R_new' (Kd.R_new' ho0 (Kd.R_lt qB77)) (Kd.R_lt qB78)) (below_size qB18)); have n3_ := Aside0.mk (blk_below (g := gb363) (o := .cells #[.int .i64 a0_0, .int .i64 a0_1, .int .i64 a0_2] 32 (0, 0)) qB72 hb); have n4_ := Aside0.mk (blk_below (g := gb372) (o := .cells #[.int .i64 t367, .slice Ao14 t368.length co14] 34 (0, 0)) qB73 hb); have n5_ := Aside0.mk (blk_below (g := gb381) (o := .cells #[.int .i64 t376, .slice Ao22 t377.length co22] 34 (0, 0)) qB74 hb); have n6_ := Aside0.mk (below_step qB18 hb); clear HO_373001; clear HO_382001; clear BK363; clear BK372; clear BK381; clear HB; have HO_373001 := n0_; have HO_382001 := n1_; have HO392 := n2_; have BK363 := n3_; have BK372 := n4_; have BK381 := n5_; have HB := n6_; clear n0_ n1_ n2_ n3_ n4_ n5_ n6_; (try clear hb); (try clear hb2); (try clear hk); (try clear hi); (try clear ho0)) | ((with_reducible refine gate_dst (N := 9) rfl ?_); refine box_event ?hg (N := 9) ?hd (cs := #[.int .i64 0, .slice none 0 0]) (t := 34) ?hr ?_; (case hd => rfl); (case hg => rfl); (case hr => first | (go_simp; done) | (go_simp; rfl)); intro gb394 hg w61 hbox hb; have n0_ := Aside0.mk (Kd.R_below qB77 hb); have n1_ := Aside0.mk (Kd.R_below qB78 hb); have n2_ := Aside0.mk (Kd.R_below (by (with_reducible repeat (first | apply Kd.R_alloc | apply Kd.R_drewN | apply Kd.R_drew)); exact HO392.out) hb); have n3_ := Aside0.mk (blk_below (g := gb363) (o := .cells #[.int .i64 a0_0, .int .i64 a0_1, .int .i64 a0_2] 32 (0, 0)) qB72 hb); have n4_ := Aside0.mk (blk_below (g := gb372) (o := .cells #[.int .i64 t367, .slice Ao14 t368.length co14] 34 (0, 0)) qB73 hb); have n5_ := Aside0.mk (blk_below (g := gb381) (o := .cells #[.int .i64 t376, .slice Ao22 t377.length co22] 34 (0, 0)) qB74 hb); have n6_ := Aside0.mk (below_step qB18 hb); have n7_ := Aside0.mk (hbox); have n8_ := Aside0.mk ((by rw [hg]; exact (below_size qB18) : w.heap.size ≤ gb394)); have n9_ := Aside0.mk ((by rw [hg]; exact (below_size qB18) : w.heap.size ≤ gb394)); have n10_ := Aside0.mk ((by rw [hg]; exact Nat.ne_of_lt (blk_lt (g := gb363) (o := .cells #[.int .i64 a0_0, .int .i64 a0_1, .int .i64 a0_2] 32 (0, 0)) qB72) : gb363 ≠ gb394)); have n11_ := Aside0.mk ((by rw [hg]; exact Nat.ne_of_gt (blk_lt (g := gb363) (o := .cells #[.int .i64 a0_0, .int .i64 a0_1, .int .i64 a0_2] 32 (0, 0)) qB72) : gb394 ≠ gb363)); have n12_ := Aside0.mk ((by rw [hg]; exact Nat.ne_of_lt (blk_lt (g := gb372) (o := .cells #[.int .i64 t367, .slice Ao14 t368.length co14] 34 (0, 0)) qB73) : gb372 ≠ gb394)); have n13_ := Aside0.mk ((by rw [hg]; exact Nat.ne_of_gt (blk_lt (g := gb372) (o := .cells #[.int .i64 t367, .slice Ao14 t368.length co14] 34 (0, 0)) qB73) : gb394 ≠ gb372)); have n14_ := Aside0.mk ((by rw [hg]; exact Nat.ne_of_lt (blk_lt (g := gb381) (o := .cells #[.int .i64 t376, .slice Ao22 t377.length co22] 34 (0, 0)) qB74) : gb381 ≠ gb394)); have n15_ := Aside0.mk ((by rw [hg]; exact Nat.ne_of_gt (blk_lt (g := gb381) (o := .cells #[.int .i64 t376, .slice Ao22 t377.length co22] 34 (0, 0)) qB74) : gb394 ≠ gb381)); clear HO_373001; clear HO_382001; clear HO392; clear BK363; clear BK372; clear BK381; clear HB; have HO_373001 := n0_; have HO_382001 := n1_; have HO392 := n2_; have BK363 := n3_; have BK372 := n4_; have BK381 := n5_; have HB := n6_; have BK394 := n7_; have GW394 := n8_; have GE394 := n9_; have NB363_394 := n10_; have NB394_363 := n11_; have NB372_394 := n12_; have NB394_372 := n13_; have NB381_394 := n14_; have NB394_381 := n15_; clear n0_ n1_ n2_ n3_ n4_ n5_ n6_ n7_ n8_ n9_ n10_ n11_ n12_ n13_ n14_ n15_; clear hb hbox hg; have hnb62 := NB394_363.out; have hnc62 := NB363_394.out; have hnb63 := NB394_372.out; have hnc63 := NB372_394.out; have hnb64 := NB394_381.out; have hnc64 := NB381_394.out; have hcz65_0 : w61.cell? ⟨gb394, 0, none⟩ = some (.int .i64 0) := (blk_cell BK394.out 0).trans rfl; have hcz65_1 : w61.cell? ⟨gb394, 1, none⟩ = some (.slice none 0 0) := (blk_cell BK394.out 1).trans rfl; have hfz65_0 := blk_frozen BK394.out 0; have hfz65_1 := blk_frozen BK394.out 1; obtain ⟨Ao66, co66, eo66⟩ := Kd.R_slice HO392.out; subst eo66))
            (try simp only [Act.put, List.setIfInBounds_toArray, List.set_cons_zero, List.set_cons_succ])
            go_cut [57] (fun v57 wc => ∃ (kq : Nat) (x57_49 : Bool), v57 = .bool x57_49 ∧ Aside0 (laws_FnExactSumOfCharacter.j1 kq t383 x57_49 t376 t384 = some r) ∧ Aside0 (kq ≤ kj5) ∧ Aside0 (Kd.R (Kd.int .i64) 2 wc w.heap.size (fun k_ => some k_ ≠ ((.slice Ao22 t377.length co22) : Value).ownBlock ∧ some k_ ≠ ((.slice Ao66 t390.length co66) : Value).ownBlock) (.slice Ao14 t368.length co14) t368) ∧ Aside0 (Kd.R (Kd.int .i64) 2 wc w.heap.size (fun k_ => some k_ ≠ ((.slice Ao14 t368.length co14) : Value).ownBlock ∧ some k_ ≠ ((.slice Ao66 t390.length co66) : Value).ownBlock) (.slice Ao22 t377.length co22) t384) ∧ Aside0 (Kd.R (Kd.int .i64) 2 wc w.heap.size (fun k_ => some k_ ≠ ((.slice Ao14 t368.length co14) : Value).ownBlock ∧ some k_ ≠ ((.slice Ao22 t377.length co22) : Value).ownBlock) (.slice Ao66 t390.length co66) t390) ∧ Aside0 (wc.heap[gb363]? = some (.cells #[.int .i64 a0_0, .int .i64 a0_1, .int .i64 a0_2] 32 (0, 0))) ∧ Aside0 (wc.heap[gb372]? = some (.cells #[.int .i64 t367, (.slice Ao14 t368.length co14)] 34 (0, 0))) ∧ Aside0 (wc.heap[gb381]? = some (.cells #[.int .i64 t376, (.slice Ao22 t377.length co22)] 34 (0, 0))) ∧ Aside0 (wc.heap[gb394]? = some (.cells #[.int .i64 t389, (.slice Ao66 t390.length co66)] 34 (0, 0))) ∧ Aside0 (Below w.heap.size w wc))
            case first =>
              have H := HC50.out
              clear HC50
              replace H := Option.bind_eq_some_iff.mp H
              obtain ⟨t395, A670, H⟩ := H
              replace H : (if t395 = true then (laws_FnExactSumOfCharacter.j1 kj5 t383 (t393 != t371) t376 t384) else (laws_FnExactSumOfCharacter.j1 kj5 t383 true t376 t384)) = some r := H
              have A67 := Aside0.mk A670
              clear A670
              by_cases c68 : t395 = true
              · subst c68
                have H1 : (laws_FnExactSumOfCharacter.j1 kj5 t383 (t393 != t371) t376 t384) = some r := by rw [if_pos rfl] at H; exact H
                clear H
                have H := H1
                clear H1
                have H' := Aside0.mk H
                clear H
                have hnb69 := NB394_363.out
                have hnc69 := NB363_394.out
                have hnb70 := NB394_372.out
                have hnc70 := NB372_394.out
                have hnb71 := NB394_381.out
                have hnc71 := NB381_394.out
                have hcz72_0 : w61.cell? ⟨gb394, 0, none⟩ = some (.int .i64 0) := (blk_cell BK394.out 0).trans rfl
                have hcz72_1 : w61.cell? ⟨gb394, 1, none⟩ = some (.slice none 0 0) := (blk_cell BK394.out 1).trans rfl
                have hfz72_0 := blk_frozen BK394.out 0
                have hfz72_1 := blk_frozen BK394.out 1
                have hnb73 := NB372_363.out
                have hnc73 := NB363_372.out
                have hnb74 := NB372_381.out
                have hnc74 := NB381_372.out
                have hcz75_0 : w61.cell? ⟨gb372, 0, none⟩ = some (.int .i64 t367) := (blk_cell BK372.out 0).trans rfl
                have hcz75_1 : w61.cell? ⟨gb372, 1, none⟩ = some (.slice Ao14 t368.length co14) := (blk_cell BK372.out 1).trans rfl
                have hfz75_0 := blk_frozen BK372.out 0
                have hfz75_1 := blk_frozen BK372.out 1
                go_wp2_with (first | ((with_reducible refine gate_callee (f := 20) rfl ?_); refine goesL_ (some 51) rfl rfl Try.func20 (by kernel_rfl) rfl #[.agg #[.int .i64 t389, .slice Ao66 t390.length co66], .agg #[.int .i64 t367, .slice Ao14 t368.length co14]] rfl qB46 ?_; (with_reducible refine (laws_eqCyclo.calls kj5 t389 _ _ t390 t367 _ _ t368 true _ ?side1 ?side2 ?side3 ?side4 A67.out).mono ?_); (case side1 => refine (Kd.R_reads' (e := 2) (base := w.heap.size) (ok := fun k_ => ((True ∧ some k_ ≠ (.slice Ao14 t368.length co14 : Value).ownBlock) ∧ some k_ ≠ (.slice Ao22 t377.length co22 : Value).ownBlock)) (n := t390.length) (c := co66) ?_).2.2; exact qB13); (case side2 => exact (Kd.R_reads' HO392.out).2.1); (case side3 => refine (Kd.R_reads' (e := 2) (base := w.heap.size) (ok := fun k_ => (some k_ ≠ (.slice Ao22 t377.length co22 : Value).ownBlock ∧ some k_ ≠ (.slice Ao66 t390.length co66 : Value).ownBlock)) (n := t368.length) (c := co14) ?_).2.2; exact qB9); (case side4 => exact (Kd.R_reads' HO_373001.out).2.1); rintro e w76 ⟨rfl, hb⟩; refine ⟨_, rfl, ?_⟩; have n0_ := Aside0.mk (Kd.R_below qB9 hb); have n1_ := Aside0.mk (Kd.R_below qB10 hb); have n2_ := Aside0.mk (Kd.R_below qB13 hb); have n3_ := Aside0.mk (blk_below (g := gb363) (o := .cells #[.int .i64 a0_0, .int .i64 a0_1, .int .i64 a0_2] 32 (0, 0)) qB6 hb); have n4_ := Aside0.mk (blk_below (g := gb372) (o := .cells #[.int .i64 t367, .slice Ao14 t368.length co14] 34 (0, 0)) qB7 hb); have n5_ := Aside0.mk (blk_below (g := gb381) (o := .cells #[.int .i64 t376, .slice Ao22 t377.length co22] 34 (0, 0)) qB8 hb); have n6_ := Aside0.mk (blk_below (g := gb394) (o := .cells #[.int .i64 t389, .slice Ao66 t390.length co66] 34 (0, 0)) qB3 hb); have n7_ := Aside0.mk (below_step qB15 hb); clear HO_373001; clear HO_382001; clear HO392; clear BK363; clear BK372; clear BK381; clear BK394; clear HB; have HO_373001 := n0_; have HO_382001 := n1_; have HO392 := n2_; have BK363 := n3_; have BK372 := n4_; have BK381 := n5_; have BK394 := n6_; have HB := n7_; clear n0_ n1_ n2_ n3_ n4_ n5_ n6_ n7_; (try clear hb); (try clear hb2); (try clear hk); (try clear hi)))
                go_meet
                case rel => exact ⟨_, ((t393 != t371)), qB103, H', ⟨by have := HJ5.out; first | omega | exact Nat.le_refl _⟩, ⟨by (with_reducible repeat (first | apply Kd.R_alloc | apply Kd.R_drewN | apply Kd.R_drew)); exact HO_373001.out⟩, ⟨by (with_reducible repeat (first | apply Kd.R_alloc | apply Kd.R_drewN | apply Kd.R_drew)); exact HO_382001.out⟩, ⟨by (with_reducible repeat (first | apply Kd.R_alloc | apply Kd.R_drewN | apply Kd.R_drew)); exact Kd.R_mono HO392.out (fun _ hk => ⟨hk.1.2, hk.2⟩)⟩, ⟨by (with_reducible repeat (first | refine blk_drewN ?_ _ | refine blk_drew ?_ | refine blk_alloc ?_ _)); exact BK363.out⟩, ⟨by (with_reducible repeat (first | refine blk_drewN ?_ _ | refine blk_drew ?_ | refine blk_alloc ?_ _)); exact BK372.out⟩, ⟨by (with_reducible repeat (first | refine blk_drewN ?_ _ | refine blk_drew ?_ | refine blk_alloc ?_ _)); exact BK381.out⟩, ⟨by (with_reducible repeat (first | refine blk_drewN ?_ _ | refine blk_drew ?_ | refine blk_alloc ?_ _)); exact BK394.out⟩, ⟨by repeat (first | (with_reducible first | exact HB.out | apply below_alloc | apply pw_below_drewN | apply below_drew1 | refine below_set ?_ GE363.out | refine below_set ?_ GE372.out | refine below_set ?_ GE381.out | refine below_set ?_ GE394.out) | exact HB.out)⟩⟩
              · replace c68 := Bool.eq_false_iff.mpr c68
                subst c68
                have H1 : (laws_FnExactSumOfCharacter.j1 kj5 t383 true t376 t384) = some r := by rw [if_neg (show ¬ (false = true) by decide)] at H; exact H
                clear H
                have H := H1
                clear H1
                have H' := Aside0.mk H
                clear H
                have hnb77 := NB394_363.out
                have hnc77 := NB363_394.out
                have hnb78 := NB394_372.out
                have hnc78 := NB372_394.out
                have hnb79 := NB394_381.out
                have hnc79 := NB381_394.out
                have hcz80_0 : w61.cell? ⟨gb394, 0, none⟩ = some (.int .i64 0) := (blk_cell BK394.out 0).trans rfl
                have hcz80_1 : w61.cell? ⟨gb394, 1, none⟩ = some (.slice none 0 0) := (blk_cell BK394.out 1).trans rfl
                have hfz80_0 := blk_frozen BK394.out 0
                have hfz80_1 := blk_frozen BK394.out 1
                have hnb81 := NB372_363.out
                have hnc81 := NB363_372.out
                have hnb82 := NB372_381.out
                have hnc82 := NB381_372.out
                have hcz83_0 : w61.cell? ⟨gb372, 0, none⟩ = some (.int .i64 t367) := (blk_cell BK372.out 0).trans rfl
                have hcz83_1 : w61.cell? ⟨gb372, 1, none⟩ = some (.slice Ao14 t368.length co14) := (blk_cell BK372.out 1).trans rfl
                have hfz83_0 := blk_frozen BK372.out 0
                have hfz83_1 := blk_frozen BK372.out 1
                go_wp2_with (first | ((with_reducible refine gate_callee (f := 20) rfl ?_); refine goesL_ (some 51) rfl rfl Try.func20 (by kernel_rfl) rfl #[.agg #[.int .i64 t389, .slice Ao66 t390.length co66], .agg #[.int .i64 t367, .slice Ao14 t368.length co14]] rfl qB46 ?_; (with_reducible refine (laws_eqCyclo.calls kj5 t389 _ _ t390 t367 _ _ t368 false _ ?side1 ?side2 ?side3 ?side4 A67.out).mono ?_); (case side1 => refine (Kd.R_reads' (e := 2) (base := w.heap.size) (ok := fun k_ => ((True ∧ some k_ ≠ (.slice Ao14 t368.length co14 : Value).ownBlock) ∧ some k_ ≠ (.slice Ao22 t377.length co22 : Value).ownBlock)) (n := t390.length) (c := co66) ?_).2.2; exact qB13); (case side2 => exact (Kd.R_reads' HO392.out).2.1); (case side3 => refine (Kd.R_reads' (e := 2) (base := w.heap.size) (ok := fun k_ => (some k_ ≠ (.slice Ao22 t377.length co22 : Value).ownBlock ∧ some k_ ≠ (.slice Ao66 t390.length co66 : Value).ownBlock)) (n := t368.length) (c := co14) ?_).2.2; exact qB9); (case side4 => exact (Kd.R_reads' HO_373001.out).2.1); rintro e w84 ⟨rfl, hb⟩; refine ⟨_, rfl, ?_⟩; have n0_ := Aside0.mk (Kd.R_below qB9 hb); have n1_ := Aside0.mk (Kd.R_below qB10 hb); have n2_ := Aside0.mk (Kd.R_below qB13 hb); have n3_ := Aside0.mk (blk_below (g := gb363) (o := .cells #[.int .i64 a0_0, .int .i64 a0_1, .int .i64 a0_2] 32 (0, 0)) qB6 hb); have n4_ := Aside0.mk (blk_below (g := gb372) (o := .cells #[.int .i64 t367, .slice Ao14 t368.length co14] 34 (0, 0)) qB7 hb); have n5_ := Aside0.mk (blk_below (g := gb381) (o := .cells #[.int .i64 t376, .slice Ao22 t377.length co22] 34 (0, 0)) qB8 hb); have n6_ := Aside0.mk (blk_below (g := gb394) (o := .cells #[.int .i64 t389, .slice Ao66 t390.length co66] 34 (0, 0)) qB3 hb); have n7_ := Aside0.mk (below_step qB15 hb); clear HO_373001; clear HO_382001; clear HO392; clear BK363; clear BK372; clear BK381; clear BK394; clear HB; have HO_373001 := n0_; have HO_382001 := n1_; have HO392 := n2_; have BK363 := n3_; have BK372 := n4_; have BK381 := n5_; have BK394 := n6_; have HB := n7_; clear n0_ n1_ n2_ n3_ n4_ n5_ n6_ n7_; (try clear hb); (try clear hb2); (try clear hk); (try clear hi)))
                go_meet
                case rel => exact ⟨_, (true), qB103, H', ⟨by have := HJ5.out; first | omega | exact Nat.le_refl _⟩, ⟨by (with_reducible repeat (first | apply Kd.R_alloc | apply Kd.R_drewN | apply Kd.R_drew)); exact HO_373001.out⟩, ⟨by (with_reducible repeat (first | apply Kd.R_alloc | apply Kd.R_drewN | apply Kd.R_drew)); exact HO_382001.out⟩, ⟨by (with_reducible repeat (first | apply Kd.R_alloc | apply Kd.R_drewN | apply Kd.R_drew)); exact Kd.R_mono HO392.out (fun _ hk => ⟨hk.1.2, hk.2⟩)⟩, ⟨by (with_reducible repeat (first | refine blk_drewN ?_ _ | refine blk_drew ?_ | refine blk_alloc ?_ _)); exact BK363.out⟩, ⟨by (with_reducible repeat (first | refine blk_drewN ?_ _ | refine blk_drew ?_ | refine blk_alloc ?_ _)); exact BK372.out⟩, ⟨by (with_reducible repeat (first | refine blk_drewN ?_ _ | refine blk_drew ?_ | refine blk_alloc ?_ _)); exact BK381.out⟩, ⟨by (with_reducible repeat (first | refine blk_drewN ?_ _ | refine blk_drew ?_ | refine blk_alloc ?_ _)); exact BK394.out⟩, ⟨by repeat (first | (with_reducible first | exact HB.out | apply below_alloc | apply pw_below_drewN | apply below_drew1 | refine below_set ?_ GE363.out | refine below_set ?_ GE372.out | refine below_set ?_ GE381.out | refine below_set ?_ GE394.out) | exact HB.out)⟩⟩
            case rest =>
              clear HC50
              try clear c1
              try clear c2
              try clear p2
              try clear c3
              try clear c4
              try clear c5
              try clear c6
              try clear c7
              try clear c8
              try clear c12
              try clear c17
              try clear c18
              try clear c19
              try clear c20
              try clear c21
              try clear c22
              try clear c24
              try clear c25
              try clear c26
              try clear c28
              try clear c31
              try clear c32
              try clear c34
              try clear c37
              try clear c40
              try clear c40b0
              try clear c41
              try clear c42
              try clear c47
              try clear c47b0
              try clear c47b1
              try clear c51
              try clear c52
              try clear c57
              try clear c62
              try clear c63
              try clear c64
              try clear c68
              try clear c69
              try clear c70
              try clear c71
              try clear c73
              try clear c74
              try clear c77
              try clear c78
              try clear c79
              try clear c81
              try clear c82
              try clear hcz13_0
              try clear hcz13_1
              try clear hcz15_0
              try clear hcz15_1
              try clear hcz15_2
              try clear hcz21_0
              try clear hcz21_1
              try clear hcz27_0
              try clear hcz27_1
              try clear hcz29_0
              try clear hcz29_1
              try clear hcz33_0
              try clear hcz33_1
              try clear hcz35_0
              try clear hcz35_1
              try clear hcz43_0
              try clear hcz43_1
              try clear hcz45_0
              try clear hcz45_1
              try clear hcz53_0
              try clear hcz53_1
              try clear hcz55_0
              try clear hcz55_1
              try clear hcz58_0
              try clear hcz58_1
              try clear hcz58_2
              try clear hcz65_0
              try clear hcz65_1
              try clear hcz72_0
              try clear hcz72_1
              try clear hcz75_0
              try clear hcz75_1
              try clear hcz80_0
              try clear hcz80_1
              try clear hcz83_0
              try clear hcz83_1
              try clear hcz8_0
              try clear hcz8_1
              try clear hcz8_2
              try clear hfz13_0
              try clear hfz13_1
              try clear hfz15_0
              try clear hfz15_1
              try clear hfz15_2
              try clear hfz21_0
              try clear hfz21_1
              try clear hfz27_0
              try clear hfz27_1
              try clear hfz29_0
              try clear hfz29_1
              try clear hfz33_0
              try clear hfz33_1
              try clear hfz35_0
              try clear hfz35_1
              try clear hfz43_0
              try clear hfz43_1
              try clear hfz45_0
              try clear hfz45_1
              try clear hfz53_0
              try clear hfz53_1
              try clear hfz55_0
              try clear hfz55_1
              try clear hfz58_0
              try clear hfz58_1
              try clear hfz58_2
              try clear hfz65_0
              try clear hfz65_1
              try clear hfz72_0
              try clear hfz72_1
              try clear hfz75_0
              try clear hfz75_1
              try clear hfz80_0
              try clear hfz80_1
              try clear hfz83_0
              try clear hfz83_1
              try clear hfz8_0
              try clear hfz8_1
              try clear hfz8_2
              try clear p2
              obtain ⟨kq, x57_49, rfl, HA, HJ49, HO_373001, HO_382001, HO_395001, BK363, BK372, BK381, BK394, HB⟩ := hcut
              have hl382001_49 := (Kd.R_reads' HO_382001.out).1
              rw [hl382001_49] at HO_382001
              (try simp only [hl382001_49])
              (try simp only [hl382001_49] at BK363)
              (try simp only [hl382001_49] at BK372)
              (try simp only [hl382001_49] at BK381)
              (try simp only [hl382001_49] at BK394)
              (try simp only [hl382001_49] at HO_373001)
              (try simp only [hl382001_49] at HO_395001)
              cases kq with
              | zero => exact absurd HA.out (by simp [laws_FnExactSumOfCharacter.j1])
              | succ kj49 =>
                have H := HA.out
                clear HA
                simp only [laws_FnExactSumOfCharacter.j1] at H
                by_cases c85 : x57_49 = true
                · subst c85
                  have H1 : (some false) = some r := by rw [if_pos rfl] at H; exact H
                  clear H
                  have H := H1
                  clear H1
                  obtain rfl := Option.some.inj H
                  go_wp2
                  go_ret
                  exact ⟨by first | rfl | (simp [errW_none, errW_some] <;> rfl) | (simp [*, errW_none, errW_some] <;> rfl), by repeat (first | (with_reducible first | exact HB.out | apply below_alloc | apply pw_below_drewN | apply below_drew1 | refine below_set ?_ GE363.out | refine below_set ?_ GE372.out | refine below_set ?_ GE381.out | refine below_set ?_ GE394.out) | exact HB.out)⟩
                · replace c85 := Bool.eq_false_iff.mpr c85
                  subst c85
                  have H1 : ((laws_heldCyclo.f kj49 t376 t384 1).bind fun t396 => (if t396 < 0 then (some false) else (if t396 = t383 then (some true) else (some false)))) = some r := by rw [if_neg (show ¬ (false = true) by decide)] at H; exact H
                  clear H
                  have H := H1
                  clear H1
                  replace H := Option.bind_eq_some_iff.mp H
                  obtain ⟨t396, A860, H⟩ := H
                  replace H : (if t396 < 0 then (some false) else (if t396 = t383 then (some true) else (some false))) = some r := H
                  have A86 := Aside0.mk A860
                  clear A860
                  by_cases c87 : t396 < 0
                  · rw [if_pos c87] at H
                    have c87b0 : decide (t396 < 0) = true := decide_eq_true c87
                    clear c87
                    obtain rfl := Option.some.inj H
                    have hnb88 := NB381_363.out
                    have hnc88 := NB363_381.out
                    have hnb89 := NB381_372.out
                    have hnc89 := NB372_381.out
                    have hnb90 := NB381_394.out
                    have hnc90 := NB394_381.out
                    have hcz91_0 : wc.cell? ⟨gb381, 0, none⟩ = some (.int .i64 t376) := (blk_cell BK381.out 0).trans rfl
                    have hcz91_1 : wc.cell? ⟨gb381, 1, none⟩ = some (.slice Ao22 t384.length co22) := (blk_cell BK381.out 1).trans rfl
                    have hfz91_0 := blk_frozen BK381.out 0
                    have hfz91_1 := blk_frozen BK381.out 1
                    go_wp2_with (first | ((with_reducible refine gate_callee (f := 22) rfl ?_); refine goesL_ (some 60) rfl rfl Try.func22 (by kernel_rfl) rfl #[.agg #[.int .i64 t376, .slice Ao22 t384.length co22], .int .i64 1] rfl qB46 ?_; (with_reducible refine (laws_heldCyclo.calls kj49 t376 _ _ t384 1 t396 _ ?side1 ?side2 A86.out).mono ?_); (case side1 => repeat (first | exact (Kd.R_reads' HO_382001.out).2.2 | (with_reducible refine Kd.C_alloc ?_ _) | (with_reducible refine Kd.C_drewN ?_ _) | (with_reducible refine Kd.C_drew ?_))); (case side2 => exact (Kd.R_reads' HO_382001.out).2.1); rintro e w92 ⟨rfl, hb⟩; refine ⟨_, rfl, ?_⟩; have n0_ := Aside0.mk (Kd.R_below qB77 hb); have n1_ := Aside0.mk (Kd.R_below qB78 hb); have n2_ := Aside0.mk (Kd.R_below qB79 hb); have n3_ := Aside0.mk (blk_below (g := gb363) (o := .cells #[.int .i64 a0_0, .int .i64 a0_1, .int .i64 a0_2] 32 (0, 0)) qB72 hb); have n4_ := Aside0.mk (blk_below (g := gb372) (o := .cells #[.int .i64 t367, .slice Ao14 t368.length co14] 34 (0, 0)) qB73 hb); have n5_ := Aside0.mk (blk_below (g := gb381) (o := .cells #[.int .i64 t376, .slice Ao22 t384.length co22] 34 (0, 0)) qB74 hb); have n6_ := Aside0.mk (blk_below (g := gb394) (o := .cells #[.int .i64 t389, .slice Ao66 t390.length co66] 34 (0, 0)) qB75 hb); have n7_ := Aside0.mk (below_step qB15 hb); clear HO_373001; clear HO_382001; clear HO_395001; clear BK363; clear BK372; clear BK381; clear BK394; clear HB; have HO_373001 := n0_; have HO_382001 := n1_; have HO_395001 := n2_; have BK363 := n3_; have BK372 := n4_; have BK381 := n5_; have BK394 := n6_; have HB := n7_; clear n0_ n1_ n2_ n3_ n4_ n5_ n6_ n7_; (try clear hb); (try clear hb2); (try clear hk); (try clear hi)))
                    go_ret
                    exact ⟨by first | rfl | (simp [errW_none, errW_some] <;> rfl) | (simp [*, errW_none, errW_some] <;> rfl), by repeat (first | (with_reducible first | exact HB.out | apply below_alloc | apply pw_below_drewN | apply below_drew1 | refine below_set ?_ GE363.out | refine below_set ?_ GE372.out | refine below_set ?_ GE381.out | refine below_set ?_ GE394.out) | exact HB.out)⟩
                  · rw [if_neg c87] at H
                    have c87b0 : decide (t396 < 0) = false := decide_eq_false c87
                    clear c87
                    by_cases c93 : t396 = t383
                    · rw [if_pos c93] at H
                      have c93b0 : (t396 == t383) = true := beq_iff_eq.mpr c93
                      have c93b1 : (t396 != t383) = false := bne_eq_false_iff_eq.mpr c93
                      clear c93
                      obtain rfl := Option.some.inj H
                      have hnb94 := NB381_363.out
                      have hnc94 := NB363_381.out
                      have hnb95 := NB381_372.out
                      have hnc95 := NB372_381.out
                      have hnb96 := NB381_394.out
                      have hnc96 := NB394_381.out
                      have hcz97_0 : wc.cell? ⟨gb381, 0, none⟩ = some (.int .i64 t376) := (blk_cell BK381.out 0).trans rfl
                      have hcz97_1 : wc.cell? ⟨gb381, 1, none⟩ = some (.slice Ao22 t384.length co22) := (blk_cell BK381.out 1).trans rfl
                      have hfz97_0 := blk_frozen BK381.out 0
                      have hfz97_1 := blk_frozen BK381.out 1
                      go_wp2_with (first | ((with_reducible refine gate_callee (f := 22) rfl ?_); refine goesL_ (some 60) rfl rfl Try.func22 (by kernel_rfl) rfl #[.agg #[.int .i64 t376, .slice Ao22 t384.length co22], .int .i64 1] rfl qB46 ?_; (with_reducible refine (laws_heldCyclo.calls kj49 t376 _ _ t384 1 t396 _ ?side1 ?side2 A86.out).mono ?_); (case side1 => repeat (first | exact (Kd.R_reads' HO_382001.out).2.2 | (with_reducible refine Kd.C_alloc ?_ _) | (with_reducible refine Kd.C_drewN ?_ _) | (with_reducible refine Kd.C_drew ?_))); (case side2 => exact (Kd.R_reads' HO_382001.out).2.1); rintro e w98 ⟨rfl, hb⟩; refine ⟨_, rfl, ?_⟩; have n0_ := Aside0.mk (Kd.R_below qB77 hb); have n1_ := Aside0.mk (Kd.R_below qB78 hb); have n2_ := Aside0.mk (Kd.R_below qB79 hb); have n3_ := Aside0.mk (blk_below (g := gb363) (o := .cells #[.int .i64 a0_0, .int .i64 a0_1, .int .i64 a0_2] 32 (0, 0)) qB72 hb); have n4_ := Aside0.mk (blk_below (g := gb372) (o := .cells #[.int .i64 t367, .slice Ao14 t368.length co14] 34 (0, 0)) qB73 hb); have n5_ := Aside0.mk (blk_below (g := gb381) (o := .cells #[.int .i64 t376, .slice Ao22 t384.length co22] 34 (0, 0)) qB74 hb); have n6_ := Aside0.mk (blk_below (g := gb394) (o := .cells #[.int .i64 t389, .slice Ao66 t390.length co66] 34 (0, 0)) qB75 hb); have n7_ := Aside0.mk (below_step qB15 hb); clear HO_373001; clear HO_382001; clear HO_395001; clear BK363; clear BK372; clear BK381; clear BK394; clear HB; have HO_373001 := n0_; have HO_382001 := n1_; have HO_395001 := n2_; have BK363 := n3_; have BK372 := n4_; have BK381 := n5_; have BK394 := n6_; have HB := n7_; clear n0_ n1_ n2_ n3_ n4_ n5_ n6_ n7_; (try clear hb); (try clear hb2); (try clear hk); (try clear hi)))
                      go_ret
                      exact ⟨by first | rfl | (simp [errW_none, errW_some] <;> rfl) | (simp [*, errW_none, errW_some] <;> rfl), by repeat (first | (with_reducible first | exact HB.out | apply below_alloc | apply pw_below_drewN | apply below_drew1 | refine below_set ?_ GE363.out | refine below_set ?_ GE372.out | refine below_set ?_ GE381.out | refine below_set ?_ GE394.out) | exact HB.out)⟩
                    · rw [if_neg c93] at H
                      have c93b0 : (t396 == t383) = false := beq_eq_false_iff_ne.mpr c93
                      have c93b1 : (t396 != t383) = true := bne_iff_ne.mpr c93
                      obtain rfl := Option.some.inj H
                      have hnb99 := NB381_363.out
                      have hnc99 := NB363_381.out
                      have hnb100 := NB381_372.out
                      have hnc100 := NB372_381.out
                      have hnb101 := NB381_394.out
                      have hnc101 := NB394_381.out
                      have hcz102_0 : wc.cell? ⟨gb381, 0, none⟩ = some (.int .i64 t376) := (blk_cell BK381.out 0).trans rfl
                      have hcz102_1 : wc.cell? ⟨gb381, 1, none⟩ = some (.slice Ao22 t384.length co22) := (blk_cell BK381.out 1).trans rfl
                      have hfz102_0 := blk_frozen BK381.out 0
                      have hfz102_1 := blk_frozen BK381.out 1
                      go_wp2_with (first | ((with_reducible refine gate_callee (f := 22) rfl ?_); refine goesL_ (some 60) rfl rfl Try.func22 (by kernel_rfl) rfl #[.agg #[.int .i64 t376, .slice Ao22 t384.length co22], .int .i64 1] rfl qB46 ?_; (with_reducible refine (laws_heldCyclo.calls kj49 t376 _ _ t384 1 t396 _ ?side1 ?side2 A86.out).mono ?_); (case side1 => repeat (first | exact (Kd.R_reads' HO_382001.out).2.2 | (with_reducible refine Kd.C_alloc ?_ _) | (with_reducible refine Kd.C_drewN ?_ _) | (with_reducible refine Kd.C_drew ?_))); (case side2 => exact (Kd.R_reads' HO_382001.out).2.1); rintro e w103 ⟨rfl, hb⟩; refine ⟨_, rfl, ?_⟩; have n0_ := Aside0.mk (Kd.R_below qB77 hb); have n1_ := Aside0.mk (Kd.R_below qB78 hb); have n2_ := Aside0.mk (Kd.R_below qB79 hb); have n3_ := Aside0.mk (blk_below (g := gb363) (o := .cells #[.int .i64 a0_0, .int .i64 a0_1, .int .i64 a0_2] 32 (0, 0)) qB72 hb); have n4_ := Aside0.mk (blk_below (g := gb372) (o := .cells #[.int .i64 t367, .slice Ao14 t368.length co14] 34 (0, 0)) qB73 hb); have n5_ := Aside0.mk (blk_below (g := gb381) (o := .cells #[.int .i64 t376, .slice Ao22 t384.length co22] 34 (0, 0)) qB74 hb); have n6_ := Aside0.mk (blk_below (g := gb394) (o := .cells #[.int .i64 t389, .slice Ao66 t390.length co66] 34 (0, 0)) qB75 hb); have n7_ := Aside0.mk (below_step qB15 hb); clear HO_373001; clear HO_382001; clear HO_395001; clear BK363; clear BK372; clear BK381; clear BK394; clear HB; have HO_373001 := n0_; have HO_382001 := n1_; have HO_395001 := n2_; have BK363 := n3_; have BK372 := n4_; have BK381 := n5_; have BK394 := n6_; have HB := n7_; clear n0_ n1_ n2_ n3_ n4_ n5_ n6_ n7_; (try clear hb); (try clear hb2); (try clear hk); (try clear hi)))
                      go_ret
                      exact ⟨by first | rfl | (simp [errW_none, errW_some] <;> rfl) | (simp [*, errW_none, errW_some] <;> rfl), by repeat (first | (with_reducible first | exact HB.out | apply below_alloc | apply pw_below_drewN | apply below_drew1 | refine below_set ?_ GE363.out | refine below_set ?_ GE372.out | refine below_set ?_ GE381.out | refine below_set ?_ GE394.out) | exact HB.out)⟩
          · rw [if_neg c47] at H
            have c47b0 : (t385 == t383) = false := beq_eq_false_iff_ne.mpr c47
            have c47b1 : (t385 != t383) = true := bne_iff_ne.mpr c47
            obtain rfl := Option.some.inj H
            have hnb104 := NB381_363.out
            have hnc104 := NB363_381.out
            have hnb105 := NB381_372.out
            have hnc105 := NB372_381.out
            have hcz106_0 : wc.cell? ⟨gb381, 0, none⟩ = some (.int .i64 t376) := (blk_cell BK381.out 0).trans rfl
            have hcz106_1 : wc.cell? ⟨gb381, 1, none⟩ = some (.slice Ao22 t377.length co22) := (blk_cell BK381.out 1).trans rfl
            have hfz106_0 := blk_frozen BK381.out 0
            have hfz106_1 := blk_frozen BK381.out 1
            go_wp2_with (first | ((with_reducible refine gate_callee (f := 21) rfl ?_); refine goesL_ (some 34) rfl rfl Try.func21 (by kernel_rfl) rfl #[.agg #[.int .i64 t376, .slice Ao22 t377.length co22], .int .i64 1] rfl qB46 ?_; (with_reducible refine (laws_markCyclo.calls kj5 t376 (fun k_ => some k_ = (.slice Ao22 t377.length co22 : Value).ownBlock) (.slice Ao22 t377.length co22) t377 1 t383 t384 w _ ?side1 ?side2 A38.out).mono ?_); (case side1 => repeat (first | (with_reducible first | exact HB.out | apply below_alloc | apply pw_below_drewN | apply below_drew1 | refine below_set ?_ GE363.out | refine below_set ?_ GE372.out | refine below_set ?_ GE381.out) | exact HB.out)); (case side2 => exact Kd.R_tight rfl HO_382001.out); rintro e w107 ⟨rfl, hy0, hb, hkp⟩; refine ⟨_, rfl, ?_⟩; have n0_ := Aside0.mk (Kd.R_mono (ok' := fun k_ => some k_ ≠ (.slice Ao22 t377.length co22 : Value).ownBlock) (Kd.R_keptB (HO_373001.out) hkp (fun k_ hk_ hs_ => (hk_) hs_)) (fun k_ hk_ => hk_.1)); have n1_ := Aside0.mk (Kd.R_reok rfl hy0 (fun k_ e_ => HO_382001.out.1 k_ e_)); have n2_ := Aside0.mk (blk_kept qB72 hkp (fun hs_ => (fun e_ => (Kd.R_ne HO_382001.out BK363.out (by decide)) e_) hs_)); have n3_ := Aside0.mk (blk_kept qB73 hkp (fun hs_ => (fun e_ => (Kd.R_ne HO_382001.out BK372.out (by decide)) e_) hs_)); have n4_ := Aside0.mk (blk_kept qB74 hkp (fun hs_ => (fun e_ => (Kd.R_ne HO_382001.out BK381.out (by decide)) e_) hs_)); have n5_ := Aside0.mk (hb); clear HO_373001; clear HO_382001; clear BK363; clear BK372; clear BK381; clear HB; have HO_373001 := n0_; have HO_382001 := n1_; have BK363 := n2_; have BK372 := n3_; have BK381 := n4_; have HB := n5_; clear n0_ n1_ n2_ n3_ n4_ n5_; (try clear hb); (try clear hkp); (try clear hy0); have hcz108_0 : w107.cell? ⟨gb381, 0, none⟩ = some (.int .i64 t376) := (blk_cell BK381.out 0).trans rfl; have hcz108_1 : w107.cell? ⟨gb381, 1, none⟩ = some (.slice Ao22 t377.length co22) := (blk_cell BK381.out 1).trans rfl; have hfz108_0 := blk_frozen BK381.out 0; have hfz108_1 := blk_frozen BK381.out 1) | ((with_reducible refine gate_callee (f := 22) rfl ?_); refine goesL_ (some 37) rfl rfl Try.func22 (by kernel_rfl) rfl #[.agg #[.int .i64 t376, .slice Ao22 t384.length co22], .int .i64 1] rfl qB19 ?_; (with_reducible refine (laws_heldCyclo.calls kj5 t376 _ _ t384 1 t385 _ ?side1 ?side2 A39.out).mono ?_); (case side1 => repeat (first | exact (Kd.R_reads' HO_382001.out).2.2 | (with_reducible refine Kd.C_alloc ?_ _) | (with_reducible refine Kd.C_drewN ?_ _) | (with_reducible refine Kd.C_drew ?_))); (case side2 => rw [show t384.length = t377.length from (Kd.R_reads' HO_382001.out).1.symm]; exact (Kd.R_reads' HO_382001.out).2.1); rintro e w109 ⟨rfl, hb⟩; refine ⟨_, rfl, ?_⟩; have n0_ := Aside0.mk (Kd.R_below qB77 hb); have n1_ := Aside0.mk (Kd.R_below qB78 hb); have n2_ := Aside0.mk (blk_below (g := gb363) (o := .cells #[.int .i64 a0_0, .int .i64 a0_1, .int .i64 a0_2] 32 (0, 0)) qB72 hb); have n3_ := Aside0.mk (blk_below (g := gb372) (o := .cells #[.int .i64 t367, .slice Ao14 t368.length co14] 34 (0, 0)) qB73 hb); have n4_ := Aside0.mk (blk_below (g := gb381) (o := .cells #[.int .i64 t376, .slice Ao22 t377.length co22] 34 (0, 0)) qB74 hb); have n5_ := Aside0.mk (below_step qB18 hb); clear HO_373001; clear HO_382001; clear BK363; clear BK372; clear BK381; clear HB; have HO_373001 := n0_; have HO_382001 := n1_; have BK363 := n2_; have BK372 := n3_; have BK381 := n4_; have HB := n5_; clear n0_ n1_ n2_ n3_ n4_ n5_; (try clear hb); (try clear hb2); (try clear hk); (try clear hi)))
            go_ret
            exact ⟨by first | rfl | (simp [errW_none, errW_some] <;> rfl) | (simp [*, errW_none, errW_some] <;> rfl), by repeat (first | (with_reducible first | exact HB.out | apply below_alloc | apply pw_below_drewN | apply below_drew1 | refine below_set ?_ GE363.out | refine below_set ?_ GE372.out | refine below_set ?_ GE381.out) | exact HB.out)⟩

/-- THE ONE PURE STATEMENT of laws_FnExactSumOfCharacter. -/
def laws_FnExactSumOfCharacter.Pure : Prop := ∀ (a0_0 : Int) (a0_1 : Int) (a0_2 : Int), (Lit.int .i64 a0_0).wf = true → (Lit.int .i64 a0_1).wf = true → (Lit.int .i64 a0_2).wf = true → ∃ k, laws_FnExactSumOfCharacter.f k a0_0 a0_1 a0_2 = some true
theorem laws_FnExactSumOfCharacter.walk (P : laws_FnExactSumOfCharacter.Pure) (a0_0 : Int) (a0_1 : Int) (a0_2 : Int) (w : World) (w0_0 : (Lit.int .i64 a0_0).wf = true) (w0_1 : (Lit.int .i64 a0_1).wf = true) (w0_2 : (Lit.int .i64 a0_2).wf = true) :
    Calls Try.prog 5 #[.agg #[.int .i64 a0_0, .int .i64 a0_1, .int .i64 a0_2]] w fun e w' => e = .returned (.bool true) ∧ Below w.heap.size w w' := by
  obtain ⟨k, h⟩ := P a0_0 a0_1 a0_2 w0_0 w0_1 w0_2
  refine (laws_FnExactSumOfCharacter.calls k a0_0 a0_1 a0_2 true w  h).mono ?_
  rintro e w' ⟨rfl, hd⟩
  exact ⟨rfl, hd⟩

end Go.Proofs.Ythdpdiahkphklaa.PFnExactSumOfCharacter
