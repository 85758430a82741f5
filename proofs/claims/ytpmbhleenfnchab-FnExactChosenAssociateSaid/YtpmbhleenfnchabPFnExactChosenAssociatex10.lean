/- The functions that the law reaches, as plain functions, each with the proof that the program comes to it; no condition. Written by a program of this session (wip/mp.py) over the printing of the kit; what is marked HAND is told by hand. -/
import Derived.Test.YtpmbhleenfnchabPFnExactChosenAssociatex0
import Derived.Test.YtpmbhleenfnchabPFnExactChosenAssociatex2
import Derived.Test.YtpmbhleenfnchabPFnExactChosenAssociatex6
import Derived.Test.YtpmbhleenfnchabPFnExactChosenAssociatex9
namespace Go.Proofs.Ytpmbhleenfnchab.PFnExactChosenAssociate
open Go.RowKit Go.Proofs.YtpmbhleenfnchabW.PrintWords Go.Proofs.YtpmbhleenfnchabW.PrintLast Go.Proofs.YtpmbhleenfnchabW.PrintMore
attribute [local go_sem] max2_int min2_int max_two min_two max_three min_three max_four min_four   -- for this text's walks alone
set_option linter.unusedVariables false
set_option linter.unusedSimpArgs false

/-! ### laws_FnExactChosenAssociate: function 5 -/
mutual
def laws_FnExactChosenAssociate.j0 : Nat → Int → Int → Bool → Int → List Int → Int → List Int → Int → List Int → Int → List Int → Option (Bool)
  | 0, _, _, _, _, _, _, _, _, _, _, _ => none
  | k + 1, x5, x8, x40, x283000, x283001, x294000, x294001, x299000, x299001, x305000, x305001 => if x40 = true then (some false) else ((laws_toCyclo.f k x283000 x283001).bind fun bt306 => ((laws_eqCyclo.f k x299000 x299001 bt306.1 bt306.2).bind fun t310 => (if t310 = true then ((laws_markCyclo.f k x299000 x299001 1).bind fun bt311 => (if bt311.1 < 0 then (laws_FnExactChosenAssociate.j1 k x5 true x283000 x283001 x294000 x294001 x305000 x305001) else ((laws_eqCyclo.f k x305000 x305001 x294000 x294001).bind fun t313 => (if t313 = true then (laws_FnExactChosenAssociate.j1 k x5 (x8 != x5) x283000 x283001 x294000 x294001 x305000 x305001) else (laws_FnExactChosenAssociate.j1 k x5 true x283000 x283001 x294000 x294001 x305000 x305001))))) else (some false))))
def laws_FnExactChosenAssociate.j1 : Nat → Int → Bool → Int → List Int → Int → List Int → Int → List Int → Option (Bool)
  | 0, _, _, _, _, _, _, _, _ => none
  | k + 1, x5, x61, x283000, x283001, x294000, x294001, x305000, x305001 => if x61 = true then (some false) else ((laws_markCyclo.f k x305000 x305001 1).bind fun bt314 => ((laws_heldCyclo.f k x305000 bt314.2 1).bind fun t316 => (if t316 < 0 then (some false) else (if t316 = bt314.1 then ((laws_toCyclo.f k x283000 x283001).bind fun bt317 => ((impl_ChosenAssociate.f k bt317.1 bt317.2).bind fun bt321 => ((laws_eqCyclo.f k bt321.1 bt321.2.1 x294000 x294001).bind fun t327 => (if t327 = true then (laws_FnExactChosenAssociate.j2 k bt314.1 (bt321.2.2 != x5) x305000 bt314.2) else (laws_FnExactChosenAssociate.j2 k bt314.1 true x305000 bt314.2))))) else (some false)))))
def laws_FnExactChosenAssociate.j2 : Nat → Int → Bool → Int → List Int → Option (Bool)
  | 0, _, _, _, _ => none
  | k + 1, x10, x87, x305000, x305001 => if x87 = true then (some false) else ((laws_heldCyclo.f k x305000 x305001 1).bind fun t328 => (if t328 < 0 then (some false) else (if t328 = x10 then (some true) else (some false))))
end
def laws_FnExactChosenAssociate.f (k : Nat) (a0_0 : Int) (l0_1 : List Int) : Option (Bool) := (laws_szCyclo.f a0_0 l0_1 1048576).bind fun t283 => (if t283 < 0 then (some true) else ((laws_toCyclo.f k a0_0 l0_1).bind fun bt284 => ((spec_ChosenAssociate.f k bt284.1 bt284.2).bind fun bt288 => ((laws_toCyclo.f k a0_0 l0_1).bind fun bt294 => ((impl_ChosenAssociate.f k bt294.1 bt294.2).bind fun bt299 => ((laws_eqCyclo.f k bt299.1 bt299.2.1 bt288.1 bt288.2.1).bind fun t305 => (if t305 = true then (laws_FnExactChosenAssociate.j0 k bt288.2.2 bt299.2.2 (bt299.2.2 != bt288.2.2) a0_0 l0_1 bt288.1 bt288.2.1 bt294.1 bt294.2 bt299.1 bt299.2.1) else (laws_FnExactChosenAssociate.j0 k bt288.2.2 bt299.2.2 true a0_0 l0_1 bt288.1 bt288.2.1 bt294.1 bt294.2 bt299.1 bt299.2.1))))))))
theorem laws_FnExactChosenAssociate.mono_l : ∀ k, (∀ y0 y1 y2 y3 y4 y5 y6 y7 y8 y9 y10, LeO (laws_FnExactChosenAssociate.j0 k y0 y1 y2 y3 y4 y5 y6 y7 y8 y9 y10) (laws_FnExactChosenAssociate.j0 (k + 1) y0 y1 y2 y3 y4 y5 y6 y7 y8 y9 y10)) ∧ (∀ y0 y1 y2 y3 y4 y5 y6 y7, LeO (laws_FnExactChosenAssociate.j1 k y0 y1 y2 y3 y4 y5 y6 y7) (laws_FnExactChosenAssociate.j1 (k + 1) y0 y1 y2 y3 y4 y5 y6 y7)) ∧ (∀ y0 y1 y2 y3, LeO (laws_FnExactChosenAssociate.j2 k y0 y1 y2 y3) (laws_FnExactChosenAssociate.j2 (k + 1) y0 y1 y2 y3))
  | 0 => ⟨fun _ _ _ _ _ _ _ _ _ _ _ r h => by simp [laws_FnExactChosenAssociate.j0] at h, fun _ _ _ _ _ _ _ _ r h => by simp [laws_FnExactChosenAssociate.j1] at h, fun _ _ _ _ r h => by simp [laws_FnExactChosenAssociate.j2] at h⟩
  | k + 1 => by
    obtain ⟨ih0, ih1, ih2⟩ := laws_FnExactChosenAssociate.mono_l k
    refine ⟨?_, ?_, ?_⟩
    · intro y0 y1 y2 y3 y4 y5 y6 y7 y8 y9 y10
      unfold laws_FnExactChosenAssociate.j0
      repeat' first
      | (with_reducible exact ih0 _ _ _ _ _ _ _ _ _ _ _)
      | (with_reducible exact ih1 _ _ _ _ _ _ _ _)
      | (with_reducible exact ih2 _ _ _ _)
      | (with_reducible exact impl_ChosenAssociate.mono _ _ _)
      | (with_reducible exact laws_eqCyclo.mono _ _ _ _ _)
      | (with_reducible exact laws_heldCyclo.mono _ _ _ _)
      | (with_reducible exact laws_markCyclo.mono _ _ _ _)
      | (with_reducible exact laws_toCyclo.mono _ _ _)
      | (with_reducible exact spec_ChosenAssociate.mono _ _ _)
      | (with_reducible exact LeO.refl _)
      | (with_reducible exact LeO.none _)
      | (with_reducible refine LeO.ite ?_ ?_)
      | (with_reducible refine LeO.bind ?_ (fun _ => ?_))
      | exact ih0 _ _ _ _ _ _ _ _ _ _ _
      | exact ih1 _ _ _ _ _ _ _ _
      | exact ih2 _ _ _ _
      | exact impl_ChosenAssociate.mono _ _ _
      | exact laws_eqCyclo.mono _ _ _ _ _
      | exact laws_heldCyclo.mono _ _ _ _
      | exact laws_markCyclo.mono _ _ _ _
      | exact laws_toCyclo.mono _ _ _
      | exact spec_ChosenAssociate.mono _ _ _
      | exact LeO.none _
      | refine LeO.ite ?_ ?_
      | refine LeO.bind ?_ (fun _ => ?_)
    · intro y0 y1 y2 y3 y4 y5 y6 y7
      unfold laws_FnExactChosenAssociate.j1
      repeat' first
      | (with_reducible exact ih0 _ _ _ _ _ _ _ _ _ _ _)
      | (with_reducible exact ih1 _ _ _ _ _ _ _ _)
      | (with_reducible exact ih2 _ _ _ _)
      | (with_reducible exact impl_ChosenAssociate.mono _ _ _)
      | (with_reducible exact laws_eqCyclo.mono _ _ _ _ _)
      | (with_reducible exact laws_heldCyclo.mono _ _ _ _)
      | (with_reducible exact laws_markCyclo.mono _ _ _ _)
      | (with_reducible exact laws_toCyclo.mono _ _ _)
      | (with_reducible exact spec_ChosenAssociate.mono _ _ _)
      | (with_reducible exact LeO.refl _)
      | (with_reducible exact LeO.none _)
      | (with_reducible refine LeO.ite ?_ ?_)
      | (with_reducible refine LeO.bind ?_ (fun _ => ?_))
      | exact ih0 _ _ _ _ _ _ _ _ _ _ _
      | exact ih1 _ _ _ _ _ _ _ _
      | exact ih2 _ _ _ _
      | exact impl_ChosenAssociate.mono _ _ _
      | exact laws_eqCyclo.mono _ _ _ _ _
      | exact laws_heldCyclo.mono _ _ _ _
      | exact laws_markCyclo.mono _ _ _ _
      | exact laws_toCyclo.mono _ _ _
      | exact spec_ChosenAssociate.mono _ _ _
      | exact LeO.none _
      | refine LeO.ite ?_ ?_
      | refine LeO.bind ?_ (fun _ => ?_)
    · intro y0 y1 y2 y3
      unfold laws_FnExactChosenAssociate.j2
      repeat' first
      | (with_reducible exact ih0 _ _ _ _ _ _ _ _ _ _ _)
      | (with_reducible exact ih1 _ _ _ _ _ _ _ _)
      | (with_reducible exact ih2 _ _ _ _)
      | (with_reducible exact impl_ChosenAssociate.mono _ _ _)
      | (with_reducible exact laws_eqCyclo.mono _ _ _ _ _)
      | (with_reducible exact laws_heldCyclo.mono _ _ _ _)
      | (with_reducible exact laws_markCyclo.mono _ _ _ _)
      | (with_reducible exact laws_toCyclo.mono _ _ _)
      | (with_reducible exact spec_ChosenAssociate.mono _ _ _)
      | (with_reducible exact LeO.refl _)
      | (with_reducible exact LeO.none _)
      | (with_reducible refine LeO.ite ?_ ?_)
      | (with_reducible refine LeO.bind ?_ (fun _ => ?_))
      | exact ih0 _ _ _ _ _ _ _ _ _ _ _
      | exact ih1 _ _ _ _ _ _ _ _
      | exact ih2 _ _ _ _
      | exact impl_ChosenAssociate.mono _ _ _
      | exact laws_eqCyclo.mono _ _ _ _ _
      | exact laws_heldCyclo.mono _ _ _ _
      | exact laws_markCyclo.mono _ _ _ _
      | exact laws_toCyclo.mono _ _ _
      | exact spec_ChosenAssociate.mono _ _ _
      | exact LeO.none _
      | refine LeO.ite ?_ ?_
      | refine LeO.bind ?_ (fun _ => ?_)
theorem laws_FnExactChosenAssociate.mono : ∀ a0 a1 k, LeO (laws_FnExactChosenAssociate.f k a0 a1) (laws_FnExactChosenAssociate.f (k + 1) a0 a1) := by
  intro a0 a1 k
  obtain ⟨ih0, ih1, ih2⟩ := laws_FnExactChosenAssociate.mono_l k
  unfold laws_FnExactChosenAssociate.f
  repeat' first
      | (with_reducible exact ih0 _ _ _ _ _ _ _ _ _ _ _)
      | (with_reducible exact ih1 _ _ _ _ _ _ _ _)
      | (with_reducible exact ih2 _ _ _ _)
      | (with_reducible exact impl_ChosenAssociate.mono _ _ _)
      | (with_reducible exact laws_eqCyclo.mono _ _ _ _ _)
      | (with_reducible exact laws_heldCyclo.mono _ _ _ _)
      | (with_reducible exact laws_markCyclo.mono _ _ _ _)
      | (with_reducible exact laws_toCyclo.mono _ _ _)
      | (with_reducible exact spec_ChosenAssociate.mono _ _ _)
      | (with_reducible exact LeO.refl _)
      | (with_reducible exact LeO.none _)
      | (with_reducible refine LeO.ite ?_ ?_)
      | (with_reducible refine LeO.bind ?_ (fun _ => ?_))
      | exact ih0 _ _ _ _ _ _ _ _ _ _ _
      | exact ih1 _ _ _ _ _ _ _ _
      | exact ih2 _ _ _ _
      | exact impl_ChosenAssociate.mono _ _ _
      | exact laws_eqCyclo.mono _ _ _ _ _
      | exact laws_heldCyclo.mono _ _ _ _
      | exact laws_markCyclo.mono _ _ _ _
      | exact laws_toCyclo.mono _ _ _
      | exact spec_ChosenAssociate.mono _ _ _
      | exact LeO.none _
      | refine LeO.ite ?_ ?_
      | refine LeO.bind ?_ (fun _ => ?_)
set_option maxHeartbeats 8000000 in
set_option maxRecDepth 100000 in
theorem laws_FnExactChosenAssociate.calls (k : Nat) (a0_0 : Int) (A0_1 : Option Addr) (c0_1 : Nat) (l0_1 : List Int) (r : Bool) (w : World) (hr0_1 : Kd.C (Kd.int .i64) w A0_1 l0_1.length l0_1) (hc0_1 : l0_1.length ≤ c0_1) (h : laws_FnExactChosenAssociate.f k a0_0 l0_1 = some r) :
    Calls Try.prog 5 #[.agg #[.int .i64 a0_0, .slice A0_1 l0_1.length c0_1]] w fun e w' => e = .returned (.bool r) ∧ Below w.heap.size w w' := by
  have hu30 := Try.underlying30
  have hu32 := Try.underlying32
  have HR0_1 := Aside0.mk hr0_1
  have HC0_1 := Aside0.mk hc0_1
  clear hr0_1 hc0_1
  have HB := Aside0.mk (Below.refl w.heap.size w)
  have H : ((laws_szCyclo.f a0_0 l0_1 1048576).bind fun t283 => (if t283 < 0 then (some true) else ((laws_toCyclo.f k a0_0 l0_1).bind fun bt284 => ((spec_ChosenAssociate.f k bt284.1 bt284.2).bind fun bt288 => ((laws_toCyclo.f k a0_0 l0_1).bind fun bt294 => ((impl_ChosenAssociate.f k bt294.1 bt294.2).bind fun bt299 => ((laws_eqCyclo.f k bt299.1 bt299.2.1 bt288.1 bt288.2.1).bind fun t305 => (if t305 = true then (laws_FnExactChosenAssociate.j0 k bt288.2.2 bt299.2.2 (bt299.2.2 != bt288.2.2) a0_0 l0_1 bt288.1 bt288.2.1 bt294.1 bt294.2 bt299.1 bt299.2.1) else (laws_FnExactChosenAssociate.j0 k bt288.2.2 bt299.2.2 true a0_0 l0_1 bt288.1 bt288.2.1 bt294.1 bt294.2 bt299.1 bt299.2.1))))))))) = some r := h
  clear h
  replace H := Option.bind_eq_some_iff.mp H
  obtain ⟨t283, A20, H⟩ := H
  replace H : (if t283 < 0 then (some true) else ((laws_toCyclo.f k a0_0 l0_1).bind fun bt284 => ((spec_ChosenAssociate.f k bt284.1 bt284.2).bind fun bt288 => ((laws_toCyclo.f k a0_0 l0_1).bind fun bt294 => ((impl_ChosenAssociate.f k bt294.1 bt294.2).bind fun bt299 => ((laws_eqCyclo.f k bt299.1 bt299.2.1 bt288.1 bt288.2.1).bind fun t305 => (if t305 = true then (laws_FnExactChosenAssociate.j0 k bt288.2.2 bt299.2.2 (bt299.2.2 != bt288.2.2) a0_0 l0_1 bt288.1 bt288.2.1 bt294.1 bt294.2 bt299.1 bt299.2.1) else (laws_FnExactChosenAssociate.j0 k bt288.2.2 bt299.2.2 true a0_0 l0_1 bt288.1 bt288.2.1 bt294.1 bt294.2 bt299.1 bt299.2.1)))))))) = some r := H
  have A2 := Aside0.mk A20
  clear A20
  by_cases c3 : t283 < 0
  · rw [if_pos c3] at H
    have c3b0 : decide (t283 < 0) = true := decide_eq_true c3
    clear c3
    obtain rfl := Option.some.inj H
    go_enter Try.func5, Try.ntmps5
    go_wp2_with (first | ((with_reducible refine gate_dst (N := 1) rfl ?_); refine box_event ?hg (N := 1) ?hd (cs := #[.int .i64 a0_0, .slice A0_1 l0_1.length c0_1]) (t := 30) ?hr ?_; (case hd => rfl); (case hg => rfl); (case hr => first | (go_simp; done) | (go_simp; rfl)); intro gb282 hg w4 hbox hb; have n0_ := Aside0.mk (below_step qB69 hb); have n1_ := Aside0.mk (hbox); have n2_ := Aside0.mk ((by rw [hg]; exact (below_size qB69) : w.heap.size ≤ gb282)); have n3_ := Aside0.mk ((by rw [hg]; exact (below_size qB69) : w.heap.size ≤ gb282)); clear HB; have HB := n0_; have BK282 := n1_; have GW282 := n2_; have GE282 := n3_; clear n0_ n1_ n2_ n3_; clear hb hbox hg; have hcz5_0 : w4.cell? ⟨gb282, 0, none⟩ = some (.int .i64 a0_0) := (blk_cell BK282.out 0).trans rfl; have hcz5_1 : w4.cell? ⟨gb282, 1, none⟩ = some (.slice A0_1 l0_1.length c0_1) := (blk_cell BK282.out 1).trans rfl; have hfz5_0 := blk_frozen BK282.out 0; have hfz5_1 := blk_frozen BK282.out 1) | ((with_reducible refine gate_callee (f := 11) rfl ?_); refine goesL_ (some 16) rfl rfl Try.func11 (by kernel_rfl) rfl #[.agg #[.int .i64 a0_0, .slice A0_1 l0_1.length c0_1], .int .i64 1048576] rfl qB68 ?_; (with_reducible refine (laws_szCyclo.calls a0_0 _ _ l0_1 1048576 t283 _ ?side1 ?side2 A2.out).mono ?_); (case side1 => repeat (first | exact (Kd.C_below HR0_1.out HB.out) | (with_reducible refine Kd.C_alloc ?_ _) | (with_reducible refine Kd.C_drewN ?_ _) | (with_reducible refine Kd.C_drew ?_))); (case side2 => exact HC0_1.out); rintro e w6 ⟨rfl, hb⟩; refine ⟨_, rfl, ?_⟩; have n0_ := Aside0.mk (blk_below (g := gb282) (o := .cells #[.int .i64 a0_0, .slice A0_1 l0_1.length c0_1] 30 (0, 0)) qB99 hb); have n1_ := Aside0.mk (below_step qB67 hb); clear BK282; clear HB; have BK282 := n0_; have HB := n1_; clear n0_ n1_; (try clear hb); (try clear hb2); (try clear hk); (try clear hi)))
    go_ret
    exact ⟨by first | rfl | (simp [errW_none, errW_some] <;> rfl) | (simp [*, errW_none, errW_some] <;> rfl), by repeat (first | (with_reducible first | exact HB.out | apply below_alloc | apply pw_below_drewN | apply below_drew1 | refine below_set ?_ GE282.out) | exact HB.out)⟩
  · rw [if_neg c3] at H
    have c3b0 : decide (t283 < 0) = false := decide_eq_false c3
    clear c3
    replace H := Option.bind_eq_some_iff.mp H
    obtain ⟨⟨t284, t285⟩, A70, H⟩ := H
    replace H : ((spec_ChosenAssociate.f k t284 t285).bind fun bt288 => ((laws_toCyclo.f k a0_0 l0_1).bind fun bt294 => ((impl_ChosenAssociate.f k bt294.1 bt294.2).bind fun bt299 => ((laws_eqCyclo.f k bt299.1 bt299.2.1 bt288.1 bt288.2.1).bind fun t305 => (if t305 = true then (laws_FnExactChosenAssociate.j0 k bt288.2.2 bt299.2.2 (bt299.2.2 != bt288.2.2) a0_0 l0_1 bt288.1 bt288.2.1 bt294.1 bt294.2 bt299.1 bt299.2.1) else (laws_FnExactChosenAssociate.j0 k bt288.2.2 bt299.2.2 true a0_0 l0_1 bt288.1 bt288.2.1 bt294.1 bt294.2 bt299.1 bt299.2.1)))))) = some r := H
    have A7 := Aside0.mk A70
    clear A70
    replace H := Option.bind_eq_some_iff.mp H
    obtain ⟨⟨t288, t289, t292⟩, A80, H⟩ := H
    replace H : ((laws_toCyclo.f k a0_0 l0_1).bind fun bt294 => ((impl_ChosenAssociate.f k bt294.1 bt294.2).bind fun bt299 => ((laws_eqCyclo.f k bt299.1 bt299.2.1 t288 t289).bind fun t305 => (if t305 = true then (laws_FnExactChosenAssociate.j0 k t292 bt299.2.2 (bt299.2.2 != t292) a0_0 l0_1 t288 t289 bt294.1 bt294.2 bt299.1 bt299.2.1) else (laws_FnExactChosenAssociate.j0 k t292 bt299.2.2 true a0_0 l0_1 t288 t289 bt294.1 bt294.2 bt299.1 bt299.2.1))))) = some r := H
    have A8 := Aside0.mk A80
    clear A80
    replace H := Option.bind_eq_some_iff.mp H
    obtain ⟨⟨t294, t295⟩, A90, H⟩ := H
    replace H : ((impl_ChosenAssociate.f k t294 t295).bind fun bt299 => ((laws_eqCyclo.f k bt299.1 bt299.2.1 t288 t289).bind fun t305 => (if t305 = true then (laws_FnExactChosenAssociate.j0 k t292 bt299.2.2 (bt299.2.2 != t292) a0_0 l0_1 t288 t289 t294 t295 bt299.1 bt299.2.1) else (laws_FnExactChosenAssociate.j0 k t292 bt299.2.2 true a0_0 l0_1 t288 t289 t294 t295 bt299.1 bt299.2.1)))) = some r := H
    have A9 := Aside0.mk A90
    clear A90
    replace H := Option.bind_eq_some_iff.mp H
    obtain ⟨⟨t299, t300, t303⟩, A100, H⟩ := H
    replace H : ((laws_eqCyclo.f k t299 t300 t288 t289).bind fun t305 => (if t305 = true then (laws_FnExactChosenAssociate.j0 k t292 t303 (t303 != t292) a0_0 l0_1 t288 t289 t294 t295 t299 t300) else (laws_FnExactChosenAssociate.j0 k t292 t303 true a0_0 l0_1 t288 t289 t294 t295 t299 t300))) = some r := H
    have A10 := Aside0.mk A100
    clear A100
    have HC11 := Aside0.mk H
    clear H
    go_enter Try.func5, Try.ntmps5
    go_upto_region 8 with (first | ((with_reducible refine gate_dst (N := 1) rfl ?_); refine box_event ?hg (N := 1) ?hd (cs := #[.int .i64 a0_0, .slice A0_1 l0_1.length c0_1]) (t := 30) ?hr ?_; (case hd => rfl); (case hg => rfl); (case hr => first | (go_simp; done) | (go_simp; rfl)); intro gb282 hg w12 hbox hb; have n0_ := Aside0.mk (below_step qB69 hb); have n1_ := Aside0.mk (hbox); have n2_ := Aside0.mk ((by rw [hg]; exact (below_size qB69) : w.heap.size ≤ gb282)); have n3_ := Aside0.mk ((by rw [hg]; exact (below_size qB69) : w.heap.size ≤ gb282)); clear HB; have HB := n0_; have BK282 := n1_; have GW282 := n2_; have GE282 := n3_; clear n0_ n1_ n2_ n3_; clear hb hbox hg; have hcz13_0 : w12.cell? ⟨gb282, 0, none⟩ = some (.int .i64 a0_0) := (blk_cell BK282.out 0).trans rfl; have hcz13_1 : w12.cell? ⟨gb282, 1, none⟩ = some (.slice A0_1 l0_1.length c0_1) := (blk_cell BK282.out 1).trans rfl; have hfz13_0 := blk_frozen BK282.out 0; have hfz13_1 := blk_frozen BK282.out 1) | ((with_reducible refine gate_callee (f := 11) rfl ?_); refine goesL_ (some 16) rfl rfl Try.func11 (by kernel_rfl) rfl #[.agg #[.int .i64 a0_0, .slice A0_1 l0_1.length c0_1], .int .i64 1048576] rfl qB68 ?_; (with_reducible refine (laws_szCyclo.calls a0_0 _ _ l0_1 1048576 t283 _ ?side1 ?side2 A2.out).mono ?_); (case side1 => repeat (first | exact (Kd.C_below HR0_1.out HB.out) | (with_reducible refine Kd.C_alloc ?_ _) | (with_reducible refine Kd.C_drewN ?_ _) | (with_reducible refine Kd.C_drew ?_))); (case side2 => exact HC0_1.out); rintro e w14 ⟨rfl, hb⟩; refine ⟨_, rfl, ?_⟩; have n0_ := Aside0.mk (blk_below (g := gb282) (o := .cells #[.int .i64 a0_0, .slice A0_1 l0_1.length c0_1] 30 (0, 0)) qB99 hb); have n1_ := Aside0.mk (below_step qB67 hb); clear BK282; clear HB; have BK282 := n0_; have HB := n1_; clear n0_ n1_; (try clear hb); (try clear hb2); (try clear hk); (try clear hi); have hcz15_0 : w14.cell? ⟨gb282, 0, none⟩ = some (.int .i64 a0_0) := (blk_cell BK282.out 0).trans rfl; have hcz15_1 : w14.cell? ⟨gb282, 1, none⟩ = some (.slice A0_1 l0_1.length c0_1) := (blk_cell BK282.out 1).trans rfl; have hfz15_0 := blk_frozen BK282.out 0; have hfz15_1 := blk_frozen BK282.out 1) | ((with_reducible refine gate_callee (f := 13) rfl ?_); refine goesL_ (some 21) rfl rfl Try.func13 (by kernel_rfl) rfl #[.agg #[.int .i64 a0_0, .slice A0_1 l0_1.length c0_1]] rfl qB68 ?_; (with_reducible refine (laws_toCyclo.calls k a0_0 _ _ l0_1 t284 t285 _ ?side1 ?side2 A7.out).mono ?_); (case side1 => repeat (first | exact (Kd.C_below HR0_1.out HB.out) | (with_reducible refine Kd.C_alloc ?_ _) | (with_reducible refine Kd.C_drewN ?_ _) | (with_reducible refine Kd.C_drew ?_))); (case side2 => exact HC0_1.out); rintro e w16 ⟨v286, rfl, ho0, hb⟩; refine ⟨_, rfl, ?_⟩; have n0_ := Aside0.mk (Kd.R_lower ho0 (below_size qB67)); have n1_ := Aside0.mk (blk_below (g := gb282) (o := .cells #[.int .i64 a0_0, .slice A0_1 l0_1.length c0_1] 30 (0, 0)) qB99 hb); have n2_ := Aside0.mk (below_step qB67 hb); clear BK282; clear HB; have HO287 := n0_; have BK282 := n1_; have HB := n2_; clear n0_ n1_ n2_; (try clear hb); (try clear hb2); (try clear hk); (try clear hi); (try clear ho0); obtain ⟨Ao17, co17, eo17⟩ := Kd.R_slice HO287.out; subst eo17) | ((with_reducible refine gate_callee (f := 18) rfl ?_); refine goesL_ (some 22) rfl rfl Try.func18 (by kernel_rfl) rfl #[.agg #[.int .i64 t284, .slice Ao17 t285.length co17]] rfl qB68 ?_; (with_reducible refine (spec_ChosenAssociate.calls k t284 (fun k_ => some k_ = (.slice Ao17 t285.length co17 : Value).ownBlock) _ _ t285 t288 t289 t292 _ ?side1 A8.out).mono ?_); (case side1 => exact Kd.R_V (Kd.R_tight rfl (Kd.R_types (HO287.out) BK282.out (by decide)))); rintro e w18 ⟨v290, rfl, ho0, hb⟩; refine ⟨_, rfl, ?_⟩; have n0_ := Aside0.mk (Kd.R_elder' qB119 (Kd.R_base ho0) hb); have n1_ := Aside0.mk (Kd.R_lower (Kd.R_new' (Kd.R_mono (ok' := fun k_ => True) ho0 (fun _ hk_ => trivial)) (Kd.R_lt qB119)) (below_size qB67)); have n2_ := Aside0.mk (blk_below (g := gb282) (o := .cells #[.int .i64 a0_0, .slice A0_1 l0_1.length c0_1] 30 (0, 0)) qB99 hb); have n3_ := Aside0.mk (below_step qB67 hb); clear HO287; clear BK282; clear HB; have HO287 := n0_; have HO291 := n1_; have BK282 := n2_; have HB := n3_; clear n0_ n1_ n2_ n3_; (try clear hb); (try clear hb2); (try clear hk); (try clear hi); (try clear ho0)) | ((with_reducible refine gate_dst (N := 4) rfl ?_); refine box_event ?hg (N := 4) ?hd (cs := #[.int .i64 0, .slice none 0 0]) (t := 32) ?hr ?_; (case hd => rfl); (case hg => rfl); (case hr => first | (go_simp; done) | (go_simp; rfl)); intro gb293 hg w19 hbox hb; have n0_ := Aside0.mk (Kd.R_below qB119 hb); have n1_ := Aside0.mk (Kd.R_below qB120 hb); have n2_ := Aside0.mk (blk_below (g := gb282) (o := .cells #[.int .i64 a0_0, .slice A0_1 l0_1.length c0_1] 30 (0, 0)) qB99 hb); have n3_ := Aside0.mk (below_step qB67 hb); have n4_ := Aside0.mk (hbox); have n5_ := Aside0.mk ((by rw [hg]; exact (below_size qB67) : w.heap.size ≤ gb293)); have n6_ := Aside0.mk ((by rw [hg]; exact (below_size qB67) : w.heap.size ≤ gb293)); have n7_ := Aside0.mk ((by rw [hg]; exact Nat.ne_of_lt (blk_lt (g := gb282) (o := .cells #[.int .i64 a0_0, .slice A0_1 l0_1.length c0_1] 30 (0, 0)) qB99) : gb282 ≠ gb293)); have n8_ := Aside0.mk ((by rw [hg]; exact Nat.ne_of_gt (blk_lt (g := gb282) (o := .cells #[.int .i64 a0_0, .slice A0_1 l0_1.length c0_1] 30 (0, 0)) qB99) : gb293 ≠ gb282)); clear HO287; clear HO291; clear BK282; clear HB; have HO287 := n0_; have HO291 := n1_; have BK282 := n2_; have HB := n3_; have BK293 := n4_; have GW293 := n5_; have GE293 := n6_; have NB282_293 := n7_; have NB293_282 := n8_; clear n0_ n1_ n2_ n3_ n4_ n5_ n6_ n7_ n8_; clear hb hbox hg; have hnb20 := NB293_282.out; have hnc20 := NB282_293.out; have hcz21_0 : w19.cell? ⟨gb293, 0, none⟩ = some (.int .i64 0) := (blk_cell BK293.out 0).trans rfl; have hcz21_1 : w19.cell? ⟨gb293, 1, none⟩ = some (.slice none 0 0) := (blk_cell BK293.out 1).trans rfl; have hfz21_0 := blk_frozen BK293.out 0; have hfz21_1 := blk_frozen BK293.out 1; obtain ⟨Ao22, co22, eo22⟩ := Kd.R_slice HO291.out; subst eo22; have hcz23_0 : w19.cell? ⟨gb282, 0, none⟩ = some (.int .i64 a0_0) := (blk_cell BK282.out 0).trans rfl; have hcz23_1 : w19.cell? ⟨gb282, 1, none⟩ = some (.slice A0_1 l0_1.length c0_1) := (blk_cell BK282.out 1).trans rfl; have hfz23_0 := blk_frozen BK282.out 0; have hfz23_1 := blk_frozen BK282.out 1) | ((with_reducible refine gate_callee (f := 13) rfl ?_); refine goesL_ (some 26) rfl rfl Try.func13 (by kernel_rfl) rfl #[.agg #[.int .i64 a0_0, .slice A0_1 l0_1.length c0_1]] rfl qB68 ?_; (with_reducible refine (laws_toCyclo.calls k a0_0 _ _ l0_1 t294 t295 _ ?side1 ?side2 A9.out).mono ?_); (case side1 => exact Kd.C_below HR0_1.out qB47); (case side2 => exact HC0_1.out); rintro e w24 ⟨v296, rfl, ho0, hb⟩; refine ⟨_, rfl, ?_⟩; have n0_ := Aside0.mk (Kd.R_elder' qB21 (Kd.R_base ho0) hb); have n1_ := Aside0.mk (Kd.R_elder' qB22 (Kd.R_base ho0) hb); have n2_ := Aside0.mk (Kd.R_lower (Kd.R_new' (Kd.R_new' ho0 (Kd.R_lt qB21)) (Kd.R_lt qB22)) (below_size qB47)); have n3_ := Aside0.mk (blk_below (g := gb282) (o := .cells #[.int .i64 a0_0, .slice A0_1 l0_1.length c0_1] 30 (0, 0)) (by (with_reducible repeat (first | refine blk_drewN ?_ _ | refine blk_drew ?_ | refine blk_alloc ?_ _)); refine blk_far ?_ NB282_293.out _; (with_reducible repeat (first | refine blk_drewN ?_ _ | refine blk_drew ?_ | refine blk_alloc ?_ _)); refine blk_far ?_ NB282_293.out _; (with_reducible repeat (first | refine blk_drewN ?_ _ | refine blk_drew ?_ | refine blk_alloc ?_ _)); exact BK282.out) hb); have n4_ := Aside0.mk (blk_below (g := gb293) (o := .cells #[.int .i64 t288, .slice Ao22 t289.length co22] 32 (0, 0)) (by (with_reducible repeat (first | refine blk_drewN ?_ _ | refine blk_drew ?_ | refine blk_alloc ?_ _)); refine blk_put (cs := #[.int .i64 t288, .slice none 0 0]) ?_ 1 _ rfl; (with_reducible repeat (first | refine blk_drewN ?_ _ | refine blk_drew ?_ | refine blk_alloc ?_ _)); refine blk_put (cs := #[.int .i64 0, .slice none 0 0]) ?_ 0 _ rfl; (with_reducible repeat (first | refine blk_drewN ?_ _ | refine blk_drew ?_ | refine blk_alloc ?_ _)); exact BK293.out) hb); have n5_ := Aside0.mk (below_step qB47 hb); clear HO287; clear HO291; clear BK282; clear BK293; clear HB; have HO287 := n0_; have HO291 := n1_; have HO297 := n2_; have BK282 := n3_; have BK293 := n4_; have HB := n5_; clear n0_ n1_ n2_ n3_ n4_ n5_; (try clear hb); (try clear hb2); (try clear hk); (try clear hi); (try clear ho0)) | ((with_reducible refine gate_dst (N := 6) rfl ?_); refine box_event ?hg (N := 6) ?hd (cs := #[.int .i64 0, .slice none 0 0]) (t := 32) ?hr ?_; (case hd => rfl); (case hg => rfl); (case hr => first | (go_simp; done) | (go_simp; rfl)); intro gb298 hg w25 hbox hb; have n0_ := Aside0.mk (Kd.R_below qB119 hb); have n1_ := Aside0.mk (Kd.R_below qB120 hb); have n2_ := Aside0.mk (Kd.R_below qB121 hb); have n3_ := Aside0.mk (blk_below (g := gb282) (o := .cells #[.int .i64 a0_0, .slice A0_1 l0_1.length c0_1] 30 (0, 0)) qB99 hb); have n4_ := Aside0.mk (blk_below (g := gb293) (o := .cells #[.int .i64 t288, .slice Ao22 t289.length co22] 32 (0, 0)) qB100 hb); have n5_ := Aside0.mk (below_step qB47 hb); have n6_ := Aside0.mk (hbox); have n7_ := Aside0.mk ((by rw [hg]; exact (below_size qB47) : w.heap.size ≤ gb298)); have n8_ := Aside0.mk ((by rw [hg]; exact (below_size qB47) : w.heap.size ≤ gb298)); have n9_ := Aside0.mk ((by rw [hg]; exact Nat.ne_of_lt (blk_lt (g := gb282) (o := .cells #[.int .i64 a0_0, .slice A0_1 l0_1.length c0_1] 30 (0, 0)) qB99) : gb282 ≠ gb298)); have n10_ := Aside0.mk ((by rw [hg]; exact Nat.ne_of_gt (blk_lt (g := gb282) (o := .cells #[.int .i64 a0_0, .slice A0_1 l0_1.length c0_1] 30 (0, 0)) qB99) : gb298 ≠ gb282)); have n11_ := Aside0.mk ((by rw [hg]; exact Nat.ne_of_lt (blk_lt (g := gb293) (o := .cells #[.int .i64 t288, .slice Ao22 t289.length co22] 32 (0, 0)) qB100) : gb293 ≠ gb298)); have n12_ := Aside0.mk ((by rw [hg]; exact Nat.ne_of_gt (blk_lt (g := gb293) (o := .cells #[.int .i64 t288, .slice Ao22 t289.length co22] 32 (0, 0)) qB100) : gb298 ≠ gb293)); clear HO287; clear HO291; clear HO297; clear BK282; clear BK293; clear HB; have HO287 := n0_; have HO291 := n1_; have HO297 := n2_; have BK282 := n3_; have BK293 := n4_; have HB := n5_; have BK298 := n6_; have GW298 := n7_; have GE298 := n8_; have NB282_298 := n9_; have NB298_282 := n10_; have NB293_298 := n11_; have NB298_293 := n12_; clear n0_ n1_ n2_ n3_ n4_ n5_ n6_ n7_ n8_ n9_ n10_ n11_ n12_; clear hb hbox hg; have hnb26 := NB298_282.out; have hnc26 := NB282_298.out; have hnb27 := NB298_293.out; have hnc27 := NB293_298.out; have hcz28_0 : w25.cell? ⟨gb298, 0, none⟩ = some (.int .i64 0) := (blk_cell BK298.out 0).trans rfl; have hcz28_1 : w25.cell? ⟨gb298, 1, none⟩ = some (.slice none 0 0) := (blk_cell BK298.out 1).trans rfl; have hfz28_0 := blk_frozen BK298.out 0; have hfz28_1 := blk_frozen BK298.out 1; obtain ⟨Ao29, co29, eo29⟩ := Kd.R_slice HO297.out; subst eo29) | ((with_reducible refine gate_store (t := 32) (p := 6) rfl ?_); refine store_event (t := 32) (p := 6) (v := ?vo_w30) (w1 := ((w25.setCell ⟨gb298, 0, none⟩ (.int .i64 t294)).setCell ⟨gb298, 1, none⟩ (.slice Ao29 t295.length co29))) ?hg ?ho ?hn ?hr ?_; (case ho => rfl); (case hg => rfl); (case hn => rfl); (case hr => first | (go_simp; done) | (go_simp; rfl)); intro w30 hw; have n0_ : Aside0 (Kd.R (Kd.int .i64) 2 w30 w.heap.size (fun k_ => some k_ ≠ (.slice Ao22 t289.length co22 : Value).ownBlock ∧ some k_ ≠ (.slice Ao29 t295.length co29 : Value).ownBlock) (.slice Ao17 t285.length co17) t285) := ⟨(by rw [hw]; exact (by (with_reducible repeat (first | apply Kd.R_alloc | apply Kd.R_drewN | apply Kd.R_drew)); exact Kd.R_mono (Kd.R_far (p := ⟨gb298, 1, none⟩) (Kd.R_far (p := ⟨gb298, 0, none⟩) (Kd.R_types HO287.out BK298.out (by decide)) (fun _ hk => hk.2) (.int .i64 t294)) (fun _ hk => hk.2) (.slice Ao29 t295.length co29)) (fun _ hk => ⟨hk.1.1.2, hk.1.2⟩)))⟩; have n1_ : Aside0 (Kd.R (Kd.int .i64) 2 w30 w.heap.size (fun k_ => some k_ ≠ (.slice Ao17 t285.length co17 : Value).ownBlock ∧ some k_ ≠ (.slice Ao29 t295.length co29 : Value).ownBlock) (.slice Ao22 t289.length co22) t289) := ⟨(by rw [hw]; exact (by (with_reducible repeat (first | apply Kd.R_alloc | apply Kd.R_drewN | apply Kd.R_drew)); exact Kd.R_mono (Kd.R_far (p := ⟨gb298, 1, none⟩) (Kd.R_far (p := ⟨gb298, 0, none⟩) (Kd.R_types HO291.out BK298.out (by decide)) (fun _ hk => hk.2) (.int .i64 t294)) (fun _ hk => hk.2) (.slice Ao29 t295.length co29)) (fun _ hk => ⟨hk.1.1.2, hk.1.2⟩)))⟩; have n2_ : Aside0 (Kd.R (Kd.int .i64) 2 w30 w.heap.size (fun k_ => some k_ ≠ (.slice Ao17 t285.length co17 : Value).ownBlock ∧ some k_ ≠ (.slice Ao22 t289.length co22 : Value).ownBlock) (.slice Ao29 t295.length co29) t295) := ⟨(by rw [hw]; exact (by (with_reducible repeat (first | apply Kd.R_alloc | apply Kd.R_drewN | apply Kd.R_drew)); exact Kd.R_mono (Kd.R_far (p := ⟨gb298, 1, none⟩) (Kd.R_far (p := ⟨gb298, 0, none⟩) (Kd.R_types HO297.out BK298.out (by decide)) (fun _ hk => hk.2) (.int .i64 t294)) (fun _ hk => hk.2) (.slice Ao29 t295.length co29)) (fun _ hk => ⟨hk.1.1.2, hk.1.2⟩)))⟩; have n3_ : Aside0 (w30.heap[gb282]? = some (.cells #[.int .i64 a0_0, .slice A0_1 l0_1.length c0_1] 30 (0, 0))) := ⟨(by rw [hw]; exact (by (with_reducible repeat (first | refine blk_drewN ?_ _ | refine blk_drew ?_ | refine blk_alloc ?_ _)); refine blk_far ?_ NB282_298.out _; (with_reducible repeat (first | refine blk_drewN ?_ _ | refine blk_drew ?_ | refine blk_alloc ?_ _)); refine blk_far ?_ NB282_298.out _; (with_reducible repeat (first | refine blk_drewN ?_ _ | refine blk_drew ?_ | refine blk_alloc ?_ _)); exact BK282.out))⟩; have n4_ : Aside0 (w30.heap[gb293]? = some (.cells #[.int .i64 t288, .slice Ao22 t289.length co22] 32 (0, 0))) := ⟨(by rw [hw]; exact (by (with_reducible repeat (first | refine blk_drewN ?_ _ | refine blk_drew ?_ | refine blk_alloc ?_ _)); refine blk_far ?_ NB293_298.out _; (with_reducible repeat (first | refine blk_drewN ?_ _ | refine blk_drew ?_ | refine blk_alloc ?_ _)); refine blk_far ?_ NB293_298.out _; (with_reducible repeat (first | refine blk_drewN ?_ _ | refine blk_drew ?_ | refine blk_alloc ?_ _)); exact BK293.out))⟩; have n5_ : Aside0 (w30.heap[gb298]? = some (.cells #[.int .i64 t294, .slice Ao29 t295.length co29] 32 (0, 0))) := ⟨(by rw [hw]; exact (by (with_reducible repeat (first | refine blk_drewN ?_ _ | refine blk_drew ?_ | refine blk_alloc ?_ _)); refine blk_put (cs := #[.int .i64 t294, .slice none 0 0]) ?_ 1 _ rfl; (with_reducible repeat (first | refine blk_drewN ?_ _ | refine blk_drew ?_ | refine blk_alloc ?_ _)); refine blk_put (cs := #[.int .i64 0, .slice none 0 0]) ?_ 0 _ rfl; (with_reducible repeat (first | refine blk_drewN ?_ _ | refine blk_drew ?_ | refine blk_alloc ?_ _)); exact BK298.out))⟩; have n6_ : Aside0 (Below w.heap.size w w30) := ⟨(by rw [hw]; exact qB32)⟩; clear hw; clear HO287; clear HO291; clear HO297; clear BK282; clear BK293; clear BK298; clear HB; have HO287 := n0_; have HO291 := n1_; have HO297 := n2_; have BK282 := n3_; have BK293 := n4_; have BK298 := n5_; have HB := n6_; clear n0_ n1_ n2_ n3_ n4_ n5_ n6_; have hcz31_0 : w30.cell? ⟨gb298, 0, none⟩ = some (.int .i64 t294) := (blk_cell BK298.out 0).trans rfl; have hcz31_1 : w30.cell? ⟨gb298, 1, none⟩ = some (.slice Ao29 t295.length co29) := (blk_cell BK298.out 1).trans rfl; have hfz31_0 := blk_frozen BK298.out 0; have hfz31_1 := blk_frozen BK298.out 1) | ((with_reducible refine gate_callee (f := 19) rfl ?_); refine goesL_ (some 29) rfl rfl Try.func19 (by kernel_rfl) rfl #[.agg #[.int .i64 t294, .slice Ao29 t295.length co29]] rfl qB68 ?_; (with_reducible refine (impl_ChosenAssociate.calls k t294 (fun k_ => some k_ = (.slice Ao29 t295.length co29 : Value).ownBlock) _ _ t295 t299 t300 t303 _ ?side1 A10.out).mono ?_); (case side1 => exact Kd.R_V (Kd.R_tight rfl (Kd.R_types (Kd.R_types (Kd.R_types (HO297.out) BK282.out (by decide)) BK293.out (by decide)) BK298.out (by decide)))); rintro e w32 ⟨v301, rfl, ho0, hb⟩; refine ⟨_, rfl, ?_⟩; have n0_ := Aside0.mk (Kd.R_elder' qB119 (Kd.R_base ho0) hb); have n1_ := Aside0.mk (Kd.R_elder' qB120 (Kd.R_base ho0) hb); have n2_ := Aside0.mk (Kd.R_elder' qB121 (Kd.R_base ho0) hb); have n3_ := Aside0.mk (Kd.R_lower (Kd.R_new' (Kd.R_new' (Kd.R_new' (Kd.R_mono (ok' := fun k_ => True) ho0 (fun _ hk_ => trivial)) (Kd.R_lt qB119)) (Kd.R_lt qB120)) (Kd.R_lt qB121)) (below_size qB32)); have n4_ := Aside0.mk (blk_below (g := gb282) (o := .cells #[.int .i64 a0_0, .slice A0_1 l0_1.length c0_1] 30 (0, 0)) qB99 hb); have n5_ := Aside0.mk (blk_below (g := gb293) (o := .cells #[.int .i64 t288, .slice Ao22 t289.length co22] 32 (0, 0)) qB100 hb); have n6_ := Aside0.mk (blk_below (g := gb298) (o := .cells #[.int .i64 t294, .slice Ao29 t295.length co29] 32 (0, 0)) qB101 hb); have n7_ := Aside0.mk (below_step qB32 hb); clear HO287; clear HO291; clear HO297; clear BK282; clear BK293; clear BK298; clear HB; have HO287 := n0_; have HO291 := n1_; have HO297 := n2_; have HO302 := n3_; have BK282 := n4_; have BK293 := n5_; have BK298 := n6_; have HB := n7_; clear n0_ n1_ n2_ n3_ n4_ n5_ n6_ n7_; (try clear hb); (try clear hb2); (try clear hk); (try clear hi); (try clear ho0)) | ((with_reducible refine gate_dst (N := 7) rfl ?_); refine box_event ?hg (N := 7) ?hd (cs := #[.int .i64 0, .slice none 0 0]) (t := 32) ?hr ?_; (case hd => rfl); (case hg => rfl); (case hr => first | (go_simp; done) | (go_simp; rfl)); intro gb304 hg w33 hbox hb; have n0_ := Aside0.mk (Kd.R_below qB119 hb); have n1_ := Aside0.mk (Kd.R_below qB120 hb); have n2_ := Aside0.mk (Kd.R_below qB121 hb); have n3_ := Aside0.mk (Kd.R_below (by (with_reducible repeat (first | apply Kd.R_alloc | apply Kd.R_drewN | apply Kd.R_drew)); exact HO302.out) hb); have n4_ := Aside0.mk (blk_below (g := gb282) (o := .cells #[.int .i64 a0_0, .slice A0_1 l0_1.length c0_1] 30 (0, 0)) qB99 hb); have n5_ := Aside0.mk (blk_below (g := gb293) (o := .cells #[.int .i64 t288, .slice Ao22 t289.length co22] 32 (0, 0)) qB100 hb); have n6_ := Aside0.mk (blk_below (g := gb298) (o := .cells #[.int .i64 t294, .slice Ao29 t295.length co29] 32 (0, 0)) qB101 hb); have n7_ := Aside0.mk (below_step qB32 hb); have n8_ := Aside0.mk (hbox); have n9_ := Aside0.mk ((by rw [hg]; exact (below_size qB32) : w.heap.size ≤ gb304)); have n10_ := Aside0.mk ((by rw [hg]; exact (below_size qB32) : w.heap.size ≤ gb304)); have n11_ := Aside0.mk ((by rw [hg]; exact Nat.ne_of_lt (blk_lt (g := gb282) (o := .cells #[.int .i64 a0_0, .slice A0_1 l0_1.length c0_1] 30 (0, 0)) qB99) : gb282 ≠ gb304)); have n12_ := Aside0.mk ((by rw [hg]; exact Nat.ne_of_gt (blk_lt (g := gb282) (o := .cells #[.int .i64 a0_0, .slice A0_1 l0_1.length c0_1] 30 (0, 0)) qB99) : gb304 ≠ gb282)); have n13_ := Aside0.mk ((by rw [hg]; exact Nat.ne_of_lt (blk_lt (g := gb293) (o := .cells #[.int .i64 t288, .slice Ao22 t289.length co22] 32 (0, 0)) qB100) : gb293 ≠ gb304)); have n14_ := Aside0.mk ((by rw [hg]; exact Nat.ne_of_gt (blk_lt (g := gb293) (o := .cells #[.int .i64 t288, .slice Ao22 t289.length co22] 32 (0, 0)) qB100) : gb304 ≠ gb293)); have n15_ := Aside0.mk ((by rw [hg]; exact Nat.ne_of_lt (blk_lt (g := gb298) (o := .cells #[.int .i64 t294, .slice Ao29 t295.length co29] 32 (0, 0)) qB101) : gb298 ≠ gb304)); have n16_ := Aside0.mk ((by rw [hg]; exact Nat.ne_of_gt (blk_lt (g := gb298) (o := .cells #[.int .i64 t294, .slice Ao29 t295.length co29] 32 (0, 0)) qB101) : gb304 ≠ gb298)); clear HO287; clear HO291; clear HO297; clear HO302; clear BK282; clear BK293; clear BK298; clear HB; have HO287 := n0_; have HO291 := n1_; have HO297 := n2_; have HO302 := n3_; have BK282 := n4_; have BK293 := n5_; have BK298 := n6_; have HB := n7_; have BK304 := n8_; have GW304 := n9_; have GE304 := n10_; have NB282_304 := n11_; have NB304_282 := n12_; have NB293_304 := n13_; have NB304_293 := n14_; have NB298_304 := n15_; have NB304_298 := n16_; clear n0_ n1_ n2_ n3_ n4_ n5_ n6_ n7_ n8_ n9_ n10_ n11_ n12_ n13_ n14_ n15_ n16_; clear hb hbox hg; have hnb34 := NB304_282.out; have hnc34 := NB282_304.out; have hnb35 := NB304_293.out; have hnc35 := NB293_304.out; have hnb36 := NB304_298.out; have hnc36 := NB298_304.out; have hcz37_0 : w33.cell? ⟨gb304, 0, none⟩ = some (.int .i64 0) := (blk_cell BK304.out 0).trans rfl; have hcz37_1 : w33.cell? ⟨gb304, 1, none⟩ = some (.slice none 0 0) := (blk_cell BK304.out 1).trans rfl; have hfz37_0 := blk_frozen BK304.out 0; have hfz37_1 := blk_frozen BK304.out 1; obtain ⟨Ao38, co38, eo38⟩ := Kd.R_slice HO302.out; subst eo38))
    (try simp only [Act.put, List.setIfInBounds_toArray, List.set_cons_zero, List.set_cons_succ])
    go_cut [40] (fun v40 wc => ∃ (kq : Nat) (x40_10 : Bool), v40 = .bool x40_10 ∧ Aside0 (laws_FnExactChosenAssociate.j0 kq t292 t303 x40_10 a0_0 l0_1 t288 t289 t294 t295 t299 t300 = some r) ∧ Aside0 (kq ≤ k) ∧ Aside0 (Kd.R (Kd.int .i64) 2 wc w.heap.size (fun k_ => some k_ ≠ ((.slice Ao29 t295.length co29) : Value).ownBlock ∧ some k_ ≠ ((.slice Ao38 t300.length co38) : Value).ownBlock) (.slice Ao22 t289.length co22) t289) ∧ Aside0 (Kd.R (Kd.int .i64) 2 wc w.heap.size (fun k_ => some k_ ≠ ((.slice Ao22 t289.length co22) : Value).ownBlock ∧ some k_ ≠ ((.slice Ao38 t300.length co38) : Value).ownBlock) (.slice Ao29 t295.length co29) t295) ∧ Aside0 (Kd.R (Kd.int .i64) 2 wc w.heap.size (fun k_ => some k_ ≠ ((.slice Ao22 t289.length co22) : Value).ownBlock ∧ some k_ ≠ ((.slice Ao29 t295.length co29) : Value).ownBlock) (.slice Ao38 t300.length co38) t300) ∧ Aside0 (wc.heap[gb282]? = some (.cells #[.int .i64 a0_0, (.slice A0_1 l0_1.length c0_1)] 30 (0, 0))) ∧ Aside0 (wc.heap[gb293]? = some (.cells #[.int .i64 t288, (.slice Ao22 t289.length co22)] 32 (0, 0))) ∧ Aside0 (wc.heap[gb298]? = some (.cells #[.int .i64 t294, (.slice Ao29 t295.length co29)] 32 (0, 0))) ∧ Aside0 (wc.heap[gb304]? = some (.cells #[.int .i64 t299, (.slice Ao38 t300.length co38)] 32 (0, 0))) ∧ Aside0 (Below w.heap.size w wc))
    case first =>
      have H := HC11.out
      clear HC11
      replace H := Option.bind_eq_some_iff.mp H
      obtain ⟨t305, A390, H⟩ := H
      replace H : (if t305 = true then (laws_FnExactChosenAssociate.j0 k t292 t303 (t303 != t292) a0_0 l0_1 t288 t289 t294 t295 t299 t300) else (laws_FnExactChosenAssociate.j0 k t292 t303 true a0_0 l0_1 t288 t289 t294 t295 t299 t300)) = some r := H
      have A39 := Aside0.mk A390
      clear A390
      by_cases c40 : t305 = true
      · subst c40
        have H1 : (laws_FnExactChosenAssociate.j0 k t292 t303 (t303 != t292) a0_0 l0_1 t288 t289 t294 t295 t299 t300) = some r := by rw [if_pos rfl] at H; exact H
        clear H
        have H := H1
        clear H1
        have H' := Aside0.mk H
        clear H
        have hnb41 := NB304_282.out
        have hnc41 := NB282_304.out
        have hnb42 := NB304_293.out
        have hnc42 := NB293_304.out
        have hnb43 := NB304_298.out
        have hnc43 := NB298_304.out
        have hcz44_0 : w33.cell? ⟨gb304, 0, none⟩ = some (.int .i64 0) := (blk_cell BK304.out 0).trans rfl
        have hcz44_1 : w33.cell? ⟨gb304, 1, none⟩ = some (.slice none 0 0) := (blk_cell BK304.out 1).trans rfl
        have hfz44_0 := blk_frozen BK304.out 0
        have hfz44_1 := blk_frozen BK304.out 1
        have hnb45 := NB293_282.out
        have hnc45 := NB282_293.out
        have hnb46 := NB293_298.out
        have hnc46 := NB298_293.out
        have hcz47_0 : w33.cell? ⟨gb293, 0, none⟩ = some (.int .i64 t288) := (blk_cell BK293.out 0).trans rfl
        have hcz47_1 : w33.cell? ⟨gb293, 1, none⟩ = some (.slice Ao22 t289.length co22) := (blk_cell BK293.out 1).trans rfl
        have hfz47_0 := blk_frozen BK293.out 0
        have hfz47_1 := blk_frozen BK293.out 1
        go_wp2_with (first | ((with_reducible refine gate_callee (f := 15) rfl ?_); refine goesL_ (some 34) rfl rfl Try.func15 (by kernel_rfl) rfl #[.agg #[.int .i64 t299, .slice Ao38 t300.length co38], .agg #[.int .i64 t288, .slice Ao22 t289.length co22]] rfl qB68 ?_; (with_reducible refine (laws_eqCyclo.calls k t299 _ _ t300 t288 _ _ t289 true _ ?side1 ?side2 ?side3 ?side4 A39.out).mono ?_); (case side1 => refine (Kd.R_reads' (e := 2) (base := w.heap.size) (ok := fun k_ => (((True ∧ some k_ ≠ (.slice Ao17 t285.length co17 : Value).ownBlock) ∧ some k_ ≠ (.slice Ao22 t289.length co22 : Value).ownBlock) ∧ some k_ ≠ (.slice Ao29 t295.length co29 : Value).ownBlock)) (n := t300.length) (c := co38) ?_).2.2; exact qB23); (case side2 => exact (Kd.R_reads' HO302.out).2.1); (case side3 => refine (Kd.R_reads' (e := 2) (base := w.heap.size) (ok := fun k_ => ((some k_ ≠ (.slice Ao17 t285.length co17 : Value).ownBlock ∧ some k_ ≠ (.slice Ao29 t295.length co29 : Value).ownBlock) ∧ some k_ ≠ (.slice Ao38 t300.length co38 : Value).ownBlock)) (n := t289.length) (c := co22) ?_).2.2; exact qB24); (case side4 => exact (Kd.R_reads' HO291.out).2.1); rintro e w48 ⟨rfl, hb⟩; refine ⟨_, rfl, ?_⟩; have n0_ := Aside0.mk (Kd.R_below qB25 hb); have n1_ := Aside0.mk (Kd.R_below qB24 hb); have n2_ := Aside0.mk (Kd.R_below qB26 hb); have n3_ := Aside0.mk (Kd.R_below qB23 hb); have n4_ := Aside0.mk (blk_below (g := gb282) (o := .cells #[.int .i64 a0_0, .slice A0_1 l0_1.length c0_1] 30 (0, 0)) qB8 hb); have n5_ := Aside0.mk (blk_below (g := gb293) (o := .cells #[.int .i64 t288, .slice Ao22 t289.length co22] 32 (0, 0)) qB9 hb); have n6_ := Aside0.mk (blk_below (g := gb298) (o := .cells #[.int .i64 t294, .slice Ao29 t295.length co29] 32 (0, 0)) qB10 hb); have n7_ := Aside0.mk (blk_below (g := gb304) (o := .cells #[.int .i64 t299, .slice Ao38 t300.length co38] 32 (0, 0)) qB3 hb); have n8_ := Aside0.mk (below_step qB28 hb); clear HO287; clear HO291; clear HO297; clear HO302; clear BK282; clear BK293; clear BK298; clear BK304; clear HB; have HO287 := n0_; have HO291 := n1_; have HO297 := n2_; have HO302 := n3_; have BK282 := n4_; have BK293 := n5_; have BK298 := n6_; have BK304 := n7_; have HB := n8_; clear n0_ n1_ n2_ n3_ n4_ n5_ n6_ n7_ n8_; (try clear hb); (try clear hb2); (try clear hk); (try clear hi)))
        go_meet
        case rel => exact ⟨_, ((t303 != t292)), qB128, H', ⟨by first | omega | exact Nat.le_refl _⟩, ⟨by (with_reducible repeat (first | apply Kd.R_alloc | apply Kd.R_drewN | apply Kd.R_drew)); exact Kd.R_mono HO291.out (fun _ hk => ⟨hk.1.2, hk.2⟩)⟩, ⟨by (with_reducible repeat (first | apply Kd.R_alloc | apply Kd.R_drewN | apply Kd.R_drew)); exact Kd.R_mono HO297.out (fun _ hk => ⟨hk.1.2, hk.2⟩)⟩, ⟨by (with_reducible repeat (first | apply Kd.R_alloc | apply Kd.R_drewN | apply Kd.R_drew)); exact Kd.R_mono HO302.out (fun _ hk => ⟨hk.1.2, hk.2⟩)⟩, ⟨by (with_reducible repeat (first | refine blk_drewN ?_ _ | refine blk_drew ?_ | refine blk_alloc ?_ _)); exact BK282.out⟩, ⟨by (with_reducible repeat (first | refine blk_drewN ?_ _ | refine blk_drew ?_ | refine blk_alloc ?_ _)); exact BK293.out⟩, ⟨by (with_reducible repeat (first | refine blk_drewN ?_ _ | refine blk_drew ?_ | refine blk_alloc ?_ _)); exact BK298.out⟩, ⟨by (with_reducible repeat (first | refine blk_drewN ?_ _ | refine blk_drew ?_ | refine blk_alloc ?_ _)); exact BK304.out⟩, ⟨by repeat (first | (with_reducible first | exact HB.out | apply below_alloc | apply pw_below_drewN | apply below_drew1 | refine below_set ?_ GE282.out | refine below_set ?_ GE293.out | refine below_set ?_ GE298.out | refine below_set ?_ GE304.out) | exact HB.out)⟩⟩
      · replace c40 := Bool.eq_false_iff.mpr c40
        subst c40
        have H1 : (laws_FnExactChosenAssociate.j0 k t292 t303 true a0_0 l0_1 t288 t289 t294 t295 t299 t300) = some r := by rw [if_neg (show ¬ (false = true) by decide)] at H; exact H
        clear H
        have H := H1
        clear H1
        have H' := Aside0.mk H
        clear H
        have hnb49 := NB304_282.out
        have hnc49 := NB282_304.out
        have hnb50 := NB304_293.out
        have hnc50 := NB293_304.out
        have hnb51 := NB304_298.out
        have hnc51 := NB298_304.out
        have hcz52_0 : w33.cell? ⟨gb304, 0, none⟩ = some (.int .i64 0) := (blk_cell BK304.out 0).trans rfl
        have hcz52_1 : w33.cell? ⟨gb304, 1, none⟩ = some (.slice none 0 0) := (blk_cell BK304.out 1).trans rfl
        have hfz52_0 := blk_frozen BK304.out 0
        have hfz52_1 := blk_frozen BK304.out 1
        have hnb53 := NB293_282.out
        have hnc53 := NB282_293.out
        have hnb54 := NB293_298.out
        have hnc54 := NB298_293.out
        have hcz55_0 : w33.cell? ⟨gb293, 0, none⟩ = some (.int .i64 t288) := (blk_cell BK293.out 0).trans rfl
        have hcz55_1 : w33.cell? ⟨gb293, 1, none⟩ = some (.slice Ao22 t289.length co22) := (blk_cell BK293.out 1).trans rfl
        have hfz55_0 := blk_frozen BK293.out 0
        have hfz55_1 := blk_frozen BK293.out 1
        go_wp2_with (first | ((with_reducible refine gate_callee (f := 15) rfl ?_); refine goesL_ (some 34) rfl rfl Try.func15 (by kernel_rfl) rfl #[.agg #[.int .i64 t299, .slice Ao38 t300.length co38], .agg #[.int .i64 t288, .slice Ao22 t289.length co22]] rfl qB68 ?_; (with_reducible refine (laws_eqCyclo.calls k t299 _ _ t300 t288 _ _ t289 false _ ?side1 ?side2 ?side3 ?side4 A39.out).mono ?_); (case side1 => refine (Kd.R_reads' (e := 2) (base := w.heap.size) (ok := fun k_ => (((True ∧ some k_ ≠ (.slice Ao17 t285.length co17 : Value).ownBlock) ∧ some k_ ≠ (.slice Ao22 t289.length co22 : Value).ownBlock) ∧ some k_ ≠ (.slice Ao29 t295.length co29 : Value).ownBlock)) (n := t300.length) (c := co38) ?_).2.2; exact qB23); (case side2 => exact (Kd.R_reads' HO302.out).2.1); (case side3 => refine (Kd.R_reads' (e := 2) (base := w.heap.size) (ok := fun k_ => ((some k_ ≠ (.slice Ao17 t285.length co17 : Value).ownBlock ∧ some k_ ≠ (.slice Ao29 t295.length co29 : Value).ownBlock) ∧ some k_ ≠ (.slice Ao38 t300.length co38 : Value).ownBlock)) (n := t289.length) (c := co22) ?_).2.2; exact qB24); (case side4 => exact (Kd.R_reads' HO291.out).2.1); rintro e w56 ⟨rfl, hb⟩; refine ⟨_, rfl, ?_⟩; have n0_ := Aside0.mk (Kd.R_below qB25 hb); have n1_ := Aside0.mk (Kd.R_below qB24 hb); have n2_ := Aside0.mk (Kd.R_below qB26 hb); have n3_ := Aside0.mk (Kd.R_below qB23 hb); have n4_ := Aside0.mk (blk_below (g := gb282) (o := .cells #[.int .i64 a0_0, .slice A0_1 l0_1.length c0_1] 30 (0, 0)) qB8 hb); have n5_ := Aside0.mk (blk_below (g := gb293) (o := .cells #[.int .i64 t288, .slice Ao22 t289.length co22] 32 (0, 0)) qB9 hb); have n6_ := Aside0.mk (blk_below (g := gb298) (o := .cells #[.int .i64 t294, .slice Ao29 t295.length co29] 32 (0, 0)) qB10 hb); have n7_ := Aside0.mk (blk_below (g := gb304) (o := .cells #[.int .i64 t299, .slice Ao38 t300.length co38] 32 (0, 0)) qB3 hb); have n8_ := Aside0.mk (below_step qB28 hb); clear HO287; clear HO291; clear HO297; clear HO302; clear BK282; clear BK293; clear BK298; clear BK304; clear HB; have HO287 := n0_; have HO291 := n1_; have HO297 := n2_; have HO302 := n3_; have BK282 := n4_; have BK293 := n5_; have BK298 := n6_; have BK304 := n7_; have HB := n8_; clear n0_ n1_ n2_ n3_ n4_ n5_ n6_ n7_ n8_; (try clear hb); (try clear hb2); (try clear hk); (try clear hi)))
        go_meet
        case rel => exact ⟨_, (true), qB128, H', ⟨by first | omega | exact Nat.le_refl _⟩, ⟨by (with_reducible repeat (first | apply Kd.R_alloc | apply Kd.R_drewN | apply Kd.R_drew)); exact Kd.R_mono HO291.out (fun _ hk => ⟨hk.1.2, hk.2⟩)⟩, ⟨by (with_reducible repeat (first | apply Kd.R_alloc | apply Kd.R_drewN | apply Kd.R_drew)); exact Kd.R_mono HO297.out (fun _ hk => ⟨hk.1.2, hk.2⟩)⟩, ⟨by (with_reducible repeat (first | apply Kd.R_alloc | apply Kd.R_drewN | apply Kd.R_drew)); exact Kd.R_mono HO302.out (fun _ hk => ⟨hk.1.2, hk.2⟩)⟩, ⟨by (with_reducible repeat (first | refine blk_drewN ?_ _ | refine blk_drew ?_ | refine blk_alloc ?_ _)); exact BK282.out⟩, ⟨by (with_reducible repeat (first | refine blk_drewN ?_ _ | refine blk_drew ?_ | refine blk_alloc ?_ _)); exact BK293.out⟩, ⟨by (with_reducible repeat (first | refine blk_drewN ?_ _ | refine blk_drew ?_ | refine blk_alloc ?_ _)); exact BK298.out⟩, ⟨by (with_reducible repeat (first | refine blk_drewN ?_ _ | refine blk_drew ?_ | refine blk_alloc ?_ _)); exact BK304.out⟩, ⟨by repeat (first | (with_reducible first | exact HB.out | apply below_alloc | apply pw_below_drewN | apply below_drew1 | refine below_set ?_ GE282.out | refine below_set ?_ GE293.out | refine below_set ?_ GE298.out | refine below_set ?_ GE304.out) | exact HB.out)⟩⟩
    case rest =>
      clear HC11
      try clear c1
      try clear c2
      try clear p2
      try clear c3
      try clear c3b0
      try clear c4
      try clear c5
      try clear c11
      try clear c13
      try clear c15
      try clear c18
      try clear c19
      try clear c20
      try clear c26
      try clear c27
      try clear c34
      try clear c35
      try clear c36
      try clear c40
      try clear c41
      try clear c42
      try clear c43
      try clear c45
      try clear c46
      try clear c49
      try clear c50
      try clear c51
      try clear c53
      try clear c54
      try clear hcz13_0
      try clear hcz13_1
      try clear hcz15_0
      try clear hcz15_1
      try clear hcz21_0
      try clear hcz21_1
      try clear hcz23_0
      try clear hcz23_1
      try clear hcz28_0
      try clear hcz28_1
      try clear hcz31_0
      try clear hcz31_1
      try clear hcz37_0
      try clear hcz37_1
      try clear hcz44_0
      try clear hcz44_1
      try clear hcz47_0
      try clear hcz47_1
      try clear hcz52_0
      try clear hcz52_1
      try clear hcz55_0
      try clear hcz55_1
      try clear hcz5_0
      try clear hcz5_1
      try clear hfz13_0
      try clear hfz13_1
      try clear hfz15_0
      try clear hfz15_1
      try clear hfz21_0
      try clear hfz21_1
      try clear hfz23_0
      try clear hfz23_1
      try clear hfz28_0
      try clear hfz28_1
      try clear hfz31_0
      try clear hfz31_1
      try clear hfz37_0
      try clear hfz37_1
      try clear hfz44_0
      try clear hfz44_1
      try clear hfz47_0
      try clear hfz47_1
      try clear hfz52_0
      try clear hfz52_1
      try clear hfz55_0
      try clear hfz55_1
      try clear hfz5_0
      try clear hfz5_1
      obtain ⟨kq, x40_10, rfl, HA, HJ10, HO_294001, HO_299001, HO_305001, BK282, BK293, BK298, BK304, HB⟩ := hcut
      cases kq with
      | zero => exact absurd HA.out (by simp [laws_FnExactChosenAssociate.j0])
      | succ kj10 =>
        have H := HA.out
        clear HA
        simp only [laws_FnExactChosenAssociate.j0] at H
        by_cases c57 : x40_10 = true
        · subst c57
          have H1 : (some false) = some r := by rw [if_pos rfl] at H; exact H
          clear H
          have H := H1
          clear H1
          obtain rfl := Option.some.inj H
          go_wp2
          go_ret
          exact ⟨by first | rfl | (simp [errW_none, errW_some] <;> rfl) | (simp [*, errW_none, errW_some] <;> rfl), by repeat (first | (with_reducible first | exact HB.out | apply below_alloc | apply pw_below_drewN | apply below_drew1 | refine below_set ?_ GE282.out | refine below_set ?_ GE293.out | refine below_set ?_ GE298.out | refine below_set ?_ GE304.out) | exact HB.out)⟩
        · replace c57 := Bool.eq_false_iff.mpr c57
          subst c57
          have H1 : ((laws_toCyclo.f kj10 a0_0 l0_1).bind fun bt306 => ((laws_eqCyclo.f kj10 t294 t295 bt306.1 bt306.2).bind fun t310 => (if t310 = true then ((laws_markCyclo.f kj10 t294 t295 1).bind fun bt311 => (if bt311.1 < 0 then (laws_FnExactChosenAssociate.j1 kj10 t292 true a0_0 l0_1 t288 t289 t299 t300) else ((laws_eqCyclo.f kj10 t299 t300 t288 t289).bind fun t313 => (if t313 = true then (laws_FnExactChosenAssociate.j1 kj10 t292 (t303 != t292) a0_0 l0_1 t288 t289 t299 t300) else (laws_FnExactChosenAssociate.j1 kj10 t292 true a0_0 l0_1 t288 t289 t299 t300))))) else (some false)))) = some r := by rw [if_neg (show ¬ (false = true) by decide)] at H; exact H
          clear H
          have H := H1
          clear H1
          replace H := Option.bind_eq_some_iff.mp H
          obtain ⟨⟨t306, t307⟩, A580, H⟩ := H
          replace H : ((laws_eqCyclo.f kj10 t294 t295 t306 t307).bind fun t310 => (if t310 = true then ((laws_markCyclo.f kj10 t294 t295 1).bind fun bt311 => (if bt311.1 < 0 then (laws_FnExactChosenAssociate.j1 kj10 t292 true a0_0 l0_1 t288 t289 t299 t300) else ((laws_eqCyclo.f kj10 t299 t300 t288 t289).bind fun t313 => (if t313 = true then (laws_FnExactChosenAssociate.j1 kj10 t292 (t303 != t292) a0_0 l0_1 t288 t289 t299 t300) else (laws_FnExactChosenAssociate.j1 kj10 t292 true a0_0 l0_1 t288 t289 t299 t300))))) else (some false))) = some r := H
          have A58 := Aside0.mk A580
          clear A580
          replace H := Option.bind_eq_some_iff.mp H
          obtain ⟨t310, A590, H⟩ := H
          replace H : (if t310 = true then ((laws_markCyclo.f kj10 t294 t295 1).bind fun bt311 => (if bt311.1 < 0 then (laws_FnExactChosenAssociate.j1 kj10 t292 true a0_0 l0_1 t288 t289 t299 t300) else ((laws_eqCyclo.f kj10 t299 t300 t288 t289).bind fun t313 => (if t313 = true then (laws_FnExactChosenAssociate.j1 kj10 t292 (t303 != t292) a0_0 l0_1 t288 t289 t299 t300) else (laws_FnExactChosenAssociate.j1 kj10 t292 true a0_0 l0_1 t288 t289 t299 t300))))) else (some false)) = some r := H
          have A59 := Aside0.mk A590
          clear A590
          by_cases c60 : t310 = true
          · subst c60
            have H1 : ((laws_markCyclo.f kj10 t294 t295 1).bind fun bt311 => (if bt311.1 < 0 then (laws_FnExactChosenAssociate.j1 kj10 t292 true a0_0 l0_1 t288 t289 t299 t300) else ((laws_eqCyclo.f kj10 t299 t300 t288 t289).bind fun t313 => (if t313 = true then (laws_FnExactChosenAssociate.j1 kj10 t292 (t303 != t292) a0_0 l0_1 t288 t289 t299 t300) else (laws_FnExactChosenAssociate.j1 kj10 t292 true a0_0 l0_1 t288 t289 t299 t300))))) = some r := by rw [if_pos rfl] at H; exact H
            clear H
            have H := H1
            clear H1
            replace H := Option.bind_eq_some_iff.mp H
            obtain ⟨⟨t311, t312⟩, A610, H⟩ := H
            replace H : (if t311 < 0 then (laws_FnExactChosenAssociate.j1 kj10 t292 true a0_0 l0_1 t288 t289 t299 t300) else ((laws_eqCyclo.f kj10 t299 t300 t288 t289).bind fun t313 => (if t313 = true then (laws_FnExactChosenAssociate.j1 kj10 t292 (t303 != t292) a0_0 l0_1 t288 t289 t299 t300) else (laws_FnExactChosenAssociate.j1 kj10 t292 true a0_0 l0_1 t288 t289 t299 t300)))) = some r := H
            have A61 := Aside0.mk A610
            clear A610
            have HC62 := Aside0.mk H
            clear H
            try go_wp2
            have n0_ := Aside0.mk (Kd.R_drew HO_294001.out)
            have n1_ := Aside0.mk (Kd.R_drew HO_299001.out)
            have n2_ := Aside0.mk (Kd.R_drew HO_305001.out)
            have n3_ := Aside0.mk (blk_drew BK282.out)
            have n4_ := Aside0.mk (blk_drew BK293.out)
            have n5_ := Aside0.mk (blk_drew BK298.out)
            have n6_ := Aside0.mk (blk_drew BK304.out)
            have n7_ := Aside0.mk (below_drew1 HB.out)
            clear HO_294001
            clear HO_299001
            clear HO_305001
            clear BK282
            clear BK293
            clear BK298
            clear BK304
            clear HB
            have HO_294001 := n0_
            have HO_299001 := n1_
            have HO_305001 := n2_
            have BK282 := n3_
            have BK293 := n4_
            have BK298 := n5_
            have BK304 := n6_
            have HB := n7_
            clear n0_ n1_ n2_ n3_ n4_ n5_ n6_ n7_
            refine start_ (n := 5) (S := fun w' => w'.cell? ⟨gb298, 0, none⟩ = some (.int .i64 t294) ∧ w'.cell? ⟨gb298, 1, none⟩ = some (.slice Ao29 t295.length co29) ∧ w'.cell? ⟨gb282, 0, none⟩ = some (.int .i64 a0_0) ∧ w'.cell? ⟨gb282, 1, none⟩ = some (.slice A0_1 l0_1.length c0_1)) (ds := []) #[false, false, false, false, false] (by kernel_rfl) rfl rfl ⟨(blk_cell BK298.out 0).trans rfl, (blk_cell BK298.out 1).trans rfl, (blk_cell BK282.out 0).trans rfl, (blk_cell BK282.out 1).trans rfl⟩ (fun hHeld => ?_)
            generalize wc.drew = w63 at HO_294001 HO_299001 HO_305001 BK282 BK293 BK298 BK304 HB hHeld ⊢
            refine take_ (i := 0) (N := some 41) (v := ?_) (a' := ?_) #[true, false, false, false, false] rfl rfl (by kernel_rfl) (fun _ _ _ h => h) (Or.inl ⟨by rfl, ?_⟩) hHeld ?_ ?_
            rotate_left
            · rintro w' ⟨s0, s1, s2, s3⟩
              go_simp
              with_reducible rfl
            rotate_left
            · simp only [Act.put, List.setIfInBounds_toArray, List.set_cons_zero, List.set_cons_succ, i64_w, i32_w]
              rfl
            refine take_ (i := 1) (N := some 42) (v := ?_) (a' := ?_) #[true, true, false, false, false] rfl rfl (by kernel_rfl) (fun _ _ _ h => h) (Or.inl ⟨by rfl, ?_⟩) hHeld ?_ ?_
            rotate_left
            · rintro w' ⟨s0, s1, s2, s3⟩
              go_simp
              with_reducible rfl
            rotate_left
            · simp only [Act.put, List.setIfInBounds_toArray, List.set_cons_zero, List.set_cons_succ, i64_w, i32_w]
              rfl
            refine one_ (i := 2) (N := some 43) #[true, true, true, false, false] rfl rfl (by kernel_rfl) (by decide) (fun K hK => ?_)
            refine goes_ Try.func13 (by kernel_rfl) rfl #[.agg #[.int .i64 a0_0, .slice A0_1 l0_1.length c0_1]] (by rfl) rfl rfl qB68 ?_
            with_reducible refine (laws_toCyclo.calls kj10 a0_0 _ _ l0_1 t306 t307 _ ?side1 ?side2 A58.out).mono ?_
            (case side1 => repeat (first | exact (Kd.C_below HR0_1.out HB.out) | (with_reducible refine Kd.C_alloc ?_ _) | (with_reducible refine Kd.C_drewN ?_ _) | (with_reducible refine Kd.C_drew ?_)))
            (case side2 => exact HC0_1.out)
            rintro e w64 ⟨v308, rfl, ho0, hb⟩
            refine ⟨_, rfl, ?_⟩
            have n0_ := Aside0.mk (Kd.R_elder' qB105 (Kd.R_base ho0) hb)
            have n1_ := Aside0.mk (Kd.R_elder' qB106 (Kd.R_base ho0) hb)
            have n2_ := Aside0.mk (Kd.R_elder' qB107 (Kd.R_base ho0) hb)
            have n3_ := Aside0.mk (Kd.R_lower (Kd.R_new' (Kd.R_new' (Kd.R_new' ho0 (Kd.R_lt qB105)) (Kd.R_lt qB106)) (Kd.R_lt qB107)) (below_size qB28))
            have n4_ := Aside0.mk (blk_below (g := gb282) (o := .cells #[.int .i64 a0_0, .slice A0_1 l0_1.length c0_1] 30 (0, 0)) qB99 hb)
            have n5_ := Aside0.mk (blk_below (g := gb293) (o := .cells #[.int .i64 t288, .slice Ao22 t289.length co22] 32 (0, 0)) qB100 hb)
            have n6_ := Aside0.mk (blk_below (g := gb298) (o := .cells #[.int .i64 t294, .slice Ao29 t295.length co29] 32 (0, 0)) qB101 hb)
            have n7_ := Aside0.mk (blk_below (g := gb304) (o := .cells #[.int .i64 t299, .slice Ao38 t300.length co38] 32 (0, 0)) qB102 hb)
            have n8_ := Aside0.mk (below_step qB28 hb)
            clear HO_294001
            clear HO_299001
            clear HO_305001
            clear BK282
            clear BK293
            clear BK298
            clear BK304
            clear HB
            have HO_294001 := n0_
            have HO_299001 := n1_
            have HO_305001 := n2_
            have HO309 := n3_
            have BK282 := n4_
            have BK293 := n5_
            have BK298 := n6_
            have BK304 := n7_
            have HB := n8_
            clear n0_ n1_ n2_ n3_ n4_ n5_ n6_ n7_ n8_
            (try clear hb)
            (try clear hb2)
            (try clear hk)
            (try clear hi)
            (try clear ho0)
            obtain ⟨Ao65, co65, eo65⟩ := Kd.R_slice HO309.out
            (first | subst eo65 | (injection eo65 with f1_ f2_ f3_; have f4_ := f1_.symm; have f5_ := f3_.symm; clear f1_ f2_ f3_; subst f4_; subst f5_))
            refine hK.out _ _ ⟨(blk_cell BK298.out 0).trans rfl, (blk_cell BK298.out 1).trans rfl, (blk_cell BK282.out 0).trans rfl, (blk_cell BK282.out 1).trans rfl⟩ (fun hHeld => ?_)
            clear hK K
            refine norm_ (a' := ?_) ?_ ?_
            rotate_left
            · show Act.put _ (some 43) _ = _
              simp only [Act.put, List.setIfInBounds_toArray, List.set_cons_zero, List.set_cons_succ, i64_w, i32_w]
              rfl
            refine one_ (i := 3) (N := some 44) #[true, true, true, true, false] rfl rfl (by kernel_rfl) (by decide) (fun K hK => ?_)
            refine goes_ Try.func15 (by kernel_rfl) rfl #[.agg #[.int .i64 t294, .slice Ao29 t295.length co29], .agg #[.int .i64 t306, .slice Ao65 t307.length co65]] (by rfl) rfl rfl qB68 ?_
            with_reducible refine (laws_eqCyclo.calls kj10 t294 _ _ t295 t306 _ _ t307 true _ ?side1 ?side2 ?side3 ?side4 A59.out).mono ?_
            (case side1 => repeat (first | exact (Kd.R_reads' HO_299001.out).2.2 | (with_reducible refine Kd.C_alloc ?_ _) | (with_reducible refine Kd.C_drewN ?_ _) | (with_reducible refine Kd.C_drew ?_)))
            (case side2 => exact (Kd.R_reads' HO_299001.out).2.1)
            (case side3 => repeat (first | exact (Kd.R_reads' HO309.out).2.2 | (with_reducible refine Kd.C_alloc ?_ _) | (with_reducible refine Kd.C_drewN ?_ _) | (with_reducible refine Kd.C_drew ?_)))
            (case side4 => exact (Kd.R_reads' HO309.out).2.1)
            rintro e w66 ⟨rfl, hb⟩
            refine ⟨_, rfl, ?_⟩
            have n0_ := Aside0.mk (Kd.R_below qB105 hb)
            have n1_ := Aside0.mk (Kd.R_below qB106 hb)
            have n2_ := Aside0.mk (Kd.R_below qB107 hb)
            have n3_ := Aside0.mk (Kd.R_below qB122 hb)
            have n4_ := Aside0.mk (blk_below (g := gb282) (o := .cells #[.int .i64 a0_0, .slice A0_1 l0_1.length c0_1] 30 (0, 0)) qB99 hb)
            have n5_ := Aside0.mk (blk_below (g := gb293) (o := .cells #[.int .i64 t288, .slice Ao22 t289.length co22] 32 (0, 0)) qB100 hb)
            have n6_ := Aside0.mk (blk_below (g := gb298) (o := .cells #[.int .i64 t294, .slice Ao29 t295.length co29] 32 (0, 0)) qB101 hb)
            have n7_ := Aside0.mk (blk_below (g := gb304) (o := .cells #[.int .i64 t299, .slice Ao38 t300.length co38] 32 (0, 0)) qB102 hb)
            have n8_ := Aside0.mk (below_step qB28 hb)
            clear HO_294001
            clear HO_299001
            clear HO_305001
            clear HO309
            clear BK282
            clear BK293
            clear BK298
            clear BK304
            clear HB
            have HO_294001 := n0_
            have HO_299001 := n1_
            have HO_305001 := n2_
            have HO309 := n3_
            have BK282 := n4_
            have BK293 := n5_
            have BK298 := n6_
            have BK304 := n7_
            have HB := n8_
            clear n0_ n1_ n2_ n3_ n4_ n5_ n6_ n7_ n8_
            (try clear hb)
            (try clear hb2)
            (try clear hk)
            (try clear hi)
            refine hK.out _ _ ⟨(blk_cell BK298.out 0).trans rfl, (blk_cell BK298.out 1).trans rfl, (blk_cell BK282.out 0).trans rfl, (blk_cell BK282.out 1).trans rfl⟩ (fun hHeld => ?_)
            clear hK K
            refine norm_ (a' := ?_) ?_ ?_
            rotate_left
            · show Act.put _ (some 44) _ = _
              simp only [Act.put, List.setIfInBounds_toArray, List.set_cons_zero, List.set_cons_succ, i64_w, i32_w]
              rfl
            refine pure_ (i := 4) (N := some 45) (v := ?_) (a' := ?_) #[true, true, true, true, true] rfl rfl (by kernel_rfl) (fun _ _ _ h => h) (Or.inl ⟨by rfl, ?_⟩) ?_ ?_
            rotate_left
            · intro w'
              go_simp
              with_reducible rfl
            rotate_left
            · simp only [Act.put, List.setIfInBounds_toArray, List.set_cons_zero, List.set_cons_succ, i64_w, i32_w]
              rfl
            refine done_ (by kernel_rfl) ?_
            have hnb67 := NB298_282.out
            have hnc67 := NB282_298.out
            have hnb68 := NB298_293.out
            have hnc68 := NB293_298.out
            have hnb69 := NB298_304.out
            have hnc69 := NB304_298.out
            have hcz70_0 : w66.cell? ⟨gb298, 0, none⟩ = some (.int .i64 t294) := (blk_cell BK298.out 0).trans rfl
            have hcz70_1 : w66.cell? ⟨gb298, 1, none⟩ = some (.slice Ao29 t295.length co29) := (blk_cell BK298.out 1).trans rfl
            have hfz70_0 := blk_frozen BK298.out 0
            have hfz70_1 := blk_frozen BK298.out 1
            go_upto_region 14 with (first | ((with_reducible refine gate_callee (f := 16) rfl ?_); refine goesL_ (some 48) rfl rfl Try.func16 (by kernel_rfl) rfl #[.agg #[.int .i64 t294, .slice Ao29 t295.length co29], .int .i64 1] rfl qB68 ?_; (with_reducible refine (laws_markCyclo.calls kj10 t294 (fun k_ => some k_ = (.slice Ao29 t295.length co29 : Value).ownBlock) (.slice Ao29 t295.length co29) t295 1 t311 t312 w _ ?side1 ?side2 A61.out).mono ?_); (case side1 => repeat (first | (with_reducible first | exact HB.out | apply below_alloc | apply pw_below_drewN | apply below_drew1 | refine below_set ?_ GE282.out | refine below_set ?_ GE293.out | refine below_set ?_ GE298.out | refine below_set ?_ GE304.out) | exact HB.out)); (case side2 => exact Kd.R_tight rfl HO_299001.out); rintro e w71 ⟨rfl, hy0, hb, hkp⟩; refine ⟨_, rfl, ?_⟩; have n0_ := Aside0.mk (Kd.R_mono (ok' := fun k_ => some k_ ≠ (.slice Ao29 t295.length co29 : Value).ownBlock ∧ some k_ ≠ (.slice Ao38 t300.length co38 : Value).ownBlock ∧ some k_ ≠ (.slice Ao65 t307.length co65 : Value).ownBlock) (Kd.R_keptB (HO_294001.out) hkp (fun k_ hk_ hs_ => (hk_.1.1) hs_)) (fun k_ hk_ => ⟨hk_.1.1.1, hk_.1.1.2, hk_.1.2⟩)); have n1_ := Aside0.mk (Kd.R_reok rfl hy0 (fun k_ e_ => HO_299001.out.1 k_ e_)); have n2_ := Aside0.mk (Kd.R_mono (ok' := fun k_ => some k_ ≠ (.slice Ao22 t289.length co22 : Value).ownBlock ∧ some k_ ≠ (.slice Ao29 t295.length co29 : Value).ownBlock ∧ some k_ ≠ (.slice Ao65 t307.length co65 : Value).ownBlock) (Kd.R_keptB (HO_305001.out) hkp (fun k_ hk_ hs_ => (hk_.1.2) hs_)) (fun k_ hk_ => ⟨hk_.1.1.1, hk_.1.1.2, hk_.1.2⟩)); have n3_ := Aside0.mk (blk_kept qB99 hkp (fun hs_ => (fun e_ => (Kd.R_ne HO_299001.out BK282.out (by decide)) e_) hs_)); have n4_ := Aside0.mk (blk_kept qB100 hkp (fun hs_ => (fun e_ => (Kd.R_ne HO_299001.out BK293.out (by decide)) e_) hs_)); have n5_ := Aside0.mk (blk_kept qB101 hkp (fun hs_ => (fun e_ => (Kd.R_ne HO_299001.out BK298.out (by decide)) e_) hs_)); have n6_ := Aside0.mk (blk_kept qB102 hkp (fun hs_ => (fun e_ => (Kd.R_ne HO_299001.out BK304.out (by decide)) e_) hs_)); have n7_ := Aside0.mk (Kd.R_mono (ok' := fun k_ => some k_ ≠ (.slice Ao22 t289.length co22 : Value).ownBlock ∧ some k_ ≠ (.slice Ao29 t295.length co29 : Value).ownBlock ∧ some k_ ≠ (.slice Ao38 t300.length co38 : Value).ownBlock) (Kd.R_keptB (HO309.out) hkp (fun k_ hk_ hs_ => (hk_.1.2) hs_)) (fun k_ hk_ => ⟨hk_.1.1.1.2, hk_.1.1.2, hk_.1.2⟩)); have n8_ := Aside0.mk (hb); clear HO_294001; clear HO_299001; clear HO_305001; clear BK282; clear BK293; clear BK298; clear BK304; clear HO309; clear HB; have HO_294001 := n0_; have HO_299001 := n1_; have HO_305001 := n2_; have BK282 := n3_; have BK293 := n4_; have BK298 := n5_; have BK304 := n6_; have HO309 := n7_; have HB := n8_; clear n0_ n1_ n2_ n3_ n4_ n5_ n6_ n7_ n8_; (try clear hb); (try clear hkp); (try clear hy0)))
            (try simp only [Act.put, List.setIfInBounds_toArray, List.set_cons_zero, List.set_cons_succ])
            go_cut [61] (fun v61 wc => ∃ (kq : Nat) (x61_61 : Bool), v61 = .bool x61_61 ∧ Aside0 (laws_FnExactChosenAssociate.j1 kq t292 x61_61 a0_0 l0_1 t288 t289 t299 t300 = some r) ∧ Aside0 (kq ≤ kj10) ∧ Aside0 (Kd.R (Kd.int .i64) 2 wc w.heap.size (fun k_ => some k_ ≠ ((.slice Ao29 t295.length co29) : Value).ownBlock ∧ some k_ ≠ ((.slice Ao38 t300.length co38) : Value).ownBlock) (.slice Ao22 t289.length co22) t289) ∧ Aside0 (Kd.R (Kd.int .i64) 2 wc w.heap.size (fun k_ => some k_ ≠ ((.slice Ao22 t289.length co22) : Value).ownBlock ∧ some k_ ≠ ((.slice Ao38 t300.length co38) : Value).ownBlock) (.slice Ao29 t295.length co29) t312) ∧ Aside0 (Kd.R (Kd.int .i64) 2 wc w.heap.size (fun k_ => some k_ ≠ ((.slice Ao22 t289.length co22) : Value).ownBlock ∧ some k_ ≠ ((.slice Ao29 t295.length co29) : Value).ownBlock) (.slice Ao38 t300.length co38) t300) ∧ Aside0 (wc.heap[gb282]? = some (.cells #[.int .i64 a0_0, (.slice A0_1 l0_1.length c0_1)] 30 (0, 0))) ∧ Aside0 (wc.heap[gb293]? = some (.cells #[.int .i64 t288, (.slice Ao22 t289.length co22)] 32 (0, 0))) ∧ Aside0 (wc.heap[gb298]? = some (.cells #[.int .i64 t294, (.slice Ao29 t295.length co29)] 32 (0, 0))) ∧ Aside0 (wc.heap[gb304]? = some (.cells #[.int .i64 t299, (.slice Ao38 t300.length co38)] 32 (0, 0))) ∧ Aside0 (Below w.heap.size w wc))
            case first =>
              have H := HC62.out
              clear HC62
              by_cases c72 : t311 < 0
              · rw [if_pos c72] at H
                have c72b0 : decide (t311 < 0) = true := decide_eq_true c72
                clear c72
                (first | rw [c72b0] | (simp only [i64_w, i32_w]; rw [c72b0]) | skip)
                have H' := Aside0.mk H
                clear H
                go_wp2
                go_meet
                case rel => exact ⟨_, (true), qB128, H', ⟨by have := HJ10.out; first | omega | exact Nat.le_refl _⟩, ⟨by (with_reducible repeat (first | apply Kd.R_alloc | apply Kd.R_drewN | apply Kd.R_drew)); exact Kd.R_mono HO_294001.out (fun _ hk => ⟨hk.1, hk.2.1⟩)⟩, ⟨by (with_reducible repeat (first | apply Kd.R_alloc | apply Kd.R_drewN | apply Kd.R_drew)); exact Kd.R_mono HO_299001.out (fun _ hk => ⟨hk.1.1, hk.1.2⟩)⟩, ⟨by (with_reducible repeat (first | apply Kd.R_alloc | apply Kd.R_drewN | apply Kd.R_drew)); exact Kd.R_mono HO_305001.out (fun _ hk => ⟨hk.1, hk.2.1⟩)⟩, ⟨by (with_reducible repeat (first | refine blk_drewN ?_ _ | refine blk_drew ?_ | refine blk_alloc ?_ _)); exact BK282.out⟩, ⟨by (with_reducible repeat (first | refine blk_drewN ?_ _ | refine blk_drew ?_ | refine blk_alloc ?_ _)); exact BK293.out⟩, ⟨by (with_reducible repeat (first | refine blk_drewN ?_ _ | refine blk_drew ?_ | refine blk_alloc ?_ _)); exact BK298.out⟩, ⟨by (with_reducible repeat (first | refine blk_drewN ?_ _ | refine blk_drew ?_ | refine blk_alloc ?_ _)); exact BK304.out⟩, ⟨by repeat (first | (with_reducible first | exact HB.out | apply below_alloc | apply pw_below_drewN | apply below_drew1 | refine below_set ?_ GE282.out | refine below_set ?_ GE293.out | refine below_set ?_ GE298.out | refine below_set ?_ GE304.out) | exact HB.out)⟩⟩
              · rw [if_neg c72] at H
                have c72b0 : decide (t311 < 0) = false := decide_eq_false c72
                clear c72
                (first | rw [c72b0] | (simp only [i64_w, i32_w]; rw [c72b0]) | skip)
                replace H := Option.bind_eq_some_iff.mp H
                obtain ⟨t313, A730, H⟩ := H
                replace H : (if t313 = true then (laws_FnExactChosenAssociate.j1 kj10 t292 (t303 != t292) a0_0 l0_1 t288 t289 t299 t300) else (laws_FnExactChosenAssociate.j1 kj10 t292 true a0_0 l0_1 t288 t289 t299 t300)) = some r := H
                have A73 := Aside0.mk A730
                clear A730
                by_cases c74 : t313 = true
                · subst c74
                  have H1 : (laws_FnExactChosenAssociate.j1 kj10 t292 (t303 != t292) a0_0 l0_1 t288 t289 t299 t300) = some r := by rw [if_pos rfl] at H; exact H
                  clear H
                  have H := H1
                  clear H1
                  have H' := Aside0.mk H
                  clear H
                  have hnb75 := NB304_282.out
                  have hnc75 := NB282_304.out
                  have hnb76 := NB304_293.out
                  have hnc76 := NB293_304.out
                  have hnb77 := NB304_298.out
                  have hnc77 := NB298_304.out
                  have hcz78_0 : w71.cell? ⟨gb304, 0, none⟩ = some (.int .i64 t299) := (blk_cell BK304.out 0).trans rfl
                  have hcz78_1 : w71.cell? ⟨gb304, 1, none⟩ = some (.slice Ao38 t300.length co38) := (blk_cell BK304.out 1).trans rfl
                  have hfz78_0 := blk_frozen BK304.out 0
                  have hfz78_1 := blk_frozen BK304.out 1
                  have hnb79 := NB293_282.out
                  have hnc79 := NB282_293.out
                  have hnb80 := NB293_298.out
                  have hnc80 := NB298_293.out
                  have hcz81_0 : w71.cell? ⟨gb293, 0, none⟩ = some (.int .i64 t288) := (blk_cell BK293.out 0).trans rfl
                  have hcz81_1 : w71.cell? ⟨gb293, 1, none⟩ = some (.slice Ao22 t289.length co22) := (blk_cell BK293.out 1).trans rfl
                  have hfz81_0 := blk_frozen BK293.out 0
                  have hfz81_1 := blk_frozen BK293.out 1
                  go_wp2_with (first | (go_at_call 15; (with_reducible refine (laws_eqCyclo.calls kj10 t299 _ _ t300 t288 _ _ t289 true _ ?side1 ?side2 ?side3 ?side4 A73.out).mono ?_); (case side1 => repeat (first | exact (Kd.R_reads' HO_305001.out).2.2 | (with_reducible refine Kd.C_alloc ?_ _) | (with_reducible refine Kd.C_drewN ?_ _) | (with_reducible refine Kd.C_drew ?_))); (case side2 => exact (Kd.R_reads' HO_305001.out).2.1); (case side3 => repeat (first | exact (Kd.R_reads' HO_294001.out).2.2 | (with_reducible refine Kd.C_alloc ?_ _) | (with_reducible refine Kd.C_drewN ?_ _) | (with_reducible refine Kd.C_drew ?_))); (case side4 => exact (Kd.R_reads' HO_294001.out).2.1); rintro e w82 ⟨rfl, hb⟩; have n0_ := Aside0.mk (Kd.R_below qB105 hb); have n1_ := Aside0.mk (Kd.R_below qB106 hb); have n2_ := Aside0.mk (Kd.R_below qB107 hb); have n3_ := Aside0.mk (Kd.R_below qB122 hb); have n4_ := Aside0.mk (blk_below (g := gb282) (o := .cells #[.int .i64 a0_0, .slice A0_1 l0_1.length c0_1] 30 (0, 0)) qB99 hb); have n5_ := Aside0.mk (blk_below (g := gb293) (o := .cells #[.int .i64 t288, .slice Ao22 t289.length co22] 32 (0, 0)) qB100 hb); have n6_ := Aside0.mk (blk_below (g := gb298) (o := .cells #[.int .i64 t294, .slice Ao29 t295.length co29] 32 (0, 0)) qB101 hb); have n7_ := Aside0.mk (blk_below (g := gb304) (o := .cells #[.int .i64 t299, .slice Ao38 t300.length co38] 32 (0, 0)) qB102 hb); have n8_ := Aside0.mk (below_step qB28 hb); clear HO_294001; clear HO_299001; clear HO_305001; clear HO309; clear BK282; clear BK293; clear BK298; clear BK304; clear HB; have HO_294001 := n0_; have HO_299001 := n1_; have HO_305001 := n2_; have HO309 := n3_; have BK282 := n4_; have BK293 := n5_; have BK298 := n6_; have BK304 := n7_; have HB := n8_; clear n0_ n1_ n2_ n3_ n4_ n5_ n6_ n7_ n8_; (try clear hb); (try clear hb2); (try clear hk); (try clear hi)))
                  go_meet
                  case rel => exact ⟨_, ((t303 != t292)), qB128, H', ⟨by have := HJ10.out; first | omega | exact Nat.le_refl _⟩, ⟨by (with_reducible repeat (first | apply Kd.R_alloc | apply Kd.R_drewN | apply Kd.R_drew)); exact Kd.R_mono HO_294001.out (fun _ hk => ⟨hk.1, hk.2.1⟩)⟩, ⟨by (with_reducible repeat (first | apply Kd.R_alloc | apply Kd.R_drewN | apply Kd.R_drew)); exact Kd.R_mono HO_299001.out (fun _ hk => ⟨hk.1.1, hk.1.2⟩)⟩, ⟨by (with_reducible repeat (first | apply Kd.R_alloc | apply Kd.R_drewN | apply Kd.R_drew)); exact Kd.R_mono HO_305001.out (fun _ hk => ⟨hk.1, hk.2.1⟩)⟩, ⟨by (with_reducible repeat (first | refine blk_drewN ?_ _ | refine blk_drew ?_ | refine blk_alloc ?_ _)); exact BK282.out⟩, ⟨by (with_reducible repeat (first | refine blk_drewN ?_ _ | refine blk_drew ?_ | refine blk_alloc ?_ _)); exact BK293.out⟩, ⟨by (with_reducible repeat (first | refine blk_drewN ?_ _ | refine blk_drew ?_ | refine blk_alloc ?_ _)); exact BK298.out⟩, ⟨by (with_reducible repeat (first | refine blk_drewN ?_ _ | refine blk_drew ?_ | refine blk_alloc ?_ _)); exact BK304.out⟩, ⟨by repeat (first | (with_reducible first | exact HB.out | apply below_alloc | apply pw_below_drewN | apply below_drew1 | refine below_set ?_ GE282.out | refine below_set ?_ GE293.out | refine below_set ?_ GE298.out | refine below_set ?_ GE304.out) | exact HB.out)⟩⟩
                · replace c74 := Bool.eq_false_iff.mpr c74
                  subst c74
                  have H1 : (laws_FnExactChosenAssociate.j1 kj10 t292 true a0_0 l0_1 t288 t289 t299 t300) = some r := by rw [if_neg (show ¬ (false = true) by decide)] at H; exact H
                  clear H
                  have H := H1
                  clear H1
                  have H' := Aside0.mk H
                  clear H
                  have hnb83 := NB304_282.out
                  have hnc83 := NB282_304.out
                  have hnb84 := NB304_293.out
                  have hnc84 := NB293_304.out
                  have hnb85 := NB304_298.out
                  have hnc85 := NB298_304.out
                  have hcz86_0 : w71.cell? ⟨gb304, 0, none⟩ = some (.int .i64 t299) := (blk_cell BK304.out 0).trans rfl
                  have hcz86_1 : w71.cell? ⟨gb304, 1, none⟩ = some (.slice Ao38 t300.length co38) := (blk_cell BK304.out 1).trans rfl
                  have hfz86_0 := blk_frozen BK304.out 0
                  have hfz86_1 := blk_frozen BK304.out 1
                  have hnb87 := NB293_282.out
                  have hnc87 := NB282_293.out
                  have hnb88 := NB293_298.out
                  have hnc88 := NB298_293.out
                  have hcz89_0 : w71.cell? ⟨gb293, 0, none⟩ = some (.int .i64 t288) := (blk_cell BK293.out 0).trans rfl
                  have hcz89_1 : w71.cell? ⟨gb293, 1, none⟩ = some (.slice Ao22 t289.length co22) := (blk_cell BK293.out 1).trans rfl
                  have hfz89_0 := blk_frozen BK293.out 0
                  have hfz89_1 := blk_frozen BK293.out 1
                  go_wp2_with (first | (go_at_call 15; (with_reducible refine (laws_eqCyclo.calls kj10 t299 _ _ t300 t288 _ _ t289 false _ ?side1 ?side2 ?side3 ?side4 A73.out).mono ?_); (case side1 => repeat (first | exact (Kd.R_reads' HO_305001.out).2.2 | (with_reducible refine Kd.C_alloc ?_ _) | (with_reducible refine Kd.C_drewN ?_ _) | (with_reducible refine Kd.C_drew ?_))); (case side2 => exact (Kd.R_reads' HO_305001.out).2.1); (case side3 => repeat (first | exact (Kd.R_reads' HO_294001.out).2.2 | (with_reducible refine Kd.C_alloc ?_ _) | (with_reducible refine Kd.C_drewN ?_ _) | (with_reducible refine Kd.C_drew ?_))); (case side4 => exact (Kd.R_reads' HO_294001.out).2.1); rintro e w90 ⟨rfl, hb⟩; have n0_ := Aside0.mk (Kd.R_below qB105 hb); have n1_ := Aside0.mk (Kd.R_below qB106 hb); have n2_ := Aside0.mk (Kd.R_below qB107 hb); have n3_ := Aside0.mk (Kd.R_below qB122 hb); have n4_ := Aside0.mk (blk_below (g := gb282) (o := .cells #[.int .i64 a0_0, .slice A0_1 l0_1.length c0_1] 30 (0, 0)) qB99 hb); have n5_ := Aside0.mk (blk_below (g := gb293) (o := .cells #[.int .i64 t288, .slice Ao22 t289.length co22] 32 (0, 0)) qB100 hb); have n6_ := Aside0.mk (blk_below (g := gb298) (o := .cells #[.int .i64 t294, .slice Ao29 t295.length co29] 32 (0, 0)) qB101 hb); have n7_ := Aside0.mk (blk_below (g := gb304) (o := .cells #[.int .i64 t299, .slice Ao38 t300.length co38] 32 (0, 0)) qB102 hb); have n8_ := Aside0.mk (below_step qB28 hb); clear HO_294001; clear HO_299001; clear HO_305001; clear HO309; clear BK282; clear BK293; clear BK298; clear BK304; clear HB; have HO_294001 := n0_; have HO_299001 := n1_; have HO_305001 := n2_; have HO309 := n3_; have BK282 := n4_; have BK293 := n5_; have BK298 := n6_; have BK304 := n7_; have HB := n8_; clear n0_ n1_ n2_ n3_ n4_ n5_ n6_ n7_ n8_; (try clear hb); (try clear hb2); (try clear hk); (try clear hi)))
                  go_meet
                  case rel => exact ⟨_, (true), qB128, H', ⟨by have := HJ10.out; first | omega | exact Nat.le_refl _⟩, ⟨by (with_reducible repeat (first | apply Kd.R_alloc | apply Kd.R_drewN | apply Kd.R_drew)); exact Kd.R_mono HO_294001.out (fun _ hk => ⟨hk.1, hk.2.1⟩)⟩, ⟨by (with_reducible repeat (first | apply Kd.R_alloc | apply Kd.R_drewN | apply Kd.R_drew)); exact Kd.R_mono HO_299001.out (fun _ hk => ⟨hk.1.1, hk.1.2⟩)⟩, ⟨by (with_reducible repeat (first | apply Kd.R_alloc | apply Kd.R_drewN | apply Kd.R_drew)); exact Kd.R_mono HO_305001.out (fun _ hk => ⟨hk.1, hk.2.1⟩)⟩, ⟨by (with_reducible repeat (first | refine blk_drewN ?_ _ | refine blk_drew ?_ | refine blk_alloc ?_ _)); exact BK282.out⟩, ⟨by (with_reducible repeat (first | refine blk_drewN ?_ _ | refine blk_drew ?_ | refine blk_alloc ?_ _)); exact BK293.out⟩, ⟨by (with_reducible repeat (first | refine blk_drewN ?_ _ | refine blk_drew ?_ | refine blk_alloc ?_ _)); exact BK298.out⟩, ⟨by (with_reducible repeat (first | refine blk_drewN ?_ _ | refine blk_drew ?_ | refine blk_alloc ?_ _)); exact BK304.out⟩, ⟨by repeat (first | (with_reducible first | exact HB.out | apply below_alloc | apply pw_below_drewN | apply below_drew1 | refine below_set ?_ GE282.out | refine below_set ?_ GE293.out | refine below_set ?_ GE298.out | refine below_set ?_ GE304.out) | exact HB.out)⟩⟩
            case rest =>
              clear HC62
              try clear c1
              try clear c2
              try clear p2
              try clear c3
              try clear c3b0
              try clear c4
              try clear c5
              try clear c6
              try clear c7
              try clear c8
              try clear c11
              try clear c13
              try clear c15
              try clear c16
              try clear c18
              try clear c19
              try clear c20
              try clear c26
              try clear c27
              try clear c34
              try clear c35
              try clear c36
              try clear c40
              try clear c41
              try clear c42
              try clear c43
              try clear c45
              try clear c46
              try clear c49
              try clear c50
              try clear c51
              try clear c53
              try clear c54
              try clear c57
              try clear c60
              try clear c67
              try clear c68
              try clear c69
              try clear c72
              try clear c72b0
              try clear c74
              try clear c75
              try clear c76
              try clear c77
              try clear c79
              try clear c80
              try clear c83
              try clear c84
              try clear c85
              try clear c87
              try clear c88
              try clear hcz13_0
              try clear hcz13_1
              try clear hcz15_0
              try clear hcz15_1
              try clear hcz21_0
              try clear hcz21_1
              try clear hcz23_0
              try clear hcz23_1
              try clear hcz28_0
              try clear hcz28_1
              try clear hcz31_0
              try clear hcz31_1
              try clear hcz37_0
              try clear hcz37_1
              try clear hcz44_0
              try clear hcz44_1
              try clear hcz47_0
              try clear hcz47_1
              try clear hcz52_0
              try clear hcz52_1
              try clear hcz55_0
              try clear hcz55_1
              try clear hcz5_0
              try clear hcz5_1
              try clear hcz70_0
              try clear hcz70_1
              try clear hcz78_0
              try clear hcz78_1
              try clear hcz81_0
              try clear hcz81_1
              try clear hcz86_0
              try clear hcz86_1
              try clear hcz89_0
              try clear hcz89_1
              try clear hfz13_0
              try clear hfz13_1
              try clear hfz15_0
              try clear hfz15_1
              try clear hfz21_0
              try clear hfz21_1
              try clear hfz23_0
              try clear hfz23_1
              try clear hfz28_0
              try clear hfz28_1
              try clear hfz31_0
              try clear hfz31_1
              try clear hfz37_0
              try clear hfz37_1
              try clear hfz44_0
              try clear hfz44_1
              try clear hfz47_0
              try clear hfz47_1
              try clear hfz52_0
              try clear hfz52_1
              try clear hfz55_0
              try clear hfz55_1
              try clear hfz5_0
              try clear hfz5_1
              try clear hfz70_0
              try clear hfz70_1
              try clear hfz78_0
              try clear hfz78_1
              try clear hfz81_0
              try clear hfz81_1
              try clear hfz86_0
              try clear hfz86_1
              try clear hfz89_0
              try clear hfz89_1
              try clear p2
              obtain ⟨kq, x61_61, rfl, HA, HJ61, HO_294001, HO_299001, HO_305001, BK282, BK293, BK298, BK304, HB⟩ := hcut
              have hl299001_61 := (Kd.R_reads' HO_299001.out).1
              rw [hl299001_61] at HO_299001
              (try simp only [hl299001_61])
              (try simp only [hl299001_61] at BK282)
              (try simp only [hl299001_61] at BK293)
              (try simp only [hl299001_61] at BK298)
              (try simp only [hl299001_61] at BK304)
              (try simp only [hl299001_61] at HO_294001)
              (try simp only [hl299001_61] at HO_305001)
              cases kq with
              | zero => exact absurd HA.out (by simp [laws_FnExactChosenAssociate.j1])
              | succ kj61 =>
                have H := HA.out
                clear HA
                simp only [laws_FnExactChosenAssociate.j1] at H
                by_cases c91 : x61_61 = true
                · subst c91
                  have H1 : (some false) = some r := by rw [if_pos rfl] at H; exact H
                  clear H
                  have H := H1
                  clear H1
                  obtain rfl := Option.some.inj H
                  go_wp2
                  go_ret
                  exact ⟨by first | rfl | (simp [errW_none, errW_some] <;> rfl) | (simp [*, errW_none, errW_some] <;> rfl), by repeat (first | (with_reducible first | exact HB.out | apply below_alloc | apply pw_below_drewN | apply below_drew1 | refine below_set ?_ GE282.out | refine below_set ?_ GE293.out | refine below_set ?_ GE298.out | refine below_set ?_ GE304.out) | exact HB.out)⟩
                · replace c91 := Bool.eq_false_iff.mpr c91
                  subst c91
                  have H1 : ((laws_markCyclo.f kj61 t299 t300 1).bind fun bt314 => ((laws_heldCyclo.f kj61 t299 bt314.2 1).bind fun t316 => (if t316 < 0 then (some false) else (if t316 = bt314.1 then ((laws_toCyclo.f kj61 a0_0 l0_1).bind fun bt317 => ((impl_ChosenAssociate.f kj61 bt317.1 bt317.2).bind fun bt321 => ((laws_eqCyclo.f kj61 bt321.1 bt321.2.1 t288 t289).bind fun t327 => (if t327 = true then (laws_FnExactChosenAssociate.j2 kj61 bt314.1 (bt321.2.2 != t292) t299 bt314.2) else (laws_FnExactChosenAssociate.j2 kj61 bt314.1 true t299 bt314.2))))) else (some false))))) = some r := by rw [if_neg (show ¬ (false = true) by decide)] at H; exact H
                  clear H
                  have H := H1
                  clear H1
                  replace H := Option.bind_eq_some_iff.mp H
                  obtain ⟨⟨t314, t315⟩, A920, H⟩ := H
                  replace H : ((laws_heldCyclo.f kj61 t299 t315 1).bind fun t316 => (if t316 < 0 then (some false) else (if t316 = t314 then ((laws_toCyclo.f kj61 a0_0 l0_1).bind fun bt317 => ((impl_ChosenAssociate.f kj61 bt317.1 bt317.2).bind fun bt321 => ((laws_eqCyclo.f kj61 bt321.1 bt321.2.1 t288 t289).bind fun t327 => (if t327 = true then (laws_FnExactChosenAssociate.j2 kj61 t314 (bt321.2.2 != t292) t299 t315) else (laws_FnExactChosenAssociate.j2 kj61 t314 true t299 t315))))) else (some false)))) = some r := H
                  have A92 := Aside0.mk A920
                  clear A920
                  replace H := Option.bind_eq_some_iff.mp H
                  obtain ⟨t316, A930, H⟩ := H
                  replace H : (if t316 < 0 then (some false) else (if t316 = t314 then ((laws_toCyclo.f kj61 a0_0 l0_1).bind fun bt317 => ((impl_ChosenAssociate.f kj61 bt317.1 bt317.2).bind fun bt321 => ((laws_eqCyclo.f kj61 bt321.1 bt321.2.1 t288 t289).bind fun t327 => (if t327 = true then (laws_FnExactChosenAssociate.j2 kj61 t314 (bt321.2.2 != t292) t299 t315) else (laws_FnExactChosenAssociate.j2 kj61 t314 true t299 t315))))) else (some false))) = some r := H
                  have A93 := Aside0.mk A930
                  clear A930
                  by_cases c94 : t316 < 0
                  · rw [if_pos c94] at H
                    have c94b0 : decide (t316 < 0) = true := decide_eq_true c94
                    clear c94
                    obtain rfl := Option.some.inj H
                    have hnb95 := NB304_282.out
                    have hnc95 := NB282_304.out
                    have hnb96 := NB304_293.out
                    have hnc96 := NB293_304.out
                    have hnb97 := NB304_298.out
                    have hnc97 := NB298_304.out
                    have hcz98_0 : wc.cell? ⟨gb304, 0, none⟩ = some (.int .i64 t299) := (blk_cell BK304.out 0).trans rfl
                    have hcz98_1 : wc.cell? ⟨gb304, 1, none⟩ = some (.slice Ao38 t300.length co38) := (blk_cell BK304.out 1).trans rfl
                    have hfz98_0 := blk_frozen BK304.out 0
                    have hfz98_1 := blk_frozen BK304.out 1
                    go_wp2_with (first | ((with_reducible refine gate_callee (f := 16) rfl ?_); refine goesL_ (some 64) rfl rfl Try.func16 (by kernel_rfl) rfl #[.agg #[.int .i64 t299, .slice Ao38 t300.length co38], .int .i64 1] rfl qB68 ?_; (with_reducible refine (laws_markCyclo.calls kj61 t299 (fun k_ => some k_ = (.slice Ao38 t300.length co38 : Value).ownBlock) (.slice Ao38 t300.length co38) t300 1 t314 t315 w _ ?side1 ?side2 A92.out).mono ?_); (case side1 => repeat (first | (with_reducible first | exact HB.out | apply below_alloc | apply pw_below_drewN | apply below_drew1 | refine below_set ?_ GE282.out | refine below_set ?_ GE293.out | refine below_set ?_ GE298.out | refine below_set ?_ GE304.out) | exact HB.out)); (case side2 => exact Kd.R_tight rfl HO_305001.out); rintro e w99 ⟨rfl, hy0, hb, hkp⟩; refine ⟨_, rfl, ?_⟩; have n0_ := Aside0.mk (Kd.R_mono (ok' := fun k_ => some k_ ≠ (.slice Ao29 t312.length co29 : Value).ownBlock ∧ some k_ ≠ (.slice Ao38 t300.length co38 : Value).ownBlock) (Kd.R_keptB (HO_294001.out) hkp (fun k_ hk_ hs_ => (hk_.2) hs_)) (fun k_ hk_ => ⟨hk_.1.1, hk_.1.2⟩)); have n1_ := Aside0.mk (Kd.R_mono (ok' := fun k_ => some k_ ≠ (.slice Ao22 t289.length co22 : Value).ownBlock ∧ some k_ ≠ (.slice Ao38 t300.length co38 : Value).ownBlock) (Kd.R_keptB (HO_299001.out) hkp (fun k_ hk_ hs_ => (hk_.2) hs_)) (fun k_ hk_ => ⟨hk_.1.1, hk_.1.2⟩)); have n2_ := Aside0.mk (Kd.R_reok rfl hy0 (fun k_ e_ => HO_305001.out.1 k_ e_)); have n3_ := Aside0.mk (blk_kept qB99 hkp (fun hs_ => (fun e_ => (Kd.R_ne HO_305001.out BK282.out (by decide)) e_) hs_)); have n4_ := Aside0.mk (blk_kept qB100 hkp (fun hs_ => (fun e_ => (Kd.R_ne HO_305001.out BK293.out (by decide)) e_) hs_)); have n5_ := Aside0.mk (blk_kept qB101 hkp (fun hs_ => (fun e_ => (Kd.R_ne HO_305001.out BK298.out (by decide)) e_) hs_)); have n6_ := Aside0.mk (blk_kept qB102 hkp (fun hs_ => (fun e_ => (Kd.R_ne HO_305001.out BK304.out (by decide)) e_) hs_)); have n7_ := Aside0.mk (hb); clear HO_294001; clear HO_299001; clear HO_305001; clear BK282; clear BK293; clear BK298; clear BK304; clear HB; have HO_294001 := n0_; have HO_299001 := n1_; have HO_305001 := n2_; have BK282 := n3_; have BK293 := n4_; have BK298 := n5_; have BK304 := n6_; have HB := n7_; clear n0_ n1_ n2_ n3_ n4_ n5_ n6_ n7_; (try clear hb); (try clear hkp); (try clear hy0); have hcz100_0 : w99.cell? ⟨gb304, 0, none⟩ = some (.int .i64 t299) := (blk_cell BK304.out 0).trans rfl; have hcz100_1 : w99.cell? ⟨gb304, 1, none⟩ = some (.slice Ao38 t300.length co38) := (blk_cell BK304.out 1).trans rfl; have hfz100_0 := blk_frozen BK304.out 0; have hfz100_1 := blk_frozen BK304.out 1) | ((with_reducible refine gate_callee (f := 17) rfl ?_); refine goesL_ (some 67) rfl rfl Try.func17 (by kernel_rfl) rfl #[.agg #[.int .i64 t299, .slice Ao38 t315.length co38], .int .i64 1] rfl qB33 ?_; (with_reducible refine (laws_heldCyclo.calls kj61 t299 _ _ t315 1 t316 _ ?side1 ?side2 A93.out).mono ?_); (case side1 => repeat (first | exact (Kd.R_reads' HO_305001.out).2.2 | (with_reducible refine Kd.C_alloc ?_ _) | (with_reducible refine Kd.C_drewN ?_ _) | (with_reducible refine Kd.C_drew ?_))); (case side2 => rw [show t315.length = t300.length from (Kd.R_reads' HO_305001.out).1.symm]; exact (Kd.R_reads' HO_305001.out).2.1); rintro e w101 ⟨rfl, hb⟩; refine ⟨_, rfl, ?_⟩; have n0_ := Aside0.mk (Kd.R_below qB105 hb); have n1_ := Aside0.mk (Kd.R_below qB106 hb); have n2_ := Aside0.mk (Kd.R_below qB107 hb); have n3_ := Aside0.mk (blk_below (g := gb282) (o := .cells #[.int .i64 a0_0, .slice A0_1 l0_1.length c0_1] 30 (0, 0)) qB99 hb); have n4_ := Aside0.mk (blk_below (g := gb293) (o := .cells #[.int .i64 t288, .slice Ao22 t289.length co22] 32 (0, 0)) qB100 hb); have n5_ := Aside0.mk (blk_below (g := gb298) (o := .cells #[.int .i64 t294, .slice Ao29 t312.length co29] 32 (0, 0)) qB101 hb); have n6_ := Aside0.mk (blk_below (g := gb304) (o := .cells #[.int .i64 t299, .slice Ao38 t300.length co38] 32 (0, 0)) qB102 hb); have n7_ := Aside0.mk (below_step qB28 hb); clear HO_294001; clear HO_299001; clear HO_305001; clear BK282; clear BK293; clear BK298; clear BK304; clear HB; have HO_294001 := n0_; have HO_299001 := n1_; have HO_305001 := n2_; have BK282 := n3_; have BK293 := n4_; have BK298 := n5_; have BK304 := n6_; have HB := n7_; clear n0_ n1_ n2_ n3_ n4_ n5_ n6_ n7_; (try clear hb); (try clear hb2); (try clear hk); (try clear hi)))
                    go_ret
                    exact ⟨by first | rfl | (simp [errW_none, errW_some] <;> rfl) | (simp [*, errW_none, errW_some] <;> rfl), by repeat (first | (with_reducible first | exact HB.out | apply below_alloc | apply pw_below_drewN | apply below_drew1 | refine below_set ?_ GE282.out | refine below_set ?_ GE293.out | refine below_set ?_ GE298.out | refine below_set ?_ GE304.out) | exact HB.out)⟩
                  · rw [if_neg c94] at H
                    have c94b0 : decide (t316 < 0) = false := decide_eq_false c94
                    clear c94
                    by_cases c102 : t316 = t314
                    · rw [if_pos c102] at H
                      have c102b0 : (t316 == t314) = true := beq_iff_eq.mpr c102
                      have c102b1 : (t316 != t314) = false := bne_eq_false_iff_eq.mpr c102
                      clear c102
                      replace H := Option.bind_eq_some_iff.mp H
                      obtain ⟨⟨t317, t318⟩, A1030, H⟩ := H
                      replace H : ((impl_ChosenAssociate.f kj61 t317 t318).bind fun bt321 => ((laws_eqCyclo.f kj61 bt321.1 bt321.2.1 t288 t289).bind fun t327 => (if t327 = true then (laws_FnExactChosenAssociate.j2 kj61 t314 (bt321.2.2 != t292) t299 t315) else (laws_FnExactChosenAssociate.j2 kj61 t314 true t299 t315)))) = some r := H
                      have A103 := Aside0.mk A1030
                      clear A1030
                      replace H := Option.bind_eq_some_iff.mp H
                      obtain ⟨⟨t321, t322, t325⟩, A1040, H⟩ := H
                      replace H : ((laws_eqCyclo.f kj61 t321 t322 t288 t289).bind fun t327 => (if t327 = true then (laws_FnExactChosenAssociate.j2 kj61 t314 (t325 != t292) t299 t315) else (laws_FnExactChosenAssociate.j2 kj61 t314 true t299 t315))) = some r := H
                      have A104 := Aside0.mk A1040
                      clear A1040
                      have HC105 := Aside0.mk H
                      clear H
                      have hnb106 := NB304_282.out
                      have hnc106 := NB282_304.out
                      have hnb107 := NB304_293.out
                      have hnc107 := NB293_304.out
                      have hnb108 := NB304_298.out
                      have hnc108 := NB298_304.out
                      have hcz109_0 : wc.cell? ⟨gb304, 0, none⟩ = some (.int .i64 t299) := (blk_cell BK304.out 0).trans rfl
                      have hcz109_1 : wc.cell? ⟨gb304, 1, none⟩ = some (.slice Ao38 t300.length co38) := (blk_cell BK304.out 1).trans rfl
                      have hfz109_0 := blk_frozen BK304.out 0
                      have hfz109_1 := blk_frozen BK304.out 1
                      go_upto_region 25 with (first | ((with_reducible refine gate_callee (f := 16) rfl ?_); refine goesL_ (some 64) rfl rfl Try.func16 (by kernel_rfl) rfl #[.agg #[.int .i64 t299, .slice Ao38 t300.length co38], .int .i64 1] rfl qB68 ?_; (with_reducible refine (laws_markCyclo.calls kj61 t299 (fun k_ => some k_ = (.slice Ao38 t300.length co38 : Value).ownBlock) (.slice Ao38 t300.length co38) t300 1 t314 t315 w _ ?side1 ?side2 A92.out).mono ?_); (case side1 => repeat (first | (with_reducible first | exact HB.out | apply below_alloc | apply pw_below_drewN | apply below_drew1 | refine below_set ?_ GE282.out | refine below_set ?_ GE293.out | refine below_set ?_ GE298.out | refine below_set ?_ GE304.out) | exact HB.out)); (case side2 => exact Kd.R_tight rfl HO_305001.out); rintro e w110 ⟨rfl, hy0, hb, hkp⟩; refine ⟨_, rfl, ?_⟩; have n0_ := Aside0.mk (Kd.R_mono (ok' := fun k_ => some k_ ≠ (.slice Ao29 t312.length co29 : Value).ownBlock ∧ some k_ ≠ (.slice Ao38 t300.length co38 : Value).ownBlock) (Kd.R_keptB (HO_294001.out) hkp (fun k_ hk_ hs_ => (hk_.2) hs_)) (fun k_ hk_ => ⟨hk_.1.1, hk_.1.2⟩)); have n1_ := Aside0.mk (Kd.R_mono (ok' := fun k_ => some k_ ≠ (.slice Ao22 t289.length co22 : Value).ownBlock ∧ some k_ ≠ (.slice Ao38 t300.length co38 : Value).ownBlock) (Kd.R_keptB (HO_299001.out) hkp (fun k_ hk_ hs_ => (hk_.2) hs_)) (fun k_ hk_ => ⟨hk_.1.1, hk_.1.2⟩)); have n2_ := Aside0.mk (Kd.R_reok rfl hy0 (fun k_ e_ => HO_305001.out.1 k_ e_)); have n3_ := Aside0.mk (blk_kept qB99 hkp (fun hs_ => (fun e_ => (Kd.R_ne HO_305001.out BK282.out (by decide)) e_) hs_)); have n4_ := Aside0.mk (blk_kept qB100 hkp (fun hs_ => (fun e_ => (Kd.R_ne HO_305001.out BK293.out (by decide)) e_) hs_)); have n5_ := Aside0.mk (blk_kept qB101 hkp (fun hs_ => (fun e_ => (Kd.R_ne HO_305001.out BK298.out (by decide)) e_) hs_)); have n6_ := Aside0.mk (blk_kept qB102 hkp (fun hs_ => (fun e_ => (Kd.R_ne HO_305001.out BK304.out (by decide)) e_) hs_)); have n7_ := Aside0.mk (hb); clear HO_294001; clear HO_299001; clear HO_305001; clear BK282; clear BK293; clear BK298; clear BK304; clear HB; have HO_294001 := n0_; have HO_299001 := n1_; have HO_305001 := n2_; have BK282 := n3_; have BK293 := n4_; have BK298 := n5_; have BK304 := n6_; have HB := n7_; clear n0_ n1_ n2_ n3_ n4_ n5_ n6_ n7_; (try clear hb); (try clear hkp); (try clear hy0); have hcz111_0 : w110.cell? ⟨gb304, 0, none⟩ = some (.int .i64 t299) := (blk_cell BK304.out 0).trans rfl; have hcz111_1 : w110.cell? ⟨gb304, 1, none⟩ = some (.slice Ao38 t300.length co38) := (blk_cell BK304.out 1).trans rfl; have hfz111_0 := blk_frozen BK304.out 0; have hfz111_1 := blk_frozen BK304.out 1) | ((with_reducible refine gate_callee (f := 17) rfl ?_); refine goesL_ (some 67) rfl rfl Try.func17 (by kernel_rfl) rfl #[.agg #[.int .i64 t299, .slice Ao38 t315.length co38], .int .i64 1] rfl qB33 ?_; (with_reducible refine (laws_heldCyclo.calls kj61 t299 _ _ t315 1 t316 _ ?side1 ?side2 A93.out).mono ?_); (case side1 => repeat (first | exact (Kd.R_reads' HO_305001.out).2.2 | (with_reducible refine Kd.C_alloc ?_ _) | (with_reducible refine Kd.C_drewN ?_ _) | (with_reducible refine Kd.C_drew ?_))); (case side2 => rw [show t315.length = t300.length from (Kd.R_reads' HO_305001.out).1.symm]; exact (Kd.R_reads' HO_305001.out).2.1); rintro e w112 ⟨rfl, hb⟩; refine ⟨_, rfl, ?_⟩; have n0_ := Aside0.mk (Kd.R_below qB105 hb); have n1_ := Aside0.mk (Kd.R_below qB106 hb); have n2_ := Aside0.mk (Kd.R_below qB107 hb); have n3_ := Aside0.mk (blk_below (g := gb282) (o := .cells #[.int .i64 a0_0, .slice A0_1 l0_1.length c0_1] 30 (0, 0)) qB99 hb); have n4_ := Aside0.mk (blk_below (g := gb293) (o := .cells #[.int .i64 t288, .slice Ao22 t289.length co22] 32 (0, 0)) qB100 hb); have n5_ := Aside0.mk (blk_below (g := gb298) (o := .cells #[.int .i64 t294, .slice Ao29 t312.length co29] 32 (0, 0)) qB101 hb); have n6_ := Aside0.mk (blk_below (g := gb304) (o := .cells #[.int .i64 t299, .slice Ao38 t300.length co38] 32 (0, 0)) qB102 hb); have n7_ := Aside0.mk (below_step qB28 hb); clear HO_294001; clear HO_299001; clear HO_305001; clear BK282; clear BK293; clear BK298; clear BK304; clear HB; have HO_294001 := n0_; have HO_299001 := n1_; have HO_305001 := n2_; have BK282 := n3_; have BK293 := n4_; have BK298 := n5_; have BK304 := n6_; have HB := n7_; clear n0_ n1_ n2_ n3_ n4_ n5_ n6_ n7_; (try clear hb); (try clear hb2); (try clear hk); (try clear hi); have hnb113 := NB282_293.out; have hnc113 := NB293_282.out; have hnb114 := NB282_298.out; have hnc114 := NB298_282.out; have hcz115_0 : w112.cell? ⟨gb282, 0, none⟩ = some (.int .i64 a0_0) := (blk_cell BK282.out 0).trans rfl; have hcz115_1 : w112.cell? ⟨gb282, 1, none⟩ = some (.slice A0_1 l0_1.length c0_1) := (blk_cell BK282.out 1).trans rfl; have hfz115_0 := blk_frozen BK282.out 0; have hfz115_1 := blk_frozen BK282.out 1) | ((with_reducible refine gate_callee (f := 13) rfl ?_); refine goesL_ (some 75) rfl rfl Try.func13 (by kernel_rfl) rfl #[.agg #[.int .i64 a0_0, .slice A0_1 l0_1.length c0_1]] rfl qB68 ?_; (with_reducible refine (laws_toCyclo.calls kj61 a0_0 _ _ l0_1 t317 t318 _ ?side1 ?side2 A103.out).mono ?_); (case side1 => repeat (first | exact (Kd.C_below HR0_1.out HB.out) | (with_reducible refine Kd.C_alloc ?_ _) | (with_reducible refine Kd.C_drewN ?_ _) | (with_reducible refine Kd.C_drew ?_))); (case side2 => exact HC0_1.out); rintro e w116 ⟨v319, rfl, ho0, hb⟩; refine ⟨_, rfl, ?_⟩; have n0_ := Aside0.mk (Kd.R_elder' qB105 (Kd.R_base ho0) hb); have n1_ := Aside0.mk (Kd.R_elder' qB106 (Kd.R_base ho0) hb); have n2_ := Aside0.mk (Kd.R_elder' qB107 (Kd.R_base ho0) hb); have n3_ := Aside0.mk (Kd.R_lower (Kd.R_new' (Kd.R_new' (Kd.R_new' ho0 (Kd.R_lt qB105)) (Kd.R_lt qB106)) (Kd.R_lt qB107)) (below_size qB28)); have n4_ := Aside0.mk (blk_below (g := gb282) (o := .cells #[.int .i64 a0_0, .slice A0_1 l0_1.length c0_1] 30 (0, 0)) qB99 hb); have n5_ := Aside0.mk (blk_below (g := gb293) (o := .cells #[.int .i64 t288, .slice Ao22 t289.length co22] 32 (0, 0)) qB100 hb); have n6_ := Aside0.mk (blk_below (g := gb298) (o := .cells #[.int .i64 t294, .slice Ao29 t312.length co29] 32 (0, 0)) qB101 hb); have n7_ := Aside0.mk (blk_below (g := gb304) (o := .cells #[.int .i64 t299, .slice Ao38 t300.length co38] 32 (0, 0)) qB102 hb); have n8_ := Aside0.mk (below_step qB28 hb); clear HO_294001; clear HO_299001; clear HO_305001; clear BK282; clear BK293; clear BK298; clear BK304; clear HB; have HO_294001 := n0_; have HO_299001 := n1_; have HO_305001 := n2_; have HO320 := n3_; have BK282 := n4_; have BK293 := n5_; have BK298 := n6_; have BK304 := n7_; have HB := n8_; clear n0_ n1_ n2_ n3_ n4_ n5_ n6_ n7_ n8_; (try clear hb); (try clear hb2); (try clear hk); (try clear hi); (try clear ho0); obtain ⟨Ao117, co117, eo117⟩ := Kd.R_slice HO320.out; subst eo117) | ((with_reducible refine gate_callee (f := 19) rfl ?_); refine goesL_ (some 76) rfl rfl Try.func19 (by kernel_rfl) rfl #[.agg #[.int .i64 t317, .slice Ao117 t318.length co117]] rfl qB68 ?_; (with_reducible refine (impl_ChosenAssociate.calls kj61 t317 (fun k_ => some k_ = (.slice Ao117 t318.length co117 : Value).ownBlock) _ _ t318 t321 t322 t325 _ ?side1 A104.out).mono ?_); (case side1 => exact Kd.R_V (Kd.R_tight rfl (Kd.R_types (Kd.R_types (Kd.R_types (Kd.R_types (HO320.out) BK282.out (by decide)) BK293.out (by decide)) BK298.out (by decide)) BK304.out (by decide)))); rintro e w118 ⟨v323, rfl, ho0, hb⟩; refine ⟨_, rfl, ?_⟩; have n0_ := Aside0.mk (Kd.R_elder' qB105 (Kd.R_base ho0) hb); have n1_ := Aside0.mk (Kd.R_elder' qB106 (Kd.R_base ho0) hb); have n2_ := Aside0.mk (Kd.R_elder' qB107 (Kd.R_base ho0) hb); have n3_ := Aside0.mk (Kd.R_elder' qB123 (Kd.R_base ho0) hb); have n4_ := Aside0.mk (Kd.R_lower (Kd.R_new' (Kd.R_new' (Kd.R_new' (Kd.R_new' (Kd.R_mono (ok' := fun k_ => True) ho0 (fun _ hk_ => trivial)) (Kd.R_lt qB105)) (Kd.R_lt qB106)) (Kd.R_lt qB107)) (Kd.R_lt qB123)) (below_size qB28)); have n5_ := Aside0.mk (blk_below (g := gb282) (o := .cells #[.int .i64 a0_0, .slice A0_1 l0_1.length c0_1] 30 (0, 0)) qB99 hb); have n6_ := Aside0.mk (blk_below (g := gb293) (o := .cells #[.int .i64 t288, .slice Ao22 t289.length co22] 32 (0, 0)) qB100 hb); have n7_ := Aside0.mk (blk_below (g := gb298) (o := .cells #[.int .i64 t294, .slice Ao29 t312.length co29] 32 (0, 0)) qB101 hb); have n8_ := Aside0.mk (blk_below (g := gb304) (o := .cells #[.int .i64 t299, .slice Ao38 t300.length co38] 32 (0, 0)) qB102 hb); have n9_ := Aside0.mk (below_step qB28 hb); clear HO_294001; clear HO_299001; clear HO_305001; clear HO320; clear BK282; clear BK293; clear BK298; clear BK304; clear HB; have HO_294001 := n0_; have HO_299001 := n1_; have HO_305001 := n2_; have HO320 := n3_; have HO324 := n4_; have BK282 := n5_; have BK293 := n6_; have BK298 := n7_; have BK304 := n8_; have HB := n9_; clear n0_ n1_ n2_ n3_ n4_ n5_ n6_ n7_ n8_ n9_; (try clear hb); (try clear hb2); (try clear hk); (try clear hi); (try clear ho0)) | ((with_reducible refine gate_dst (N := 12) rfl ?_); refine box_event ?hg (N := 12) ?hd (cs := #[.int .i64 0, .slice none 0 0]) (t := 32) ?hr ?_; (case hd => rfl); (case hg => rfl); (case hr => first | (go_simp; done) | (go_simp; rfl)); intro gb326 hg w119 hbox hb; have n0_ := Aside0.mk (Kd.R_below qB105 hb); have n1_ := Aside0.mk (Kd.R_below qB106 hb); have n2_ := Aside0.mk (Kd.R_below qB107 hb); have n3_ := Aside0.mk (Kd.R_below qB123 hb); have n4_ := Aside0.mk (Kd.R_below (by (with_reducible repeat (first | apply Kd.R_alloc | apply Kd.R_drewN | apply Kd.R_drew)); exact HO324.out) hb); have n5_ := Aside0.mk (blk_below (g := gb282) (o := .cells #[.int .i64 a0_0, .slice A0_1 l0_1.length c0_1] 30 (0, 0)) qB99 hb); have n6_ := Aside0.mk (blk_below (g := gb293) (o := .cells #[.int .i64 t288, .slice Ao22 t289.length co22] 32 (0, 0)) qB100 hb); have n7_ := Aside0.mk (blk_below (g := gb298) (o := .cells #[.int .i64 t294, .slice Ao29 t312.length co29] 32 (0, 0)) qB101 hb); have n8_ := Aside0.mk (blk_below (g := gb304) (o := .cells #[.int .i64 t299, .slice Ao38 t300.length co38] 32 (0, 0)) qB102 hb); have n9_ := Aside0.mk (below_step qB28 hb); have n10_ := Aside0.mk (hbox); have n11_ := Aside0.mk ((by rw [hg]; exact (below_size qB28) : w.heap.size ≤ gb326)); have n12_ := Aside0.mk ((by rw [hg]; exact (below_size qB28) : w.heap.size ≤ gb326)); have n13_ := Aside0.mk ((by rw [hg]; exact Nat.ne_of_lt (blk_lt (g := gb282) (o := .cells #[.int .i64 a0_0, .slice A0_1 l0_1.length c0_1] 30 (0, 0)) qB99) : gb282 ≠ gb326)); have n14_ := Aside0.mk ((by rw [hg]; exact Nat.ne_of_gt (blk_lt (g := gb282) (o := .cells #[.int .i64 a0_0, .slice A0_1 l0_1.length c0_1] 30 (0, 0)) qB99) : gb326 ≠ gb282)); have n15_ := Aside0.mk ((by rw [hg]; exact Nat.ne_of_lt (blk_lt (g := gb293) (o := .cells #[.int .i64 t288, .slice Ao22 t289.length co22] 32 (0, 0)) qB100) : gb293 ≠ gb326)); have n16_ := Aside0.mk ((by rw [hg]; exact Nat.ne_of_gt (blk_lt (g := gb293) (o := .cells #[.int .i64 t288, .slice Ao22 t289.length co22] 32 (0, 0)) qB100) : gb326 ≠ gb293)); have n17_ := Aside0.mk ((by rw [hg]; exact Nat.ne_of_lt (blk_lt (g := gb298) (o := .cells #[.int .i64 t294, .slice Ao29 t312.length co29] 32 (0, 0)) qB101) : gb298 ≠ gb326)); have n18_ := Aside0.mk ((by rw [hg]; exact Nat.ne_of_gt (blk_lt (g := gb298) (o := .cells #[.int .i64 t294, .slice Ao29 t312.length co29] 32 (0, 0)) qB101) : gb326 ≠ gb298)); have n19_ := Aside0.mk ((by rw [hg]; exact Nat.ne_of_lt (blk_lt (g := gb304) (o := .cells #[.int .i64 t299, .slice Ao38 t300.length co38] 32 (0, 0)) qB102) : gb304 ≠ gb326)); have n20_ := Aside0.mk ((by rw [hg]; exact Nat.ne_of_gt (blk_lt (g := gb304) (o := .cells #[.int .i64 t299, .slice Ao38 t300.length co38] 32 (0, 0)) qB102) : gb326 ≠ gb304)); clear HO_294001; clear HO_299001; clear HO_305001; clear HO320; clear HO324; clear BK282; clear BK293; clear BK298; clear BK304; clear HB; have HO_294001 := n0_; have HO_299001 := n1_; have HO_305001 := n2_; have HO320 := n3_; have HO324 := n4_; have BK282 := n5_; have BK293 := n6_; have BK298 := n7_; have BK304 := n8_; have HB := n9_; have BK326 := n10_; have GW326 := n11_; have GE326 := n12_; have NB282_326 := n13_; have NB326_282 := n14_; have NB293_326 := n15_; have NB326_293 := n16_; have NB298_326 := n17_; have NB326_298 := n18_; have NB304_326 := n19_; have NB326_304 := n20_; clear n0_ n1_ n2_ n3_ n4_ n5_ n6_ n7_ n8_ n9_ n10_ n11_ n12_ n13_ n14_ n15_ n16_ n17_ n18_ n19_ n20_; clear hb hbox hg; have hnb120 := NB326_282.out; have hnc120 := NB282_326.out; have hnb121 := NB326_293.out; have hnc121 := NB293_326.out; have hnb122 := NB326_298.out; have hnc122 := NB298_326.out; have hnb123 := NB326_304.out; have hnc123 := NB304_326.out; have hcz124_0 : w119.cell? ⟨gb326, 0, none⟩ = some (.int .i64 0) := (blk_cell BK326.out 0).trans rfl; have hcz124_1 : w119.cell? ⟨gb326, 1, none⟩ = some (.slice none 0 0) := (blk_cell BK326.out 1).trans rfl; have hfz124_0 := blk_frozen BK326.out 0; have hfz124_1 := blk_frozen BK326.out 1; obtain ⟨Ao125, co125, eo125⟩ := Kd.R_slice HO324.out; subst eo125))
                      (try simp only [Act.put, List.setIfInBounds_toArray, List.set_cons_zero, List.set_cons_succ])
                      go_cut [87] (fun v87 wc => ∃ (kq : Nat) (x87_104 : Bool), v87 = .bool x87_104 ∧ Aside0 (laws_FnExactChosenAssociate.j2 kq t314 x87_104 t299 t315 = some r) ∧ Aside0 (kq ≤ kj61) ∧ Aside0 (Kd.R (Kd.int .i64) 2 wc w.heap.size (fun k_ => some k_ ≠ ((.slice Ao29 t312.length co29) : Value).ownBlock ∧ some k_ ≠ ((.slice Ao38 t300.length co38) : Value).ownBlock ∧ some k_ ≠ ((.slice Ao125 t322.length co125) : Value).ownBlock) (.slice Ao22 t289.length co22) t289) ∧ Aside0 (Kd.R (Kd.int .i64) 2 wc w.heap.size (fun k_ => some k_ ≠ ((.slice Ao22 t289.length co22) : Value).ownBlock ∧ some k_ ≠ ((.slice Ao38 t300.length co38) : Value).ownBlock ∧ some k_ ≠ ((.slice Ao125 t322.length co125) : Value).ownBlock) (.slice Ao29 t312.length co29) t312) ∧ Aside0 (Kd.R (Kd.int .i64) 2 wc w.heap.size (fun k_ => some k_ ≠ ((.slice Ao22 t289.length co22) : Value).ownBlock ∧ some k_ ≠ ((.slice Ao29 t312.length co29) : Value).ownBlock ∧ some k_ ≠ ((.slice Ao125 t322.length co125) : Value).ownBlock) (.slice Ao38 t300.length co38) t315) ∧ Aside0 (Kd.R (Kd.int .i64) 2 wc w.heap.size (fun k_ => some k_ ≠ ((.slice Ao22 t289.length co22) : Value).ownBlock ∧ some k_ ≠ ((.slice Ao29 t312.length co29) : Value).ownBlock ∧ some k_ ≠ ((.slice Ao38 t300.length co38) : Value).ownBlock) (.slice Ao125 t322.length co125) t322) ∧ Aside0 (wc.heap[gb282]? = some (.cells #[.int .i64 a0_0, (.slice A0_1 l0_1.length c0_1)] 30 (0, 0))) ∧ Aside0 (wc.heap[gb293]? = some (.cells #[.int .i64 t288, (.slice Ao22 t289.length co22)] 32 (0, 0))) ∧ Aside0 (wc.heap[gb298]? = some (.cells #[.int .i64 t294, (.slice Ao29 t312.length co29)] 32 (0, 0))) ∧ Aside0 (wc.heap[gb304]? = some (.cells #[.int .i64 t299, (.slice Ao38 t300.length co38)] 32 (0, 0))) ∧ Aside0 (wc.heap[gb326]? = some (.cells #[.int .i64 t321, (.slice Ao125 t322.length co125)] 32 (0, 0))) ∧ Aside0 (Below w.heap.size w wc))
                      case first =>
                        have H := HC105.out
                        clear HC105
                        replace H := Option.bind_eq_some_iff.mp H
                        obtain ⟨t327, A1260, H⟩ := H
                        replace H : (if t327 = true then (laws_FnExactChosenAssociate.j2 kj61 t314 (t325 != t292) t299 t315) else (laws_FnExactChosenAssociate.j2 kj61 t314 true t299 t315)) = some r := H
                        have A126 := Aside0.mk A1260
                        clear A1260
                        by_cases c127 : t327 = true
                        · subst c127
                          have H1 : (laws_FnExactChosenAssociate.j2 kj61 t314 (t325 != t292) t299 t315) = some r := by rw [if_pos rfl] at H; exact H
                          clear H
                          have H := H1
                          clear H1
                          have H' := Aside0.mk H
                          clear H
                          have hnb128 := NB326_282.out
                          have hnc128 := NB282_326.out
                          have hnb129 := NB326_293.out
                          have hnc129 := NB293_326.out
                          have hnb130 := NB326_298.out
                          have hnc130 := NB298_326.out
                          have hnb131 := NB326_304.out
                          have hnc131 := NB304_326.out
                          have hcz132_0 : w119.cell? ⟨gb326, 0, none⟩ = some (.int .i64 0) := (blk_cell BK326.out 0).trans rfl
                          have hcz132_1 : w119.cell? ⟨gb326, 1, none⟩ = some (.slice none 0 0) := (blk_cell BK326.out 1).trans rfl
                          have hfz132_0 := blk_frozen BK326.out 0
                          have hfz132_1 := blk_frozen BK326.out 1
                          have hnb133 := NB293_282.out
                          have hnc133 := NB282_293.out
                          have hnb134 := NB293_298.out
                          have hnc134 := NB298_293.out
                          have hnb135 := NB293_304.out
                          have hnc135 := NB304_293.out
                          have hcz136_0 : w119.cell? ⟨gb293, 0, none⟩ = some (.int .i64 t288) := (blk_cell BK293.out 0).trans rfl
                          have hcz136_1 : w119.cell? ⟨gb293, 1, none⟩ = some (.slice Ao22 t289.length co22) := (blk_cell BK293.out 1).trans rfl
                          have hfz136_0 := blk_frozen BK293.out 0
                          have hfz136_1 := blk_frozen BK293.out 1
                          go_wp2_with (first | ((with_reducible refine gate_callee (f := 15) rfl ?_); refine goesL_ (some 81) rfl rfl Try.func15 (by kernel_rfl) rfl #[.agg #[.int .i64 t321, .slice Ao125 t322.length co125], .agg #[.int .i64 t288, .slice Ao22 t289.length co22]] rfl qB68 ?_; (with_reducible refine (laws_eqCyclo.calls kj61 t321 _ _ t322 t288 _ _ t289 true _ ?side1 ?side2 ?side3 ?side4 A126.out).mono ?_); (case side1 => refine (Kd.R_reads' (e := 2) (base := w.heap.size) (ok := fun k_ => ((((True ∧ some k_ ≠ (.slice Ao22 t289.length co22 : Value).ownBlock) ∧ some k_ ≠ (.slice Ao29 t312.length co29 : Value).ownBlock) ∧ some k_ ≠ (.slice Ao38 t300.length co38 : Value).ownBlock) ∧ some k_ ≠ (.slice Ao117 t318.length co117 : Value).ownBlock)) (n := t322.length) (c := co125) ?_).2.2; exact qB19); (case side2 => exact (Kd.R_reads' HO324.out).2.1); (case side3 => refine (Kd.R_reads' (e := 2) (base := w.heap.size) (ok := fun k_ => (((some k_ ≠ (.slice Ao29 t312.length co29 : Value).ownBlock ∧ some k_ ≠ (.slice Ao38 t300.length co38 : Value).ownBlock) ∧ some k_ ≠ (.slice Ao117 t318.length co117 : Value).ownBlock) ∧ some k_ ≠ (.slice Ao125 t322.length co125 : Value).ownBlock)) (n := t289.length) (c := co22) ?_).2.2; exact qB16); (case side4 => exact (Kd.R_reads' HO_294001.out).2.1); rintro e w137 ⟨rfl, hb⟩; refine ⟨_, rfl, ?_⟩; have n0_ := Aside0.mk (Kd.R_below qB16 hb); have n1_ := Aside0.mk (Kd.R_below qB17 hb); have n2_ := Aside0.mk (Kd.R_below qB18 hb); have n3_ := Aside0.mk (Kd.R_below qB20 hb); have n4_ := Aside0.mk (Kd.R_below qB19 hb); have n5_ := Aside0.mk (blk_below (g := gb282) (o := .cells #[.int .i64 a0_0, .slice A0_1 l0_1.length c0_1] 30 (0, 0)) qB11 hb); have n6_ := Aside0.mk (blk_below (g := gb293) (o := .cells #[.int .i64 t288, .slice Ao22 t289.length co22] 32 (0, 0)) qB12 hb); have n7_ := Aside0.mk (blk_below (g := gb298) (o := .cells #[.int .i64 t294, .slice Ao29 t312.length co29] 32 (0, 0)) qB13 hb); have n8_ := Aside0.mk (blk_below (g := gb304) (o := .cells #[.int .i64 t299, .slice Ao38 t300.length co38] 32 (0, 0)) qB14 hb); have n9_ := Aside0.mk (blk_below (g := gb326) (o := .cells #[.int .i64 t321, .slice Ao125 t322.length co125] 32 (0, 0)) qB4 hb); have n10_ := Aside0.mk (below_step qB27 hb); clear HO_294001; clear HO_299001; clear HO_305001; clear HO320; clear HO324; clear BK282; clear BK293; clear BK298; clear BK304; clear BK326; clear HB; have HO_294001 := n0_; have HO_299001 := n1_; have HO_305001 := n2_; have HO320 := n3_; have HO324 := n4_; have BK282 := n5_; have BK293 := n6_; have BK298 := n7_; have BK304 := n8_; have BK326 := n9_; have HB := n10_; clear n0_ n1_ n2_ n3_ n4_ n5_ n6_ n7_ n8_ n9_ n10_; (try clear hb); (try clear hb2); (try clear hk); (try clear hi)))
                          go_meet
                          case rel => exact ⟨_, ((t325 != t292)), qB128, H', ⟨by have := HJ10.out; have := HJ61.out; first | omega | exact Nat.le_refl _⟩, ⟨by (try simp only [hl299001_61]); (with_reducible repeat (first | apply Kd.R_alloc | apply Kd.R_drewN | apply Kd.R_drew)); exact Kd.R_mono HO_294001.out (fun _ hk => ⟨hk.1.1.1, ⟨hk.1.1.2, hk.2⟩⟩)⟩, ⟨by (try simp only [hl299001_61]); (with_reducible repeat (first | apply Kd.R_alloc | apply Kd.R_drewN | apply Kd.R_drew)); exact Kd.R_mono HO_299001.out (fun _ hk => ⟨hk.1.1.1, ⟨hk.1.1.2, hk.2⟩⟩)⟩, ⟨by (try simp only [hl299001_61]); (with_reducible repeat (first | apply Kd.R_alloc | apply Kd.R_drewN | apply Kd.R_drew)); exact Kd.R_mono HO_305001.out (fun _ hk => ⟨hk.1.1.1, ⟨hk.1.1.2, hk.2⟩⟩)⟩, ⟨by (try simp only [hl299001_61]); (with_reducible repeat (first | apply Kd.R_alloc | apply Kd.R_drewN | apply Kd.R_drew)); exact Kd.R_mono HO324.out (fun _ hk => ⟨hk.1.1.1.2, ⟨hk.1.1.2, hk.1.2⟩⟩)⟩, ⟨by (try simp only [hl299001_61]); (with_reducible repeat (first | refine blk_drewN ?_ _ | refine blk_drew ?_ | refine blk_alloc ?_ _)); exact BK282.out⟩, ⟨by (try simp only [hl299001_61]); (with_reducible repeat (first | refine blk_drewN ?_ _ | refine blk_drew ?_ | refine blk_alloc ?_ _)); exact BK293.out⟩, ⟨by (try simp only [hl299001_61]); (with_reducible repeat (first | refine blk_drewN ?_ _ | refine blk_drew ?_ | refine blk_alloc ?_ _)); exact BK298.out⟩, ⟨by (try simp only [hl299001_61]); (with_reducible repeat (first | refine blk_drewN ?_ _ | refine blk_drew ?_ | refine blk_alloc ?_ _)); exact BK304.out⟩, ⟨by (try simp only [hl299001_61]); (with_reducible repeat (first | refine blk_drewN ?_ _ | refine blk_drew ?_ | refine blk_alloc ?_ _)); exact BK326.out⟩, ⟨by repeat (first | (with_reducible first | exact HB.out | apply below_alloc | apply pw_below_drewN | apply below_drew1 | refine below_set ?_ GE282.out | refine below_set ?_ GE293.out | refine below_set ?_ GE298.out | refine below_set ?_ GE304.out | refine below_set ?_ GE326.out) | exact HB.out)⟩⟩
                        · replace c127 := Bool.eq_false_iff.mpr c127
                          subst c127
                          have H1 : (laws_FnExactChosenAssociate.j2 kj61 t314 true t299 t315) = some r := by rw [if_neg (show ¬ (false = true) by decide)] at H; exact H
                          clear H
                          have H := H1
                          clear H1
                          have H' := Aside0.mk H
                          clear H
                          have hnb138 := NB326_282.out
                          have hnc138 := NB282_326.out
                          have hnb139 := NB326_293.out
                          have hnc139 := NB293_326.out
                          have hnb140 := NB326_298.out
                          have hnc140 := NB298_326.out
                          have hnb141 := NB326_304.out
                          have hnc141 := NB304_326.out
                          have hcz142_0 : w119.cell? ⟨gb326, 0, none⟩ = some (.int .i64 0) := (blk_cell BK326.out 0).trans rfl
                          have hcz142_1 : w119.cell? ⟨gb326, 1, none⟩ = some (.slice none 0 0) := (blk_cell BK326.out 1).trans rfl
                          have hfz142_0 := blk_frozen BK326.out 0
                          have hfz142_1 := blk_frozen BK326.out 1
                          have hnb143 := NB293_282.out
                          have hnc143 := NB282_293.out
                          have hnb144 := NB293_298.out
                          have hnc144 := NB298_293.out
                          have hnb145 := NB293_304.out
                          have hnc145 := NB304_293.out
                          have hcz146_0 : w119.cell? ⟨gb293, 0, none⟩ = some (.int .i64 t288) := (blk_cell BK293.out 0).trans rfl
                          have hcz146_1 : w119.cell? ⟨gb293, 1, none⟩ = some (.slice Ao22 t289.length co22) := (blk_cell BK293.out 1).trans rfl
                          have hfz146_0 := blk_frozen BK293.out 0
                          have hfz146_1 := blk_frozen BK293.out 1
                          go_wp2_with (first | ((with_reducible refine gate_callee (f := 15) rfl ?_); refine goesL_ (some 81) rfl rfl Try.func15 (by kernel_rfl) rfl #[.agg #[.int .i64 t321, .slice Ao125 t322.length co125], .agg #[.int .i64 t288, .slice Ao22 t289.length co22]] rfl qB68 ?_; (with_reducible refine (laws_eqCyclo.calls kj61 t321 _ _ t322 t288 _ _ t289 false _ ?side1 ?side2 ?side3 ?side4 A126.out).mono ?_); (case side1 => refine (Kd.R_reads' (e := 2) (base := w.heap.size) (ok := fun k_ => ((((True ∧ some k_ ≠ (.slice Ao22 t289.length co22 : Value).ownBlock) ∧ some k_ ≠ (.slice Ao29 t312.length co29 : Value).ownBlock) ∧ some k_ ≠ (.slice Ao38 t300.length co38 : Value).ownBlock) ∧ some k_ ≠ (.slice Ao117 t318.length co117 : Value).ownBlock)) (n := t322.length) (c := co125) ?_).2.2; exact qB19); (case side2 => exact (Kd.R_reads' HO324.out).2.1); (case side3 => refine (Kd.R_reads' (e := 2) (base := w.heap.size) (ok := fun k_ => (((some k_ ≠ (.slice Ao29 t312.length co29 : Value).ownBlock ∧ some k_ ≠ (.slice Ao38 t300.length co38 : Value).ownBlock) ∧ some k_ ≠ (.slice Ao117 t318.length co117 : Value).ownBlock) ∧ some k_ ≠ (.slice Ao125 t322.length co125 : Value).ownBlock)) (n := t289.length) (c := co22) ?_).2.2; exact qB16); (case side4 => exact (Kd.R_reads' HO_294001.out).2.1); rintro e w147 ⟨rfl, hb⟩; refine ⟨_, rfl, ?_⟩; have n0_ := Aside0.mk (Kd.R_below qB16 hb); have n1_ := Aside0.mk (Kd.R_below qB17 hb); have n2_ := Aside0.mk (Kd.R_below qB18 hb); have n3_ := Aside0.mk (Kd.R_below qB20 hb); have n4_ := Aside0.mk (Kd.R_below qB19 hb); have n5_ := Aside0.mk (blk_below (g := gb282) (o := .cells #[.int .i64 a0_0, .slice A0_1 l0_1.length c0_1] 30 (0, 0)) qB11 hb); have n6_ := Aside0.mk (blk_below (g := gb293) (o := .cells #[.int .i64 t288, .slice Ao22 t289.length co22] 32 (0, 0)) qB12 hb); have n7_ := Aside0.mk (blk_below (g := gb298) (o := .cells #[.int .i64 t294, .slice Ao29 t312.length co29] 32 (0, 0)) qB13 hb); have n8_ := Aside0.mk (blk_below (g := gb304) (o := .cells #[.int .i64 t299, .slice Ao38 t300.length co38] 32 (0, 0)) qB14 hb); have n9_ := Aside0.mk (blk_below (g := gb326) (o := .cells #[.int .i64 t321, .slice Ao125 t322.length co125] 32 (0, 0)) qB4 hb); have n10_ := Aside0.mk (below_step qB27 hb); clear HO_294001; clear HO_299001; clear HO_305001; clear HO320; clear HO324; clear BK282; clear BK293; clear BK298; clear BK304; clear BK326; clear HB; have HO_294001 := n0_; have HO_299001 := n1_; have HO_305001 := n2_; have HO320 := n3_; have HO324 := n4_; have BK282 := n5_; have BK293 := n6_; have BK298 := n7_; have BK304 := n8_; have BK326 := n9_; have HB := n10_; clear n0_ n1_ n2_ n3_ n4_ n5_ n6_ n7_ n8_ n9_ n10_; (try clear hb); (try clear hb2); (try clear hk); (try clear hi)))
                          go_meet
                          case rel => exact ⟨_, (true), qB128, H', ⟨by have := HJ10.out; have := HJ61.out; first | omega | exact Nat.le_refl _⟩, ⟨by (try simp only [hl299001_61]); (with_reducible repeat (first | apply Kd.R_alloc | apply Kd.R_drewN | apply Kd.R_drew)); exact Kd.R_mono HO_294001.out (fun _ hk => ⟨hk.1.1.1, ⟨hk.1.1.2, hk.2⟩⟩)⟩, ⟨by (try simp only [hl299001_61]); (with_reducible repeat (first | apply Kd.R_alloc | apply Kd.R_drewN | apply Kd.R_drew)); exact Kd.R_mono HO_299001.out (fun _ hk => ⟨hk.1.1.1, ⟨hk.1.1.2, hk.2⟩⟩)⟩, ⟨by (try simp only [hl299001_61]); (with_reducible repeat (first | apply Kd.R_alloc | apply Kd.R_drewN | apply Kd.R_drew)); exact Kd.R_mono HO_305001.out (fun _ hk => ⟨hk.1.1.1, ⟨hk.1.1.2, hk.2⟩⟩)⟩, ⟨by (try simp only [hl299001_61]); (with_reducible repeat (first | apply Kd.R_alloc | apply Kd.R_drewN | apply Kd.R_drew)); exact Kd.R_mono HO324.out (fun _ hk => ⟨hk.1.1.1.2, ⟨hk.1.1.2, hk.1.2⟩⟩)⟩, ⟨by (try simp only [hl299001_61]); (with_reducible repeat (first | refine blk_drewN ?_ _ | refine blk_drew ?_ | refine blk_alloc ?_ _)); exact BK282.out⟩, ⟨by (try simp only [hl299001_61]); (with_reducible repeat (first | refine blk_drewN ?_ _ | refine blk_drew ?_ | refine blk_alloc ?_ _)); exact BK293.out⟩, ⟨by (try simp only [hl299001_61]); (with_reducible repeat (first | refine blk_drewN ?_ _ | refine blk_drew ?_ | refine blk_alloc ?_ _)); exact BK298.out⟩, ⟨by (try simp only [hl299001_61]); (with_reducible repeat (first | refine blk_drewN ?_ _ | refine blk_drew ?_ | refine blk_alloc ?_ _)); exact BK304.out⟩, ⟨by (try simp only [hl299001_61]); (with_reducible repeat (first | refine blk_drewN ?_ _ | refine blk_drew ?_ | refine blk_alloc ?_ _)); exact BK326.out⟩, ⟨by repeat (first | (with_reducible first | exact HB.out | apply below_alloc | apply pw_below_drewN | apply below_drew1 | refine below_set ?_ GE282.out | refine below_set ?_ GE293.out | refine below_set ?_ GE298.out | refine below_set ?_ GE304.out | refine below_set ?_ GE326.out) | exact HB.out)⟩⟩
                      case rest =>
                        clear HC105
                        try clear c1
                        try clear c2
                        try clear p2
                        try clear c3
                        try clear c3b0
                        try clear c4
                        try clear c5
                        try clear c6
                        try clear c7
                        try clear c8
                        try clear c9
                        try clear c10
                        try clear c11
                        try clear c12
                        try clear c13
                        try clear c14
                        try clear c15
                        try clear c16
                        try clear c17
                        try clear c18
                        try clear c19
                        try clear c20
                        try clear c26
                        try clear c27
                        try clear c34
                        try clear c35
                        try clear c36
                        try clear c40
                        try clear c41
                        try clear c42
                        try clear c43
                        try clear c45
                        try clear c46
                        try clear c49
                        try clear c50
                        try clear c51
                        try clear c53
                        try clear c54
                        try clear c57
                        try clear c60
                        try clear c67
                        try clear c68
                        try clear c69
                        try clear c72
                        try clear c72b0
                        try clear c74
                        try clear c75
                        try clear c76
                        try clear c77
                        try clear c79
                        try clear c80
                        try clear c83
                        try clear c84
                        try clear c85
                        try clear c87
                        try clear c88
                        try clear c91
                        try clear c94
                        try clear c94b0
                        try clear c95
                        try clear c96
                        try clear c97
                        try clear c102
                        try clear c102b0
                        try clear c102b1
                        try clear c106
                        try clear c107
                        try clear c108
                        try clear c113
                        try clear c114
                        try clear c120
                        try clear c121
                        try clear c122
                        try clear c123
                        try clear c127
                        try clear c128
                        try clear c129
                        try clear c130
                        try clear c131
                        try clear c133
                        try clear c134
                        try clear c135
                        try clear c138
                        try clear c139
                        try clear c140
                        try clear c141
                        try clear c143
                        try clear c144
                        try clear c145
                        try clear hcz100_0
                        try clear hcz100_1
                        try clear hcz109_0
                        try clear hcz109_1
                        try clear hcz111_0
                        try clear hcz111_1
                        try clear hcz115_0
                        try clear hcz115_1
                        try clear hcz124_0
                        try clear hcz124_1
                        try clear hcz132_0
                        try clear hcz132_1
                        try clear hcz136_0
                        try clear hcz136_1
                        try clear hcz13_0
                        try clear hcz13_1
                        try clear hcz142_0
                        try clear hcz142_1
                        try clear hcz146_0
                        try clear hcz146_1
                        try clear hcz15_0
                        try clear hcz15_1
                        try clear hcz21_0
                        try clear hcz21_1
                        try clear hcz23_0
                        try clear hcz23_1
                        try clear hcz28_0
                        try clear hcz28_1
                        try clear hcz31_0
                        try clear hcz31_1
                        try clear hcz37_0
                        try clear hcz37_1
                        try clear hcz44_0
                        try clear hcz44_1
                        try clear hcz47_0
                        try clear hcz47_1
                        try clear hcz52_0
                        try clear hcz52_1
                        try clear hcz55_0
                        try clear hcz55_1
                        try clear hcz5_0
                        try clear hcz5_1
                        try clear hcz70_0
                        try clear hcz70_1
                        try clear hcz78_0
                        try clear hcz78_1
                        try clear hcz81_0
                        try clear hcz81_1
                        try clear hcz86_0
                        try clear hcz86_1
                        try clear hcz89_0
                        try clear hcz89_1
                        try clear hcz98_0
                        try clear hcz98_1
                        try clear hfz100_0
                        try clear hfz100_1
                        try clear hfz109_0
                        try clear hfz109_1
                        try clear hfz111_0
                        try clear hfz111_1
                        try clear hfz115_0
                        try clear hfz115_1
                        try clear hfz124_0
                        try clear hfz124_1
                        try clear hfz132_0
                        try clear hfz132_1
                        try clear hfz136_0
                        try clear hfz136_1
                        try clear hfz13_0
                        try clear hfz13_1
                        try clear hfz142_0
                        try clear hfz142_1
                        try clear hfz146_0
                        try clear hfz146_1
                        try clear hfz15_0
                        try clear hfz15_1
                        try clear hfz21_0
                        try clear hfz21_1
                        try clear hfz23_0
                        try clear hfz23_1
                        try clear hfz28_0
                        try clear hfz28_1
                        try clear hfz31_0
                        try clear hfz31_1
                        try clear hfz37_0
                        try clear hfz37_1
                        try clear hfz44_0
                        try clear hfz44_1
                        try clear hfz47_0
                        try clear hfz47_1
                        try clear hfz52_0
                        try clear hfz52_1
                        try clear hfz55_0
                        try clear hfz55_1
                        try clear hfz5_0
                        try clear hfz5_1
                        try clear hfz70_0
                        try clear hfz70_1
                        try clear hfz78_0
                        try clear hfz78_1
                        try clear hfz81_0
                        try clear hfz81_1
                        try clear hfz86_0
                        try clear hfz86_1
                        try clear hfz89_0
                        try clear hfz89_1
                        try clear hfz98_0
                        try clear hfz98_1
                        try clear p2
                        obtain ⟨kq, x87_104, rfl, HA, HJ104, HO_294001, HO_299001, HO_305001, HO_327001, BK282, BK293, BK298, BK304, BK326, HB⟩ := hcut
                        have hl305001_104 := (Kd.R_reads' HO_305001.out).1
                        rw [hl305001_104] at HO_305001
                        (try simp only [hl305001_104])
                        (try simp only [hl305001_104] at BK282)
                        (try simp only [hl305001_104] at BK293)
                        (try simp only [hl305001_104] at BK298)
                        (try simp only [hl305001_104] at BK304)
                        (try simp only [hl305001_104] at BK326)
                        (try simp only [hl305001_104] at HO_294001)
                        (try simp only [hl305001_104] at HO_299001)
                        (try simp only [hl305001_104] at HO_327001)
                        cases kq with
                        | zero => exact absurd HA.out (by simp [laws_FnExactChosenAssociate.j2])
                        | succ kj104 =>
                          have H := HA.out
                          clear HA
                          simp only [laws_FnExactChosenAssociate.j2] at H
                          by_cases c148 : x87_104 = true
                          · subst c148
                            have H1 : (some false) = some r := by rw [if_pos rfl] at H; exact H
                            clear H
                            have H := H1
                            clear H1
                            obtain rfl := Option.some.inj H
                            go_wp2
                            go_ret
                            exact ⟨by first | rfl | (simp [errW_none, errW_some] <;> rfl) | (simp [*, errW_none, errW_some] <;> rfl), by repeat (first | (with_reducible first | exact HB.out | apply below_alloc | apply pw_below_drewN | apply below_drew1 | refine below_set ?_ GE282.out | refine below_set ?_ GE293.out | refine below_set ?_ GE298.out | refine below_set ?_ GE304.out | refine below_set ?_ GE326.out) | exact HB.out)⟩
                          · replace c148 := Bool.eq_false_iff.mpr c148
                            subst c148
                            have H1 : ((laws_heldCyclo.f kj104 t299 t315 1).bind fun t328 => (if t328 < 0 then (some false) else (if t328 = t314 then (some true) else (some false)))) = some r := by rw [if_neg (show ¬ (false = true) by decide)] at H; exact H
                            clear H
                            have H := H1
                            clear H1
                            replace H := Option.bind_eq_some_iff.mp H
                            obtain ⟨t328, A1490, H⟩ := H
                            replace H : (if t328 < 0 then (some false) else (if t328 = t314 then (some true) else (some false))) = some r := H
                            have A149 := Aside0.mk A1490
                            clear A1490
                            by_cases c150 : t328 < 0
                            · rw [if_pos c150] at H
                              have c150b0 : decide (t328 < 0) = true := decide_eq_true c150
                              clear c150
                              obtain rfl := Option.some.inj H
                              have hnb151 := NB304_282.out
                              have hnc151 := NB282_304.out
                              have hnb152 := NB304_293.out
                              have hnc152 := NB293_304.out
                              have hnb153 := NB304_298.out
                              have hnc153 := NB298_304.out
                              have hnb154 := NB304_326.out
                              have hnc154 := NB326_304.out
                              have hcz155_0 : wc.cell? ⟨gb304, 0, none⟩ = some (.int .i64 t299) := (blk_cell BK304.out 0).trans rfl
                              have hcz155_1 : wc.cell? ⟨gb304, 1, none⟩ = some (.slice Ao38 t315.length co38) := (blk_cell BK304.out 1).trans rfl
                              have hfz155_0 := blk_frozen BK304.out 0
                              have hfz155_1 := blk_frozen BK304.out 1
                              go_wp2_with (first | ((with_reducible refine gate_callee (f := 17) rfl ?_); refine goesL_ (some 90) rfl rfl Try.func17 (by kernel_rfl) rfl #[.agg #[.int .i64 t299, .slice Ao38 t315.length co38], .int .i64 1] rfl qB68 ?_; (with_reducible refine (laws_heldCyclo.calls kj104 t299 _ _ t315 1 t328 _ ?side1 ?side2 A149.out).mono ?_); (case side1 => repeat (first | exact (Kd.R_reads' HO_305001.out).2.2 | (with_reducible refine Kd.C_alloc ?_ _) | (with_reducible refine Kd.C_drewN ?_ _) | (with_reducible refine Kd.C_drew ?_))); (case side2 => exact (Kd.R_reads' HO_305001.out).2.1); rintro e w156 ⟨rfl, hb⟩; refine ⟨_, rfl, ?_⟩; have n0_ := Aside0.mk (Kd.R_below qB105 hb); have n1_ := Aside0.mk (Kd.R_below qB106 hb); have n2_ := Aside0.mk (Kd.R_below qB107 hb); have n3_ := Aside0.mk (Kd.R_below qB108 hb); have n4_ := Aside0.mk (blk_below (g := gb282) (o := .cells #[.int .i64 a0_0, .slice A0_1 l0_1.length c0_1] 30 (0, 0)) qB99 hb); have n5_ := Aside0.mk (blk_below (g := gb293) (o := .cells #[.int .i64 t288, .slice Ao22 t289.length co22] 32 (0, 0)) qB100 hb); have n6_ := Aside0.mk (blk_below (g := gb298) (o := .cells #[.int .i64 t294, .slice Ao29 t312.length co29] 32 (0, 0)) qB101 hb); have n7_ := Aside0.mk (blk_below (g := gb304) (o := .cells #[.int .i64 t299, .slice Ao38 t315.length co38] 32 (0, 0)) qB102 hb); have n8_ := Aside0.mk (blk_below (g := gb326) (o := .cells #[.int .i64 t321, .slice Ao125 t322.length co125] 32 (0, 0)) qB103 hb); have n9_ := Aside0.mk (below_step qB27 hb); clear HO_294001; clear HO_299001; clear HO_305001; clear HO_327001; clear BK282; clear BK293; clear BK298; clear BK304; clear BK326; clear HB; have HO_294001 := n0_; have HO_299001 := n1_; have HO_305001 := n2_; have HO_327001 := n3_; have BK282 := n4_; have BK293 := n5_; have BK298 := n6_; have BK304 := n7_; have BK326 := n8_; have HB := n9_; clear n0_ n1_ n2_ n3_ n4_ n5_ n6_ n7_ n8_ n9_; (try clear hb); (try clear hb2); (try clear hk); (try clear hi)))
                              go_ret
                              exact ⟨by first | rfl | (simp [errW_none, errW_some] <;> rfl) | (simp [*, errW_none, errW_some] <;> rfl), by repeat (first | (with_reducible first | exact HB.out | apply below_alloc | apply pw_below_drewN | apply below_drew1 | refine below_set ?_ GE282.out | refine below_set ?_ GE293.out | refine below_set ?_ GE298.out | refine below_set ?_ GE304.out | refine below_set ?_ GE326.out) | exact HB.out)⟩
                            · rw [if_neg c150] at H
                              have c150b0 : decide (t328 < 0) = false := decide_eq_false c150
                              clear c150
                              by_cases c157 : t328 = t314
                              · rw [if_pos c157] at H
                                have c157b0 : (t328 == t314) = true := beq_iff_eq.mpr c157
                                have c157b1 : (t328 != t314) = false := bne_eq_false_iff_eq.mpr c157
                                clear c157
                                obtain rfl := Option.some.inj H
                                have hnb158 := NB304_282.out
                                have hnc158 := NB282_304.out
                                have hnb159 := NB304_293.out
                                have hnc159 := NB293_304.out
                                have hnb160 := NB304_298.out
                                have hnc160 := NB298_304.out
                                have hnb161 := NB304_326.out
                                have hnc161 := NB326_304.out
                                have hcz162_0 : wc.cell? ⟨gb304, 0, none⟩ = some (.int .i64 t299) := (blk_cell BK304.out 0).trans rfl
                                have hcz162_1 : wc.cell? ⟨gb304, 1, none⟩ = some (.slice Ao38 t315.length co38) := (blk_cell BK304.out 1).trans rfl
                                have hfz162_0 := blk_frozen BK304.out 0
                                have hfz162_1 := blk_frozen BK304.out 1
                                go_wp2_with (first | ((with_reducible refine gate_callee (f := 17) rfl ?_); refine goesL_ (some 90) rfl rfl Try.func17 (by kernel_rfl) rfl #[.agg #[.int .i64 t299, .slice Ao38 t315.length co38], .int .i64 1] rfl qB68 ?_; (with_reducible refine (laws_heldCyclo.calls kj104 t299 _ _ t315 1 t328 _ ?side1 ?side2 A149.out).mono ?_); (case side1 => repeat (first | exact (Kd.R_reads' HO_305001.out).2.2 | (with_reducible refine Kd.C_alloc ?_ _) | (with_reducible refine Kd.C_drewN ?_ _) | (with_reducible refine Kd.C_drew ?_))); (case side2 => exact (Kd.R_reads' HO_305001.out).2.1); rintro e w163 ⟨rfl, hb⟩; refine ⟨_, rfl, ?_⟩; have n0_ := Aside0.mk (Kd.R_below qB105 hb); have n1_ := Aside0.mk (Kd.R_below qB106 hb); have n2_ := Aside0.mk (Kd.R_below qB107 hb); have n3_ := Aside0.mk (Kd.R_below qB108 hb); have n4_ := Aside0.mk (blk_below (g := gb282) (o := .cells #[.int .i64 a0_0, .slice A0_1 l0_1.length c0_1] 30 (0, 0)) qB99 hb); have n5_ := Aside0.mk (blk_below (g := gb293) (o := .cells #[.int .i64 t288, .slice Ao22 t289.length co22] 32 (0, 0)) qB100 hb); have n6_ := Aside0.mk (blk_below (g := gb298) (o := .cells #[.int .i64 t294, .slice Ao29 t312.length co29] 32 (0, 0)) qB101 hb); have n7_ := Aside0.mk (blk_below (g := gb304) (o := .cells #[.int .i64 t299, .slice Ao38 t315.length co38] 32 (0, 0)) qB102 hb); have n8_ := Aside0.mk (blk_below (g := gb326) (o := .cells #[.int .i64 t321, .slice Ao125 t322.length co125] 32 (0, 0)) qB103 hb); have n9_ := Aside0.mk (below_step qB27 hb); clear HO_294001; clear HO_299001; clear HO_305001; clear HO_327001; clear BK282; clear BK293; clear BK298; clear BK304; clear BK326; clear HB; have HO_294001 := n0_; have HO_299001 := n1_; have HO_305001 := n2_; have HO_327001 := n3_; have BK282 := n4_; have BK293 := n5_; have BK298 := n6_; have BK304 := n7_; have BK326 := n8_; have HB := n9_; clear n0_ n1_ n2_ n3_ n4_ n5_ n6_ n7_ n8_ n9_; (try clear hb); (try clear hb2); (try clear hk); (try clear hi)))
                                go_ret
                                exact ⟨by first | rfl | (simp [errW_none, errW_some] <;> rfl) | (simp [*, errW_none, errW_some] <;> rfl), by repeat (first | (with_reducible first | exact HB.out | apply below_alloc | apply pw_below_drewN | apply below_drew1 | refine below_set ?_ GE282.out | refine below_set ?_ GE293.out | refine below_set ?_ GE298.out | refine below_set ?_ GE304.out | refine below_set ?_ GE326.out) | exact HB.out)⟩
                              · rw [if_neg c157] at H
                                have c157b0 : (t328 == t314) = false := beq_eq_false_iff_ne.mpr c157
                                have c157b1 : (t328 != t314) = true := bne_iff_ne.mpr c157
                                obtain rfl := Option.some.inj H
                                have hnb164 := NB304_282.out
                                have hnc164 := NB282_304.out
                                have hnb165 := NB304_293.out
                                have hnc165 := NB293_304.out
                                have hnb166 := NB304_298.out
                                have hnc166 := NB298_304.out
                                have hnb167 := NB304_326.out
                                have hnc167 := NB326_304.out
                                have hcz168_0 : wc.cell? ⟨gb304, 0, none⟩ = some (.int .i64 t299) := (blk_cell BK304.out 0).trans rfl
                                have hcz168_1 : wc.cell? ⟨gb304, 1, none⟩ = some (.slice Ao38 t315.length co38) := (blk_cell BK304.out 1).trans rfl
                                have hfz168_0 := blk_frozen BK304.out 0
                                have hfz168_1 := blk_frozen BK304.out 1
                                go_wp2_with (first | ((with_reducible refine gate_callee (f := 17) rfl ?_); refine goesL_ (some 90) rfl rfl Try.func17 (by kernel_rfl) rfl #[.agg #[.int .i64 t299, .slice Ao38 t315.length co38], .int .i64 1] rfl qB68 ?_; (with_reducible refine (laws_heldCyclo.calls kj104 t299 _ _ t315 1 t328 _ ?side1 ?side2 A149.out).mono ?_); (case side1 => repeat (first | exact (Kd.R_reads' HO_305001.out).2.2 | (with_reducible refine Kd.C_alloc ?_ _) | (with_reducible refine Kd.C_drewN ?_ _) | (with_reducible refine Kd.C_drew ?_))); (case side2 => exact (Kd.R_reads' HO_305001.out).2.1); rintro e w169 ⟨rfl, hb⟩; refine ⟨_, rfl, ?_⟩; have n0_ := Aside0.mk (Kd.R_below qB105 hb); have n1_ := Aside0.mk (Kd.R_below qB106 hb); have n2_ := Aside0.mk (Kd.R_below qB107 hb); have n3_ := Aside0.mk (Kd.R_below qB108 hb); have n4_ := Aside0.mk (blk_below (g := gb282) (o := .cells #[.int .i64 a0_0, .slice A0_1 l0_1.length c0_1] 30 (0, 0)) qB99 hb); have n5_ := Aside0.mk (blk_below (g := gb293) (o := .cells #[.int .i64 t288, .slice Ao22 t289.length co22] 32 (0, 0)) qB100 hb); have n6_ := Aside0.mk (blk_below (g := gb298) (o := .cells #[.int .i64 t294, .slice Ao29 t312.length co29] 32 (0, 0)) qB101 hb); have n7_ := Aside0.mk (blk_below (g := gb304) (o := .cells #[.int .i64 t299, .slice Ao38 t315.length co38] 32 (0, 0)) qB102 hb); have n8_ := Aside0.mk (blk_below (g := gb326) (o := .cells #[.int .i64 t321, .slice Ao125 t322.length co125] 32 (0, 0)) qB103 hb); have n9_ := Aside0.mk (below_step qB27 hb); clear HO_294001; clear HO_299001; clear HO_305001; clear HO_327001; clear BK282; clear BK293; clear BK298; clear BK304; clear BK326; clear HB; have HO_294001 := n0_; have HO_299001 := n1_; have HO_305001 := n2_; have HO_327001 := n3_; have BK282 := n4_; have BK293 := n5_; have BK298 := n6_; have BK304 := n7_; have BK326 := n8_; have HB := n9_; clear n0_ n1_ n2_ n3_ n4_ n5_ n6_ n7_ n8_ n9_; (try clear hb); (try clear hb2); (try clear hk); (try clear hi)))
                                go_ret
                                exact ⟨by first | rfl | (simp [errW_none, errW_some] <;> rfl) | (simp [*, errW_none, errW_some] <;> rfl), by repeat (first | (with_reducible first | exact HB.out | apply below_alloc | apply pw_below_drewN | apply below_drew1 | refine below_set ?_ GE282.out | refine below_set ?_ GE293.out | refine below_set ?_ GE298.out | refine below_set ?_ GE304.out | refine below_set ?_ GE326.out) | exact HB.out)⟩
                    · rw [if_neg c102] at H
                      have c102b0 : (t316 == t314) = false := beq_eq_false_iff_ne.mpr c102
                      have c102b1 : (t316 != t314) = true := bne_iff_ne.mpr c102
                      obtain rfl := Option.some.inj H
                      have hnb170 := NB304_282.out
                      have hnc170 := NB282_304.out
                      have hnb171 := NB304_293.out
                      have hnc171 := NB293_304.out
                      have hnb172 := NB304_298.out
                      have hnc172 := NB298_304.out
                      have hcz173_0 : wc.cell? ⟨gb304, 0, none⟩ = some (.int .i64 t299) := (blk_cell BK304.out 0).trans rfl
                      have hcz173_1 : wc.cell? ⟨gb304, 1, none⟩ = some (.slice Ao38 t300.length co38) := (blk_cell BK304.out 1).trans rfl
                      have hfz173_0 := blk_frozen BK304.out 0
                      have hfz173_1 := blk_frozen BK304.out 1
                      go_wp2_with (first | ((with_reducible refine gate_callee (f := 16) rfl ?_); refine goesL_ (some 64) rfl rfl Try.func16 (by kernel_rfl) rfl #[.agg #[.int .i64 t299, .slice Ao38 t300.length co38], .int .i64 1] rfl qB68 ?_; (with_reducible refine (laws_markCyclo.calls kj61 t299 (fun k_ => some k_ = (.slice Ao38 t300.length co38 : Value).ownBlock) (.slice Ao38 t300.length co38) t300 1 t314 t315 w _ ?side1 ?side2 A92.out).mono ?_); (case side1 => repeat (first | (with_reducible first | exact HB.out | apply below_alloc | apply pw_below_drewN | apply below_drew1 | refine below_set ?_ GE282.out | refine below_set ?_ GE293.out | refine below_set ?_ GE298.out | refine below_set ?_ GE304.out) | exact HB.out)); (case side2 => exact Kd.R_tight rfl HO_305001.out); rintro e w174 ⟨rfl, hy0, hb, hkp⟩; refine ⟨_, rfl, ?_⟩; have n0_ := Aside0.mk (Kd.R_mono (ok' := fun k_ => some k_ ≠ (.slice Ao29 t312.length co29 : Value).ownBlock ∧ some k_ ≠ (.slice Ao38 t300.length co38 : Value).ownBlock) (Kd.R_keptB (HO_294001.out) hkp (fun k_ hk_ hs_ => (hk_.2) hs_)) (fun k_ hk_ => ⟨hk_.1.1, hk_.1.2⟩)); have n1_ := Aside0.mk (Kd.R_mono (ok' := fun k_ => some k_ ≠ (.slice Ao22 t289.length co22 : Value).ownBlock ∧ some k_ ≠ (.slice Ao38 t300.length co38 : Value).ownBlock) (Kd.R_keptB (HO_299001.out) hkp (fun k_ hk_ hs_ => (hk_.2) hs_)) (fun k_ hk_ => ⟨hk_.1.1, hk_.1.2⟩)); have n2_ := Aside0.mk (Kd.R_reok rfl hy0 (fun k_ e_ => HO_305001.out.1 k_ e_)); have n3_ := Aside0.mk (blk_kept qB99 hkp (fun hs_ => (fun e_ => (Kd.R_ne HO_305001.out BK282.out (by decide)) e_) hs_)); have n4_ := Aside0.mk (blk_kept qB100 hkp (fun hs_ => (fun e_ => (Kd.R_ne HO_305001.out BK293.out (by decide)) e_) hs_)); have n5_ := Aside0.mk (blk_kept qB101 hkp (fun hs_ => (fun e_ => (Kd.R_ne HO_305001.out BK298.out (by decide)) e_) hs_)); have n6_ := Aside0.mk (blk_kept qB102 hkp (fun hs_ => (fun e_ => (Kd.R_ne HO_305001.out BK304.out (by decide)) e_) hs_)); have n7_ := Aside0.mk (hb); clear HO_294001; clear HO_299001; clear HO_305001; clear BK282; clear BK293; clear BK298; clear BK304; clear HB; have HO_294001 := n0_; have HO_299001 := n1_; have HO_305001 := n2_; have BK282 := n3_; have BK293 := n4_; have BK298 := n5_; have BK304 := n6_; have HB := n7_; clear n0_ n1_ n2_ n3_ n4_ n5_ n6_ n7_; (try clear hb); (try clear hkp); (try clear hy0); have hcz175_0 : w174.cell? ⟨gb304, 0, none⟩ = some (.int .i64 t299) := (blk_cell BK304.out 0).trans rfl; have hcz175_1 : w174.cell? ⟨gb304, 1, none⟩ = some (.slice Ao38 t300.length co38) := (blk_cell BK304.out 1).trans rfl; have hfz175_0 := blk_frozen BK304.out 0; have hfz175_1 := blk_frozen BK304.out 1) | ((with_reducible refine gate_callee (f := 17) rfl ?_); refine goesL_ (some 67) rfl rfl Try.func17 (by kernel_rfl) rfl #[.agg #[.int .i64 t299, .slice Ao38 t315.length co38], .int .i64 1] rfl qB33 ?_; (with_reducible refine (laws_heldCyclo.calls kj61 t299 _ _ t315 1 t316 _ ?side1 ?side2 A93.out).mono ?_); (case side1 => repeat (first | exact (Kd.R_reads' HO_305001.out).2.2 | (with_reducible refine Kd.C_alloc ?_ _) | (with_reducible refine Kd.C_drewN ?_ _) | (with_reducible refine Kd.C_drew ?_))); (case side2 => rw [show t315.length = t300.length from (Kd.R_reads' HO_305001.out).1.symm]; exact (Kd.R_reads' HO_305001.out).2.1); rintro e w176 ⟨rfl, hb⟩; refine ⟨_, rfl, ?_⟩; have n0_ := Aside0.mk (Kd.R_below qB105 hb); have n1_ := Aside0.mk (Kd.R_below qB106 hb); have n2_ := Aside0.mk (Kd.R_below qB107 hb); have n3_ := Aside0.mk (blk_below (g := gb282) (o := .cells #[.int .i64 a0_0, .slice A0_1 l0_1.length c0_1] 30 (0, 0)) qB99 hb); have n4_ := Aside0.mk (blk_below (g := gb293) (o := .cells #[.int .i64 t288, .slice Ao22 t289.length co22] 32 (0, 0)) qB100 hb); have n5_ := Aside0.mk (blk_below (g := gb298) (o := .cells #[.int .i64 t294, .slice Ao29 t312.length co29] 32 (0, 0)) qB101 hb); have n6_ := Aside0.mk (blk_below (g := gb304) (o := .cells #[.int .i64 t299, .slice Ao38 t300.length co38] 32 (0, 0)) qB102 hb); have n7_ := Aside0.mk (below_step qB28 hb); clear HO_294001; clear HO_299001; clear HO_305001; clear BK282; clear BK293; clear BK298; clear BK304; clear HB; have HO_294001 := n0_; have HO_299001 := n1_; have HO_305001 := n2_; have BK282 := n3_; have BK293 := n4_; have BK298 := n5_; have BK304 := n6_; have HB := n7_; clear n0_ n1_ n2_ n3_ n4_ n5_ n6_ n7_; (try clear hb); (try clear hb2); (try clear hk); (try clear hi)))
                      go_ret
                      exact ⟨by first | rfl | (simp [errW_none, errW_some] <;> rfl) | (simp [*, errW_none, errW_some] <;> rfl), by repeat (first | (with_reducible first | exact HB.out | apply below_alloc | apply pw_below_drewN | apply below_drew1 | refine below_set ?_ GE282.out | refine below_set ?_ GE293.out | refine below_set ?_ GE298.out | refine below_set ?_ GE304.out) | exact HB.out)⟩
          · replace c60 := Bool.eq_false_iff.mpr c60
            subst c60
            have H1 : (some false) = some r := by rw [if_neg (show ¬ (false = true) by decide)] at H; exact H
            clear H
            have H := H1
            clear H1
            obtain rfl := Option.some.inj H
            try go_wp2
            have n0_ := Aside0.mk (Kd.R_drew HO_294001.out)
            have n1_ := Aside0.mk (Kd.R_drew HO_299001.out)
            have n2_ := Aside0.mk (Kd.R_drew HO_305001.out)
            have n3_ := Aside0.mk (blk_drew BK282.out)
            have n4_ := Aside0.mk (blk_drew BK293.out)
            have n5_ := Aside0.mk (blk_drew BK298.out)
            have n6_ := Aside0.mk (blk_drew BK304.out)
            have n7_ := Aside0.mk (below_drew1 HB.out)
            clear HO_294001
            clear HO_299001
            clear HO_305001
            clear BK282
            clear BK293
            clear BK298
            clear BK304
            clear HB
            have HO_294001 := n0_
            have HO_299001 := n1_
            have HO_305001 := n2_
            have BK282 := n3_
            have BK293 := n4_
            have BK298 := n5_
            have BK304 := n6_
            have HB := n7_
            clear n0_ n1_ n2_ n3_ n4_ n5_ n6_ n7_
            refine start_ (n := 5) (S := fun w' => w'.cell? ⟨gb298, 0, none⟩ = some (.int .i64 t294) ∧ w'.cell? ⟨gb298, 1, none⟩ = some (.slice Ao29 t295.length co29) ∧ w'.cell? ⟨gb282, 0, none⟩ = some (.int .i64 a0_0) ∧ w'.cell? ⟨gb282, 1, none⟩ = some (.slice A0_1 l0_1.length c0_1)) (ds := []) #[false, false, false, false, false] (by kernel_rfl) rfl rfl ⟨(blk_cell BK298.out 0).trans rfl, (blk_cell BK298.out 1).trans rfl, (blk_cell BK282.out 0).trans rfl, (blk_cell BK282.out 1).trans rfl⟩ (fun hHeld => ?_)
            generalize wc.drew = w177 at HO_294001 HO_299001 HO_305001 BK282 BK293 BK298 BK304 HB hHeld ⊢
            refine take_ (i := 0) (N := some 41) (v := ?_) (a' := ?_) #[true, false, false, false, false] rfl rfl (by kernel_rfl) (fun _ _ _ h => h) (Or.inl ⟨by rfl, ?_⟩) hHeld ?_ ?_
            rotate_left
            · rintro w' ⟨s0, s1, s2, s3⟩
              go_simp
              with_reducible rfl
            rotate_left
            · simp only [Act.put, List.setIfInBounds_toArray, List.set_cons_zero, List.set_cons_succ, i64_w, i32_w]
              rfl
            refine take_ (i := 1) (N := some 42) (v := ?_) (a' := ?_) #[true, true, false, false, false] rfl rfl (by kernel_rfl) (fun _ _ _ h => h) (Or.inl ⟨by rfl, ?_⟩) hHeld ?_ ?_
            rotate_left
            · rintro w' ⟨s0, s1, s2, s3⟩
              go_simp
              with_reducible rfl
            rotate_left
            · simp only [Act.put, List.setIfInBounds_toArray, List.set_cons_zero, List.set_cons_succ, i64_w, i32_w]
              rfl
            refine one_ (i := 2) (N := some 43) #[true, true, true, false, false] rfl rfl (by kernel_rfl) (by decide) (fun K hK => ?_)
            refine goes_ Try.func13 (by kernel_rfl) rfl #[.agg #[.int .i64 a0_0, .slice A0_1 l0_1.length c0_1]] (by rfl) rfl rfl qB68 ?_
            with_reducible refine (laws_toCyclo.calls kj10 a0_0 _ _ l0_1 t306 t307 _ ?side1 ?side2 A58.out).mono ?_
            (case side1 => repeat (first | exact (Kd.C_below HR0_1.out HB.out) | (with_reducible refine Kd.C_alloc ?_ _) | (with_reducible refine Kd.C_drewN ?_ _) | (with_reducible refine Kd.C_drew ?_)))
            (case side2 => exact HC0_1.out)
            rintro e w178 ⟨v308, rfl, ho0, hb⟩
            refine ⟨_, rfl, ?_⟩
            have n0_ := Aside0.mk (Kd.R_elder' qB105 (Kd.R_base ho0) hb)
            have n1_ := Aside0.mk (Kd.R_elder' qB106 (Kd.R_base ho0) hb)
            have n2_ := Aside0.mk (Kd.R_elder' qB107 (Kd.R_base ho0) hb)
            have n3_ := Aside0.mk (Kd.R_lower (Kd.R_new' (Kd.R_new' (Kd.R_new' ho0 (Kd.R_lt qB105)) (Kd.R_lt qB106)) (Kd.R_lt qB107)) (below_size qB28))
            have n4_ := Aside0.mk (blk_below (g := gb282) (o := .cells #[.int .i64 a0_0, .slice A0_1 l0_1.length c0_1] 30 (0, 0)) qB99 hb)
            have n5_ := Aside0.mk (blk_below (g := gb293) (o := .cells #[.int .i64 t288, .slice Ao22 t289.length co22] 32 (0, 0)) qB100 hb)
            have n6_ := Aside0.mk (blk_below (g := gb298) (o := .cells #[.int .i64 t294, .slice Ao29 t295.length co29] 32 (0, 0)) qB101 hb)
            have n7_ := Aside0.mk (blk_below (g := gb304) (o := .cells #[.int .i64 t299, .slice Ao38 t300.length co38] 32 (0, 0)) qB102 hb)
            have n8_ := Aside0.mk (below_step qB28 hb)
            clear HO_294001
            clear HO_299001
            clear HO_305001
            clear BK282
            clear BK293
            clear BK298
            clear BK304
            clear HB
            have HO_294001 := n0_
            have HO_299001 := n1_
            have HO_305001 := n2_
            have HO309 := n3_
            have BK282 := n4_
            have BK293 := n5_
            have BK298 := n6_
            have BK304 := n7_
            have HB := n8_
            clear n0_ n1_ n2_ n3_ n4_ n5_ n6_ n7_ n8_
            (try clear hb)
            (try clear hb2)
            (try clear hk)
            (try clear hi)
            (try clear ho0)
            obtain ⟨Ao179, co179, eo179⟩ := Kd.R_slice HO309.out
            (first | subst eo179 | (injection eo179 with f1_ f2_ f3_; have f4_ := f1_.symm; have f5_ := f3_.symm; clear f1_ f2_ f3_; subst f4_; subst f5_))
            refine hK.out _ _ ⟨(blk_cell BK298.out 0).trans rfl, (blk_cell BK298.out 1).trans rfl, (blk_cell BK282.out 0).trans rfl, (blk_cell BK282.out 1).trans rfl⟩ (fun hHeld => ?_)
            clear hK K
            refine norm_ (a' := ?_) ?_ ?_
            rotate_left
            · show Act.put _ (some 43) _ = _
              simp only [Act.put, List.setIfInBounds_toArray, List.set_cons_zero, List.set_cons_succ, i64_w, i32_w]
              rfl
            refine one_ (i := 3) (N := some 44) #[true, true, true, true, false] rfl rfl (by kernel_rfl) (by decide) (fun K hK => ?_)
            refine goes_ Try.func15 (by kernel_rfl) rfl #[.agg #[.int .i64 t294, .slice Ao29 t295.length co29], .agg #[.int .i64 t306, .slice Ao179 t307.length co179]] (by rfl) rfl rfl qB68 ?_
            with_reducible refine (laws_eqCyclo.calls kj10 t294 _ _ t295 t306 _ _ t307 false _ ?side1 ?side2 ?side3 ?side4 A59.out).mono ?_
            (case side1 => repeat (first | exact (Kd.R_reads' HO_299001.out).2.2 | (with_reducible refine Kd.C_alloc ?_ _) | (with_reducible refine Kd.C_drewN ?_ _) | (with_reducible refine Kd.C_drew ?_)))
            (case side2 => exact (Kd.R_reads' HO_299001.out).2.1)
            (case side3 => repeat (first | exact (Kd.R_reads' HO309.out).2.2 | (with_reducible refine Kd.C_alloc ?_ _) | (with_reducible refine Kd.C_drewN ?_ _) | (with_reducible refine Kd.C_drew ?_)))
            (case side4 => exact (Kd.R_reads' HO309.out).2.1)
            rintro e w180 ⟨rfl, hb⟩
            refine ⟨_, rfl, ?_⟩
            have n0_ := Aside0.mk (Kd.R_below qB105 hb)
            have n1_ := Aside0.mk (Kd.R_below qB106 hb)
            have n2_ := Aside0.mk (Kd.R_below qB107 hb)
            have n3_ := Aside0.mk (Kd.R_below qB122 hb)
            have n4_ := Aside0.mk (blk_below (g := gb282) (o := .cells #[.int .i64 a0_0, .slice A0_1 l0_1.length c0_1] 30 (0, 0)) qB99 hb)
            have n5_ := Aside0.mk (blk_below (g := gb293) (o := .cells #[.int .i64 t288, .slice Ao22 t289.length co22] 32 (0, 0)) qB100 hb)
            have n6_ := Aside0.mk (blk_below (g := gb298) (o := .cells #[.int .i64 t294, .slice Ao29 t295.length co29] 32 (0, 0)) qB101 hb)
            have n7_ := Aside0.mk (blk_below (g := gb304) (o := .cells #[.int .i64 t299, .slice Ao38 t300.length co38] 32 (0, 0)) qB102 hb)
            have n8_ := Aside0.mk (below_step qB28 hb)
            clear HO_294001
            clear HO_299001
            clear HO_305001
            clear HO309
            clear BK282
            clear BK293
            clear BK298
            clear BK304
            clear HB
            have HO_294001 := n0_
            have HO_299001 := n1_
            have HO_305001 := n2_
            have HO309 := n3_
            have BK282 := n4_
            have BK293 := n5_
            have BK298 := n6_
            have BK304 := n7_
            have HB := n8_
            clear n0_ n1_ n2_ n3_ n4_ n5_ n6_ n7_ n8_
            (try clear hb)
            (try clear hb2)
            (try clear hk)
            (try clear hi)
            refine hK.out _ _ ⟨(blk_cell BK298.out 0).trans rfl, (blk_cell BK298.out 1).trans rfl, (blk_cell BK282.out 0).trans rfl, (blk_cell BK282.out 1).trans rfl⟩ (fun hHeld => ?_)
            clear hK K
            refine norm_ (a' := ?_) ?_ ?_
            rotate_left
            · show Act.put _ (some 44) _ = _
              simp only [Act.put, List.setIfInBounds_toArray, List.set_cons_zero, List.set_cons_succ, i64_w, i32_w]
              rfl
            refine pure_ (i := 4) (N := some 45) (v := ?_) (a' := ?_) #[true, true, true, true, true] rfl rfl (by kernel_rfl) (fun _ _ _ h => h) (Or.inl ⟨by rfl, ?_⟩) ?_ ?_
            rotate_left
            · intro w'
              go_simp
              with_reducible rfl
            rotate_left
            · simp only [Act.put, List.setIfInBounds_toArray, List.set_cons_zero, List.set_cons_succ, i64_w, i32_w]
              rfl
            refine done_ (by kernel_rfl) ?_
            try go_wp2
            go_ret
            exact ⟨by first | rfl | (simp [errW_none, errW_some] <;> rfl) | (simp [*, errW_none, errW_some] <;> rfl), by repeat (first | (with_reducible first | exact HB.out | apply below_alloc | apply pw_below_drewN | apply below_drew1 | refine below_set ?_ GE282.out | refine below_set ?_ GE293.out | refine below_set ?_ GE298.out | refine below_set ?_ GE304.out) | exact HB.out)⟩

/-- THE ONE PURE STATEMENT of laws_FnExactChosenAssociate. -/
def laws_FnExactChosenAssociate.Pure : Prop := ∀ (a0_0 : Int) (l0_1 : List Int), (Lit.int .i64 a0_0).wf = true → l0_1.length ≤ maxLen → (∀ x ∈ l0_1, (Lit.int .i64 x).wf = true) → ∃ k, laws_FnExactChosenAssociate.f k a0_0 l0_1 = some true
theorem laws_FnExactChosenAssociate.walk (P : laws_FnExactChosenAssociate.Pure) (a0_0 : Int) (a0_1 : Option Addr) (len0_1 cap0_1 : Nat) (z0_1 : List Int) (w : World) (w0_0 : (Lit.int .i64 a0_0).wf = true) (w0_1 : (a0_1 = none ∧ len0_1 = 0 ∧ cap0_1 = 0 ∧ z0_1 = []) ∨ ∃ x, a0_1 = some x ∧ len0_1 ≤ cap0_1 ∧ cap0_1 ≤ maxLen ∧ z0_1.length = cap0_1 ∧ (∀ i, i < z0_1.length → w.cell? (x.add i) = some (.int .i64 (z0_1.getD i 0))) ∧ ∀ n ∈ z0_1, (Lit.int .i64 n).wf = true) :
    Calls Try.prog 5 #[.agg #[.int .i64 a0_0, .slice a0_1 len0_1 cap0_1]] w fun e w' => e = .returned (.bool true) ∧ Below w.heap.size w w' := by
  obtain ⟨l0_1, rfl, hr0_1, hm0_1, hw0_1, hc0_1⟩ := ReadsInt.ofRowC w0_1
  obtain ⟨k, h⟩ := P a0_0 l0_1 w0_0 hm0_1 hw0_1
  refine (laws_FnExactChosenAssociate.calls k a0_0 _ _ l0_1 true w (Kd.C_of_reads (d := (0 : Int)) (h1 := fun _ => rfl) hr0_1) hc0_1 h).mono ?_
  rintro e w' ⟨rfl, hd⟩
  exact ⟨rfl, hd⟩

end Go.Proofs.Ytpmbhleenfnchab.PFnExactChosenAssociate
