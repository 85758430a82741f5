/- The functions that the law reaches, as plain functions, each with the proof that the program comes to it; no condition. Written by a program of this session (wip/mp.py) over the printing of the kit; what is marked HAND is told by hand. -/
import Derived.Test.YtpmbhleenfnchabPFnExactPrimaryAssociatex0
import Derived.Test.YtpmbhleenfnchabPFnExactPrimaryAssociatex1
import Derived.Test.YtpmbhleenfnchabPFnExactPrimaryAssociatex3
import Derived.Test.YtpmbhleenfnchabPFnExactPrimaryAssociatex7
namespace Go.Proofs.Ytpmbhleenfnchab.PFnExactPrimaryAssociate
open Go.RowKit Go.Proofs.YtpmbhleenfnchabW.PrintWords Go.Proofs.YtpmbhleenfnchabW.PrintLast Go.Proofs.YtpmbhleenfnchabW.PrintMore
attribute [local go_sem] max2_int min2_int max_two min_two max_three min_three max_four min_four   -- for this text's walks alone
set_option linter.unusedVariables false
set_option linter.unusedSimpArgs false

/-! ### laws_FnExactPrimaryAssociate: function 4 -/
mutual
def laws_FnExactPrimaryAssociate.j0 : Nat → Int → Int → Bool → Int → List Int → Int → List Int → Int → List Int → Int → List Int → Option (Bool)
  | 0, _, _, _, _, _, _, _, _, _, _, _ => none
  | k + 1, x5, x8, x40, x279000, x279001, x290000, x290001, x295000, x295001, x301000, x301001 => if x40 = true then (some false) else ((laws_toCyclo.f k x279000 x279001).bind fun bt302 => ((laws_eqCyclo.f k x295000 x295001 bt302.1 bt302.2).bind fun t306 => (if t306 = true then ((laws_markCyclo.f k x295000 x295001 1).bind fun bt307 => (if bt307.1 < 0 then (laws_FnExactPrimaryAssociate.j1 k x5 true x279000 x279001 x290000 x290001 x301000 x301001) else ((laws_eqCyclo.f k x301000 x301001 x290000 x290001).bind fun t309 => (if t309 = true then (laws_FnExactPrimaryAssociate.j1 k x5 (x8 != x5) x279000 x279001 x290000 x290001 x301000 x301001) else (laws_FnExactPrimaryAssociate.j1 k x5 true x279000 x279001 x290000 x290001 x301000 x301001))))) else (some false))))
def laws_FnExactPrimaryAssociate.j1 : Nat → Int → Bool → Int → List Int → Int → List Int → Int → List Int → Option (Bool)
  | 0, _, _, _, _, _, _, _, _ => none
  | k + 1, x5, x61, x279000, x279001, x290000, x290001, x301000, x301001 => if x61 = true then (some false) else ((laws_markCyclo.f k x301000 x301001 1).bind fun bt310 => ((laws_heldCyclo.f k x301000 bt310.2 1).bind fun t312 => (if t312 < 0 then (some false) else (if t312 = bt310.1 then ((laws_toCyclo.f k x279000 x279001).bind fun bt313 => ((impl_PrimaryAssociate.f k bt313.1 bt313.2).bind fun bt317 => ((laws_eqCyclo.f k bt317.1 bt317.2.1 x290000 x290001).bind fun t323 => (if t323 = true then (laws_FnExactPrimaryAssociate.j2 k bt310.1 (bt317.2.2 != x5) x301000 bt310.2) else (laws_FnExactPrimaryAssociate.j2 k bt310.1 true x301000 bt310.2))))) else (some false)))))
def laws_FnExactPrimaryAssociate.j2 : Nat → Int → Bool → Int → List Int → Option (Bool)
  | 0, _, _, _, _ => none
  | k + 1, x10, x87, x301000, x301001 => if x87 = true then (some false) else ((laws_heldCyclo.f k x301000 x301001 1).bind fun t324 => (if t324 < 0 then (some false) else (if t324 = x10 then (some true) else (some false))))
end
def laws_FnExactPrimaryAssociate.f (k : Nat) (a0_0 : Int) (l0_1 : List Int) : Option (Bool) := (laws_szCyclo.f a0_0 l0_1 1048576).bind fun t279 => (if t279 < 0 then (some true) else ((laws_toCyclo.f k a0_0 l0_1).bind fun bt280 => ((spec_PrimaryAssociate.f k bt280.1 bt280.2).bind fun bt284 => ((laws_toCyclo.f k a0_0 l0_1).bind fun bt290 => ((impl_PrimaryAssociate.f k bt290.1 bt290.2).bind fun bt295 => ((laws_eqCyclo.f k bt295.1 bt295.2.1 bt284.1 bt284.2.1).bind fun t301 => (if t301 = true then (laws_FnExactPrimaryAssociate.j0 k bt284.2.2 bt295.2.2 (bt295.2.2 != bt284.2.2) a0_0 l0_1 bt284.1 bt284.2.1 bt290.1 bt290.2 bt295.1 bt295.2.1) else (laws_FnExactPrimaryAssociate.j0 k bt284.2.2 bt295.2.2 true a0_0 l0_1 bt284.1 bt284.2.1 bt290.1 bt290.2 bt295.1 bt295.2.1))))))))
theorem laws_FnExactPrimaryAssociate.mono_l : ∀ k, (∀ y0 y1 y2 y3 y4 y5 y6 y7 y8 y9 y10, LeO (laws_FnExactPrimaryAssociate.j0 k y0 y1 y2 y3 y4 y5 y6 y7 y8 y9 y10) (laws_FnExactPrimaryAssociate.j0 (k + 1) y0 y1 y2 y3 y4 y5 y6 y7 y8 y9 y10)) ∧ (∀ y0 y1 y2 y3 y4 y5 y6 y7, LeO (laws_FnExactPrimaryAssociate.j1 k y0 y1 y2 y3 y4 y5 y6 y7) (laws_FnExactPrimaryAssociate.j1 (k + 1) y0 y1 y2 y3 y4 y5 y6 y7)) ∧ (∀ y0 y1 y2 y3, LeO (laws_FnExactPrimaryAssociate.j2 k y0 y1 y2 y3) (laws_FnExactPrimaryAssociate.j2 (k + 1) y0 y1 y2 y3))
  | 0 => ⟨fun _ _ _ _ _ _ _ _ _ _ _ r h => by simp [laws_FnExactPrimaryAssociate.j0] at h, fun _ _ _ _ _ _ _ _ r h => by simp [laws_FnExactPrimaryAssociate.j1] at h, fun _ _ _ _ r h => by simp [laws_FnExactPrimaryAssociate.j2] at h⟩
  | k + 1 => by
    obtain ⟨ih0, ih1, ih2⟩ := laws_FnExactPrimaryAssociate.mono_l k
    refine ⟨?_, ?_, ?_⟩
    · intro y0 y1 y2 y3 y4 y5 y6 y7 y8 y9 y10
      unfold laws_FnExactPrimaryAssociate.j0
      repeat' first
      | (with_reducible exact ih0 _ _ _ _ _ _ _ _ _ _ _)
      | (with_reducible exact ih1 _ _ _ _ _ _ _ _)
      | (with_reducible exact ih2 _ _ _ _)
      | (with_reducible exact impl_PrimaryAssociate.mono _ _ _)
      | (with_reducible exact laws_eqCyclo.mono _ _ _ _ _)
      | (with_reducible exact laws_heldCyclo.mono _ _ _ _)
      | (with_reducible exact laws_markCyclo.mono _ _ _ _)
      | (with_reducible exact laws_toCyclo.mono _ _ _)
      | (with_reducible exact spec_PrimaryAssociate.mono _ _ _)
      | (with_reducible exact LeO.refl _)
      | (with_reducible exact LeO.none _)
      | (with_reducible refine LeO.ite ?_ ?_)
      | (with_reducible refine LeO.bind ?_ (fun _ => ?_))
      | exact ih0 _ _ _ _ _ _ _ _ _ _ _
      | exact ih1 _ _ _ _ _ _ _ _
      | exact ih2 _ _ _ _
      | exact impl_PrimaryAssociate.mono _ _ _
      | exact laws_eqCyclo.mono _ _ _ _ _
      | exact laws_heldCyclo.mono _ _ _ _
      | exact laws_markCyclo.mono _ _ _ _
      | exact laws_toCyclo.mono _ _ _
      | exact spec_PrimaryAssociate.mono _ _ _
      | exact LeO.none _
      | refine LeO.ite ?_ ?_
      | refine LeO.bind ?_ (fun _ => ?_)
    · intro y0 y1 y2 y3 y4 y5 y6 y7
      unfold laws_FnExactPrimaryAssociate.j1
      repeat' first
      | (with_reducible exact ih0 _ _ _ _ _ _ _ _ _ _ _)
      | (with_reducible exact ih1 _ _ _ _ _ _ _ _)
      | (with_reducible exact ih2 _ _ _ _)
      | (with_reducible exact impl_PrimaryAssociate.mono _ _ _)
      | (with_reducible exact laws_eqCyclo.mono _ _ _ _ _)
      | (with_reducible exact laws_heldCyclo.mono _ _ _ _)
      | (with_reducible exact laws_markCyclo.mono _ _ _ _)
      | (with_reducible exact laws_toCyclo.mono _ _ _)
      | (with_reducible exact spec_PrimaryAssociate.mono _ _ _)
      | (with_reducible exact LeO.refl _)
      | (with_reducible exact LeO.none _)
      | (with_reducible refine LeO.ite ?_ ?_)
      | (with_reducible refine LeO.bind ?_ (fun _ => ?_))
      | exact ih0 _ _ _ _ _ _ _ _ _ _ _
      | exact ih1 _ _ _ _ _ _ _ _
      | exact ih2 _ _ _ _
      | exact impl_PrimaryAssociate.mono _ _ _
      | exact laws_eqCyclo.mono _ _ _ _ _
      | exact laws_heldCyclo.mono _ _ _ _
      | exact laws_markCyclo.mono _ _ _ _
      | exact laws_toCyclo.mono _ _ _
      | exact spec_PrimaryAssociate.mono _ _ _
      | exact LeO.none _
      | refine LeO.ite ?_ ?_
      | refine LeO.bind ?_ (fun _ => ?_)
    · intro y0 y1 y2 y3
      unfold laws_FnExactPrimaryAssociate.j2
      repeat' first
      | (with_reducible exact ih0 _ _ _ _ _ _ _ _ _ _ _)
      | (with_reducible exact ih1 _ _ _ _ _ _ _ _)
      | (with_reducible exact ih2 _ _ _ _)
      | (with_reducible exact impl_PrimaryAssociate.mono _ _ _)
      | (with_reducible exact laws_eqCyclo.mono _ _ _ _ _)
      | (with_reducible exact laws_heldCyclo.mono _ _ _ _)
      | (with_reducible exact laws_markCyclo.mono _ _ _ _)
      | (with_reducible exact laws_toCyclo.mono _ _ _)
      | (with_reducible exact spec_PrimaryAssociate.mono _ _ _)
      | (with_reducible exact LeO.refl _)
      | (with_reducible exact LeO.none _)
      | (with_reducible refine LeO.ite ?_ ?_)
      | (with_reducible refine LeO.bind ?_ (fun _ => ?_))
      | exact ih0 _ _ _ _ _ _ _ _ _ _ _
      | exact ih1 _ _ _ _ _ _ _ _
      | exact ih2 _ _ _ _
      | exact impl_PrimaryAssociate.mono _ _ _
      | exact laws_eqCyclo.mono _ _ _ _ _
      | exact laws_heldCyclo.mono _ _ _ _
      | exact laws_markCyclo.mono _ _ _ _
      | exact laws_toCyclo.mono _ _ _
      | exact spec_PrimaryAssociate.mono _ _ _
      | exact LeO.none _
      | refine LeO.ite ?_ ?_
      | refine LeO.bind ?_ (fun _ => ?_)
theorem laws_FnExactPrimaryAssociate.mono : ∀ a0 a1 k, LeO (laws_FnExactPrimaryAssociate.f k a0 a1) (laws_FnExactPrimaryAssociate.f (k + 1) a0 a1) := by
  intro a0 a1 k
  obtain ⟨ih0, ih1, ih2⟩ := laws_FnExactPrimaryAssociate.mono_l k
  unfold laws_FnExactPrimaryAssociate.f
  repeat' first
      | (with_reducible exact ih0 _ _ _ _ _ _ _ _ _ _ _)
      | (with_reducible exact ih1 _ _ _ _ _ _ _ _)
      | (with_reducible exact ih2 _ _ _ _)
      | (with_reducible exact impl_PrimaryAssociate.mono _ _ _)
      | (with_reducible exact laws_eqCyclo.mono _ _ _ _ _)
      | (with_reducible exact laws_heldCyclo.mono _ _ _ _)
      | (with_reducible exact laws_markCyclo.mono _ _ _ _)
      | (with_reducible exact laws_toCyclo.mono _ _ _)
      | (with_reducible exact spec_PrimaryAssociate.mono _ _ _)
      | (with_reducible exact LeO.refl _)
      | (with_reducible exact LeO.none _)
      | (with_reducible refine LeO.ite ?_ ?_)
      | (with_reducible refine LeO.bind ?_ (fun _ => ?_))
      | exact ih0 _ _ _ _ _ _ _ _ _ _ _
      | exact ih1 _ _ _ _ _ _ _ _
      | exact ih2 _ _ _ _
      | exact impl_PrimaryAssociate.mono _ _ _
      | exact laws_eqCyclo.mono _ _ _ _ _
      | exact laws_heldCyclo.mono _ _ _ _
      | exact laws_markCyclo.mono _ _ _ _
      | exact laws_toCyclo.mono _ _ _
      | exact spec_PrimaryAssociate.mono _ _ _
      | exact LeO.none _
      | refine LeO.ite ?_ ?_
      | refine LeO.bind ?_ (fun _ => ?_)
set_option maxHeartbeats 8000000 in
set_option maxRecDepth 100000 in
theorem laws_FnExactPrimaryAssociate.calls (k : Nat) (a0_0 : Int) (A0_1 : Option Addr) (c0_1 : Nat) (l0_1 : List Int) (r : Bool) (w : World) (hr0_1 : Kd.C (Kd.int .i64) w A0_1 l0_1.length l0_1) (hc0_1 : l0_1.length ≤ c0_1) (h : laws_FnExactPrimaryAssociate.f k a0_0 l0_1 = some r) :
    Calls Try.prog 4 #[.agg #[.int .i64 a0_0, .slice A0_1 l0_1.length c0_1]] w fun e w' => e = .returned (.bool r) ∧ Below w.heap.size w w' := by
  have hu30 := Try.underlying30
  have hu32 := Try.underlying32
  have HR0_1 := Aside0.mk hr0_1
  have HC0_1 := Aside0.mk hc0_1
  clear hr0_1 hc0_1
  have HB := Aside0.mk (Below.refl w.heap.size w)
  have H : ((laws_szCyclo.f a0_0 l0_1 1048576).bind fun t279 => (if t279 < 0 then (some true) else ((laws_toCyclo.f k a0_0 l0_1).bind fun bt280 => ((spec_PrimaryAssociate.f k bt280.1 bt280.2).bind fun bt284 => ((laws_toCyclo.f k a0_0 l0_1).bind fun bt290 => ((impl_PrimaryAssociate.f k bt290.1 bt290.2).bind fun bt295 => ((laws_eqCyclo.f k bt295.1 bt295.2.1 bt284.1 bt284.2.1).bind fun t301 => (if t301 = true then (laws_FnExactPrimaryAssociate.j0 k bt284.2.2 bt295.2.2 (bt295.2.2 != bt284.2.2) a0_0 l0_1 bt284.1 bt284.2.1 bt290.1 bt290.2 bt295.1 bt295.2.1) else (laws_FnExactPrimaryAssociate.j0 k bt284.2.2 bt295.2.2 true a0_0 l0_1 bt284.1 bt284.2.1 bt290.1 bt290.2 bt295.1 bt295.2.1))))))))) = some r := h
  clear h
  replace H := Option.bind_eq_some_iff.mp H
  obtain ⟨t279, A20, H⟩ := H
  replace H : (if t279 < 0 then (some true) else ((laws_toCyclo.f k a0_0 l0_1).bind fun bt280 => ((spec_PrimaryAssociate.f k bt280.1 bt280.2).bind fun bt284 => ((laws_toCyclo.f k a0_0 l0_1).bind fun bt290 => ((impl_PrimaryAssociate.f k bt290.1 bt290.2).bind fun bt295 => ((laws_eqCyclo.f k bt295.1 bt295.2.1 bt284.1 bt284.2.1).bind fun t301 => (if t301 = true then (laws_FnExactPrimaryAssociate.j0 k bt284.2.2 bt295.2.2 (bt295.2.2 != bt284.2.2) a0_0 l0_1 bt284.1 bt284.2.1 bt290.1 bt290.2 bt295.1 bt295.2.1) else (laws_FnExactPrimaryAssociate.j0 k bt284.2.2 bt295.2.2 true a0_0 l0_1 bt284.1 bt284.2.1 bt290.1 bt290.2 bt295.1 bt295.2.1)))))))) = some r := H
  have A2 := Aside0.mk A20
  clear A20
  by_cases c3 : t279 < 0
  · rw [if_pos c3] at H
    have c3b0 : decide (t279 < 0) = true := decide_eq_true c3
    clear c3
    obtain rfl := Option.some.inj H
    go_enter Try.func4, Try.ntmps4
    go_wp2_with (first | ((with_reducible refine gate_dst (N := 1) rfl ?_); refine box_event ?hg (N := 1) ?hd (cs := #[.int .i64 a0_0, .slice A0_1 l0_1.length c0_1]) (t := 30) ?hr ?_; (case hd => rfl); (case hg => rfl); (case hr => first | (go_simp; done) | (go_simp; rfl)); intro gb278 hg w4 hbox hb; have n0_ := Aside0.mk (below_step q68 hb); have n1_ := Aside0.mk (hbox); have n2_ := Aside0.mk ((by rw [hg]; exact (below_size q68) : w.heap.size ≤ gb278)); have n3_ := Aside0.mk ((by rw [hg]; exact (below_size q68) : w.heap.size ≤ gb278)); clear HB; have HB := n0_; have BK278 := n1_; have GW278 := n2_; have GE278 := n3_; clear n0_ n1_ n2_ n3_; clear hb hbox hg; have hcz5_0 : w4.cell? ⟨gb278, 0, none⟩ = some (.int .i64 a0_0) := (blk_cell BK278.out 0).trans rfl; have hcz5_1 : w4.cell? ⟨gb278, 1, none⟩ = some (.slice A0_1 l0_1.length c0_1) := (blk_cell BK278.out 1).trans rfl; have hfz5_0 := blk_frozen BK278.out 0; have hfz5_1 := blk_frozen BK278.out 1) | ((with_reducible refine gate_callee (f := 11) rfl ?_); refine goesL_ (some 16) rfl rfl Try.func11 (by kernel_rfl) rfl #[.agg #[.int .i64 a0_0, .slice A0_1 l0_1.length c0_1], .int .i64 1048576] rfl q67 ?_; (with_reducible refine (laws_szCyclo.calls a0_0 _ _ l0_1 1048576 t279 _ ?side1 ?side2 A2.out).mono ?_); (case side1 => repeat (first | exact (Kd.C_below HR0_1.out HB.out) | (with_reducible refine Kd.C_alloc ?_ _) | (with_reducible refine Kd.C_drewN ?_ _) | (with_reducible refine Kd.C_drew ?_))); (case side2 => exact HC0_1.out); rintro e w6 ⟨rfl, hb⟩; refine ⟨_, rfl, ?_⟩; have n0_ := Aside0.mk (blk_below (g := gb278) (o := .cells #[.int .i64 a0_0, .slice A0_1 l0_1.length c0_1] 30 (0, 0)) q96 hb); have n1_ := Aside0.mk (below_step q66 hb); clear BK278; clear HB; have BK278 := n0_; have HB := n1_; clear n0_ n1_; (try clear hb); (try clear hb2); (try clear hk); (try clear hi)))
    go_ret
    exact ⟨by first | rfl | (simp [errW_none, errW_some] <;> rfl) | (simp [*, errW_none, errW_some] <;> rfl), by repeat (first | (with_reducible first | exact HB.out | apply below_alloc | apply pw_below_drewN | apply below_drew1 | refine below_set ?_ GE278.out) | exact HB.out)⟩
  · rw [if_neg c3] at H
    have c3b0 : decide (t279 < 0) = false := decide_eq_false c3
    clear c3
    replace H := Option.bind_eq_some_iff.mp H
    obtain ⟨⟨t280, t281⟩, A70, H⟩ := H
    replace H : ((spec_PrimaryAssociate.f k t280 t281).bind fun bt284 => ((laws_toCyclo.f k a0_0 l0_1).bind fun bt290 => ((impl_PrimaryAssociate.f k bt290.1 bt290.2).bind fun bt295 => ((laws_eqCyclo.f k bt295.1 bt295.2.1 bt284.1 bt284.2.1).bind fun t301 => (if t301 = true then (laws_FnExactPrimaryAssociate.j0 k bt284.2.2 bt295.2.2 (bt295.2.2 != bt284.2.2) a0_0 l0_1 bt284.1 bt284.2.1 bt290.1 bt290.2 bt295.1 bt295.2.1) else (laws_FnExactPrimaryAssociate.j0 k bt284.2.2 bt295.2.2 true a0_0 l0_1 bt284.1 bt284.2.1 bt290.1 bt290.2 bt295.1 bt295.2.1)))))) = some r := H
    have A7 := Aside0.mk A70
    clear A70
    replace H := Option.bind_eq_some_iff.mp H
    obtain ⟨⟨t284, t285, t288⟩, A80, H⟩ := H
    replace H : ((laws_toCyclo.f k a0_0 l0_1).bind fun bt290 => ((impl_PrimaryAssociate.f k bt290.1 bt290.2).bind fun bt295 => ((laws_eqCyclo.f k bt295.1 bt295.2.1 t284 t285).bind fun t301 => (if t301 = true then (laws_FnExactPrimaryAssociate.j0 k t288 bt295.2.2 (bt295.2.2 != t288) a0_0 l0_1 t284 t285 bt290.1 bt290.2 bt295.1 bt295.2.1) else (laws_FnExactPrimaryAssociate.j0 k t288 bt295.2.2 true a0_0 l0_1 t284 t285 bt290.1 bt290.2 bt295.1 bt295.2.1))))) = some r := H
    have A8 := Aside0.mk A80
    clear A80
    replace H := Option.bind_eq_some_iff.mp H
    obtain ⟨⟨t290, t291⟩, A90, H⟩ := H
    replace H : ((impl_PrimaryAssociate.f k t290 t291).bind fun bt295 => ((laws_eqCyclo.f k bt295.1 bt295.2.1 t284 t285).bind fun t301 => (if t301 = true then (laws_FnExactPrimaryAssociate.j0 k t288 bt295.2.2 (bt295.2.2 != t288) a0_0 l0_1 t284 t285 t290 t291 bt295.1 bt295.2.1) else (laws_FnExactPrimaryAssociate.j0 k t288 bt295.2.2 true a0_0 l0_1 t284 t285 t290 t291 bt295.1 bt295.2.1)))) = some r := H
    have A9 := Aside0.mk A90
    clear A90
    replace H := Option.bind_eq_some_iff.mp H
    obtain ⟨⟨t295, t296, t299⟩, A100, H⟩ := H
    replace H : ((laws_eqCyclo.f k t295 t296 t284 t285).bind fun t301 => (if t301 = true then (laws_FnExactPrimaryAssociate.j0 k t288 t299 (t299 != t288) a0_0 l0_1 t284 t285 t290 t291 t295 t296) else (laws_FnExactPrimaryAssociate.j0 k t288 t299 true a0_0 l0_1 t284 t285 t290 t291 t295 t296))) = some r := H
    have A10 := Aside0.mk A100
    clear A100
    have HC11 := Aside0.mk H
    clear H
    go_enter Try.func4, Try.ntmps4
    go_upto_region 8 with (first | ((with_reducible refine gate_dst (N := 1) rfl ?_); refine box_event ?hg (N := 1) ?hd (cs := #[.int .i64 a0_0, .slice A0_1 l0_1.length c0_1]) (t := 30) ?hr ?_; (case hd => rfl); (case hg => rfl); (case hr => first | (go_simp; done) | (go_simp; rfl)); intro gb278 hg w12 hbox hb; have n0_ := Aside0.mk (below_step q68 hb); have n1_ := Aside0.mk (hbox); have n2_ := Aside0.mk ((by rw [hg]; exact (below_size q68) : w.heap.size ≤ gb278)); have n3_ := Aside0.mk ((by rw [hg]; exact (below_size q68) : w.heap.size ≤ gb278)); clear HB; have HB := n0_; have BK278 := n1_; have GW278 := n2_; have GE278 := n3_; clear n0_ n1_ n2_ n3_; clear hb hbox hg; have hcz13_0 : w12.cell? ⟨gb278, 0, none⟩ = some (.int .i64 a0_0) := (blk_cell BK278.out 0).trans rfl; have hcz13_1 : w12.cell? ⟨gb278, 1, none⟩ = some (.slice A0_1 l0_1.length c0_1) := (blk_cell BK278.out 1).trans rfl; have hfz13_0 := blk_frozen BK278.out 0; have hfz13_1 := blk_frozen BK278.out 1) | ((with_reducible refine gate_callee (f := 11) rfl ?_); refine goesL_ (some 16) rfl rfl Try.func11 (by kernel_rfl) rfl #[.agg #[.int .i64 a0_0, .slice A0_1 l0_1.length c0_1], .int .i64 1048576] rfl q67 ?_; (with_reducible refine (laws_szCyclo.calls a0_0 _ _ l0_1 1048576 t279 _ ?side1 ?side2 A2.out).mono ?_); (case side1 => repeat (first | exact (Kd.C_below HR0_1.out HB.out) | (with_reducible refine Kd.C_alloc ?_ _) | (with_reducible refine Kd.C_drewN ?_ _) | (with_reducible refine Kd.C_drew ?_))); (case side2 => exact HC0_1.out); rintro e w14 ⟨rfl, hb⟩; refine ⟨_, rfl, ?_⟩; have n0_ := Aside0.mk (blk_below (g := gb278) (o := .cells #[.int .i64 a0_0, .slice A0_1 l0_1.length c0_1] 30 (0, 0)) q96 hb); have n1_ := Aside0.mk (below_step q66 hb); clear BK278; clear HB; have BK278 := n0_; have HB := n1_; clear n0_ n1_; (try clear hb); (try clear hb2); (try clear hk); (try clear hi); have hcz15_0 : w14.cell? ⟨gb278, 0, none⟩ = some (.int .i64 a0_0) := (blk_cell BK278.out 0).trans rfl; have hcz15_1 : w14.cell? ⟨gb278, 1, none⟩ = some (.slice A0_1 l0_1.length c0_1) := (blk_cell BK278.out 1).trans rfl; have hfz15_0 := blk_frozen BK278.out 0; have hfz15_1 := blk_frozen BK278.out 1) | ((with_reducible refine gate_callee (f := 13) rfl ?_); refine goesL_ (some 21) rfl rfl Try.func13 (by kernel_rfl) rfl #[.agg #[.int .i64 a0_0, .slice A0_1 l0_1.length c0_1]] rfl q67 ?_; (with_reducible refine (laws_toCyclo.calls k a0_0 _ _ l0_1 t280 t281 _ ?side1 ?side2 A7.out).mono ?_); (case side1 => repeat (first | exact (Kd.C_below HR0_1.out HB.out) | (with_reducible refine Kd.C_alloc ?_ _) | (with_reducible refine Kd.C_drewN ?_ _) | (with_reducible refine Kd.C_drew ?_))); (case side2 => exact HC0_1.out); rintro e w16 ⟨v282, rfl, ho0, hb⟩; refine ⟨_, rfl, ?_⟩; have n0_ := Aside0.mk (Kd.R_lower ho0 (below_size q66)); have n1_ := Aside0.mk (blk_below (g := gb278) (o := .cells #[.int .i64 a0_0, .slice A0_1 l0_1.length c0_1] 30 (0, 0)) q96 hb); have n2_ := Aside0.mk (below_step q66 hb); clear BK278; clear HB; have HO283 := n0_; have BK278 := n1_; have HB := n2_; clear n0_ n1_ n2_; (try clear hb); (try clear hb2); (try clear hk); (try clear hi); (try clear ho0); obtain ⟨Ao17, co17, eo17⟩ := Kd.R_slice HO283.out; subst eo17) | ((with_reducible refine gate_callee (f := 12) rfl ?_); refine goesL_ (some 22) rfl rfl Try.func12 (by kernel_rfl) rfl #[.agg #[.int .i64 t280, .slice Ao17 t281.length co17]] rfl q67 ?_; (with_reducible refine (spec_PrimaryAssociate.calls k t280 (fun k_ => some k_ = (.slice Ao17 t281.length co17 : Value).ownBlock) _ _ t281 t284 t285 t288 _ ?side1 A8.out).mono ?_); (case side1 => exact Kd.R_V (Kd.R_tight rfl (Kd.R_types (HO283.out) BK278.out (by decide)))); rintro e w18 ⟨v286, rfl, ho0, hb⟩; refine ⟨_, rfl, ?_⟩; have n0_ := Aside0.mk (Kd.R_elder' q118 (Kd.R_base ho0) hb); have n1_ := Aside0.mk (Kd.R_lower (Kd.R_new' (Kd.R_mono (ok' := fun k_ => True) ho0 (fun _ hk_ => trivial)) (Kd.R_lt q118)) (below_size q66)); have n2_ := Aside0.mk (blk_below (g := gb278) (o := .cells #[.int .i64 a0_0, .slice A0_1 l0_1.length c0_1] 30 (0, 0)) q96 hb); have n3_ := Aside0.mk (below_step q66 hb); clear HO283; clear BK278; clear HB; have HO283 := n0_; have HO287 := n1_; have BK278 := n2_; have HB := n3_; clear n0_ n1_ n2_ n3_; (try clear hb); (try clear hb2); (try clear hk); (try clear hi); (try clear ho0)) | ((with_reducible refine gate_dst (N := 4) rfl ?_); refine box_event ?hg (N := 4) ?hd (cs := #[.int .i64 0, .slice none 0 0]) (t := 32) ?hr ?_; (case hd => rfl); (case hg => rfl); (case hr => first | (go_simp; done) | (go_simp; rfl)); intro gb289 hg w19 hbox hb; have n0_ := Aside0.mk (Kd.R_below q118 hb); have n1_ := Aside0.mk (Kd.R_below q119 hb); have n2_ := Aside0.mk (blk_below (g := gb278) (o := .cells #[.int .i64 a0_0, .slice A0_1 l0_1.length c0_1] 30 (0, 0)) q96 hb); have n3_ := Aside0.mk (below_step q66 hb); have n4_ := Aside0.mk (hbox); have n5_ := Aside0.mk ((by rw [hg]; exact (below_size q66) : w.heap.size ≤ gb289)); have n6_ := Aside0.mk ((by rw [hg]; exact (below_size q66) : w.heap.size ≤ gb289)); have n7_ := Aside0.mk ((by rw [hg]; exact Nat.ne_of_lt (blk_lt (g := gb278) (o := .cells #[.int .i64 a0_0, .slice A0_1 l0_1.length c0_1] 30 (0, 0)) q96) : gb278 ≠ gb289)); have n8_ := Aside0.mk ((by rw [hg]; exact Nat.ne_of_gt (blk_lt (g := gb278) (o := .cells #[.int .i64 a0_0, .slice A0_1 l0_1.length c0_1] 30 (0, 0)) q96) : gb289 ≠ gb278)); clear HO283; clear HO287; clear BK278; clear HB; have HO283 := n0_; have HO287 := n1_; have BK278 := n2_; have HB := n3_; have BK289 := n4_; have GW289 := n5_; have GE289 := n6_; have NB278_289 := n7_; have NB289_278 := n8_; clear n0_ n1_ n2_ n3_ n4_ n5_ n6_ n7_ n8_; clear hb hbox hg; have hnb20 := NB289_278.out; have hnc20 := NB278_289.out; have hcz21_0 : w19.cell? ⟨gb289, 0, none⟩ = some (.int .i64 0) := (blk_cell BK289.out 0).trans rfl; have hcz21_1 : w19.cell? ⟨gb289, 1, none⟩ = some (.slice none 0 0) := (blk_cell BK289.out 1).trans rfl; have hfz21_0 := blk_frozen BK289.out 0; have hfz21_1 := blk_frozen BK289.out 1; obtain ⟨Ao22, co22, eo22⟩ := Kd.R_slice HO287.out; subst eo22; have hcz23_0 : w19.cell? ⟨gb278, 0, none⟩ = some (.int .i64 a0_0) := (blk_cell BK278.out 0).trans rfl; have hcz23_1 : w19.cell? ⟨gb278, 1, none⟩ = some (.slice A0_1 l0_1.length c0_1) := (blk_cell BK278.out 1).trans rfl; have hfz23_0 := blk_frozen BK278.out 0; have hfz23_1 := blk_frozen BK278.out 1) | ((with_reducible refine gate_callee (f := 13) rfl ?_); refine goesL_ (some 26) rfl rfl Try.func13 (by kernel_rfl) rfl #[.agg #[.int .i64 a0_0, .slice A0_1 l0_1.length c0_1]] rfl q67 ?_; (with_reducible refine (laws_toCyclo.calls k a0_0 _ _ l0_1 t290 t291 _ ?side1 ?side2 A9.out).mono ?_); (case side1 => exact Kd.C_below HR0_1.out q47); (case side2 => exact HC0_1.out); rintro e w24 ⟨v292, rfl, ho0, hb⟩; refine ⟨_, rfl, ?_⟩; have n0_ := Aside0.mk (Kd.R_elder' q21 (Kd.R_base ho0) hb); have n1_ := Aside0.mk (Kd.R_elder' q22 (Kd.R_base ho0) hb); have n2_ := Aside0.mk (Kd.R_lower (Kd.R_new' (Kd.R_new' ho0 (Kd.R_lt q21)) (Kd.R_lt q22)) (below_size q47)); have n3_ := Aside0.mk (blk_below (g := gb278) (o := .cells #[.int .i64 a0_0, .slice A0_1 l0_1.length c0_1] 30 (0, 0)) (by (with_reducible repeat (first | refine blk_drewN ?_ _ | refine blk_drew ?_ | refine blk_alloc ?_ _)); refine blk_far ?_ NB278_289.out _; (with_reducible repeat (first | refine blk_drewN ?_ _ | refine blk_drew ?_ | refine blk_alloc ?_ _)); refine blk_far ?_ NB278_289.out _; (with_reducible repeat (first | refine blk_drewN ?_ _ | refine blk_drew ?_ | refine blk_alloc ?_ _)); exact BK278.out) hb); have n4_ := Aside0.mk (blk_below (g := gb289) (o := .cells #[.int .i64 t284, .slice Ao22 t285.length co22] 32 (0, 0)) (by (with_reducible repeat (first | refine blk_drewN ?_ _ | refine blk_drew ?_ | refine blk_alloc ?_ _)); refine blk_put (cs := #[.int .i64 t284, .slice none 0 0]) ?_ 1 _ rfl; (with_reducible repeat (first | refine blk_drewN ?_ _ | refine blk_drew ?_ | refine blk_alloc ?_ _)); refine blk_put (cs := #[.int .i64 0, .slice none 0 0]) ?_ 0 _ rfl; (with_reducible repeat (first | refine blk_drewN ?_ _ | refine blk_drew ?_ | refine blk_alloc ?_ _)); exact BK289.out) hb); have n5_ := Aside0.mk (below_step q47 hb); clear HO283; clear HO287; clear BK278; clear BK289; clear HB; have HO283 := n0_; have HO287 := n1_; have HO293 := n2_; have BK278 := n3_; have BK289 := n4_; have HB := n5_; clear n0_ n1_ n2_ n3_ n4_ n5_; (try clear hb); (try clear hb2); (try clear hk); (try clear hi); (try clear ho0)) | ((with_reducible refine gate_dst (N := 6) rfl ?_); refine box_event ?hg (N := 6) ?hd (cs := #[.int .i64 0, .slice none 0 0]) (t := 32) ?hr ?_; (case hd => rfl); (case hg => rfl); (case hr => first | (go_simp; done) | (go_simp; rfl)); intro gb294 hg w25 hbox hb; have n0_ := Aside0.mk (Kd.R_below q118 hb); have n1_ := Aside0.mk (Kd.R_below q119 hb); have n2_ := Aside0.mk (Kd.R_below q120 hb); have n3_ := Aside0.mk (blk_below (g := gb278) (o := .cells #[.int .i64 a0_0, .slice A0_1 l0_1.length c0_1] 30 (0, 0)) q96 hb); have n4_ := Aside0.mk (blk_below (g := gb289) (o := .cells #[.int .i64 t284, .slice Ao22 t285.length co22] 32 (0, 0)) q97 hb); have n5_ := Aside0.mk (below_step q47 hb); have n6_ := Aside0.mk (hbox); have n7_ := Aside0.mk ((by rw [hg]; exact (below_size q47) : w.heap.size ≤ gb294)); have n8_ := Aside0.mk ((by rw [hg]; exact (below_size q47) : w.heap.size ≤ gb294)); have n9_ := Aside0.mk ((by rw [hg]; exact Nat.ne_of_lt (blk_lt (g := gb278) (o := .cells #[.int .i64 a0_0, .slice A0_1 l0_1.length c0_1] 30 (0, 0)) q96) : gb278 ≠ gb294)); have n10_ := Aside0.mk ((by rw [hg]; exact Nat.ne_of_gt (blk_lt (g := gb278) (o := .cells #[.int .i64 a0_0, .slice A0_1 l0_1.length c0_1] 30 (0, 0)) q96) : gb294 ≠ gb278)); have n11_ := Aside0.mk ((by rw [hg]; exact Nat.ne_of_lt (blk_lt (g := gb289) (o := .cells #[.int .i64 t284, .slice Ao22 t285.length co22] 32 (0, 0)) q97) : gb289 ≠ gb294)); have n12_ := Aside0.mk ((by rw [hg]; exact Nat.ne_of_gt (blk_lt (g := gb289) (o := .cells #[.int .i64 t284, .slice Ao22 t285.length co22] 32 (0, 0)) q97) : gb294 ≠ gb289)); clear HO283; clear HO287; clear HO293; clear BK278; clear BK289; clear HB; have HO283 := n0_; have HO287 := n1_; have HO293 := n2_; have BK278 := n3_; have BK289 := n4_; have HB := n5_; have BK294 := n6_; have GW294 := n7_; have GE294 := n8_; have NB278_294 := n9_; have NB294_278 := n10_; have NB289_294 := n11_; have NB294_289 := n12_; clear n0_ n1_ n2_ n3_ n4_ n5_ n6_ n7_ n8_ n9_ n10_ n11_ n12_; clear hb hbox hg; have hnb26 := NB294_278.out; have hnc26 := NB278_294.out; have hnb27 := NB294_289.out; have hnc27 := NB289_294.out; have hcz28_0 : w25.cell? ⟨gb294, 0, none⟩ = some (.int .i64 0) := (blk_cell BK294.out 0).trans rfl; have hcz28_1 : w25.cell? ⟨gb294, 1, none⟩ = some (.slice none 0 0) := (blk_cell BK294.out 1).trans rfl; have hfz28_0 := blk_frozen BK294.out 0; have hfz28_1 := blk_frozen BK294.out 1; obtain ⟨Ao29, co29, eo29⟩ := Kd.R_slice HO293.out; subst eo29) | ((with_reducible refine gate_store (t := 32) (p := 6) rfl ?_); refine store_event (t := 32) (p := 6) (v := ?vo_w30) (w1 := ((w25.setCell ⟨gb294, 0, none⟩ (.int .i64 t290)).setCell ⟨gb294, 1, none⟩ (.slice Ao29 t291.length co29))) ?hg ?ho ?hn ?hr ?_; (case ho => rfl); (case hg => rfl); (case hn => rfl); (case hr => first | (go_simp; done) | (go_simp; rfl)); intro w30 hw; have n0_ : Aside0 (Kd.R (Kd.int .i64) 2 w30 w.heap.size (fun k_ => some k_ ≠ (.slice Ao22 t285.length co22 : Value).ownBlock ∧ some k_ ≠ (.slice Ao29 t291.length co29 : Value).ownBlock) (.slice Ao17 t281.length co17) t281) := ⟨(by rw [hw]; exact (by (with_reducible repeat (first | apply Kd.R_alloc | apply Kd.R_drewN | apply Kd.R_drew)); exact Kd.R_mono (Kd.R_far (p := ⟨gb294, 1, none⟩) (Kd.R_far (p := ⟨gb294, 0, none⟩) (Kd.R_types HO283.out BK294.out (by decide)) (fun _ hk => hk.2) (.int .i64 t290)) (fun _ hk => hk.2) (.slice Ao29 t291.length co29)) (fun _ hk => ⟨hk.1.1.2, hk.1.2⟩)))⟩; have n1_ : Aside0 (Kd.R (Kd.int .i64) 2 w30 w.heap.size (fun k_ => some k_ ≠ (.slice Ao17 t281.length co17 : Value).ownBlock ∧ some k_ ≠ (.slice Ao29 t291.length co29 : Value).ownBlock) (.slice Ao22 t285.length co22) t285) := ⟨(by rw [hw]; exact (by (with_reducible repeat (first | apply Kd.R_alloc | apply Kd.R_drewN | apply Kd.R_drew)); exact Kd.R_mono (Kd.R_far (p := ⟨gb294, 1, none⟩) (Kd.R_far (p := ⟨gb294, 0, none⟩) (Kd.R_types HO287.out BK294.out (by decide)) (fun _ hk => hk.2) (.int .i64 t290)) (fun _ hk => hk.2) (.slice Ao29 t291.length co29)) (fun _ hk => ⟨hk.1.1.2, hk.1.2⟩)))⟩; have n2_ : Aside0 (Kd.R (Kd.int .i64) 2 w30 w.heap.size (fun k_ => some k_ ≠ (.slice Ao17 t281.length co17 : Value).ownBlock ∧ some k_ ≠ (.slice Ao22 t285.length co22 : Value).ownBlock) (.slice Ao29 t291.length co29) t291) := ⟨(by rw [hw]; exact (by (with_reducible repeat (first | apply Kd.R_alloc | apply Kd.R_drewN | apply Kd.R_drew)); exact Kd.R_mono (Kd.R_far (p := ⟨gb294, 1, none⟩) (Kd.R_far (p := ⟨gb294, 0, none⟩) (Kd.R_types HO293.out BK294.out (by decide)) (fun _ hk => hk.2) (.int .i64 t290)) (fun _ hk => hk.2) (.slice Ao29 t291.length co29)) (fun _ hk => ⟨hk.1.1.2, hk.1.2⟩)))⟩; have n3_ : Aside0 (w30.heap[gb278]? = some (.cells #[.int .i64 a0_0, .slice A0_1 l0_1.length c0_1] 30 (0, 0))) := ⟨(by rw [hw]; exact (by (with_reducible repeat (first | refine blk_drewN ?_ _ | refine blk_drew ?_ | refine blk_alloc ?_ _)); refine blk_far ?_ NB278_294.out _; (with_reducible repeat (first | refine blk_drewN ?_ _ | refine blk_drew ?_ | refine blk_alloc ?_ _)); refine blk_far ?_ NB278_294.out _; (with_reducible repeat (first | refine blk_drewN ?_ _ | refine blk_drew ?_ | refine blk_alloc ?_ _)); exact BK278.out))⟩; have n4_ : Aside0 (w30.heap[gb289]? = some (.cells #[.int .i64 t284, .slice Ao22 t285.length co22] 32 (0, 0))) := ⟨(by rw [hw]; exact (by (with_reducible repeat (first | refine blk_drewN ?_ _ | refine blk_drew ?_ | refine blk_alloc ?_ _)); refine blk_far ?_ NB289_294.out _; (with_reducible repeat (first | refine blk_drewN ?_ _ | refine blk_drew ?_ | refine blk_alloc ?_ _)); refine blk_far ?_ NB289_294.out _; (with_reducible repeat (first | refine blk_drewN ?_ _ | refine blk_drew ?_ | refine blk_alloc ?_ _)); exact BK289.out))⟩; have n5_ : Aside0 (w30.heap[gb294]? = some (.cells #[.int .i64 t290, .slice Ao29 t291.length co29] 32 (0, 0))) := ⟨(by rw [hw]; exact (by (with_reducible repeat (first | refine blk_drewN ?_ _ | refine blk_drew ?_ | refine blk_alloc ?_ _)); refine blk_put (cs := #[.int .i64 t290, .slice none 0 0]) ?_ 1 _ rfl; (with_reducible repeat (first | refine blk_drewN ?_ _ | refine blk_drew ?_ | refine blk_alloc ?_ _)); refine blk_put (cs := #[.int .i64 0, .slice none 0 0]) ?_ 0 _ rfl; (with_reducible repeat (first | refine blk_drewN ?_ _ | refine blk_drew ?_ | refine blk_alloc ?_ _)); exact BK294.out))⟩; have n6_ : Aside0 (Below w.heap.size w w30) := ⟨(by rw [hw]; exact q33)⟩; clear hw; clear HO283; clear HO287; clear HO293; clear BK278; clear BK289; clear BK294; clear HB; have HO283 := n0_; have HO287 := n1_; have HO293 := n2_; have BK278 := n3_; have BK289 := n4_; have BK294 := n5_; have HB := n6_; clear n0_ n1_ n2_ n3_ n4_ n5_ n6_; have hcz31_0 : w30.cell? ⟨gb294, 0, none⟩ = some (.int .i64 t290) := (blk_cell BK294.out 0).trans rfl; have hcz31_1 : w30.cell? ⟨gb294, 1, none⟩ = some (.slice Ao29 t291.length co29) := (blk_cell BK294.out 1).trans rfl; have hfz31_0 := blk_frozen BK294.out 0; have hfz31_1 := blk_frozen BK294.out 1) | ((with_reducible refine gate_callee (f := 14) rfl ?_); refine goesL_ (some 29) rfl rfl Try.func14 (by kernel_rfl) rfl #[.agg #[.int .i64 t290, .slice Ao29 t291.length co29]] rfl q67 ?_; (with_reducible refine (impl_PrimaryAssociate.calls k t290 (fun k_ => some k_ = (.slice Ao29 t291.length co29 : Value).ownBlock) _ _ t291 t295 t296 t299 _ ?side1 A10.out).mono ?_); (case side1 => exact Kd.R_V (Kd.R_tight rfl (Kd.R_types (Kd.R_types (Kd.R_types (HO293.out) BK278.out (by decide)) BK289.out (by decide)) BK294.out (by decide)))); rintro e w32 ⟨v297, rfl, ho0, hb⟩; refine ⟨_, rfl, ?_⟩; have n0_ := Aside0.mk (Kd.R_elder' q118 (Kd.R_base ho0) hb); have n1_ := Aside0.mk (Kd.R_elder' q119 (Kd.R_base ho0) hb); have n2_ := Aside0.mk (Kd.R_elder' q120 (Kd.R_base ho0) hb); have n3_ := Aside0.mk (Kd.R_lower (Kd.R_new' (Kd.R_new' (Kd.R_new' (Kd.R_mono (ok' := fun k_ => True) ho0 (fun _ hk_ => trivial)) (Kd.R_lt q118)) (Kd.R_lt q119)) (Kd.R_lt q120)) (below_size q33)); have n4_ := Aside0.mk (blk_below (g := gb278) (o := .cells #[.int .i64 a0_0, .slice A0_1 l0_1.length c0_1] 30 (0, 0)) q96 hb); have n5_ := Aside0.mk (blk_below (g := gb289) (o := .cells #[.int .i64 t284, .slice Ao22 t285.length co22] 32 (0, 0)) q97 hb); have n6_ := Aside0.mk (blk_below (g := gb294) (o := .cells #[.int .i64 t290, .slice Ao29 t291.length co29] 32 (0, 0)) q98 hb); have n7_ := Aside0.mk (below_step q33 hb); clear HO283; clear HO287; clear HO293; clear BK278; clear BK289; clear BK294; clear HB; have HO283 := n0_; have HO287 := n1_; have HO293 := n2_; have HO298 := n3_; have BK278 := n4_; have BK289 := n5_; have BK294 := n6_; have HB := n7_; clear n0_ n1_ n2_ n3_ n4_ n5_ n6_ n7_; (try clear hb); (try clear hb2); (try clear hk); (try clear hi); (try clear ho0)) | ((with_reducible refine gate_dst (N := 7) rfl ?_); refine box_event ?hg (N := 7) ?hd (cs := #[.int .i64 0, .slice none 0 0]) (t := 32) ?hr ?_; (case hd => rfl); (case hg => rfl); (case hr => first | (go_simp; done) | (go_simp; rfl)); intro gb300 hg w33 hbox hb; have n0_ := Aside0.mk (Kd.R_below q118 hb); have n1_ := Aside0.mk (Kd.R_below q119 hb); have n2_ := Aside0.mk (Kd.R_below q120 hb); have n3_ := Aside0.mk (Kd.R_below (by (with_reducible repeat (first | apply Kd.R_alloc | apply Kd.R_drewN | apply Kd.R_drew)); exact HO298.out) hb); have n4_ := Aside0.mk (blk_below (g := gb278) (o := .cells #[.int .i64 a0_0, .slice A0_1 l0_1.length c0_1] 30 (0, 0)) q96 hb); have n5_ := Aside0.mk (blk_below (g := gb289) (o := .cells #[.int .i64 t284, .slice Ao22 t285.length co22] 32 (0, 0)) q97 hb); have n6_ := Aside0.mk (blk_below (g := gb294) (o := .cells #[.int .i64 t290, .slice Ao29 t291.length co29] 32 (0, 0)) q98 hb); have n7_ := Aside0.mk (below_step q33 hb); have n8_ := Aside0.mk (hbox); have n9_ := Aside0.mk ((by rw [hg]; exact (below_size q33) : w.heap.size ≤ gb300)); have n10_ := Aside0.mk ((by rw [hg]; exact (below_size q33) : w.heap.size ≤ gb300)); have n11_ := Aside0.mk ((by rw [hg]; exact Nat.ne_of_lt (blk_lt (g := gb278) (o := .cells #[.int .i64 a0_0, .slice A0_1 l0_1.length c0_1] 30 (0, 0)) q96) : gb278 ≠ gb300)); have n12_ := Aside0.mk ((by rw [hg]; exact Nat.ne_of_gt (blk_lt (g := gb278) (o := .cells #[.int .i64 a0_0, .slice A0_1 l0_1.length c0_1] 30 (0, 0)) q96) : gb300 ≠ gb278)); have n13_ := Aside0.mk ((by rw [hg]; exact Nat.ne_of_lt (blk_lt (g := gb289) (o := .cells #[.int .i64 t284, .slice Ao22 t285.length co22] 32 (0, 0)) q97) : gb289 ≠ gb300)); have n14_ := Aside0.mk ((by rw [hg]; exact Nat.ne_of_gt (blk_lt (g := gb289) (o := .cells #[.int .i64 t284, .slice Ao22 t285.length co22] 32 (0, 0)) q97) : gb300 ≠ gb289)); have n15_ := Aside0.mk ((by rw [hg]; exact Nat.ne_of_lt (blk_lt (g := gb294) (o := .cells #[.int .i64 t290, .slice Ao29 t291.length co29] 32 (0, 0)) q98) : gb294 ≠ gb300)); have n16_ := Aside0.mk ((by rw [hg]; exact Nat.ne_of_gt (blk_lt (g := gb294) (o := .cells #[.int .i64 t290, .slice Ao29 t291.length co29] 32 (0, 0)) q98) : gb300 ≠ gb294)); clear HO283; clear HO287; clear HO293; clear HO298; clear BK278; clear BK289; clear BK294; clear HB; have HO283 := n0_; have HO287 := n1_; have HO293 := n2_; have HO298 := n3_; have BK278 := n4_; have BK289 := n5_; have BK294 := n6_; have HB := n7_; have BK300 := n8_; have GW300 := n9_; have GE300 := n10_; have NB278_300 := n11_; have NB300_278 := n12_; have NB289_300 := n13_; have NB300_289 := n14_; have NB294_300 := n15_; have NB300_294 := n16_; clear n0_ n1_ n2_ n3_ n4_ n5_ n6_ n7_ n8_ n9_ n10_ n11_ n12_ n13_ n14_ n15_ n16_; clear hb hbox hg; have hnb34 := NB300_278.out; have hnc34 := NB278_300.out; have hnb35 := NB300_289.out; have hnc35 := NB289_300.out; have hnb36 := NB300_294.out; have hnc36 := NB294_300.out; have hcz37_0 : w33.cell? ⟨gb300, 0, none⟩ = some (.int .i64 0) := (blk_cell BK300.out 0).trans rfl; have hcz37_1 : w33.cell? ⟨gb300, 1, none⟩ = some (.slice none 0 0) := (blk_cell BK300.out 1).trans rfl; have hfz37_0 := blk_frozen BK300.out 0; have hfz37_1 := blk_frozen BK300.out 1; obtain ⟨Ao38, co38, eo38⟩ := Kd.R_slice HO298.out; subst eo38))
    (try simp only [Act.put, List.setIfInBounds_toArray, List.set_cons_zero, List.set_cons_succ])
    go_cut [40] (fun v40 wc => ∃ (kq : Nat) (x40_10 : Bool), v40 = .bool x40_10 ∧ Aside0 (laws_FnExactPrimaryAssociate.j0 kq t288 t299 x40_10 a0_0 l0_1 t284 t285 t290 t291 t295 t296 = some r) ∧ Aside0 (kq ≤ k) ∧ Aside0 (Kd.R (Kd.int .i64) 2 wc w.heap.size (fun k_ => some k_ ≠ ((.slice Ao29 t291.length co29) : Value).ownBlock ∧ some k_ ≠ ((.slice Ao38 t296.length co38) : Value).ownBlock) (.slice Ao22 t285.length co22) t285) ∧ Aside0 (Kd.R (Kd.int .i64) 2 wc w.heap.size (fun k_ => some k_ ≠ ((.slice Ao22 t285.length co22) : Value).ownBlock ∧ some k_ ≠ ((.slice Ao38 t296.length co38) : Value).ownBlock) (.slice Ao29 t291.length co29) t291) ∧ Aside0 (Kd.R (Kd.int .i64) 2 wc w.heap.size (fun k_ => some k_ ≠ ((.slice Ao22 t285.length co22) : Value).ownBlock ∧ some k_ ≠ ((.slice Ao29 t291.length co29) : Value).ownBlock) (.slice Ao38 t296.length co38) t296) ∧ Aside0 (wc.heap[gb278]? = some (.cells #[.int .i64 a0_0, (.slice A0_1 l0_1.length c0_1)] 30 (0, 0))) ∧ Aside0 (wc.heap[gb289]? = some (.cells #[.int .i64 t284, (.slice Ao22 t285.length co22)] 32 (0, 0))) ∧ Aside0 (wc.heap[gb294]? = some (.cells #[.int .i64 t290, (.slice Ao29 t291.length co29)] 32 (0, 0))) ∧ Aside0 (wc.heap[gb300]? = some (.cells #[.int .i64 t295, (.slice Ao38 t296.length co38)] 32 (0, 0))) ∧ Aside0 (Below w.heap.size w wc))
    case first =>
      have H := HC11.out
      clear HC11
      replace H := Option.bind_eq_some_iff.mp H
      obtain ⟨t301, A390, H⟩ := H
      replace H : (if t301 = true then (laws_FnExactPrimaryAssociate.j0 k t288 t299 (t299 != t288) a0_0 l0_1 t284 t285 t290 t291 t295 t296) else (laws_FnExactPrimaryAssociate.j0 k t288 t299 true a0_0 l0_1 t284 t285 t290 t291 t295 t296)) = some r := H
      have A39 := Aside0.mk A390
      clear A390
      by_cases c40 : t301 = true
      · subst c40
        have H1 : (laws_FnExactPrimaryAssociate.j0 k t288 t299 (t299 != t288) a0_0 l0_1 t284 t285 t290 t291 t295 t296) = some r := by rw [if_pos rfl] at H; exact H
        clear H
        have H := H1
        clear H1
        have H' := Aside0.mk H
        clear H
        have hnb41 := NB300_278.out
        have hnc41 := NB278_300.out
        have hnb42 := NB300_289.out
        have hnc42 := NB289_300.out
        have hnb43 := NB300_294.out
        have hnc43 := NB294_300.out
        have hcz44_0 : w33.cell? ⟨gb300, 0, none⟩ = some (.int .i64 0) := (blk_cell BK300.out 0).trans rfl
        have hcz44_1 : w33.cell? ⟨gb300, 1, none⟩ = some (.slice none 0 0) := (blk_cell BK300.out 1).trans rfl
        have hfz44_0 := blk_frozen BK300.out 0
        have hfz44_1 := blk_frozen BK300.out 1
        have hnb45 := NB289_278.out
        have hnc45 := NB278_289.out
        have hnb46 := NB289_294.out
        have hnc46 := NB294_289.out
        have hcz47_0 : w33.cell? ⟨gb289, 0, none⟩ = some (.int .i64 t284) := (blk_cell BK289.out 0).trans rfl
        have hcz47_1 : w33.cell? ⟨gb289, 1, none⟩ = some (.slice Ao22 t285.length co22) := (blk_cell BK289.out 1).trans rfl
        have hfz47_0 := blk_frozen BK289.out 0
        have hfz47_1 := blk_frozen BK289.out 1
        go_wp2_with (first | ((with_reducible refine gate_callee (f := 15) rfl ?_); refine goesL_ (some 34) rfl rfl Try.func15 (by kernel_rfl) rfl #[.agg #[.int .i64 t295, .slice Ao38 t296.length co38], .agg #[.int .i64 t284, .slice Ao22 t285.length co22]] rfl q67 ?_; (with_reducible refine (laws_eqCyclo.calls k t295 _ _ t296 t284 _ _ t285 true _ ?side1 ?side2 ?side3 ?side4 A39.out).mono ?_); (case side1 => refine (Kd.R_reads' (e := 2) (base := w.heap.size) (ok := fun k_ => (((True ∧ some k_ ≠ (.slice Ao17 t281.length co17 : Value).ownBlock) ∧ some k_ ≠ (.slice Ao22 t285.length co22 : Value).ownBlock) ∧ some k_ ≠ (.slice Ao29 t291.length co29 : Value).ownBlock)) (n := t296.length) (c := co38) ?_).2.2; exact q23); (case side2 => exact (Kd.R_reads' HO298.out).2.1); (case side3 => refine (Kd.R_reads' (e := 2) (base := w.heap.size) (ok := fun k_ => ((some k_ ≠ (.slice Ao17 t281.length co17 : Value).ownBlock ∧ some k_ ≠ (.slice Ao29 t291.length co29 : Value).ownBlock) ∧ some k_ ≠ (.slice Ao38 t296.length co38 : Value).ownBlock)) (n := t285.length) (c := co22) ?_).2.2; exact q24); (case side4 => exact (Kd.R_reads' HO287.out).2.1); rintro e w48 ⟨rfl, hb⟩; refine ⟨_, rfl, ?_⟩; have n0_ := Aside0.mk (Kd.R_below q25 hb); have n1_ := Aside0.mk (Kd.R_below q24 hb); have n2_ := Aside0.mk (Kd.R_below q26 hb); have n3_ := Aside0.mk (Kd.R_below q23 hb); have n4_ := Aside0.mk (blk_below (g := gb278) (o := .cells #[.int .i64 a0_0, .slice A0_1 l0_1.length c0_1] 30 (0, 0)) q8 hb); have n5_ := Aside0.mk (blk_below (g := gb289) (o := .cells #[.int .i64 t284, .slice Ao22 t285.length co22] 32 (0, 0)) q9 hb); have n6_ := Aside0.mk (blk_below (g := gb294) (o := .cells #[.int .i64 t290, .slice Ao29 t291.length co29] 32 (0, 0)) q10 hb); have n7_ := Aside0.mk (blk_below (g := gb300) (o := .cells #[.int .i64 t295, .slice Ao38 t296.length co38] 32 (0, 0)) q3 hb); have n8_ := Aside0.mk (below_step q28 hb); clear HO283; clear HO287; clear HO293; clear HO298; clear BK278; clear BK289; clear BK294; clear BK300; clear HB; have HO283 := n0_; have HO287 := n1_; have HO293 := n2_; have HO298 := n3_; have BK278 := n4_; have BK289 := n5_; have BK294 := n6_; have BK300 := n7_; have HB := n8_; clear n0_ n1_ n2_ n3_ n4_ n5_ n6_ n7_ n8_; (try clear hb); (try clear hb2); (try clear hk); (try clear hi)))
        go_meet
        case rel => exact ⟨_, ((t299 != t288)), q126, H', ⟨by first | omega | exact Nat.le_refl _⟩, ⟨by (with_reducible repeat (first | apply Kd.R_alloc | apply Kd.R_drewN | apply Kd.R_drew)); exact Kd.R_mono HO287.out (fun _ hk => ⟨hk.1.2, hk.2⟩)⟩, ⟨by (with_reducible repeat (first | apply Kd.R_alloc | apply Kd.R_drewN | apply Kd.R_drew)); exact Kd.R_mono HO293.out (fun _ hk => ⟨hk.1.2, hk.2⟩)⟩, ⟨by (with_reducible repeat (first | apply Kd.R_alloc | apply Kd.R_drewN | apply Kd.R_drew)); exact Kd.R_mono HO298.out (fun _ hk => ⟨hk.1.2, hk.2⟩)⟩, ⟨by (with_reducible repeat (first | refine blk_drewN ?_ _ | refine blk_drew ?_ | refine blk_alloc ?_ _)); exact BK278.out⟩, ⟨by (with_reducible repeat (first | refine blk_drewN ?_ _ | refine blk_drew ?_ | refine blk_alloc ?_ _)); exact BK289.out⟩, ⟨by (with_reducible repeat (first | refine blk_drewN ?_ _ | refine blk_drew ?_ | refine blk_alloc ?_ _)); exact BK294.out⟩, ⟨by (with_reducible repeat (first | refine blk_drewN ?_ _ | refine blk_drew ?_ | refine blk_alloc ?_ _)); exact BK300.out⟩, ⟨by repeat (first | (with_reducible first | exact HB.out | apply below_alloc | apply pw_below_drewN | apply below_drew1 | refine below_set ?_ GE278.out | refine below_set ?_ GE289.out | refine below_set ?_ GE294.out | refine below_set ?_ GE300.out) | exact HB.out)⟩⟩
      · replace c40 := Bool.eq_false_iff.mpr c40
        subst c40
        have H1 : (laws_FnExactPrimaryAssociate.j0 k t288 t299 true a0_0 l0_1 t284 t285 t290 t291 t295 t296) = some r := by rw [if_neg (show ¬ (false = true) by decide)] at H; exact H
        clear H
        have H := H1
        clear H1
        have H' := Aside0.mk H
        clear H
        have hnb49 := NB300_278.out
        have hnc49 := NB278_300.out
        have hnb50 := NB300_289.out
        have hnc50 := NB289_300.out
        have hnb51 := NB300_294.out
        have hnc51 := NB294_300.out
        have hcz52_0 : w33.cell? ⟨gb300, 0, none⟩ = some (.int .i64 0) := (blk_cell BK300.out 0).trans rfl
        have hcz52_1 : w33.cell? ⟨gb300, 1, none⟩ = some (.slice none 0 0) := (blk_cell BK300.out 1).trans rfl
        have hfz52_0 := blk_frozen BK300.out 0
        have hfz52_1 := blk_frozen BK300.out 1
        have hnb53 := NB289_278.out
        have hnc53 := NB278_289.out
        have hnb54 := NB289_294.out
        have hnc54 := NB294_289.out
        have hcz55_0 : w33.cell? ⟨gb289, 0, none⟩ = some (.int .i64 t284) := (blk_cell BK289.out 0).trans rfl
        have hcz55_1 : w33.cell? ⟨gb289, 1, none⟩ = some (.slice Ao22 t285.length co22) := (blk_cell BK289.out 1).trans rfl
        have hfz55_0 := blk_frozen BK289.out 0
        have hfz55_1 := blk_frozen BK289.out 1
        go_wp2_with (first | ((with_reducible refine gate_callee (f := 15) rfl ?_); refine goesL_ (some 34) rfl rfl Try.func15 (by kernel_rfl) rfl #[.agg #[.int .i64 t295, .slice Ao38 t296.length co38], .agg #[.int .i64 t284, .slice Ao22 t285.length co22]] rfl q67 ?_; (with_reducible refine (laws_eqCyclo.calls k t295 _ _ t296 t284 _ _ t285 false _ ?side1 ?side2 ?side3 ?side4 A39.out).mono ?_); (case side1 => refine (Kd.R_reads' (e := 2) (base := w.heap.size) (ok := fun k_ => (((True ∧ some k_ ≠ (.slice Ao17 t281.length co17 : Value).ownBlock) ∧ some k_ ≠ (.slice Ao22 t285.length co22 : Value).ownBlock) ∧ some k_ ≠ (.slice Ao29 t291.length co29 : Value).ownBlock)) (n := t296.length) (c := co38) ?_).2.2; exact q23); (case side2 => exact (Kd.R_reads' HO298.out).2.1); (case side3 => refine (Kd.R_reads' (e := 2) (base := w.heap.size) (ok := fun k_ => ((some k_ ≠ (.slice Ao17 t281.length co17 : Value).ownBlock ∧ some k_ ≠ (.slice Ao29 t291.length co29 : Value).ownBlock) ∧ some k_ ≠ (.slice Ao38 t296.length co38 : Value).ownBlock)) (n := t285.length) (c := co22) ?_).2.2; exact q24); (case side4 => exact (Kd.R_reads' HO287.out).2.1); rintro e w56 ⟨rfl, hb⟩; refine ⟨_, rfl, ?_⟩; have n0_ := Aside0.mk (Kd.R_below q25 hb); have n1_ := Aside0.mk (Kd.R_below q24 hb); have n2_ := Aside0.mk (Kd.R_below q26 hb); have n3_ := Aside0.mk (Kd.R_below q23 hb); have n4_ := Aside0.mk (blk_below (g := gb278) (o := .cells #[.int .i64 a0_0, .slice A0_1 l0_1.length c0_1] 30 (0, 0)) q8 hb); have n5_ := Aside0.mk (blk_below (g := gb289) (o := .cells #[.int .i64 t284, .slice Ao22 t285.length co22] 32 (0, 0)) q9 hb); have n6_ := Aside0.mk (blk_below (g := gb294) (o := .cells #[.int .i64 t290, .slice Ao29 t291.length co29] 32 (0, 0)) q10 hb); have n7_ := Aside0.mk (blk_below (g := gb300) (o := .cells #[.int .i64 t295, .slice Ao38 t296.length co38] 32 (0, 0)) q3 hb); have n8_ := Aside0.mk (below_step q28 hb); clear HO283; clear HO287; clear HO293; clear HO298; clear BK278; clear BK289; clear BK294; clear BK300; clear HB; have HO283 := n0_; have HO287 := n1_; have HO293 := n2_; have HO298 := n3_; have BK278 := n4_; have BK289 := n5_; have BK294 := n6_; have BK300 := n7_; have HB := n8_; clear n0_ n1_ n2_ n3_ n4_ n5_ n6_ n7_ n8_; (try clear hb); (try clear hb2); (try clear hk); (try clear hi)))
        go_meet
        case rel => exact ⟨_, (true), q126, H', ⟨by first | omega | exact Nat.le_refl _⟩, ⟨by (with_reducible repeat (first | apply Kd.R_alloc | apply Kd.R_drewN | apply Kd.R_drew)); exact Kd.R_mono HO287.out (fun _ hk => ⟨hk.1.2, hk.2⟩)⟩, ⟨by (with_reducible repeat (first | apply Kd.R_alloc | apply Kd.R_drewN | apply Kd.R_drew)); exact Kd.R_mono HO293.out (fun _ hk => ⟨hk.1.2, hk.2⟩)⟩, ⟨by (with_reducible repeat (first | apply Kd.R_alloc | apply Kd.R_drewN | apply Kd.R_drew)); exact Kd.R_mono HO298.out (fun _ hk => ⟨hk.1.2, hk.2⟩)⟩, ⟨by (with_reducible repeat (first | refine blk_drewN ?_ _ | refine blk_drew ?_ | refine blk_alloc ?_ _)); exact BK278.out⟩, ⟨by (with_reducible repeat (first | refine blk_drewN ?_ _ | refine blk_drew ?_ | refine blk_alloc ?_ _)); exact BK289.out⟩, ⟨by (with_reducible repeat (first | refine blk_drewN ?_ _ | refine blk_drew ?_ | refine blk_alloc ?_ _)); exact BK294.out⟩, ⟨by (with_reducible repeat (first | refine blk_drewN ?_ _ | refine blk_drew ?_ | refine blk_alloc ?_ _)); exact BK300.out⟩, ⟨by repeat (first | (with_reducible first | exact HB.out | apply below_alloc | apply pw_below_drewN | apply below_drew1 | refine below_set ?_ GE278.out | refine below_set ?_ GE289.out | refine below_set ?_ GE294.out | refine below_set ?_ GE300.out) | exact HB.out)⟩⟩
    case rest =>
      clear HC11
      try clear c1
      try clear c2
      try clear p2
      try clear c3
      try clear c3b0
      try clear c4
      try clear c5
      try clear c11
      try clear c12
      try clear c13
      try clear c14
      try clear c15
      try clear c20
      try clear c26
      try clear c27
      try clear c34
      try clear c35
      try clear c36
      try clear c40
      try clear c41
      try clear c42
      try clear c43
      try clear c45
      try clear c46
      try clear c49
      try clear c50
      try clear c51
      try clear c53
      try clear c54
      try clear hcz13_0
      try clear hcz13_1
      try clear hcz15_0
      try clear hcz15_1
      try clear hcz21_0
      try clear hcz21_1
      try clear hcz23_0
      try clear hcz23_1
      try clear hcz28_0
      try clear hcz28_1
      try clear hcz31_0
      try clear hcz31_1
      try clear hcz37_0
      try clear hcz37_1
      try clear hcz44_0
      try clear hcz44_1
      try clear hcz47_0
      try clear hcz47_1
      try clear hcz52_0
      try clear hcz52_1
      try clear hcz55_0
      try clear hcz55_1
      try clear hcz5_0
      try clear hcz5_1
      try clear hfz13_0
      try clear hfz13_1
      try clear hfz15_0
      try clear hfz15_1
      try clear hfz21_0
      try clear hfz21_1
      try clear hfz23_0
      try clear hfz23_1
      try clear hfz28_0
      try clear hfz28_1
      try clear hfz31_0
      try clear hfz31_1
      try clear hfz37_0
      try clear hfz37_1
      try clear hfz44_0
      try clear hfz44_1
      try clear hfz47_0
      try clear hfz47_1
      try clear hfz52_0
      try clear hfz52_1
      try clear hfz55_0
      try clear hfz55_1
      try clear hfz5_0
      try clear hfz5_1
      obtain ⟨kq, x40_10, rfl, HA, HJ10, HO_290001, HO_295001, HO_301001, BK278, BK289, BK294, BK300, HB⟩ := hcut
      cases kq with
      | zero => exact absurd HA.out (by simp [laws_FnExactPrimaryAssociate.j0])
      | succ kj10 =>
        have H := HA.out
        clear HA
        simp only [laws_FnExactPrimaryAssociate.j0] at H
        by_cases c57 : x40_10 = true
        · subst c57
          have H1 : (some false) = some r := by rw [if_pos rfl] at H; exact H
          clear H
          have H := H1
          clear H1
          obtain rfl := Option.some.inj H
          go_wp2
          go_ret
          exact ⟨by first | rfl | (simp [errW_none, errW_some] <;> rfl) | (simp [*, errW_none, errW_some] <;> rfl), by repeat (first | (with_reducible first | exact HB.out | apply below_alloc | apply pw_below_drewN | apply below_drew1 | refine below_set ?_ GE278.out | refine below_set ?_ GE289.out | refine below_set ?_ GE294.out | refine below_set ?_ GE300.out) | exact HB.out)⟩
        · replace c57 := Bool.eq_false_iff.mpr c57
          subst c57
          have H1 : ((laws_toCyclo.f kj10 a0_0 l0_1).bind fun bt302 => ((laws_eqCyclo.f kj10 t290 t291 bt302.1 bt302.2).bind fun t306 => (if t306 = true then ((laws_markCyclo.f kj10 t290 t291 1).bind fun bt307 => (if bt307.1 < 0 then (laws_FnExactPrimaryAssociate.j1 kj10 t288 true a0_0 l0_1 t284 t285 t295 t296) else ((laws_eqCyclo.f kj10 t295 t296 t284 t285).bind fun t309 => (if t309 = true then (laws_FnExactPrimaryAssociate.j1 kj10 t288 (t299 != t288) a0_0 l0_1 t284 t285 t295 t296) else (laws_FnExactPrimaryAssociate.j1 kj10 t288 true a0_0 l0_1 t284 t285 t295 t296))))) else (some false)))) = some r := by rw [if_neg (show ¬ (false = true) by decide)] at H; exact H
          clear H
          have H := H1
          clear H1
          replace H := Option.bind_eq_some_iff.mp H
          obtain ⟨⟨t302, t303⟩, A580, H⟩ := H
          replace H : ((laws_eqCyclo.f kj10 t290 t291 t302 t303).bind fun t306 => (if t306 = true then ((laws_markCyclo.f kj10 t290 t291 1).bind fun bt307 => (if bt307.1 < 0 then (laws_FnExactPrimaryAssociate.j1 kj10 t288 true a0_0 l0_1 t284 t285 t295 t296) else ((laws_eqCyclo.f kj10 t295 t296 t284 t285).bind fun t309 => (if t309 = true then (laws_FnExactPrimaryAssociate.j1 kj10 t288 (t299 != t288) a0_0 l0_1 t284 t285 t295 t296) else (laws_FnExactPrimaryAssociate.j1 kj10 t288 true a0_0 l0_1 t284 t285 t295 t296))))) else (some false))) = some r := H
          have A58 := Aside0.mk A580
          clear A580
          replace H := Option.bind_eq_some_iff.mp H
          obtain ⟨t306, A590, H⟩ := H
          replace H : (if t306 = true then ((laws_markCyclo.f kj10 t290 t291 1).bind fun bt307 => (if bt307.1 < 0 then (laws_FnExactPrimaryAssociate.j1 kj10 t288 true a0_0 l0_1 t284 t285 t295 t296) else ((laws_eqCyclo.f kj10 t295 t296 t284 t285).bind fun t309 => (if t309 = true then (laws_FnExactPrimaryAssociate.j1 kj10 t288 (t299 != t288) a0_0 l0_1 t284 t285 t295 t296) else (laws_FnExactPrimaryAssociate.j1 kj10 t288 true a0_0 l0_1 t284 t285 t295 t296))))) else (some false)) = some r := H
          have A59 := Aside0.mk A590
          clear A590
          by_cases c60 : t306 = true
          · subst c60
            have H1 : ((laws_markCyclo.f kj10 t290 t291 1).bind fun bt307 => (if bt307.1 < 0 then (laws_FnExactPrimaryAssociate.j1 kj10 t288 true a0_0 l0_1 t284 t285 t295 t296) else ((laws_eqCyclo.f kj10 t295 t296 t284 t285).bind fun t309 => (if t309 = true then (laws_FnExactPrimaryAssociate.j1 kj10 t288 (t299 != t288) a0_0 l0_1 t284 t285 t295 t296) else (laws_FnExactPrimaryAssociate.j1 kj10 t288 true a0_0 l0_1 t284 t285 t295 t296))))) = some r := by rw [if_pos rfl] at H; exact H
            clear H
            have H := H1
            clear H1
            replace H := Option.bind_eq_some_iff.mp H
            obtain ⟨⟨t307, t308⟩, A610, H⟩ := H
            replace H : (if t307 < 0 then (laws_FnExactPrimaryAssociate.j1 kj10 t288 true a0_0 l0_1 t284 t285 t295 t296) else ((laws_eqCyclo.f kj10 t295 t296 t284 t285).bind fun t309 => (if t309 = true then (laws_FnExactPrimaryAssociate.j1 kj10 t288 (t299 != t288) a0_0 l0_1 t284 t285 t295 t296) else (laws_FnExactPrimaryAssociate.j1 kj10 t288 true a0_0 l0_1 t284 t285 t295 t296)))) = some r := H
            have A61 := Aside0.mk A610
            clear A610
            have HC62 := Aside0.mk H
            clear H
            try go_wp2
            have n0_ := Aside0.mk (Kd.R_drew HO_290001.out)
            have n1_ := Aside0.mk (Kd.R_drew HO_295001.out)
            have n2_ := Aside0.mk (Kd.R_drew HO_301001.out)
            have n3_ := Aside0.mk (blk_drew BK278.out)
            have n4_ := Aside0.mk (blk_drew BK289.out)
            have n5_ := Aside0.mk (blk_drew BK294.out)
            have n6_ := Aside0.mk (blk_drew BK300.out)
            have n7_ := Aside0.mk (below_drew1 HB.out)
            clear HO_290001
            clear HO_295001
            clear HO_301001
            clear BK278
            clear BK289
            clear BK294
            clear BK300
            clear HB
            have HO_290001 := n0_
            have HO_295001 := n1_
            have HO_301001 := n2_
            have BK278 := n3_
            have BK289 := n4_
            have BK294 := n5_
            have BK300 := n6_
            have HB := n7_
            clear n0_ n1_ n2_ n3_ n4_ n5_ n6_ n7_
            refine start_ (n := 5) (S := fun w' => w'.cell? ⟨gb294, 0, none⟩ = some (.int .i64 t290) ∧ w'.cell? ⟨gb294, 1, none⟩ = some (.slice Ao29 t291.length co29) ∧ w'.cell? ⟨gb278, 0, none⟩ = some (.int .i64 a0_0) ∧ w'.cell? ⟨gb278, 1, none⟩ = some (.slice A0_1 l0_1.length c0_1)) (ds := []) #[false, false, false, false, false] (by kernel_rfl) rfl rfl ⟨(blk_cell BK294.out 0).trans rfl, (blk_cell BK294.out 1).trans rfl, (blk_cell BK278.out 0).trans rfl, (blk_cell BK278.out 1).trans rfl⟩ (fun hHeld => ?_)
            generalize wc.drew = w63 at HO_290001 HO_295001 HO_301001 BK278 BK289 BK294 BK300 HB hHeld ⊢
            refine take_ (i := 0) (N := some 41) (v := ?_) (a' := ?_) #[true, false, false, false, false] rfl rfl (by kernel_rfl) (fun _ _ _ h => h) (Or.inl ⟨by rfl, ?_⟩) hHeld ?_ ?_
            rotate_left
            · rintro w' ⟨s0, s1, s2, s3⟩
              go_simp
              with_reducible rfl
            rotate_left
            · simp only [Act.put, List.setIfInBounds_toArray, List.set_cons_zero, List.set_cons_succ, i64_w, i32_w]
              rfl
            refine take_ (i := 1) (N := some 42) (v := ?_) (a' := ?_) #[true, true, false, false, false] rfl rfl (by kernel_rfl) (fun _ _ _ h => h) (Or.inl ⟨by rfl, ?_⟩) hHeld ?_ ?_
            rotate_left
            · rintro w' ⟨s0, s1, s2, s3⟩
              go_simp
              with_reducible rfl
            rotate_left
            · simp only [Act.put, List.setIfInBounds_toArray, List.set_cons_zero, List.set_cons_succ, i64_w, i32_w]
              rfl
            refine one_ (i := 2) (N := some 43) #[true, true, true, false, false] rfl rfl (by kernel_rfl) (by decide) (fun K hK => ?_)
            refine goes_ Try.func13 (by kernel_rfl) rfl #[.agg #[.int .i64 a0_0, .slice A0_1 l0_1.length c0_1]] (by rfl) rfl rfl q67 ?_
            with_reducible refine (laws_toCyclo.calls kj10 a0_0 _ _ l0_1 t302 t303 _ ?side1 ?side2 A58.out).mono ?_
            (case side1 => repeat (first | exact (Kd.C_below HR0_1.out HB.out) | (with_reducible refine Kd.C_alloc ?_ _) | (with_reducible refine Kd.C_drewN ?_ _) | (with_reducible refine Kd.C_drew ?_)))
            (case side2 => exact HC0_1.out)
            rintro e w64 ⟨v304, rfl, ho0, hb⟩
            refine ⟨_, rfl, ?_⟩
            have n0_ := Aside0.mk (Kd.R_elder' q103 (Kd.R_base ho0) hb)
            have n1_ := Aside0.mk (Kd.R_elder' q104 (Kd.R_base ho0) hb)
            have n2_ := Aside0.mk (Kd.R_elder' q105 (Kd.R_base ho0) hb)
            have n3_ := Aside0.mk (Kd.R_lower (Kd.R_new' (Kd.R_new' (Kd.R_new' ho0 (Kd.R_lt q103)) (Kd.R_lt q104)) (Kd.R_lt q105)) (below_size q28))
            have n4_ := Aside0.mk (blk_below (g := gb278) (o := .cells #[.int .i64 a0_0, .slice A0_1 l0_1.length c0_1] 30 (0, 0)) q96 hb)
            have n5_ := Aside0.mk (blk_below (g := gb289) (o := .cells #[.int .i64 t284, .slice Ao22 t285.length co22] 32 (0, 0)) q97 hb)
            have n6_ := Aside0.mk (blk_below (g := gb294) (o := .cells #[.int .i64 t290, .slice Ao29 t291.length co29] 32 (0, 0)) q98 hb)
            have n7_ := Aside0.mk (blk_below (g := gb300) (o := .cells #[.int .i64 t295, .slice Ao38 t296.length co38] 32 (0, 0)) q99 hb)
            have n8_ := Aside0.mk (below_step q28 hb)
            clear HO_290001
            clear HO_295001
            clear HO_301001
            clear BK278
            clear BK289
            clear BK294
            clear BK300
            clear HB
            have HO_290001 := n0_
            have HO_295001 := n1_
            have HO_301001 := n2_
            have HO305 := n3_
            have BK278 := n4_
            have BK289 := n5_
            have BK294 := n6_
            have BK300 := n7_
            have HB := n8_
            clear n0_ n1_ n2_ n3_ n4_ n5_ n6_ n7_ n8_
            (try clear hb)
            (try clear hb2)
            (try clear hk)
            (try clear hi)
            (try clear ho0)
            obtain ⟨Ao65, co65, eo65⟩ := Kd.R_slice HO305.out
            (first | subst eo65 | (injection eo65 with f1_ f2_ f3_; have f4_ := f1_.symm; have f5_ := f3_.symm; clear f1_ f2_ f3_; subst f4_; subst f5_))
            refine hK.out _ _ ⟨(blk_cell BK294.out 0).trans rfl, (blk_cell BK294.out 1).trans rfl, (blk_cell BK278.out 0).trans rfl, (blk_cell BK278.out 1).trans rfl⟩ (fun hHeld => ?_)
            clear hK K
            refine norm_ (a' := ?_) ?_ ?_
            rotate_left
            · show Act.put _ (some 43) _ = _
              simp only [Act.put, List.setIfInBounds_toArray, List.set_cons_zero, List.set_cons_succ, i64_w, i32_w]
              rfl
            refine one_ (i := 3) (N := some 44) #[true, true, true, true, false] rfl rfl (by kernel_rfl) (by decide) (fun K hK => ?_)
            refine goes_ Try.func15 (by kernel_rfl) rfl #[.agg #[.int .i64 t290, .slice Ao29 t291.length co29], .agg #[.int .i64 t302, .slice Ao65 t303.length co65]] (by rfl) rfl rfl q67 ?_
            with_reducible refine (laws_eqCyclo.calls kj10 t290 _ _ t291 t302 _ _ t303 true _ ?side1 ?side2 ?side3 ?side4 A59.out).mono ?_
            (case side1 => repeat (first | exact (Kd.R_reads' HO_295001.out).2.2 | (with_reducible refine Kd.C_alloc ?_ _) | (with_reducible refine Kd.C_drewN ?_ _) | (with_reducible refine Kd.C_drew ?_)))
            (case side2 => exact (Kd.R_reads' HO_295001.out).2.1)
            (case side3 => repeat (first | exact (Kd.R_reads' HO305.out).2.2 | (with_reducible refine Kd.C_alloc ?_ _) | (with_reducible refine Kd.C_drewN ?_ _) | (with_reducible refine Kd.C_drew ?_)))
            (case side4 => exact (Kd.R_reads' HO305.out).2.1)
            rintro e w66 ⟨rfl, hb⟩
            refine ⟨_, rfl, ?_⟩
            have n0_ := Aside0.mk (Kd.R_below q103 hb)
            have n1_ := Aside0.mk (Kd.R_below q104 hb)
            have n2_ := Aside0.mk (Kd.R_below q105 hb)
            have n3_ := Aside0.mk (Kd.R_below q121 hb)
            have n4_ := Aside0.mk (blk_below (g := gb278) (o := .cells #[.int .i64 a0_0, .slice A0_1 l0_1.length c0_1] 30 (0, 0)) q96 hb)
            have n5_ := Aside0.mk (blk_below (g := gb289) (o := .cells #[.int .i64 t284, .slice Ao22 t285.length co22] 32 (0, 0)) q97 hb)
            have n6_ := Aside0.mk (blk_below (g := gb294) (o := .cells #[.int .i64 t290, .slice Ao29 t291.length co29] 32 (0, 0)) q98 hb)
            have n7_ := Aside0.mk (blk_below (g := gb300) (o := .cells #[.int .i64 t295, .slice Ao38 t296.length co38] 32 (0, 0)) q99 hb)
            have n8_ := Aside0.mk (below_step q28 hb)
            clear HO_290001
            clear HO_295001
            clear HO_301001
            clear HO305
            clear BK278
            clear BK289
            clear BK294
            clear BK300
            clear HB
            have HO_290001 := n0_
            have HO_295001 := n1_
            have HO_301001 := n2_
            have HO305 := n3_
            have BK278 := n4_
            have BK289 := n5_
            have BK294 := n6_
            have BK300 := n7_
            have HB := n8_
            clear n0_ n1_ n2_ n3_ n4_ n5_ n6_ n7_ n8_
            (try clear hb)
            (try clear hb2)
            (try clear hk)
            (try clear hi)
            refine hK.out _ _ ⟨(blk_cell BK294.out 0).trans rfl, (blk_cell BK294.out 1).trans rfl, (blk_cell BK278.out 0).trans rfl, (blk_cell BK278.out 1).trans rfl⟩ (fun hHeld => ?_)
            clear hK K
            refine norm_ (a' := ?_) ?_ ?_
            rotate_left
            · show Act.put _ (some 44) _ = _
              simp only [Act.put, List.setIfInBounds_toArray, List.set_cons_zero, List.set_cons_succ, i64_w, i32_w]
              rfl
            refine pure_ (i := 4) (N := some 45) (v := ?_) (a' := ?_) #[true, true, true, true, true] rfl rfl (by kernel_rfl) (fun _ _ _ h => h) (Or.inl ⟨by rfl, ?_⟩) ?_ ?_
            rotate_left
            · intro w'
              go_simp
              with_reducible rfl
            rotate_left
            · simp only [Act.put, List.setIfInBounds_toArray, List.set_cons_zero, List.set_cons_succ, i64_w, i32_w]
              rfl
            refine done_ (by kernel_rfl) ?_
            have hnb67 := NB294_278.out
            have hnc67 := NB278_294.out
            have hnb68 := NB294_289.out
            have hnc68 := NB289_294.out
            have hnb69 := NB294_300.out
            have hnc69 := NB300_294.out
            have hcz70_0 : w66.cell? ⟨gb294, 0, none⟩ = some (.int .i64 t290) := (blk_cell BK294.out 0).trans rfl
            have hcz70_1 : w66.cell? ⟨gb294, 1, none⟩ = some (.slice Ao29 t291.length co29) := (blk_cell BK294.out 1).trans rfl
            have hfz70_0 := blk_frozen BK294.out 0
            have hfz70_1 := blk_frozen BK294.out 1
            go_upto_region 14 with (first | ((with_reducible refine gate_callee (f := 16) rfl ?_); refine goesL_ (some 48) rfl rfl Try.func16 (by kernel_rfl) rfl #[.agg #[.int .i64 t290, .slice Ao29 t291.length co29], .int .i64 1] rfl q67 ?_; (with_reducible refine (laws_markCyclo.calls kj10 t290 (fun k_ => some k_ = (.slice Ao29 t291.length co29 : Value).ownBlock) (.slice Ao29 t291.length co29) t291 1 t307 t308 w _ ?side1 ?side2 A61.out).mono ?_); (case side1 => repeat (first | (with_reducible first | exact HB.out | apply below_alloc | apply pw_below_drewN | apply below_drew1 | refine below_set ?_ GE278.out | refine below_set ?_ GE289.out | refine below_set ?_ GE294.out | refine below_set ?_ GE300.out) | exact HB.out)); (case side2 => exact Kd.R_tight rfl HO_295001.out); rintro e w71 ⟨rfl, hy0, hb, hkp⟩; refine ⟨_, rfl, ?_⟩; have n0_ := Aside0.mk (Kd.R_mono (ok' := fun k_ => some k_ ≠ (.slice Ao29 t291.length co29 : Value).ownBlock ∧ some k_ ≠ (.slice Ao38 t296.length co38 : Value).ownBlock ∧ some k_ ≠ (.slice Ao65 t303.length co65 : Value).ownBlock) (Kd.R_keptB (HO_290001.out) hkp (fun k_ hk_ hs_ => (hk_.1.1) hs_)) (fun k_ hk_ => ⟨hk_.1.1.1, hk_.1.1.2, hk_.1.2⟩)); have n1_ := Aside0.mk (Kd.R_reok rfl hy0 (fun k_ e_ => HO_295001.out.1 k_ e_)); have n2_ := Aside0.mk (Kd.R_mono (ok' := fun k_ => some k_ ≠ (.slice Ao22 t285.length co22 : Value).ownBlock ∧ some k_ ≠ (.slice Ao29 t291.length co29 : Value).ownBlock ∧ some k_ ≠ (.slice Ao65 t303.length co65 : Value).ownBlock) (Kd.R_keptB (HO_301001.out) hkp (fun k_ hk_ hs_ => (hk_.1.2) hs_)) (fun k_ hk_ => ⟨hk_.1.1.1, hk_.1.1.2, hk_.1.2⟩)); have n3_ := Aside0.mk (blk_kept q96 hkp (fun hs_ => (fun e_ => (Kd.R_ne HO_295001.out BK278.out (by decide)) e_) hs_)); have n4_ := Aside0.mk (blk_kept q97 hkp (fun hs_ => (fun e_ => (Kd.R_ne HO_295001.out BK289.out (by decide)) e_) hs_)); have n5_ := Aside0.mk (blk_kept q98 hkp (fun hs_ => (fun e_ => (Kd.R_ne HO_295001.out BK294.out (by decide)) e_) hs_)); have n6_ := Aside0.mk (blk_kept q99 hkp (fun hs_ => (fun e_ => (Kd.R_ne HO_295001.out BK300.out (by decide)) e_) hs_)); have n7_ := Aside0.mk (Kd.R_mono (ok' := fun k_ => some k_ ≠ (.slice Ao22 t285.length co22 : Value).ownBlock ∧ some k_ ≠ (.slice Ao29 t291.length co29 : Value).ownBlock ∧ some k_ ≠ (.slice Ao38 t296.length co38 : Value).ownBlock) (Kd.R_keptB (HO305.out) hkp (fun k_ hk_ hs_ => (hk_.1.2) hs_)) (fun k_ hk_ => ⟨hk_.1.1.1.2, hk_.1.1.2, hk_.1.2⟩)); have n8_ := Aside0.mk (hb); clear HO_290001; clear HO_295001; clear HO_301001; clear BK278; clear BK289; clear BK294; clear BK300; clear HO305; clear HB; have HO_290001 := n0_; have HO_295001 := n1_; have HO_301001 := n2_; have BK278 := n3_; have BK289 := n4_; have BK294 := n5_; have BK300 := n6_; have HO305 := n7_; have HB := n8_; clear n0_ n1_ n2_ n3_ n4_ n5_ n6_ n7_ n8_; (try clear hb); (try clear hkp); (try clear hy0)))
            (try simp only [Act.put, List.setIfInBounds_toArray, List.set_cons_zero, List.set_cons_succ])
            go_cut [61] (fun v61 wc => ∃ (kq : Nat) (x61_61 : Bool), v61 = .bool x61_61 ∧ Aside0 (laws_FnExactPrimaryAssociate.j1 kq t288 x61_61 a0_0 l0_1 t284 t285 t295 t296 = some r) ∧ Aside0 (kq ≤ kj10) ∧ Aside0 (Kd.R (Kd.int .i64) 2 wc w.heap.size (fun k_ => some k_ ≠ ((.slice Ao29 t291.length co29) : Value).ownBlock ∧ some k_ ≠ ((.slice Ao38 t296.length co38) : Value).ownBlock) (.slice Ao22 t285.length co22) t285) ∧ Aside0 (Kd.R (Kd.int .i64) 2 wc w.heap.size (fun k_ => some k_ ≠ ((.slice Ao22 t285.length co22) : Value).ownBlock ∧ some k_ ≠ ((.slice Ao38 t296.length co38) : Value).ownBlock) (.slice Ao29 t291.length co29) t308) ∧ Aside0 (Kd.R (Kd.int .i64) 2 wc w.heap.size (fun k_ => some k_ ≠ ((.slice Ao22 t285.length co22) : Value).ownBlock ∧ some k_ ≠ ((.slice Ao29 t291.length co29) : Value).ownBlock) (.slice Ao38 t296.length co38) t296) ∧ Aside0 (wc.heap[gb278]? = some (.cells #[.int .i64 a0_0, (.slice A0_1 l0_1.length c0_1)] 30 (0, 0))) ∧ Aside0 (wc.heap[gb289]? = some (.cells #[.int .i64 t284, (.slice Ao22 t285.length co22)] 32 (0, 0))) ∧ Aside0 (wc.heap[gb294]? = some (.cells #[.int .i64 t290, (.slice Ao29 t291.length co29)] 32 (0, 0))) ∧ Aside0 (wc.heap[gb300]? = some (.cells #[.int .i64 t295, (.slice Ao38 t296.length co38)] 32 (0, 0))) ∧ Aside0 (Below w.heap.size w wc))
            case first =>
              have H := HC62.out
              clear HC62
              by_cases c72 : t307 < 0
              · rw [if_pos c72] at H
                have c72b0 : decide (t307 < 0) = true := decide_eq_true c72
                clear c72
                (first | rw [c72b0] | (simp only [i64_w, i32_w]; rw [c72b0]) | skip)
                have H' := Aside0.mk H
                clear H
                go_wp2
                go_meet
                case rel => exact ⟨_, (true), q126, H', ⟨by have := HJ10.out; first | omega | exact Nat.le_refl _⟩, ⟨by (with_reducible repeat (first | apply Kd.R_alloc | apply Kd.R_drewN | apply Kd.R_drew)); exact Kd.R_mono HO_290001.out (fun _ hk => ⟨hk.1, hk.2.1⟩)⟩, ⟨by (with_reducible repeat (first | apply Kd.R_alloc | apply Kd.R_drewN | apply Kd.R_drew)); exact Kd.R_mono HO_295001.out (fun _ hk => ⟨hk.1.1, hk.1.2⟩)⟩, ⟨by (with_reducible repeat (first | apply Kd.R_alloc | apply Kd.R_drewN | apply Kd.R_drew)); exact Kd.R_mono HO_301001.out (fun _ hk => ⟨hk.1, hk.2.1⟩)⟩, ⟨by (with_reducible repeat (first | refine blk_drewN ?_ _ | refine blk_drew ?_ | refine blk_alloc ?_ _)); exact BK278.out⟩, ⟨by (with_reducible repeat (first | refine blk_drewN ?_ _ | refine blk_drew ?_ | refine blk_alloc ?_ _)); exact BK289.out⟩, ⟨by (with_reducible repeat (first | refine blk_drewN ?_ _ | refine blk_drew ?_ | refine blk_alloc ?_ _)); exact BK294.out⟩, ⟨by (with_reducible repeat (first | refine blk_drewN ?_ _ | refine blk_drew ?_ | refine blk_alloc ?_ _)); exact BK300.out⟩, ⟨by repeat (first | (with_reducible first | exact HB.out | apply below_alloc | apply pw_below_drewN | apply below_drew1 | refine below_set ?_ GE278.out | refine below_set ?_ GE289.out | refine below_set ?_ GE294.out | refine below_set ?_ GE300.out) | exact HB.out)⟩⟩
              · rw [if_neg c72] at H
                have c72b0 : decide (t307 < 0) = false := decide_eq_false c72
                clear c72
                (first | rw [c72b0] | (simp only [i64_w, i32_w]; rw [c72b0]) | skip)
                replace H := Option.bind_eq_some_iff.mp H
                obtain ⟨t309, A730, H⟩ := H
                replace H : (if t309 = true then (laws_FnExactPrimaryAssociate.j1 kj10 t288 (t299 != t288) a0_0 l0_1 t284 t285 t295 t296) else (laws_FnExactPrimaryAssociate.j1 kj10 t288 true a0_0 l0_1 t284 t285 t295 t296)) = some r := H
                have A73 := Aside0.mk A730
                clear A730
                by_cases c74 : t309 = true
                · subst c74
                  have H1 : (laws_FnExactPrimaryAssociate.j1 kj10 t288 (t299 != t288) a0_0 l0_1 t284 t285 t295 t296) = some r := by rw [if_pos rfl] at H; exact H
                  clear H
                  have H := H1
                  clear H1
                  have H' := Aside0.mk H
                  clear H
                  have hnb75 := NB300_278.out
                  have hnc75 := NB278_300.out
                  have hnb76 := NB300_289.out
                  have hnc76 := NB289_300.out
                  have hnb77 := NB300_294.out
                  have hnc77 := NB294_300.out
                  have hcz78_0 : w71.cell? ⟨gb300, 0, none⟩ = some (.int .i64 t295) := (blk_cell BK300.out 0).trans rfl
                  have hcz78_1 : w71.cell? ⟨gb300, 1, none⟩ = some (.slice Ao38 t296.length co38) := (blk_cell BK300.out 1).trans rfl
                  have hfz78_0 := blk_frozen BK300.out 0
                  have hfz78_1 := blk_frozen BK300.out 1
                  have hnb79 := NB289_278.out
                  have hnc79 := NB278_289.out
                  have hnb80 := NB289_294.out
                  have hnc80 := NB294_289.out
                  have hcz81_0 : w71.cell? ⟨gb289, 0, none⟩ = some (.int .i64 t284) := (blk_cell BK289.out 0).trans rfl
                  have hcz81_1 : w71.cell? ⟨gb289, 1, none⟩ = some (.slice Ao22 t285.length co22) := (blk_cell BK289.out 1).trans rfl
                  have hfz81_0 := blk_frozen BK289.out 0
                  have hfz81_1 := blk_frozen BK289.out 1
                  go_wp2_with (first | (go_at_call 15; (with_reducible refine (laws_eqCyclo.calls kj10 t295 _ _ t296 t284 _ _ t285 true _ ?side1 ?side2 ?side3 ?side4 A73.out).mono ?_); (case side1 => repeat (first | exact (Kd.R_reads' HO_301001.out).2.2 | (with_reducible refine Kd.C_alloc ?_ _) | (with_reducible refine Kd.C_drewN ?_ _) | (with_reducible refine Kd.C_drew ?_))); (case side2 => exact (Kd.R_reads' HO_301001.out).2.1); (case side3 => repeat (first | exact (Kd.R_reads' HO_290001.out).2.2 | (with_reducible refine Kd.C_alloc ?_ _) | (with_reducible refine Kd.C_drewN ?_ _) | (with_reducible refine Kd.C_drew ?_))); (case side4 => exact (Kd.R_reads' HO_290001.out).2.1); rintro e w82 ⟨rfl, hb⟩; have n0_ := Aside0.mk (Kd.R_below q103 hb); have n1_ := Aside0.mk (Kd.R_below q104 hb); have n2_ := Aside0.mk (Kd.R_below q105 hb); have n3_ := Aside0.mk (Kd.R_below q121 hb); have n4_ := Aside0.mk (blk_below (g := gb278) (o := .cells #[.int .i64 a0_0, .slice A0_1 l0_1.length c0_1] 30 (0, 0)) q96 hb); have n5_ := Aside0.mk (blk_below (g := gb289) (o := .cells #[.int .i64 t284, .slice Ao22 t285.length co22] 32 (0, 0)) q97 hb); have n6_ := Aside0.mk (blk_below (g := gb294) (o := .cells #[.int .i64 t290, .slice Ao29 t291.length co29] 32 (0, 0)) q98 hb); have n7_ := Aside0.mk (blk_below (g := gb300) (o := .cells #[.int .i64 t295, .slice Ao38 t296.length co38] 32 (0, 0)) q99 hb); have n8_ := Aside0.mk (below_step q28 hb); clear HO_290001; clear HO_295001; clear HO_301001; clear HO305; clear BK278; clear BK289; clear BK294; clear BK300; clear HB; have HO_290001 := n0_; have HO_295001 := n1_; have HO_301001 := n2_; have HO305 := n3_; have BK278 := n4_; have BK289 := n5_; have BK294 := n6_; have BK300 := n7_; have HB := n8_; clear n0_ n1_ n2_ n3_ n4_ n5_ n6_ n7_ n8_; (try clear hb); (try clear hb2); (try clear hk); (try clear hi)))
                  go_meet
                  case rel => exact ⟨_, ((t299 != t288)), q126, H', ⟨by have := HJ10.out; first | omega | exact Nat.le_refl _⟩, ⟨by (with_reducible repeat (first | apply Kd.R_alloc | apply Kd.R_drewN | apply Kd.R_drew)); exact Kd.R_mono HO_290001.out (fun _ hk => ⟨hk.1, hk.2.1⟩)⟩, ⟨by (with_reducible repeat (first | apply Kd.R_alloc | apply Kd.R_drewN | apply Kd.R_drew)); exact Kd.R_mono HO_295001.out (fun _ hk => ⟨hk.1.1, hk.1.2⟩)⟩, ⟨by (with_reducible repeat (first | apply Kd.R_alloc | apply Kd.R_drewN | apply Kd.R_drew)); exact Kd.R_mono HO_301001.out (fun _ hk => ⟨hk.1, hk.2.1⟩)⟩, ⟨by (with_reducible repeat (first | refine blk_drewN ?_ _ | refine blk_drew ?_ | refine blk_alloc ?_ _)); exact BK278.out⟩, ⟨by (with_reducible repeat (first | refine blk_drewN ?_ _ | refine blk_drew ?_ | refine blk_alloc ?_ _)); exact BK289.out⟩, ⟨by (with_reducible repeat (first | refine blk_drewN ?_ _ | refine blk_drew ?_ | refine blk_alloc ?_ _)); exact BK294.out⟩, ⟨by (with_reducible repeat (first | refine blk_drewN ?_ _ | refine blk_drew ?_ | refine blk_alloc ?_ _)); exact BK300.out⟩, ⟨by repeat (first | (with_reducible first | exact HB.out | apply below_alloc | apply pw_below_drewN | apply below_drew1 | refine below_set ?_ GE278.out | refine below_set ?_ GE289.out | refine below_set ?_ GE294.out | refine below_set ?_ GE300.out) | exact HB.out)⟩⟩
                · replace c74 := Bool.eq_false_iff.mpr c74
                  subst c74
                  have H1 : (laws_FnExactPrimaryAssociate.j1 kj10 t288 true a0_0 l0_1 t284 t285 t295 t296) = some r := by rw [if_neg (show ¬ (false = true) by decide)] at H; exact H
                  clear H
                  have H := H1
                  clear H1
                  have H' := Aside0.mk H
                  clear H
                  have hnb83 := NB300_278.out
                  have hnc83 := NB278_300.out
                  have hnb84 := NB300_289.out
                  have hnc84 := NB289_300.out
                  have hnb85 := NB300_294.out
                  have hnc85 := NB294_300.out
                  have hcz86_0 : w71.cell? ⟨gb300, 0, none⟩ = some (.int .i64 t295) := (blk_cell BK300.out 0).trans rfl
                  have hcz86_1 : w71.cell? ⟨gb300, 1, none⟩ = some (.slice Ao38 t296.length co38) := (blk_cell BK300.out 1).trans rfl
                  have hfz86_0 := blk_frozen BK300.out 0
                  have hfz86_1 := blk_frozen BK300.out 1
                  have hnb87 := NB289_278.out
                  have hnc87 := NB278_289.out
                  have hnb88 := NB289_294.out
                  have hnc88 := NB294_289.out
                  have hcz89_0 : w71.cell? ⟨gb289, 0, none⟩ = some (.int .i64 t284) := (blk_cell BK289.out 0).trans rfl
                  have hcz89_1 : w71.cell? ⟨gb289, 1, none⟩ = some (.slice Ao22 t285.length co22) := (blk_cell BK289.out 1).trans rfl
                  have hfz89_0 := blk_frozen BK289.out 0
                  have hfz89_1 := blk_frozen BK289.out 1
                  go_wp2_with (first | (go_at_call 15; (with_reducible refine (laws_eqCyclo.calls kj10 t295 _ _ t296 t284 _ _ t285 false _ ?side1 ?side2 ?side3 ?side4 A73.out).mono ?_); (case side1 => repeat (first | exact (Kd.R_reads' HO_301001.out).2.2 | (with_reducible refine Kd.C_alloc ?_ _) | (with_reducible refine Kd.C_drewN ?_ _) | (with_reducible refine Kd.C_drew ?_))); (case side2 => exact (Kd.R_reads' HO_301001.out).2.1); (case side3 => repeat (first | exact (Kd.R_reads' HO_290001.out).2.2 | (with_reducible refine Kd.C_alloc ?_ _) | (with_reducible refine Kd.C_drewN ?_ _) | (with_reducible refine Kd.C_drew ?_))); (case side4 => exact (Kd.R_reads' HO_290001.out).2.1); rintro e w90 ⟨rfl, hb⟩; have n0_ := Aside0.mk (Kd.R_below q103 hb); have n1_ := Aside0.mk (Kd.R_below q104 hb); have n2_ := Aside0.mk (Kd.R_below q105 hb); have n3_ := Aside0.mk (Kd.R_below q121 hb); have n4_ := Aside0.mk (blk_below (g := gb278) (o := .cells #[.int .i64 a0_0, .slice A0_1 l0_1.length c0_1] 30 (0, 0)) q96 hb); have n5_ := Aside0.mk (blk_below (g := gb289) (o := .cells #[.int .i64 t284, .slice Ao22 t285.length co22] 32 (0, 0)) q97 hb); have n6_ := Aside0.mk (blk_below (g := gb294) (o := .cells #[.int .i64 t290, .slice Ao29 t291.length co29] 32 (0, 0)) q98 hb); have n7_ := Aside0.mk (blk_below (g := gb300) (o := .cells #[.int .i64 t295, .slice Ao38 t296.length co38] 32 (0, 0)) q99 hb); have n8_ := Aside0.mk (below_step q28 hb); clear HO_290001; clear HO_295001; clear HO_301001; clear HO305; clear BK278; clear BK289; clear BK294; clear BK300; clear HB; have HO_290001 := n0_; have HO_295001 := n1_; have HO_301001 := n2_; have HO305 := n3_; have BK278 := n4_; have BK289 := n5_; have BK294 := n6_; have BK300 := n7_; have HB := n8_; clear n0_ n1_ n2_ n3_ n4_ n5_ n6_ n7_ n8_; (try clear hb); (try clear hb2); (try clear hk); (try clear hi)))
                  go_meet
                  case rel => exact ⟨_, (true), q126, H', ⟨by have := HJ10.out; first | omega | exact Nat.le_refl _⟩, ⟨by (with_reducible repeat (first | apply Kd.R_alloc | apply Kd.R_drewN | apply Kd.R_drew)); exact Kd.R_mono HO_290001.out (fun _ hk => ⟨hk.1, hk.2.1⟩)⟩, ⟨by (with_reducible repeat (first | apply Kd.R_alloc | apply Kd.R_drewN | apply Kd.R_drew)); exact Kd.R_mono HO_295001.out (fun _ hk => ⟨hk.1.1, hk.1.2⟩)⟩, ⟨by (with_reducible repeat (first | apply Kd.R_alloc | apply Kd.R_drewN | apply Kd.R_drew)); exact Kd.R_mono HO_301001.out (fun _ hk => ⟨hk.1, hk.2.1⟩)⟩, ⟨by (with_reducible repeat (first | refine blk_drewN ?_ _ | refine blk_drew ?_ | refine blk_alloc ?_ _)); exact BK278.out⟩, ⟨by (with_reducible repeat (first | refine blk_drewN ?_ _ | refine blk_drew ?_ | refine blk_alloc ?_ _)); exact BK289.out⟩, ⟨by (with_reducible repeat (first | refine blk_drewN ?_ _ | refine blk_drew ?_ | refine blk_alloc ?_ _)); exact BK294.out⟩, ⟨by (with_reducible repeat (first | refine blk_drewN ?_ _ | refine blk_drew ?_ | refine blk_alloc ?_ _)); exact BK300.out⟩, ⟨by repeat (first | (with_reducible first | exact HB.out | apply below_alloc | apply pw_below_drewN | apply below_drew1 | refine below_set ?_ GE278.out | refine below_set ?_ GE289.out | refine below_set ?_ GE294.out | refine below_set ?_ GE300.out) | exact HB.out)⟩⟩
            case rest =>
              clear HC62
              try clear c1
              try clear c2
              try clear p2
              try clear c3
              try clear c3b0
              try clear c4
              try clear c5
              try clear c6
              try clear c7
              try clear c8
              try clear c11
              try clear c12
              try clear c13
              try clear c14
              try clear c15
              try clear c16
              try clear c20
              try clear c26
              try clear c27
              try clear c34
              try clear c35
              try clear c36
              try clear c40
              try clear c41
              try clear c42
              try clear c43
              try clear c45
              try clear c46
              try clear c49
              try clear c50
              try clear c51
              try clear c53
              try clear c54
              try clear c57
              try clear c60
              try clear c67
              try clear c68
              try clear c69
              try clear c72
              try clear c72b0
              try clear c74
              try clear c75
              try clear c76
              try clear c77
              try clear c79
              try clear c80
              try clear c83
              try clear c84
              try clear c85
              try clear c87
              try clear c88
              try clear hcz13_0
              try clear hcz13_1
              try clear hcz15_0
              try clear hcz15_1
              try clear hcz21_0
              try clear hcz21_1
              try clear hcz23_0
              try clear hcz23_1
              try clear hcz28_0
              try clear hcz28_1
              try clear hcz31_0
              try clear hcz31_1
              try clear hcz37_0
              try clear hcz37_1
              try clear hcz44_0
              try clear hcz44_1
              try clear hcz47_0
              try clear hcz47_1
              try clear hcz52_0
              try clear hcz52_1
              try clear hcz55_0
              try clear hcz55_1
              try clear hcz5_0
              try clear hcz5_1
              try clear hcz70_0
              try clear hcz70_1
              try clear hcz78_0
              try clear hcz78_1
              try clear hcz81_0
              try clear hcz81_1
              try clear hcz86_0
              try clear hcz86_1
              try clear hcz89_0
              try clear hcz89_1
              try clear hfz13_0
              try clear hfz13_1
              try clear hfz15_0
              try clear hfz15_1
              try clear hfz21_0
              try clear hfz21_1
              try clear hfz23_0
              try clear hfz23_1
              try clear hfz28_0
              try clear hfz28_1
              try clear hfz31_0
              try clear hfz31_1
              try clear hfz37_0
              try clear hfz37_1
              try clear hfz44_0
              try clear hfz44_1
              try clear hfz47_0
              try clear hfz47_1
              try clear hfz52_0
              try clear hfz52_1
              try clear hfz55_0
              try clear hfz55_1
              try clear hfz5_0
              try clear hfz5_1
              try clear hfz70_0
              try clear hfz70_1
              try clear hfz78_0
              try clear hfz78_1
              try clear hfz81_0
              try clear hfz81_1
              try clear hfz86_0
              try clear hfz86_1
              try clear hfz89_0
              try clear hfz89_1
              try clear p2
              obtain ⟨kq, x61_61, rfl, HA, HJ61, HO_290001, HO_295001, HO_301001, BK278, BK289, BK294, BK300, HB⟩ := hcut
              have hl295001_61 := (Kd.R_reads' HO_295001.out).1
              rw [hl295001_61] at HO_295001
              (try simp only [hl295001_61])
              (try simp only [hl295001_61] at BK278)
              (try simp only [hl295001_61] at BK289)
              (try simp only [hl295001_61] at BK294)
              (try simp only [hl295001_61] at BK300)
              (try simp only [hl295001_61] at HO_290001)
              (try simp only [hl295001_61] at HO_301001)
              cases kq with
              | zero => exact absurd HA.out (by simp [laws_FnExactPrimaryAssociate.j1])
              | succ kj61 =>
                have H := HA.out
                clear HA
                simp only [laws_FnExactPrimaryAssociate.j1] at H
                by_cases c91 : x61_61 = true
                · subst c91
                  have H1 : (some false) = some r := by rw [if_pos rfl] at H; exact H
                  clear H
                  have H := H1
                  clear H1
                  obtain rfl := Option.some.inj H
                  go_wp2
                  go_ret
                  exact ⟨by first | rfl | (simp [errW_none, errW_some] <;> rfl) | (simp [*, errW_none, errW_some] <;> rfl), by repeat (first | (with_reducible first | exact HB.out | apply below_alloc | apply pw_below_drewN | apply below_drew1 | refine below_set ?_ GE278.out | refine below_set ?_ GE289.out | refine below_set ?_ GE294.out | refine below_set ?_ GE300.out) | exact HB.out)⟩
                · replace c91 := Bool.eq_false_iff.mpr c91
                  subst c91
                  have H1 : ((laws_markCyclo.f kj61 t295 t296 1).bind fun bt310 => ((laws_heldCyclo.f kj61 t295 bt310.2 1).bind fun t312 => (if t312 < 0 then (some false) else (if t312 = bt310.1 then ((laws_toCyclo.f kj61 a0_0 l0_1).bind fun bt313 => ((impl_PrimaryAssociate.f kj61 bt313.1 bt313.2).bind fun bt317 => ((laws_eqCyclo.f kj61 bt317.1 bt317.2.1 t284 t285).bind fun t323 => (if t323 = true then (laws_FnExactPrimaryAssociate.j2 kj61 bt310.1 (bt317.2.2 != t288) t295 bt310.2) else (laws_FnExactPrimaryAssociate.j2 kj61 bt310.1 true t295 bt310.2))))) else (some false))))) = some r := by rw [if_neg (show ¬ (false = true) by decide)] at H; exact H
                  clear H
                  have H := H1
                  clear H1
                  replace H := Option.bind_eq_some_iff.mp H
                  obtain ⟨⟨t310, t311⟩, A920, H⟩ := H
                  replace H : ((laws_heldCyclo.f kj61 t295 t311 1).bind fun t312 => (if t312 < 0 then (some false) else (if t312 = t310 then ((laws_toCyclo.f kj61 a0_0 l0_1).bind fun bt313 => ((impl_PrimaryAssociate.f kj61 bt313.1 bt313.2).bind fun bt317 => ((laws_eqCyclo.f kj61 bt317.1 bt317.2.1 t284 t285).bind fun t323 => (if t323 = true then (laws_FnExactPrimaryAssociate.j2 kj61 t310 (bt317.2.2 != t288) t295 t311) else (laws_FnExactPrimaryAssociate.j2 kj61 t310 true t295 t311))))) else (some false)))) = some r := H
                  have A92 := Aside0.mk A920
                  clear A920
                  replace H := Option.bind_eq_some_iff.mp H
                  obtain ⟨t312, A930, H⟩ := H
                  replace H : (if t312 < 0 then (some false) else (if t312 = t310 then ((laws_toCyclo.f kj61 a0_0 l0_1).bind fun bt313 => ((impl_PrimaryAssociate.f kj61 bt313.1 bt313.2).bind fun bt317 => ((laws_eqCyclo.f kj61 bt317.1 bt317.2.1 t284 t285).bind fun t323 => (if t323 = true then (laws_FnExactPrimaryAssociate.j2 kj61 t310 (bt317.2.2 != t288) t295 t311) else (laws_FnExactPrimaryAssociate.j2 kj61 t310 true t295 t311))))) else (some false))) = some r := H
                  have A93 := Aside0.mk A930
                  clear A930
                  by_cases c94 : t312 < 0
                  · rw [if_pos c94] at H
                    have c94b0 : decide (t312 < 0) = true := decide_eq_true c94
                    clear c94
                    obtain rfl := Option.some.inj H
                    have hnb95 := NB300_278.out
                    have hnc95 := NB278_300.out
                    have hnb96 := NB300_289.out
                    have hnc96 := NB289_300.out
                    have hnb97 := NB300_294.out
                    have hnc97 := NB294_300.out
                    have hcz98_0 : wc.cell? ⟨gb300, 0, none⟩ = some (.int .i64 t295) := (blk_cell BK300.out 0).trans rfl
                    have hcz98_1 : wc.cell? ⟨gb300, 1, none⟩ = some (.slice Ao38 t296.length co38) := (blk_cell BK300.out 1).trans rfl
                    have hfz98_0 := blk_frozen BK300.out 0
                    have hfz98_1 := blk_frozen BK300.out 1
                    go_wp2_with (first | ((with_reducible refine gate_callee (f := 16) rfl ?_); refine goesL_ (some 64) rfl rfl Try.func16 (by kernel_rfl) rfl #[.agg #[.int .i64 t295, .slice Ao38 t296.length co38], .int .i64 1] rfl q67 ?_; (with_reducible refine (laws_markCyclo.calls kj61 t295 (fun k_ => some k_ = (.slice Ao38 t296.length co38 : Value).ownBlock) (.slice Ao38 t296.length co38) t296 1 t310 t311 w _ ?side1 ?side2 A92.out).mono ?_); (case side1 => repeat (first | (with_reducible first | exact HB.out | apply below_alloc | apply pw_below_drewN | apply below_drew1 | refine below_set ?_ GE278.out | refine below_set ?_ GE289.out | refine below_set ?_ GE294.out | refine below_set ?_ GE300.out) | exact HB.out)); (case side2 => exact Kd.R_tight rfl HO_301001.out); rintro e w99 ⟨rfl, hy0, hb, hkp⟩; refine ⟨_, rfl, ?_⟩; have n0_ := Aside0.mk (Kd.R_mono (ok' := fun k_ => some k_ ≠ (.slice Ao29 t308.length co29 : Value).ownBlock ∧ some k_ ≠ (.slice Ao38 t296.length co38 : Value).ownBlock) (Kd.R_keptB (HO_290001.out) hkp (fun k_ hk_ hs_ => (hk_.2) hs_)) (fun k_ hk_ => ⟨hk_.1.1, hk_.1.2⟩)); have n1_ := Aside0.mk (Kd.R_mono (ok' := fun k_ => some k_ ≠ (.slice Ao22 t285.length co22 : Value).ownBlock ∧ some k_ ≠ (.slice Ao38 t296.length co38 : Value).ownBlock) (Kd.R_keptB (HO_295001.out) hkp (fun k_ hk_ hs_ => (hk_.2) hs_)) (fun k_ hk_ => ⟨hk_.1.1, hk_.1.2⟩)); have n2_ := Aside0.mk (Kd.R_reok rfl hy0 (fun k_ e_ => HO_301001.out.1 k_ e_)); have n3_ := Aside0.mk (blk_kept q96 hkp (fun hs_ => (fun e_ => (Kd.R_ne HO_301001.out BK278.out (by decide)) e_) hs_)); have n4_ := Aside0.mk (blk_kept q97 hkp (fun hs_ => (fun e_ => (Kd.R_ne HO_301001.out BK289.out (by decide)) e_) hs_)); have n5_ := Aside0.mk (blk_kept q98 hkp (fun hs_ => (fun e_ => (Kd.R_ne HO_301001.out BK294.out (by decide)) e_) hs_)); have n6_ := Aside0.mk (blk_kept q99 hkp (fun hs_ => (fun e_ => (Kd.R_ne HO_301001.out BK300.out (by decide)) e_) hs_)); have n7_ := Aside0.mk (hb); clear HO_290001; clear HO_295001; clear HO_301001; clear BK278; clear BK289; clear BK294; clear BK300; clear HB; have HO_290001 := n0_; have HO_295001 := n1_; have HO_301001 := n2_; have BK278 := n3_; have BK289 := n4_; have BK294 := n5_; have BK300 := n6_; have HB := n7_; clear n0_ n1_ n2_ n3_ n4_ n5_ n6_ n7_; (try clear hb); (try clear hkp); (try clear hy0); have hcz100_0 : w99.cell? ⟨gb300, 0, none⟩ = some (.int .i64 t295) := (blk_cell BK300.out 0).trans rfl; have hcz100_1 : w99.cell? ⟨gb300, 1, none⟩ = some (.slice Ao38 t296.length co38) := (blk_cell BK300.out 1).trans rfl; have hfz100_0 := blk_frozen BK300.out 0; have hfz100_1 := blk_frozen BK300.out 1) | ((with_reducible refine gate_callee (f := 17) rfl ?_); refine goesL_ (some 67) rfl rfl Try.func17 (by kernel_rfl) rfl #[.agg #[.int .i64 t295, .slice Ao38 t311.length co38], .int .i64 1] rfl q34 ?_; (with_reducible refine (laws_heldCyclo.calls kj61 t295 _ _ t311 1 t312 _ ?side1 ?side2 A93.out).mono ?_); (case side1 => repeat (first | exact (Kd.R_reads' HO_301001.out).2.2 | (with_reducible refine Kd.C_alloc ?_ _) | (with_reducible refine Kd.C_drewN ?_ _) | (with_reducible refine Kd.C_drew ?_))); (case side2 => rw [show t311.length = t296.length from (Kd.R_reads' HO_301001.out).1.symm]; exact (Kd.R_reads' HO_301001.out).2.1); rintro e w101 ⟨rfl, hb⟩; refine ⟨_, rfl, ?_⟩; have n0_ := Aside0.mk (Kd.R_below q103 hb); have n1_ := Aside0.mk (Kd.R_below q104 hb); have n2_ := Aside0.mk (Kd.R_below q105 hb); have n3_ := Aside0.mk (blk_below (g := gb278) (o := .cells #[.int .i64 a0_0, .slice A0_1 l0_1.length c0_1] 30 (0, 0)) q96 hb); have n4_ := Aside0.mk (blk_below (g := gb289) (o := .cells #[.int .i64 t284, .slice Ao22 t285.length co22] 32 (0, 0)) q97 hb); have n5_ := Aside0.mk (blk_below (g := gb294) (o := .cells #[.int .i64 t290, .slice Ao29 t308.length co29] 32 (0, 0)) q98 hb); have n6_ := Aside0.mk (blk_below (g := gb300) (o := .cells #[.int .i64 t295, .slice Ao38 t296.length co38] 32 (0, 0)) q99 hb); have n7_ := Aside0.mk (below_step q28 hb); clear HO_290001; clear HO_295001; clear HO_301001; clear BK278; clear BK289; clear BK294; clear BK300; clear HB; have HO_290001 := n0_; have HO_295001 := n1_; have HO_301001 := n2_; have BK278 := n3_; have BK289 := n4_; have BK294 := n5_; have BK300 := n6_; have HB := n7_; clear n0_ n1_ n2_ n3_ n4_ n5_ n6_ n7_; (try clear hb); (try clear hb2); (try clear hk); (try clear hi)))
                    go_ret
                    exact ⟨by first | rfl | (simp [errW_none, errW_some] <;> rfl) | (simp [*, errW_none, errW_some] <;> rfl), by repeat (first | (with_reducible first | exact HB.out | apply below_alloc | apply pw_below_drewN | apply below_drew1 | refine below_set ?_ GE278.out | refine below_set ?_ GE289.out | refine below_set ?_ GE294.out | refine below_set ?_ GE300.out) | exact HB.out)⟩
                  · rw [if_neg c94] at H
                    have c94b0 : decide (t312 < 0) = false := decide_eq_false c94
                    clear c94
                    by_cases c102 : t312 = t310
                    · rw [if_pos c102] at H
                      have c102b0 : (t312 == t310) = true := beq_iff_eq.mpr c102
                      have c102b1 : (t312 != t310) = false := bne_eq_false_iff_eq.mpr c102
                      clear c102
                      replace H := Option.bind_eq_some_iff.mp H
                      obtain ⟨⟨t313, t314⟩, A1030, H⟩ := H
                      replace H : ((impl_PrimaryAssociate.f kj61 t313 t314).bind fun bt317 => ((laws_eqCyclo.f kj61 bt317.1 bt317.2.1 t284 t285).bind fun t323 => (if t323 = true then (laws_FnExactPrimaryAssociate.j2 kj61 t310 (bt317.2.2 != t288) t295 t311) else (laws_FnExactPrimaryAssociate.j2 kj61 t310 true t295 t311)))) = some r := H
                      have A103 := Aside0.mk A1030
                      clear A1030
                      replace H := Option.bind_eq_some_iff.mp H
                      obtain ⟨⟨t317, t318, t321⟩, A1040, H⟩ := H
                      replace H : ((laws_eqCyclo.f kj61 t317 t318 t284 t285).bind fun t323 => (if t323 = true then (laws_FnExactPrimaryAssociate.j2 kj61 t310 (t321 != t288) t295 t311) else (laws_FnExactPrimaryAssociate.j2 kj61 t310 true t295 t311))) = some r := H
                      have A104 := Aside0.mk A1040
                      clear A1040
                      have HC105 := Aside0.mk H
                      clear H
                      have hnb106 := NB300_278.out
                      have hnc106 := NB278_300.out
                      have hnb107 := NB300_289.out
                      have hnc107 := NB289_300.out
                      have hnb108 := NB300_294.out
                      have hnc108 := NB294_300.out
                      have hcz109_0 : wc.cell? ⟨gb300, 0, none⟩ = some (.int .i64 t295) := (blk_cell BK300.out 0).trans rfl
                      have hcz109_1 : wc.cell? ⟨gb300, 1, none⟩ = some (.slice Ao38 t296.length co38) := (blk_cell BK300.out 1).trans rfl
                      have hfz109_0 := blk_frozen BK300.out 0
                      have hfz109_1 := blk_frozen BK300.out 1
                      go_upto_region 25 with (first | ((with_reducible refine gate_callee (f := 16) rfl ?_); refine goesL_ (some 64) rfl rfl Try.func16 (by kernel_rfl) rfl #[.agg #[.int .i64 t295, .slice Ao38 t296.length co38], .int .i64 1] rfl q67 ?_; (with_reducible refine (laws_markCyclo.calls kj61 t295 (fun k_ => some k_ = (.slice Ao38 t296.length co38 : Value).ownBlock) (.slice Ao38 t296.length co38) t296 1 t310 t311 w _ ?side1 ?side2 A92.out).mono ?_); (case side1 => repeat (first | (with_reducible first | exact HB.out | apply below_alloc | apply pw_below_drewN | apply below_drew1 | refine below_set ?_ GE278.out | refine below_set ?_ GE289.out | refine below_set ?_ GE294.out | refine below_set ?_ GE300.out) | exact HB.out)); (case side2 => exact Kd.R_tight rfl HO_301001.out); rintro e w110 ⟨rfl, hy0, hb, hkp⟩; refine ⟨_, rfl, ?_⟩; have n0_ := Aside0.mk (Kd.R_mono (ok' := fun k_ => some k_ ≠ (.slice Ao29 t308.length co29 : Value).ownBlock ∧ some k_ ≠ (.slice Ao38 t296.length co38 : Value).ownBlock) (Kd.R_keptB (HO_290001.out) hkp (fun k_ hk_ hs_ => (hk_.2) hs_)) (fun k_ hk_ => ⟨hk_.1.1, hk_.1.2⟩)); have n1_ := Aside0.mk (Kd.R_mono (ok' := fun k_ => some k_ ≠ (.slice Ao22 t285.length co22 : Value).ownBlock ∧ some k_ ≠ (.slice Ao38 t296.length co38 : Value).ownBlock) (Kd.R_keptB (HO_295001.out) hkp (fun k_ hk_ hs_ => (hk_.2) hs_)) (fun k_ hk_ => ⟨hk_.1.1, hk_.1.2⟩)); have n2_ := Aside0.mk (Kd.R_reok rfl hy0 (fun k_ e_ => HO_301001.out.1 k_ e_)); have n3_ := Aside0.mk (blk_kept q96 hkp (fun hs_ => (fun e_ => (Kd.R_ne HO_301001.out BK278.out (by decide)) e_) hs_)); have n4_ := Aside0.mk (blk_kept q97 hkp (fun hs_ => (fun e_ => (Kd.R_ne HO_301001.out BK289.out (by decide)) e_) hs_)); have n5_ := Aside0.mk (blk_kept q98 hkp (fun hs_ => (fun e_ => (Kd.R_ne HO_301001.out BK294.out (by decide)) e_) hs_)); have n6_ := Aside0.mk (blk_kept q99 hkp (fun hs_ => (fun e_ => (Kd.R_ne HO_301001.out BK300.out (by decide)) e_) hs_)); have n7_ := Aside0.mk (hb); clear HO_290001; clear HO_295001; clear HO_301001; clear BK278; clear BK289; clear BK294; clear BK300; clear HB; have HO_290001 := n0_; have HO_295001 := n1_; have HO_301001 := n2_; have BK278 := n3_; have BK289 := n4_; have BK294 := n5_; have BK300 := n6_; have HB := n7_; clear n0_ n1_ n2_ n3_ n4_ n5_ n6_ n7_; (try clear hb); (try clear hkp); (try clear hy0); have hcz111_0 : w110.cell? ⟨gb300, 0, none⟩ = some (.int .i64 t295) := (blk_cell BK300.out 0).trans rfl; have hcz111_1 : w110.cell? ⟨gb300, 1, none⟩ = some (.slice Ao38 t296.length co38) := (blk_cell BK300.out 1).trans rfl; have hfz111_0 := blk_frozen BK300.out 0; have hfz111_1 := blk_frozen BK300.out 1) | ((with_reducible refine gate_callee (f := 17) rfl ?_); refine goesL_ (some 67) rfl rfl Try.func17 (by kernel_rfl) rfl #[.agg #[.int .i64 t295, .slice Ao38 t311.length co38], .int .i64 1] rfl q34 ?_; (with_reducible refine (laws_heldCyclo.calls kj61 t295 _ _ t311 1 t312 _ ?side1 ?side2 A93.out).mono ?_); (case side1 => repeat (first | exact (Kd.R_reads' HO_301001.out).2.2 | (with_reducible refine Kd.C_alloc ?_ _) | (with_reducible refine Kd.C_drewN ?_ _) | (with_reducible refine Kd.C_drew ?_))); (case side2 => rw [show t311.length = t296.length from (Kd.R_reads' HO_301001.out).1.symm]; exact (Kd.R_reads' HO_301001.out).2.1); rintro e w112 ⟨rfl, hb⟩; refine ⟨_, rfl, ?_⟩; have n0_ := Aside0.mk (Kd.R_below q103 hb); have n1_ := Aside0.mk (Kd.R_below q104 hb); have n2_ := Aside0.mk (Kd.R_below q105 hb); have n3_ := Aside0.mk (blk_below (g := gb278) (o := .cells #[.int .i64 a0_0, .slice A0_1 l0_1.length c0_1] 30 (0, 0)) q96 hb); have n4_ := Aside0.mk (blk_below (g := gb289) (o := .cells #[.int .i64 t284, .slice Ao22 t285.length co22] 32 (0, 0)) q97 hb); have n5_ := Aside0.mk (blk_below (g := gb294) (o := .cells #[.int .i64 t290, .slice Ao29 t308.length co29] 32 (0, 0)) q98 hb); have n6_ := Aside0.mk (blk_below (g := gb300) (o := .cells #[.int .i64 t295, .slice Ao38 t296.length co38] 32 (0, 0)) q99 hb); have n7_ := Aside0.mk (below_step q28 hb); clear HO_290001; clear HO_295001; clear HO_301001; clear BK278; clear BK289; clear BK294; clear BK300; clear HB; have HO_290001 := n0_; have HO_295001 := n1_; have HO_301001 := n2_; have BK278 := n3_; have BK289 := n4_; have BK294 := n5_; have BK300 := n6_; have HB := n7_; clear n0_ n1_ n2_ n3_ n4_ n5_ n6_ n7_; (try clear hb); (try clear hb2); (try clear hk); (try clear hi); have hnb113 := NB278_289.out; have hnc113 := NB289_278.out; have hnb114 := NB278_294.out; have hnc114 := NB294_278.out; have hcz115_0 : w112.cell? ⟨gb278, 0, none⟩ = some (.int .i64 a0_0) := (blk_cell BK278.out 0).trans rfl; have hcz115_1 : w112.cell? ⟨gb278, 1, none⟩ = some (.slice A0_1 l0_1.length c0_1) := (blk_cell BK278.out 1).trans rfl; have hfz115_0 := blk_frozen BK278.out 0; have hfz115_1 := blk_frozen BK278.out 1) | ((with_reducible refine gate_callee (f := 13) rfl ?_); refine goesL_ (some 75) rfl rfl Try.func13 (by kernel_rfl) rfl #[.agg #[.int .i64 a0_0, .slice A0_1 l0_1.length c0_1]] rfl q67 ?_; (with_reducible refine (laws_toCyclo.calls kj61 a0_0 _ _ l0_1 t313 t314 _ ?side1 ?side2 A103.out).mono ?_); (case side1 => repeat (first | exact (Kd.C_below HR0_1.out HB.out) | (with_reducible refine Kd.C_alloc ?_ _) | (with_reducible refine Kd.C_drewN ?_ _) | (with_reducible refine Kd.C_drew ?_))); (case side2 => exact HC0_1.out); rintro e w116 ⟨v315, rfl, ho0, hb⟩; refine ⟨_, rfl, ?_⟩; have n0_ := Aside0.mk (Kd.R_elder' q103 (Kd.R_base ho0) hb); have n1_ := Aside0.mk (Kd.R_elder' q104 (Kd.R_base ho0) hb); have n2_ := Aside0.mk (Kd.R_elder' q105 (Kd.R_base ho0) hb); have n3_ := Aside0.mk (Kd.R_lower (Kd.R_new' (Kd.R_new' (Kd.R_new' ho0 (Kd.R_lt q103)) (Kd.R_lt q104)) (Kd.R_lt q105)) (below_size q28)); have n4_ := Aside0.mk (blk_below (g := gb278) (o := .cells #[.int .i64 a0_0, .slice A0_1 l0_1.length c0_1] 30 (0, 0)) q96 hb); have n5_ := Aside0.mk (blk_below (g := gb289) (o := .cells #[.int .i64 t284, .slice Ao22 t285.length co22] 32 (0, 0)) q97 hb); have n6_ := Aside0.mk (blk_below (g := gb294) (o := .cells #[.int .i64 t290, .slice Ao29 t308.length co29] 32 (0, 0)) q98 hb); have n7_ := Aside0.mk (blk_below (g := gb300) (o := .cells #[.int .i64 t295, .slice Ao38 t296.length co38] 32 (0, 0)) q99 hb); have n8_ := Aside0.mk (below_step q28 hb); clear HO_290001; clear HO_295001; clear HO_301001; clear BK278; clear BK289; clear BK294; clear BK300; clear HB; have HO_290001 := n0_; have HO_295001 := n1_; have HO_301001 := n2_; have HO316 := n3_; have BK278 := n4_; have BK289 := n5_; have BK294 := n6_; have BK300 := n7_; have HB := n8_; clear n0_ n1_ n2_ n3_ n4_ n5_ n6_ n7_ n8_; (try clear hb); (try clear hb2); (try clear hk); (try clear hi); (try clear ho0); obtain ⟨Ao117, co117, eo117⟩ := Kd.R_slice HO316.out; subst eo117) | ((with_reducible refine gate_callee (f := 14) rfl ?_); refine goesL_ (some 76) rfl rfl Try.func14 (by kernel_rfl) rfl #[.agg #[.int .i64 t313, .slice Ao117 t314.length co117]] rfl q67 ?_; (with_reducible refine (impl_PrimaryAssociate.calls kj61 t313 (fun k_ => some k_ = (.slice Ao117 t314.length co117 : Value).ownBlock) _ _ t314 t317 t318 t321 _ ?side1 A104.out).mono ?_); (case side1 => exact Kd.R_V (Kd.R_tight rfl (Kd.R_types (Kd.R_types (Kd.R_types (Kd.R_types (HO316.out) BK278.out (by decide)) BK289.out (by decide)) BK294.out (by decide)) BK300.out (by decide)))); rintro e w118 ⟨v319, rfl, ho0, hb⟩; refine ⟨_, rfl, ?_⟩; have n0_ := Aside0.mk (Kd.R_elder' q103 (Kd.R_base ho0) hb); have n1_ := Aside0.mk (Kd.R_elder' q104 (Kd.R_base ho0) hb); have n2_ := Aside0.mk (Kd.R_elder' q105 (Kd.R_base ho0) hb); have n3_ := Aside0.mk (Kd.R_elder' q122 (Kd.R_base ho0) hb); have n4_ := Aside0.mk (Kd.R_lower (Kd.R_new' (Kd.R_new' (Kd.R_new' (Kd.R_new' (Kd.R_mono (ok' := fun k_ => True) ho0 (fun _ hk_ => trivial)) (Kd.R_lt q103)) (Kd.R_lt q104)) (Kd.R_lt q105)) (Kd.R_lt q122)) (below_size q28)); have n5_ := Aside0.mk (blk_below (g := gb278) (o := .cells #[.int .i64 a0_0, .slice A0_1 l0_1.length c0_1] 30 (0, 0)) q96 hb); have n6_ := Aside0.mk (blk_below (g := gb289) (o := .cells #[.int .i64 t284, .slice Ao22 t285.length co22] 32 (0, 0)) q97 hb); have n7_ := Aside0.mk (blk_below (g := gb294) (o := .cells #[.int .i64 t290, .slice Ao29 t308.length co29] 32 (0, 0)) q98 hb); have n8_ := Aside0.mk (blk_below (g := gb300) (o := .cells #[.int .i64 t295, .slice Ao38 t296.length co38] 32 (0, 0)) q99 hb); have n9_ := Aside0.mk (below_step q28 hb); clear HO_290001; clear HO_295001; clear HO_301001; clear HO316; clear BK278; clear BK289; clear BK294; clear BK300; clear HB; have HO_290001 := n0_; have HO_295001 := n1_; have HO_301001 := n2_; have HO316 := n3_; have HO320 := n4_; have BK278 := n5_; have BK289 := n6_; have BK294 := n7_; have BK300 := n8_; have HB := n9_; clear n0_ n1_ n2_ n3_ n4_ n5_ n6_ n7_ n8_ n9_; (try clear hb); (try clear hb2); (try clear hk); (try clear hi); (try clear ho0)) | ((with_reducible refine gate_dst (N := 12) rfl ?_); refine box_event ?hg (N := 12) ?hd (cs := #[.int .i64 0, .slice none 0 0]) (t := 32) ?hr ?_; (case hd => rfl); (case hg => rfl); (case hr => first | (go_simp; done) | (go_simp; rfl)); intro gb322 hg w119 hbox hb; have n0_ := Aside0.mk (Kd.R_below q103 hb); have n1_ := Aside0.mk (Kd.R_below q104 hb); have n2_ := Aside0.mk (Kd.R_below q105 hb); have n3_ := Aside0.mk (Kd.R_below q122 hb); have n4_ := Aside0.mk (Kd.R_below (by (with_reducible repeat (first | apply Kd.R_alloc | apply Kd.R_drewN | apply Kd.R_drew)); exact HO320.out) hb); have n5_ := Aside0.mk (blk_below (g := gb278) (o := .cells #[.int .i64 a0_0, .slice A0_1 l0_1.length c0_1] 30 (0, 0)) q96 hb); have n6_ := Aside0.mk (blk_below (g := gb289) (o := .cells #[.int .i64 t284, .slice Ao22 t285.length co22] 32 (0, 0)) q97 hb); have n7_ := Aside0.mk (blk_below (g := gb294) (o := .cells #[.int .i64 t290, .slice Ao29 t308.length co29] 32 (0, 0)) q98 hb); have n8_ := Aside0.mk (blk_below (g := gb300) (o := .cells #[.int .i64 t295, .slice Ao38 t296.length co38] 32 (0, 0)) q99 hb); have n9_ := Aside0.mk (below_step q28 hb); have n10_ := Aside0.mk (hbox); have n11_ := Aside0.mk ((by rw [hg]; exact (below_size q28) : w.heap.size ≤ gb322)); have n12_ := Aside0.mk ((by rw [hg]; exact (below_size q28) : w.heap.size ≤ gb322)); have n13_ := Aside0.mk ((by rw [hg]; exact Nat.ne_of_lt (blk_lt (g := gb278) (o := .cells #[.int .i64 a0_0, .slice A0_1 l0_1.length c0_1] 30 (0, 0)) q96) : gb278 ≠ gb322)); have n14_ := Aside0.mk ((by rw [hg]; exact Nat.ne_of_gt (blk_lt (g := gb278) (o := .cells #[.int .i64 a0_0, .slice A0_1 l0_1.length c0_1] 30 (0, 0)) q96) : gb322 ≠ gb278)); have n15_ := Aside0.mk ((by rw [hg]; exact Nat.ne_of_lt (blk_lt (g := gb289) (o := .cells #[.int .i64 t284, .slice Ao22 t285.length co22] 32 (0, 0)) q97) : gb289 ≠ gb322)); have n16_ := Aside0.mk ((by rw [hg]; exact Nat.ne_of_gt (blk_lt (g := gb289) (o := .cells #[.int .i64 t284, .slice Ao22 t285.length co22] 32 (0, 0)) q97) : gb322 ≠ gb289)); have n17_ := Aside0.mk ((by rw [hg]; exact Nat.ne_of_lt (blk_lt (g := gb294) (o := .cells #[.int .i64 t290, .slice Ao29 t308.length co29] 32 (0, 0)) q98) : gb294 ≠ gb322)); have n18_ := Aside0.mk ((by rw [hg]; exact Nat.ne_of_gt (blk_lt (g := gb294) (o := .cells #[.int .i64 t290, .slice Ao29 t308.length co29] 32 (0, 0)) q98) : gb322 ≠ gb294)); have n19_ := Aside0.mk ((by rw [hg]; exact Nat.ne_of_lt (blk_lt (g := gb300) (o := .cells #[.int .i64 t295, .slice Ao38 t296.length co38] 32 (0, 0)) q99) : gb300 ≠ gb322)); have n20_ := Aside0.mk ((by rw [hg]; exact Nat.ne_of_gt (blk_lt (g := gb300) (o := .cells #[.int .i64 t295, .slice Ao38 t296.length co38] 32 (0, 0)) q99) : gb322 ≠ gb300)); clear HO_290001; clear HO_295001; clear HO_301001; clear HO316; clear HO320; clear BK278; clear BK289; clear BK294; clear BK300; clear HB; have HO_290001 := n0_; have HO_295001 := n1_; have HO_301001 := n2_; have HO316 := n3_; have HO320 := n4_; have BK278 := n5_; have BK289 := n6_; have BK294 := n7_; have BK300 := n8_; have HB := n9_; have BK322 := n10_; have GW322 := n11_; have GE322 := n12_; have NB278_322 := n13_; have NB322_278 := n14_; have NB289_322 := n15_; have NB322_289 := n16_; have NB294_322 := n17_; have NB322_294 := n18_; have NB300_322 := n19_; have NB322_300 := n20_; clear n0_ n1_ n2_ n3_ n4_ n5_ n6_ n7_ n8_ n9_ n10_ n11_ n12_ n13_ n14_ n15_ n16_ n17_ n18_ n19_ n20_; clear hb hbox hg; have hnb120 := NB322_278.out; have hnc120 := NB278_322.out; have hnb121 := NB322_289.out; have hnc121 := NB289_322.out; have hnb122 := NB322_294.out; have hnc122 := NB294_322.out; have hnb123 := NB322_300.out; have hnc123 := NB300_322.out; have hcz124_0 : w119.cell? ⟨gb322, 0, none⟩ = some (.int .i64 0) := (blk_cell BK322.out 0).trans rfl; have hcz124_1 : w119.cell? ⟨gb322, 1, none⟩ = some (.slice none 0 0) := (blk_cell BK322.out 1).trans rfl; have hfz124_0 := blk_frozen BK322.out 0; have hfz124_1 := blk_frozen BK322.out 1; obtain ⟨Ao125, co125, eo125⟩ := Kd.R_slice HO320.out; subst eo125))
                      (try simp only [Act.put, List.setIfInBounds_toArray, List.set_cons_zero, List.set_cons_succ])
                      go_cut [87] (fun v87 wc => ∃ (kq : Nat) (x87_104 : Bool), v87 = .bool x87_104 ∧ Aside0 (laws_FnExactPrimaryAssociate.j2 kq t310 x87_104 t295 t311 = some r) ∧ Aside0 (kq ≤ kj61) ∧ Aside0 (Kd.R (Kd.int .i64) 2 wc w.heap.size (fun k_ => some k_ ≠ ((.slice Ao29 t308.length co29) : Value).ownBlock ∧ some k_ ≠ ((.slice Ao38 t296.length co38) : Value).ownBlock ∧ some k_ ≠ ((.slice Ao125 t318.length co125) : Value).ownBlock) (.slice Ao22 t285.length co22) t285) ∧ Aside0 (Kd.R (Kd.int .i64) 2 wc w.heap.size (fun k_ => some k_ ≠ ((.slice Ao22 t285.length co22) : Value).ownBlock ∧ some k_ ≠ ((.slice Ao38 t296.length co38) : Value).ownBlock ∧ some k_ ≠ ((.slice Ao125 t318.length co125) : Value).ownBlock) (.slice Ao29 t308.length co29) t308) ∧ Aside0 (Kd.R (Kd.int .i64) 2 wc w.heap.size (fun k_ => some k_ ≠ ((.slice Ao22 t285.length co22) : Value).ownBlock ∧ some k_ ≠ ((.slice Ao29 t308.length co29) : Value).ownBlock ∧ some k_ ≠ ((.slice Ao125 t318.length co125) : Value).ownBlock) (.slice Ao38 t296.length co38) t311) ∧ Aside0 (Kd.R (Kd.int .i64) 2 wc w.heap.size (fun k_ => some k_ ≠ ((.slice Ao22 t285.length co22) : Value).ownBlock ∧ some k_ ≠ ((.slice Ao29 t308.length co29) : Value).ownBlock ∧ some k_ ≠ ((.slice Ao38 t296.length co38) : Value).ownBlock) (.slice Ao125 t318.length co125) t318) ∧ Aside0 (wc.heap[gb278]? = some (.cells #[.int .i64 a0_0, (.slice A0_1 l0_1.length c0_1)] 30 (0, 0))) ∧ Aside0 (wc.heap[gb289]? = some (.cells #[.int .i64 t284, (.slice Ao22 t285.length co22)] 32 (0, 0))) ∧ Aside0 (wc.heap[gb294]? = some (.cells #[.int .i64 t290, (.slice Ao29 t308.length co29)] 32 (0, 0))) ∧ Aside0 (wc.heap[gb300]? = some (.cells #[.int .i64 t295, (.slice Ao38 t296.length co38)] 32 (0, 0))) ∧ Aside0 (wc.heap[gb322]? = some (.cells #[.int .i64 t317, (.slice Ao125 t318.length co125)] 32 (0, 0))) ∧ Aside0 (Below w.heap.size w wc))
                      case first =>
                        have H := HC105.out
                        clear HC105
                        replace H := Option.bind_eq_some_iff.mp H
                        obtain ⟨t323, A1260, H⟩ := H
                        replace H : (if t323 = true then (laws_FnExactPrimaryAssociate.j2 kj61 t310 (t321 != t288) t295 t311) else (laws_FnExactPrimaryAssociate.j2 kj61 t310 true t295 t311)) = some r := H
                        have A126 := Aside0.mk A1260
                        clear A1260
                        by_cases c127 : t323 = true
                        · subst c127
                          have H1 : (laws_FnExactPrimaryAssociate.j2 kj61 t310 (t321 != t288) t295 t311) = some r := by rw [if_pos rfl] at H; exact H
                          clear H
                          have H := H1
                          clear H1
                          have H' := Aside0.mk H
                          clear H
                          have hnb128 := NB322_278.out
                          have hnc128 := NB278_322.out
                          have hnb129 := NB322_289.out
                          have hnc129 := NB289_322.out
                          have hnb130 := NB322_294.out
                          have hnc130 := NB294_322.out
                          have hnb131 := NB322_300.out
                          have hnc131 := NB300_322.out
                          have hcz132_0 : w119.cell? ⟨gb322, 0, none⟩ = some (.int .i64 0) := (blk_cell BK322.out 0).trans rfl
                          have hcz132_1 : w119.cell? ⟨gb322, 1, none⟩ = some (.slice none 0 0) := (blk_cell BK322.out 1).trans rfl
                          have hfz132_0 := blk_frozen BK322.out 0
                          have hfz132_1 := blk_frozen BK322.out 1
                          have hnb133 := NB289_278.out
                          have hnc133 := NB278_289.out
                          have hnb134 := NB289_294.out
                          have hnc134 := NB294_289.out
                          have hnb135 := NB289_300.out
                          have hnc135 := NB300_289.out
                          have hcz136_0 : w119.cell? ⟨gb289, 0, none⟩ = some (.int .i64 t284) := (blk_cell BK289.out 0).trans rfl
                          have hcz136_1 : w119.cell? ⟨gb289, 1, none⟩ = some (.slice Ao22 t285.length co22) := (blk_cell BK289.out 1).trans rfl
                          have hfz136_0 := blk_frozen BK289.out 0
                          have hfz136_1 := blk_frozen BK289.out 1
                          go_wp2_with (first | ((with_reducible refine gate_callee (f := 15) rfl ?_); refine goesL_ (some 81) rfl rfl Try.func15 (by kernel_rfl) rfl #[.agg #[.int .i64 t317, .slice Ao125 t318.length co125], .agg #[.int .i64 t284, .slice Ao22 t285.length co22]] rfl q67 ?_; (with_reducible refine (laws_eqCyclo.calls kj61 t317 _ _ t318 t284 _ _ t285 true _ ?side1 ?side2 ?side3 ?side4 A126.out).mono ?_); (case side1 => refine (Kd.R_reads' (e := 2) (base := w.heap.size) (ok := fun k_ => ((((True ∧ some k_ ≠ (.slice Ao22 t285.length co22 : Value).ownBlock) ∧ some k_ ≠ (.slice Ao29 t308.length co29 : Value).ownBlock) ∧ some k_ ≠ (.slice Ao38 t296.length co38 : Value).ownBlock) ∧ some k_ ≠ (.slice Ao117 t314.length co117 : Value).ownBlock)) (n := t318.length) (c := co125) ?_).2.2; exact q19); (case side2 => exact (Kd.R_reads' HO320.out).2.1); (case side3 => refine (Kd.R_reads' (e := 2) (base := w.heap.size) (ok := fun k_ => (((some k_ ≠ (.slice Ao29 t308.length co29 : Value).ownBlock ∧ some k_ ≠ (.slice Ao38 t296.length co38 : Value).ownBlock) ∧ some k_ ≠ (.slice Ao117 t314.length co117 : Value).ownBlock) ∧ some k_ ≠ (.slice Ao125 t318.length co125 : Value).ownBlock)) (n := t285.length) (c := co22) ?_).2.2; exact q16); (case side4 => exact (Kd.R_reads' HO_290001.out).2.1); rintro e w137 ⟨rfl, hb⟩; refine ⟨_, rfl, ?_⟩; have n0_ := Aside0.mk (Kd.R_below q16 hb); have n1_ := Aside0.mk (Kd.R_below q17 hb); have n2_ := Aside0.mk (Kd.R_below q18 hb); have n3_ := Aside0.mk (Kd.R_below q20 hb); have n4_ := Aside0.mk (Kd.R_below q19 hb); have n5_ := Aside0.mk (blk_below (g := gb278) (o := .cells #[.int .i64 a0_0, .slice A0_1 l0_1.length c0_1] 30 (0, 0)) q11 hb); have n6_ := Aside0.mk (blk_below (g := gb289) (o := .cells #[.int .i64 t284, .slice Ao22 t285.length co22] 32 (0, 0)) q12 hb); have n7_ := Aside0.mk (blk_below (g := gb294) (o := .cells #[.int .i64 t290, .slice Ao29 t308.length co29] 32 (0, 0)) q13 hb); have n8_ := Aside0.mk (blk_below (g := gb300) (o := .cells #[.int .i64 t295, .slice Ao38 t296.length co38] 32 (0, 0)) q14 hb); have n9_ := Aside0.mk (blk_below (g := gb322) (o := .cells #[.int .i64 t317, .slice Ao125 t318.length co125] 32 (0, 0)) q4 hb); have n10_ := Aside0.mk (below_step q27 hb); clear HO_290001; clear HO_295001; clear HO_301001; clear HO316; clear HO320; clear BK278; clear BK289; clear BK294; clear BK300; clear BK322; clear HB; have HO_290001 := n0_; have HO_295001 := n1_; have HO_301001 := n2_; have HO316 := n3_; have HO320 := n4_; have BK278 := n5_; have BK289 := n6_; have BK294 := n7_; have BK300 := n8_; have BK322 := n9_; have HB := n10_; clear n0_ n1_ n2_ n3_ n4_ n5_ n6_ n7_ n8_ n9_ n10_; (try clear hb); (try clear hb2); (try clear hk); (try clear hi)))
                          go_meet
                          case rel => exact ⟨_, ((t321 != t288)), q126, H', ⟨by have := HJ10.out; have := HJ61.out; first | omega | exact Nat.le_refl _⟩, ⟨by (try simp only [hl295001_61]); (with_reducible repeat (first | apply Kd.R_alloc | apply Kd.R_drewN | apply Kd.R_drew)); exact Kd.R_mono HO_290001.out (fun _ hk => ⟨hk.1.1.1, ⟨hk.1.1.2, hk.2⟩⟩)⟩, ⟨by (try simp only [hl295001_61]); (with_reducible repeat (first | apply Kd.R_alloc | apply Kd.R_drewN | apply Kd.R_drew)); exact Kd.R_mono HO_295001.out (fun _ hk => ⟨hk.1.1.1, ⟨hk.1.1.2, hk.2⟩⟩)⟩, ⟨by (try simp only [hl295001_61]); (with_reducible repeat (first | apply Kd.R_alloc | apply Kd.R_drewN | apply Kd.R_drew)); exact Kd.R_mono HO_301001.out (fun _ hk => ⟨hk.1.1.1, ⟨hk.1.1.2, hk.2⟩⟩)⟩, ⟨by (try simp only [hl295001_61]); (with_reducible repeat (first | apply Kd.R_alloc | apply Kd.R_drewN | apply Kd.R_drew)); exact Kd.R_mono HO320.out (fun _ hk => ⟨hk.1.1.1.2, ⟨hk.1.1.2, hk.1.2⟩⟩)⟩, ⟨by (try simp only [hl295001_61]); (with_reducible repeat (first | refine blk_drewN ?_ _ | refine blk_drew ?_ | refine blk_alloc ?_ _)); exact BK278.out⟩, ⟨by (try simp only [hl295001_61]); (with_reducible repeat (first | refine blk_drewN ?_ _ | refine blk_drew ?_ | refine blk_alloc ?_ _)); exact BK289.out⟩, ⟨by (try simp only [hl295001_61]); (with_reducible repeat (first | refine blk_drewN ?_ _ | refine blk_drew ?_ | refine blk_alloc ?_ _)); exact BK294.out⟩, ⟨by (try simp only [hl295001_61]); (with_reducible repeat (first | refine blk_drewN ?_ _ | refine blk_drew ?_ | refine blk_alloc ?_ _)); exact BK300.out⟩, ⟨by (try simp only [hl295001_61]); (with_reducible repeat (first | refine blk_drewN ?_ _ | refine blk_drew ?_ | refine blk_alloc ?_ _)); exact BK322.out⟩, ⟨by repeat (first | (with_reducible first | exact HB.out | apply below_alloc | apply pw_below_drewN | apply below_drew1 | refine below_set ?_ GE278.out | refine below_set ?_ GE289.out | refine below_set ?_ GE294.out | refine below_set ?_ GE300.out | refine below_set ?_ GE322.out) | exact HB.out)⟩⟩
                        · replace c127 := Bool.eq_false_iff.mpr c127
                          subst c127
                          have H1 : (laws_FnExactPrimaryAssociate.j2 kj61 t310 true t295 t311) = some r := by rw [if_neg (show ¬ (false = true) by decide)] at H; exact H
                          clear H
                          have H := H1
                          clear H1
                          have H' := Aside0.mk H
                          clear H
                          have hnb138 := NB322_278.out
                          have hnc138 := NB278_322.out
                          have hnb139 := NB322_289.out
                          have hnc139 := NB289_322.out
                          have hnb140 := NB322_294.out
                          have hnc140 := NB294_322.out
                          have hnb141 := NB322_300.out
                          have hnc141 := NB300_322.out
                          have hcz142_0 : w119.cell? ⟨gb322, 0, none⟩ = some (.int .i64 0) := (blk_cell BK322.out 0).trans rfl
                          have hcz142_1 : w119.cell? ⟨gb322, 1, none⟩ = some (.slice none 0 0) := (blk_cell BK322.out 1).trans rfl
                          have hfz142_0 := blk_frozen BK322.out 0
                          have hfz142_1 := blk_frozen BK322.out 1
                          have hnb143 := NB289_278.out
                          have hnc143 := NB278_289.out
                          have hnb144 := NB289_294.out
                          have hnc144 := NB294_289.out
                          have hnb145 := NB289_300.out
                          have hnc145 := NB300_289.out
                          have hcz146_0 : w119.cell? ⟨gb289, 0, none⟩ = some (.int .i64 t284) := (blk_cell BK289.out 0).trans rfl
                          have hcz146_1 : w119.cell? ⟨gb289, 1, none⟩ = some (.slice Ao22 t285.length co22) := (blk_cell BK289.out 1).trans rfl
                          have hfz146_0 := blk_frozen BK289.out 0
                          have hfz146_1 := blk_frozen BK289.out 1
                          go_wp2_with (first | ((with_reducible refine gate_callee (f := 15) rfl ?_); refine goesL_ (some 81) rfl rfl Try.func15 (by kernel_rfl) rfl #[.agg #[.int .i64 t317, .slice Ao125 t318.length co125], .agg #[.int .i64 t284, .slice Ao22 t285.length co22]] rfl q67 ?_; (with_reducible refine (laws_eqCyclo.calls kj61 t317 _ _ t318 t284 _ _ t285 false _ ?side1 ?side2 ?side3 ?side4 A126.out).mono ?_); (case side1 => refine (Kd.R_reads' (e := 2) (base := w.heap.size) (ok := fun k_ => ((((True ∧ some k_ ≠ (.slice Ao22 t285.length co22 : Value).ownBlock) ∧ some k_ ≠ (.slice Ao29 t308.length co29 : Value).ownBlock) ∧ some k_ ≠ (.slice Ao38 t296.length co38 : Value).ownBlock) ∧ some k_ ≠ (.slice Ao117 t314.length co117 : Value).ownBlock)) (n := t318.length) (c := co125) ?_).2.2; exact q19); (case side2 => exact (Kd.R_reads' HO320.out).2.1); (case side3 => refine (Kd.R_reads' (e := 2) (base := w.heap.size) (ok := fun k_ => (((some k_ ≠ (.slice Ao29 t308.length co29 : Value).ownBlock ∧ some k_ ≠ (.slice Ao38 t296.length co38 : Value).ownBlock) ∧ some k_ ≠ (.slice Ao117 t314.length co117 : Value).ownBlock) ∧ some k_ ≠ (.slice Ao125 t318.length co125 : Value).ownBlock)) (n := t285.length) (c := co22) ?_).2.2; exact q16); (case side4 => exact (Kd.R_reads' HO_290001.out).2.1); rintro e w147 ⟨rfl, hb⟩; refine ⟨_, rfl, ?_⟩; have n0_ := Aside0.mk (Kd.R_below q16 hb); have n1_ := Aside0.mk (Kd.R_below q17 hb); have n2_ := Aside0.mk (Kd.R_below q18 hb); have n3_ := Aside0.mk (Kd.R_below q20 hb); have n4_ := Aside0.mk (Kd.R_below q19 hb); have n5_ := Aside0.mk (blk_below (g := gb278) (o := .cells #[.int .i64 a0_0, .slice A0_1 l0_1.length c0_1] 30 (0, 0)) q11 hb); have n6_ := Aside0.mk (blk_below (g := gb289) (o := .cells #[.int .i64 t284, .slice Ao22 t285.length co22] 32 (0, 0)) q12 hb); have n7_ := Aside0.mk (blk_below (g := gb294) (o := .cells #[.int .i64 t290, .slice Ao29 t308.length co29] 32 (0, 0)) q13 hb); have n8_ := Aside0.mk (blk_below (g := gb300) (o := .cells #[.int .i64 t295, .slice Ao38 t296.length co38] 32 (0, 0)) q14 hb); have n9_ := Aside0.mk (blk_below (g := gb322) (o := .cells #[.int .i64 t317, .slice Ao125 t318.length co125] 32 (0, 0)) q4 hb); have n10_ := Aside0.mk (below_step q27 hb); clear HO_290001; clear HO_295001; clear HO_301001; clear HO316; clear HO320; clear BK278; clear BK289; clear BK294; clear BK300; clear BK322; clear HB; have HO_290001 := n0_; have HO_295001 := n1_; have HO_301001 := n2_; have HO316 := n3_; have HO320 := n4_; have BK278 := n5_; have BK289 := n6_; have BK294 := n7_; have BK300 := n8_; have BK322 := n9_; have HB := n10_; clear n0_ n1_ n2_ n3_ n4_ n5_ n6_ n7_ n8_ n9_ n10_; (try clear hb); (try clear hb2); (try clear hk); (try clear hi)))
                          go_meet
                          case rel => exact ⟨_, (true), q126, H', ⟨by have := HJ10.out; have := HJ61.out; first | omega | exact Nat.le_refl _⟩, ⟨by (try simp only [hl295001_61]); (with_reducible repeat (first | apply Kd.R_alloc | apply Kd.R_drewN | apply Kd.R_drew)); exact Kd.R_mono HO_290001.out (fun _ hk => ⟨hk.1.1.1, ⟨hk.1.1.2, hk.2⟩⟩)⟩, ⟨by (try simp only [hl295001_61]); (with_reducible repeat (first | apply Kd.R_alloc | apply Kd.R_drewN | apply Kd.R_drew)); exact Kd.R_mono HO_295001.out (fun _ hk => ⟨hk.1.1.1, ⟨hk.1.1.2, hk.2⟩⟩)⟩, ⟨by (try simp only [hl295001_61]); (with_reducible repeat (first | apply Kd.R_alloc | apply Kd.R_drewN | apply Kd.R_drew)); exact Kd.R_mono HO_301001.out (fun _ hk => ⟨hk.1.1.1, ⟨hk.1.1.2, hk.2⟩⟩)⟩, ⟨by (try simp only [hl295001_61]); (with_reducible repeat (first | apply Kd.R_alloc | apply Kd.R_drewN | apply Kd.R_drew)); exact Kd.R_mono HO320.out (fun _ hk => ⟨hk.1.1.1.2, ⟨hk.1.1.2, hk.1.2⟩⟩)⟩, ⟨by (try simp only [hl295001_61]); (with_reducible repeat (first | refine blk_drewN ?_ _ | refine blk_drew ?_ | refine blk_alloc ?_ _)); exact BK278.out⟩, ⟨by (try simp only [hl295001_61]); (with_reducible repeat (first | refine blk_drewN ?_ _ | refine blk_drew ?_ | refine blk_alloc ?_ _)); exact BK289.out⟩, ⟨by (try simp only [hl295001_61]); (with_reducible repeat (first | refine blk_drewN ?_ _ | refine blk_drew ?_ | refine blk_alloc ?_ _)); exact BK294.out⟩, ⟨by (try simp only [hl295001_61]); (with_reducible repeat (first | refine blk_drewN ?_ _ | refine blk_drew ?_ | refine blk_alloc ?_ _)); exact BK300.out⟩, ⟨by (try simp only [hl295001_61]); (with_reducible repeat (first | refine blk_drewN ?_ _ | refine blk_drew ?_ | refine blk_alloc ?_ _)); exact BK322.out⟩, ⟨by repeat (first | (with_reducible first | exact HB.out | apply below_alloc | apply pw_below_drewN | apply below_drew1 | refine below_set ?_ GE278.out | refine below_set ?_ GE289.out | refine below_set ?_ GE294.out | refine below_set ?_ GE300.out | refine below_set ?_ GE322.out) | exact HB.out)⟩⟩
                      case rest =>
                        clear HC105
                        try clear c1
                        try clear c2
                        try clear p2
                        try clear c3
                        try clear c3b0
                        try clear c4
                        try clear c5
                        try clear c6
                        try clear c7
                        try clear c8
                        try clear c9
                        try clear c10
                        try clear c11
                        try clear c12
                        try clear c13
                        try clear c14
                        try clear c15
                        try clear c16
                        try clear c17
                        try clear c20
                        try clear c26
                        try clear c27
                        try clear c34
                        try clear c35
                        try clear c36
                        try clear c40
                        try clear c41
                        try clear c42
                        try clear c43
                        try clear c45
                        try clear c46
                        try clear c49
                        try clear c50
                        try clear c51
                        try clear c53
                        try clear c54
                        try clear c57
                        try clear c60
                        try clear c67
                        try clear c68
                        try clear c69
                        try clear c72
                        try clear c72b0
                        try clear c74
                        try clear c75
                        try clear c76
                        try clear c77
                        try clear c79
                        try clear c80
                        try clear c83
                        try clear c84
                        try clear c85
                        try clear c87
                        try clear c88
                        try clear c91
                        try clear c94
                        try clear c94b0
                        try clear c95
                        try clear c96
                        try clear c97
                        try clear c102
                        try clear c102b0
                        try clear c102b1
                        try clear c106
                        try clear c107
                        try clear c108
                        try clear c113
                        try clear c114
                        try clear c120
                        try clear c121
                        try clear c122
                        try clear c123
                        try clear c127
                        try clear c128
                        try clear c129
                        try clear c130
                        try clear c131
                        try clear c133
                        try clear c134
                        try clear c135
                        try clear c138
                        try clear c139
                        try clear c140
                        try clear c141
                        try clear c143
                        try clear c144
                        try clear c145
                        try clear hcz100_0
                        try clear hcz100_1
                        try clear hcz109_0
                        try clear hcz109_1
                        try clear hcz111_0
                        try clear hcz111_1
                        try clear hcz115_0
                        try clear hcz115_1
                        try clear hcz124_0
                        try clear hcz124_1
                        try clear hcz132_0
                        try clear hcz132_1
                        try clear hcz136_0
                        try clear hcz136_1
                        try clear hcz13_0
                        try clear hcz13_1
                        try clear hcz142_0
                        try clear hcz142_1
                        try clear hcz146_0
                        try clear hcz146_1
                        try clear hcz15_0
                        try clear hcz15_1
                        try clear hcz21_0
                        try clear hcz21_1
                        try clear hcz23_0
                        try clear hcz23_1
                        try clear hcz28_0
                        try clear hcz28_1
                        try clear hcz31_0
                        try clear hcz31_1
                        try clear hcz37_0
                        try clear hcz37_1
                        try clear hcz44_0
                        try clear hcz44_1
                        try clear hcz47_0
                        try clear hcz47_1
                        try clear hcz52_0
                        try clear hcz52_1
                        try clear hcz55_0
                        try clear hcz55_1
                        try clear hcz5_0
                        try clear hcz5_1
                        try clear hcz70_0
                        try clear hcz70_1
                        try clear hcz78_0
                        try clear hcz78_1
                        try clear hcz81_0
                        try clear hcz81_1
                        try clear hcz86_0
                        try clear hcz86_1
                        try clear hcz89_0
                        try clear hcz89_1
                        try clear hcz98_0
                        try clear hcz98_1
                        try clear hfz100_0
                        try clear hfz100_1
                        try clear hfz109_0
                        try clear hfz109_1
                        try clear hfz111_0
                        try clear hfz111_1
                        try clear hfz115_0
                        try clear hfz115_1
                        try clear hfz124_0
                        try clear hfz124_1
                        try clear hfz132_0
                        try clear hfz132_1
                        try clear hfz136_0
                        try clear hfz136_1
                        try clear hfz13_0
                        try clear hfz13_1
                        try clear hfz142_0
                        try clear hfz142_1
                        try clear hfz146_0
                        try clear hfz146_1
                        try clear hfz15_0
                        try clear hfz15_1
                        try clear hfz21_0
                        try clear hfz21_1
                        try clear hfz23_0
                        try clear hfz23_1
                        try clear hfz28_0
                        try clear hfz28_1
                        try clear hfz31_0
                        try clear hfz31_1
                        try clear hfz37_0
                        try clear hfz37_1
                        try clear hfz44_0
                        try clear hfz44_1
                        try clear hfz47_0
                        try clear hfz47_1
                        try clear hfz52_0
                        try clear hfz52_1
                        try clear hfz55_0
                        try clear hfz55_1
                        try clear hfz5_0
                        try clear hfz5_1
                        try clear hfz70_0
                        try clear hfz70_1
                        try clear hfz78_0
                        try clear hfz78_1
                        try clear hfz81_0
                        try clear hfz81_1
                        try clear hfz86_0
                        try clear hfz86_1
                        try clear hfz89_0
                        try clear hfz89_1
                        try clear hfz98_0
                        try clear hfz98_1
                        try clear p2
                        obtain ⟨kq, x87_104, rfl, HA, HJ104, HO_290001, HO_295001, HO_301001, HO_323001, BK278, BK289, BK294, BK300, BK322, HB⟩ := hcut
                        have hl301001_104 := (Kd.R_reads' HO_301001.out).1
                        rw [hl301001_104] at HO_301001
                        (try simp only [hl301001_104])
                        (try simp only [hl301001_104] at BK278)
                        (try simp only [hl301001_104] at BK289)
                        (try simp only [hl301001_104] at BK294)
                        (try simp only [hl301001_104] at BK300)
                        (try simp only [hl301001_104] at BK322)
                        (try simp only [hl301001_104] at HO_290001)
                        (try simp only [hl301001_104] at HO_295001)
                        (try simp only [hl301001_104] at HO_323001)
                        cases kq with
                        | zero => exact absurd HA.out (by simp [laws_FnExactPrimaryAssociate.j2])
                        | succ kj104 =>
                          have H := HA.out
                          clear HA
                          simp only [laws_FnExactPrimaryAssociate.j2] at H
                          by_cases c148 : x87_104 = true
                          · subst c148
                            have H1 : (some false) = some r := by rw [if_pos rfl] at H; exact H
                            clear H
                            have H := H1
                            clear H1
                            obtain rfl := Option.some.inj H
                            go_wp2
                            go_ret
                            exact ⟨by first | rfl | (simp [errW_none, errW_some] <;> rfl) | (simp [*, errW_none, errW_some] <;> rfl), by repeat (first | (with_reducible first | exact HB.out | apply below_alloc | apply pw_below_drewN | apply below_drew1 | refine below_set ?_ GE278.out | refine below_set ?_ GE289.out | refine below_set ?_ GE294.out | refine below_set ?_ GE300.out | refine below_set ?_ GE322.out) | exact HB.out)⟩
                          · replace c148 := Bool.eq_false_iff.mpr c148
                            subst c148
                            have H1 : ((laws_heldCyclo.f kj104 t295 t311 1).bind fun t324 => (if t324 < 0 then (some false) else (if t324 = t310 then (some true) else (some false)))) = some r := by rw [if_neg (show ¬ (false = true) by decide)] at H; exact H
                            clear H
                            have H := H1
                            clear H1
                            replace H := Option.bind_eq_some_iff.mp H
                            obtain ⟨t324, A1490, H⟩ := H
                            replace H : (if t324 < 0 then (some false) else (if t324 = t310 then (some true) else (some false))) = some r := H
                            have A149 := Aside0.mk A1490
                            clear A1490
                            by_cases c150 : t324 < 0
                            · rw [if_pos c150] at H
                              have c150b0 : decide (t324 < 0) = true := decide_eq_true c150
                              clear c150
                              obtain rfl := Option.some.inj H
                              have hnb151 := NB300_278.out
                              have hnc151 := NB278_300.out
                              have hnb152 := NB300_289.out
                              have hnc152 := NB289_300.out
                              have hnb153 := NB300_294.out
                              have hnc153 := NB294_300.out
                              have hnb154 := NB300_322.out
                              have hnc154 := NB322_300.out
                              have hcz155_0 : wc.cell? ⟨gb300, 0, none⟩ = some (.int .i64 t295) := (blk_cell BK300.out 0).trans rfl
                              have hcz155_1 : wc.cell? ⟨gb300, 1, none⟩ = some (.slice Ao38 t311.length co38) := (blk_cell BK300.out 1).trans rfl
                              have hfz155_0 := blk_frozen BK300.out 0
                              have hfz155_1 := blk_frozen BK300.out 1
                              go_wp2_with (first | ((with_reducible refine gate_callee (f := 17) rfl ?_); refine goesL_ (some 90) rfl rfl Try.func17 (by kernel_rfl) rfl #[.agg #[.int .i64 t295, .slice Ao38 t311.length co38], .int .i64 1] rfl q67 ?_; (with_reducible refine (laws_heldCyclo.calls kj104 t295 _ _ t311 1 t324 _ ?side1 ?side2 A149.out).mono ?_); (case side1 => repeat (first | exact (Kd.R_reads' HO_301001.out).2.2 | (with_reducible refine Kd.C_alloc ?_ _) | (with_reducible refine Kd.C_drewN ?_ _) | (with_reducible refine Kd.C_drew ?_))); (case side2 => exact (Kd.R_reads' HO_301001.out).2.1); rintro e w156 ⟨rfl, hb⟩; refine ⟨_, rfl, ?_⟩; have n0_ := Aside0.mk (Kd.R_below q103 hb); have n1_ := Aside0.mk (Kd.R_below q104 hb); have n2_ := Aside0.mk (Kd.R_below q105 hb); have n3_ := Aside0.mk (Kd.R_below q106 hb); have n4_ := Aside0.mk (blk_below (g := gb278) (o := .cells #[.int .i64 a0_0, .slice A0_1 l0_1.length c0_1] 30 (0, 0)) q96 hb); have n5_ := Aside0.mk (blk_below (g := gb289) (o := .cells #[.int .i64 t284, .slice Ao22 t285.length co22] 32 (0, 0)) q97 hb); have n6_ := Aside0.mk (blk_below (g := gb294) (o := .cells #[.int .i64 t290, .slice Ao29 t308.length co29] 32 (0, 0)) q98 hb); have n7_ := Aside0.mk (blk_below (g := gb300) (o := .cells #[.int .i64 t295, .slice Ao38 t311.length co38] 32 (0, 0)) q99 hb); have n8_ := Aside0.mk (blk_below (g := gb322) (o := .cells #[.int .i64 t317, .slice Ao125 t318.length co125] 32 (0, 0)) q100 hb); have n9_ := Aside0.mk (below_step q27 hb); clear HO_290001; clear HO_295001; clear HO_301001; clear HO_323001; clear BK278; clear BK289; clear BK294; clear BK300; clear BK322; clear HB; have HO_290001 := n0_; have HO_295001 := n1_; have HO_301001 := n2_; have HO_323001 := n3_; have BK278 := n4_; have BK289 := n5_; have BK294 := n6_; have BK300 := n7_; have BK322 := n8_; have HB := n9_; clear n0_ n1_ n2_ n3_ n4_ n5_ n6_ n7_ n8_ n9_; (try clear hb); (try clear hb2); (try clear hk); (try clear hi)))
                              go_ret
                              exact ⟨by first | rfl | (simp [errW_none, errW_some] <;> rfl) | (simp [*, errW_none, errW_some] <;> rfl), by repeat (first | (with_reducible first | exact HB.out | apply below_alloc | apply pw_below_drewN | apply below_drew1 | refine below_set ?_ GE278.out | refine below_set ?_ GE289.out | refine below_set ?_ GE294.out | refine below_set ?_ GE300.out | refine below_set ?_ GE322.out) | exact HB.out)⟩
                            · rw [if_neg c150] at H
                              have c150b0 : decide (t324 < 0) = false := decide_eq_false c150
                              clear c150
                              by_cases c157 : t324 = t310
                              · rw [if_pos c157] at H
                                have c157b0 : (t324 == t310) = true := beq_iff_eq.mpr c157
                                have c157b1 : (t324 != t310) = false := bne_eq_false_iff_eq.mpr c157
                                clear c157
                                obtain rfl := Option.some.inj H
                                have hnb158 := NB300_278.out
                                have hnc158 := NB278_300.out
                                have hnb159 := NB300_289.out
                                have hnc159 := NB289_300.out
                                have hnb160 := NB300_294.out
                                have hnc160 := NB294_300.out
                                have hnb161 := NB300_322.out
                                have hnc161 := NB322_300.out
                                have hcz162_0 : wc.cell? ⟨gb300, 0, none⟩ = some (.int .i64 t295) := (blk_cell BK300.out 0).trans rfl
                                have hcz162_1 : wc.cell? ⟨gb300, 1, none⟩ = some (.slice Ao38 t311.length co38) := (blk_cell BK300.out 1).trans rfl
                                have hfz162_0 := blk_frozen BK300.out 0
                                have hfz162_1 := blk_frozen BK300.out 1
                                go_wp2_with (first | ((with_reducible refine gate_callee (f := 17) rfl ?_); refine goesL_ (some 90) rfl rfl Try.func17 (by kernel_rfl) rfl #[.agg #[.int .i64 t295, .slice Ao38 t311.length co38], .int .i64 1] rfl q67 ?_; (with_reducible refine (laws_heldCyclo.calls kj104 t295 _ _ t311 1 t324 _ ?side1 ?side2 A149.out).mono ?_); (case side1 => repeat (first | exact (Kd.R_reads' HO_301001.out).2.2 | (with_reducible refine Kd.C_alloc ?_ _) | (with_reducible refine Kd.C_drewN ?_ _) | (with_reducible refine Kd.C_drew ?_))); (case side2 => exact (Kd.R_reads' HO_301001.out).2.1); rintro e w163 ⟨rfl, hb⟩; refine ⟨_, rfl, ?_⟩; have n0_ := Aside0.mk (Kd.R_below q103 hb); have n1_ := Aside0.mk (Kd.R_below q104 hb); have n2_ := Aside0.mk (Kd.R_below q105 hb); have n3_ := Aside0.mk (Kd.R_below q106 hb); have n4_ := Aside0.mk (blk_below (g := gb278) (o := .cells #[.int .i64 a0_0, .slice A0_1 l0_1.length c0_1] 30 (0, 0)) q96 hb); have n5_ := Aside0.mk (blk_below (g := gb289) (o := .cells #[.int .i64 t284, .slice Ao22 t285.length co22] 32 (0, 0)) q97 hb); have n6_ := Aside0.mk (blk_below (g := gb294) (o := .cells #[.int .i64 t290, .slice Ao29 t308.length co29] 32 (0, 0)) q98 hb); have n7_ := Aside0.mk (blk_below (g := gb300) (o := .cells #[.int .i64 t295, .slice Ao38 t311.length co38] 32 (0, 0)) q99 hb); have n8_ := Aside0.mk (blk_below (g := gb322) (o := .cells #[.int .i64 t317, .slice Ao125 t318.length co125] 32 (0, 0)) q100 hb); have n9_ := Aside0.mk (below_step q27 hb); clear HO_290001; clear HO_295001; clear HO_301001; clear HO_323001; clear BK278; clear BK289; clear BK294; clear BK300; clear BK322; clear HB; have HO_290001 := n0_; have HO_295001 := n1_; have HO_301001 := n2_; have HO_323001 := n3_; have BK278 := n4_; have BK289 := n5_; have BK294 := n6_; have BK300 := n7_; have BK322 := n8_; have HB := n9_; clear n0_ n1_ n2_ n3_ n4_ n5_ n6_ n7_ n8_ n9_; (try clear hb); (try clear hb2); (try clear hk); (try clear hi)))
                                go_ret
                                exact ⟨by first | rfl | (simp [errW_none, errW_some] <;> rfl) | (simp [*, errW_none, errW_some] <;> rfl), by repeat (first | (with_reducible first | exact HB.out | apply below_alloc | apply pw_below_drewN | apply below_drew1 | refine below_set ?_ GE278.out | refine below_set ?_ GE289.out | refine below_set ?_ GE294.out | refine below_set ?_ GE300.out | refine below_set ?_ GE322.out) | exact HB.out)⟩
                              · rw [if_neg c157] at H
                                have c157b0 : (t324 == t310) = false := beq_eq_false_iff_ne.mpr c157
                                have c157b1 : (t324 != t310) = true := bne_iff_ne.mpr c157
                                obtain rfl := Option.some.inj H
                                have hnb164 := NB300_278.out
                                have hnc164 := NB278_300.out
                                have hnb165 := NB300_289.out
                                have hnc165 := NB289_300.out
                                have hnb166 := NB300_294.out
                                have hnc166 := NB294_300.out
                                have hnb167 := NB300_322.out
                                have hnc167 := NB322_300.out
                                have hcz168_0 : wc.cell? ⟨gb300, 0, none⟩ = some (.int .i64 t295) := (blk_cell BK300.out 0).trans rfl
                                have hcz168_1 : wc.cell? ⟨gb300, 1, none⟩ = some (.slice Ao38 t311.length co38) := (blk_cell BK300.out 1).trans rfl
                                have hfz168_0 := blk_frozen BK300.out 0
                                have hfz168_1 := blk_frozen BK300.out 1
                                go_wp2_with (first | ((with_reducible refine gate_callee (f := 17) rfl ?_); refine goesL_ (some 90) rfl rfl Try.func17 (by kernel_rfl) rfl #[.agg #[.int .i64 t295, .slice Ao38 t311.length co38], .int .i64 1] rfl q67 ?_; (with_reducible refine (laws_heldCyclo.calls kj104 t295 _ _ t311 1 t324 _ ?side1 ?side2 A149.out).mono ?_); (case side1 => repeat (first | exact (Kd.R_reads' HO_301001.out).2.2 | (with_reducible refine Kd.C_alloc ?_ _) | (with_reducible refine Kd.C_drewN ?_ _) | (with_reducible refine Kd.C_drew ?_))); (case side2 => exact (Kd.R_reads' HO_301001.out).2.1); rintro e w169 ⟨rfl, hb⟩; refine ⟨_, rfl, ?_⟩; have n0_ := Aside0.mk (Kd.R_below q103 hb); have n1_ := Aside0.mk (Kd.R_below q104 hb); have n2_ := Aside0.mk (Kd.R_below q105 hb); have n3_ := Aside0.mk (Kd.R_below q106 hb); have n4_ := Aside0.mk (blk_below (g := gb278) (o := .cells #[.int .i64 a0_0, .slice A0_1 l0_1.length c0_1] 30 (0, 0)) q96 hb); have n5_ := Aside0.mk (blk_below (g := gb289) (o := .cells #[.int .i64 t284, .slice Ao22 t285.length co22] 32 (0, 0)) q97 hb); have n6_ := Aside0.mk (blk_below (g := gb294) (o := .cells #[.int .i64 t290, .slice Ao29 t308.length co29] 32 (0, 0)) q98 hb); have n7_ := Aside0.mk (blk_below (g := gb300) (o := .cells #[.int .i64 t295, .slice Ao38 t311.length co38] 32 (0, 0)) q99 hb); have n8_ := Aside0.mk (blk_below (g := gb322) (o := .cells #[.int .i64 t317, .slice Ao125 t318.length co125] 32 (0, 0)) q100 hb); have n9_ := Aside0.mk (below_step q27 hb); clear HO_290001; clear HO_295001; clear HO_301001; clear HO_323001; clear BK278; clear BK289; clear BK294; clear BK300; clear BK322; clear HB; have HO_290001 := n0_; have HO_295001 := n1_; have HO_301001 := n2_; have HO_323001 := n3_; have BK278 := n4_; have BK289 := n5_; have BK294 := n6_; have BK300 := n7_; have BK322 := n8_; have HB := n9_; clear n0_ n1_ n2_ n3_ n4_ n5_ n6_ n7_ n8_ n9_; (try clear hb); (try clear hb2); (try clear hk); (try clear hi)))
                                go_ret
                                exact ⟨by first | rfl | (simp [errW_none, errW_some] <;> rfl) | (simp [*, errW_none, errW_some] <;> rfl), by repeat (first | (with_reducible first | exact HB.out | apply below_alloc | apply pw_below_drewN | apply below_drew1 | refine below_set ?_ GE278.out | refine below_set ?_ GE289.out | refine below_set ?_ GE294.out | refine below_set ?_ GE300.out | refine below_set ?_ GE322.out) | exact HB.out)⟩
                    · rw [if_neg c102] at H
                      have c102b0 : (t312 == t310) = false := beq_eq_false_iff_ne.mpr c102
                      have c102b1 : (t312 != t310) = true := bne_iff_ne.mpr c102
                      obtain rfl := Option.some.inj H
                      have hnb170 := NB300_278.out
                      have hnc170 := NB278_300.out
                      have hnb171 := NB300_289.out
                      have hnc171 := NB289_300.out
                      have hnb172 := NB300_294.out
                      have hnc172 := NB294_300.out
                      have hcz173_0 : wc.cell? ⟨gb300, 0, none⟩ = some (.int .i64 t295) := (blk_cell BK300.out 0).trans rfl
                      have hcz173_1 : wc.cell? ⟨gb300, 1, none⟩ = some (.slice Ao38 t296.length co38) := (blk_cell BK300.out 1).trans rfl
                      have hfz173_0 := blk_frozen BK300.out 0
                      have hfz173_1 := blk_frozen BK300.out 1
                      go_wp2_with (first | ((with_reducible refine gate_callee (f := 16) rfl ?_); refine goesL_ (some 64) rfl rfl Try.func16 (by kernel_rfl) rfl #[.agg #[.int .i64 t295, .slice Ao38 t296.length co38], .int .i64 1] rfl q67 ?_; (with_reducible refine (laws_markCyclo.calls kj61 t295 (fun k_ => some k_ = (.slice Ao38 t296.length co38 : Value).ownBlock) (.slice Ao38 t296.length co38) t296 1 t310 t311 w _ ?side1 ?side2 A92.out).mono ?_); (case side1 => repeat (first | (with_reducible first | exact HB.out | apply below_alloc | apply pw_below_drewN | apply below_drew1 | refine below_set ?_ GE278.out | refine below_set ?_ GE289.out | refine below_set ?_ GE294.out | refine below_set ?_ GE300.out) | exact HB.out)); (case side2 => exact Kd.R_tight rfl HO_301001.out); rintro e w174 ⟨rfl, hy0, hb, hkp⟩; refine ⟨_, rfl, ?_⟩; have n0_ := Aside0.mk (Kd.R_mono (ok' := fun k_ => some k_ ≠ (.slice Ao29 t308.length co29 : Value).ownBlock ∧ some k_ ≠ (.slice Ao38 t296.length co38 : Value).ownBlock) (Kd.R_keptB (HO_290001.out) hkp (fun k_ hk_ hs_ => (hk_.2) hs_)) (fun k_ hk_ => ⟨hk_.1.1, hk_.1.2⟩)); have n1_ := Aside0.mk (Kd.R_mono (ok' := fun k_ => some k_ ≠ (.slice Ao22 t285.length co22 : Value).ownBlock ∧ some k_ ≠ (.slice Ao38 t296.length co38 : Value).ownBlock) (Kd.R_keptB (HO_295001.out) hkp (fun k_ hk_ hs_ => (hk_.2) hs_)) (fun k_ hk_ => ⟨hk_.1.1, hk_.1.2⟩)); have n2_ := Aside0.mk (Kd.R_reok rfl hy0 (fun k_ e_ => HO_301001.out.1 k_ e_)); have n3_ := Aside0.mk (blk_kept q96 hkp (fun hs_ => (fun e_ => (Kd.R_ne HO_301001.out BK278.out (by decide)) e_) hs_)); have n4_ := Aside0.mk (blk_kept q97 hkp (fun hs_ => (fun e_ => (Kd.R_ne HO_301001.out BK289.out (by decide)) e_) hs_)); have n5_ := Aside0.mk (blk_kept q98 hkp (fun hs_ => (fun e_ => (Kd.R_ne HO_301001.out BK294.out (by decide)) e_) hs_)); have n6_ := Aside0.mk (blk_kept q99 hkp (fun hs_ => (fun e_ => (Kd.R_ne HO_301001.out BK300.out (by decide)) e_) hs_)); have n7_ := Aside0.mk (hb); clear HO_290001; clear HO_295001; clear HO_301001; clear BK278; clear BK289; clear BK294; clear BK300; clear HB; have HO_290001 := n0_; have HO_295001 := n1_; have HO_301001 := n2_; have BK278 := n3_; have BK289 := n4_; have BK294 := n5_; have BK300 := n6_; have HB := n7_; clear n0_ n1_ n2_ n3_ n4_ n5_ n6_ n7_; (try clear hb); (try clear hkp); (try clear hy0); have hcz175_0 : w174.cell? ⟨gb300, 0, none⟩ = some (.int .i64 t295) := (blk_cell BK300.out 0).trans rfl; have hcz175_1 : w174.cell? ⟨gb300, 1, none⟩ = some (.slice Ao38 t296.length co38) := (blk_cell BK300.out 1).trans rfl; have hfz175_0 := blk_frozen BK300.out 0; have hfz175_1 := blk_frozen BK300.out 1) | ((with_reducible refine gate_callee (f := 17) rfl ?_); refine goesL_ (some 67) rfl rfl Try.func17 (by kernel_rfl) rfl #[.agg #[.int .i64 t295, .slice Ao38 t311.length co38], .int .i64 1] rfl q34 ?_; (with_reducible refine (laws_heldCyclo.calls kj61 t295 _ _ t311 1 t312 _ ?side1 ?side2 A93.out).mono ?_); (case side1 => repeat (first | exact (Kd.R_reads' HO_301001.out).2.2 | (with_reducible refine Kd.C_alloc ?_ _) | (with_reducible refine Kd.C_drewN ?_ _) | (with_reducible refine Kd.C_drew ?_))); (case side2 => rw [show t311.length = t296.length from (Kd.R_reads' HO_301001.out).1.symm]; exact (Kd.R_reads' HO_301001.out).2.1); rintro e w176 ⟨rfl, hb⟩; refine ⟨_, rfl, ?_⟩; have n0_ := Aside0.mk (Kd.R_below q103 hb); have n1_ := Aside0.mk (Kd.R_below q104 hb); have n2_ := Aside0.mk (Kd.R_below q105 hb); have n3_ := Aside0.mk (blk_below (g := gb278) (o := .cells #[.int .i64 a0_0, .slice A0_1 l0_1.length c0_1] 30 (0, 0)) q96 hb); have n4_ := Aside0.mk (blk_below (g := gb289) (o := .cells #[.int .i64 t284, .slice Ao22 t285.length co22] 32 (0, 0)) q97 hb); have n5_ := Aside0.mk (blk_below (g := gb294) (o := .cells #[.int .i64 t290, .slice Ao29 t308.length co29] 32 (0, 0)) q98 hb); have n6_ := Aside0.mk (blk_below (g := gb300) (o := .cells #[.int .i64 t295, .slice Ao38 t296.length co38] 32 (0, 0)) q99 hb); have n7_ := Aside0.mk (below_step q28 hb); clear HO_290001; clear HO_295001; clear HO_301001; clear BK278; clear BK289; clear BK294; clear BK300; clear HB; have HO_290001 := n0_; have HO_295001 := n1_; have HO_301001 := n2_; have BK278 := n3_; have BK289 := n4_; have BK294 := n5_; have BK300 := n6_; have HB := n7_; clear n0_ n1_ n2_ n3_ n4_ n5_ n6_ n7_; (try clear hb); (try clear hb2); (try clear hk); (try clear hi)))
                      go_ret
                      exact ⟨by first | rfl | (simp [errW_none, errW_some] <;> rfl) | (simp [*, errW_none, errW_some] <;> rfl), by repeat (first | (with_reducible first | exact HB.out | apply below_alloc | apply pw_below_drewN | apply below_drew1 | refine below_set ?_ GE278.out | refine below_set ?_ GE289.out | refine below_set ?_ GE294.out | refine below_set ?_ GE300.out) | exact HB.out)⟩
          · replace c60 := Bool.eq_false_iff.mpr c60
            subst c60
            have H1 : (some false) = some r := by rw [if_neg (show ¬ (false = true) by decide)] at H; exact H
            clear H
            have H := H1
            clear H1
            obtain rfl := Option.some.inj H
            try go_wp2
            have n0_ := Aside0.mk (Kd.R_drew HO_290001.out)
            have n1_ := Aside0.mk (Kd.R_drew HO_295001.out)
            have n2_ := Aside0.mk (Kd.R_drew HO_301001.out)
            have n3_ := Aside0.mk (blk_drew BK278.out)
            have n4_ := Aside0.mk (blk_drew BK289.out)
            have n5_ := Aside0.mk (blk_drew BK294.out)
            have n6_ := Aside0.mk (blk_drew BK300.out)
            have n7_ := Aside0.mk (below_drew1 HB.out)
            clear HO_290001
            clear HO_295001
            clear HO_301001
            clear BK278
            clear BK289
            clear BK294
            clear BK300
            clear HB
            have HO_290001 := n0_
            have HO_295001 := n1_
            have HO_301001 := n2_
            have BK278 := n3_
            have BK289 := n4_
            have BK294 := n5_
            have BK300 := n6_
            have HB := n7_
            clear n0_ n1_ n2_ n3_ n4_ n5_ n6_ n7_
            refine start_ (n := 5) (S := fun w' => w'.cell? ⟨gb294, 0, none⟩ = some (.int .i64 t290) ∧ w'.cell? ⟨gb294, 1, none⟩ = some (.slice Ao29 t291.length co29) ∧ w'.cell? ⟨gb278, 0, none⟩ = some (.int .i64 a0_0) ∧ w'.cell? ⟨gb278, 1, none⟩ = some (.slice A0_1 l0_1.length c0_1)) (ds := []) #[false, false, false, false, false] (by kernel_rfl) rfl rfl ⟨(blk_cell BK294.out 0).trans rfl, (blk_cell BK294.out 1).trans rfl, (blk_cell BK278.out 0).trans rfl, (blk_cell BK278.out 1).trans rfl⟩ (fun hHeld => ?_)
            generalize wc.drew = w177 at HO_290001 HO_295001 HO_301001 BK278 BK289 BK294 BK300 HB hHeld ⊢
            refine take_ (i := 0) (N := some 41) (v := ?_) (a' := ?_) #[true, false, false, false, false] rfl rfl (by kernel_rfl) (fun _ _ _ h => h) (Or.inl ⟨by rfl, ?_⟩) hHeld ?_ ?_
            rotate_left
            · rintro w' ⟨s0, s1, s2, s3⟩
              go_simp
              with_reducible rfl
            rotate_left
            · simp only [Act.put, List.setIfInBounds_toArray, List.set_cons_zero, List.set_cons_succ, i64_w, i32_w]
              rfl
            refine take_ (i := 1) (N := some 42) (v := ?_) (a' := ?_) #[true, true, false, false, false] rfl rfl (by kernel_rfl) (fun _ _ _ h => h) (Or.inl ⟨by rfl, ?_⟩) hHeld ?_ ?_
            rotate_left
            · rintro w' ⟨s0, s1, s2, s3⟩
              go_simp
              with_reducible rfl
            rotate_left
            · simp only [Act.put, List.setIfInBounds_toArray, List.set_cons_zero, List.set_cons_succ, i64_w, i32_w]
              rfl
            refine one_ (i := 2) (N := some 43) #[true, true, true, false, false] rfl rfl (by kernel_rfl) (by decide) (fun K hK => ?_)
            refine goes_ Try.func13 (by kernel_rfl) rfl #[.agg #[.int .i64 a0_0, .slice A0_1 l0_1.length c0_1]] (by rfl) rfl rfl q67 ?_
            with_reducible refine (laws_toCyclo.calls kj10 a0_0 _ _ l0_1 t302 t303 _ ?side1 ?side2 A58.out).mono ?_
            (case side1 => repeat (first | exact (Kd.C_below HR0_1.out HB.out) | (with_reducible refine Kd.C_alloc ?_ _) | (with_reducible refine Kd.C_drewN ?_ _) | (with_reducible refine Kd.C_drew ?_)))
            (case side2 => exact HC0_1.out)
            rintro e w178 ⟨v304, rfl, ho0, hb⟩
            refine ⟨_, rfl, ?_⟩
            have n0_ := Aside0.mk (Kd.R_elder' q103 (Kd.R_base ho0) hb)
            have n1_ := Aside0.mk (Kd.R_elder' q104 (Kd.R_base ho0) hb)
            have n2_ := Aside0.mk (Kd.R_elder' q105 (Kd.R_base ho0) hb)
            have n3_ := Aside0.mk (Kd.R_lower (Kd.R_new' (Kd.R_new' (Kd.R_new' ho0 (Kd.R_lt q103)) (Kd.R_lt q104)) (Kd.R_lt q105)) (below_size q28))
            have n4_ := Aside0.mk (blk_below (g := gb278) (o := .cells #[.int .i64 a0_0, .slice A0_1 l0_1.length c0_1] 30 (0, 0)) q96 hb)
            have n5_ := Aside0.mk (blk_below (g := gb289) (o := .cells #[.int .i64 t284, .slice Ao22 t285.length co22] 32 (0, 0)) q97 hb)
            have n6_ := Aside0.mk (blk_below (g := gb294) (o := .cells #[.int .i64 t290, .slice Ao29 t291.length co29] 32 (0, 0)) q98 hb)
            have n7_ := Aside0.mk (blk_below (g := gb300) (o := .cells #[.int .i64 t295, .slice Ao38 t296.length co38] 32 (0, 0)) q99 hb)
            have n8_ := Aside0.mk (below_step q28 hb)
            clear HO_290001
            clear HO_295001
            clear HO_301001
            clear BK278
            clear BK289
            clear BK294
            clear BK300
            clear HB
            have HO_290001 := n0_
            have HO_295001 := n1_
            have HO_301001 := n2_
            have HO305 := n3_
            have BK278 := n4_
            have BK289 := n5_
            have BK294 := n6_
            have BK300 := n7_
            have HB := n8_
            clear n0_ n1_ n2_ n3_ n4_ n5_ n6_ n7_ n8_
            (try clear hb)
            (try clear hb2)
            (try clear hk)
            (try clear hi)
            (try clear ho0)
            obtain ⟨Ao179, co179, eo179⟩ := Kd.R_slice HO305.out
            (first | subst eo179 | (injection eo179 with f1_ f2_ f3_; have f4_ := f1_.symm; have f5_ := f3_.symm; clear f1_ f2_ f3_; subst f4_; subst f5_))
            refine hK.out _ _ ⟨(blk_cell BK294.out 0).trans rfl, (blk_cell BK294.out 1).trans rfl, (blk_cell BK278.out 0).trans rfl, (blk_cell BK278.out 1).trans rfl⟩ (fun hHeld => ?_)
            clear hK K
            refine norm_ (a' := ?_) ?_ ?_
            rotate_left
            · show Act.put _ (some 43) _ = _
              simp only [Act.put, List.setIfInBounds_toArray, List.set_cons_zero, List.set_cons_succ, i64_w, i32_w]
              rfl
            refine one_ (i := 3) (N := some 44) #[true, true, true, true, false] rfl rfl (by kernel_rfl) (by decide) (fun K hK => ?_)
            refine goes_ Try.func15 (by kernel_rfl) rfl #[.agg #[.int .i64 t290, .slice Ao29 t291.length co29], .agg #[.int .i64 t302, .slice Ao179 t303.length co179]] (by rfl) rfl rfl q67 ?_
            with_reducible refine (laws_eqCyclo.calls kj10 t290 _ _ t291 t302 _ _ t303 false _ ?side1 ?side2 ?side3 ?side4 A59.out).mono ?_
            (case side1 => repeat (first | exact (Kd.R_reads' HO_295001.out).2.2 | (with_reducible refine Kd.C_alloc ?_ _) | (with_reducible refine Kd.C_drewN ?_ _) | (with_reducible refine Kd.C_drew ?_)))
            (case side2 => exact (Kd.R_reads' HO_295001.out).2.1)
            (case side3 => repeat (first | exact (Kd.R_reads' HO305.out).2.2 | (with_reducible refine Kd.C_alloc ?_ _) | (with_reducible refine Kd.C_drewN ?_ _) | (with_reducible refine Kd.C_drew ?_)))
            (case side4 => exact (Kd.R_reads' HO305.out).2.1)
            rintro e w180 ⟨rfl, hb⟩
            refine ⟨_, rfl, ?_⟩
            have n0_ := Aside0.mk (Kd.R_below q103 hb)
            have n1_ := Aside0.mk (Kd.R_below q104 hb)
            have n2_ := Aside0.mk (Kd.R_below q105 hb)
            have n3_ := Aside0.mk (Kd.R_below q121 hb)
            have n4_ := Aside0.mk (blk_below (g := gb278) (o := .cells #[.int .i64 a0_0, .slice A0_1 l0_1.length c0_1] 30 (0, 0)) q96 hb)
            have n5_ := Aside0.mk (blk_below (g := gb289) (o := .cells #[.int .i64 t284, .slice Ao22 t285.length co22] 32 (0, 0)) q97 hb)
            have n6_ := Aside0.mk (blk_below (g := gb294) (o := .cells #[.int .i64 t290, .slice Ao29 t291.length co29] 32 (0, 0)) q98 hb)
            have n7_ := Aside0.mk (blk_below (g := gb300) (o := .cells #[.int .i64 t295, .slice Ao38 t296.length co38] 32 (0, 0)) q99 hb)
            have n8_ := Aside0.mk (below_step q28 hb)
            clear HO_290001
            clear HO_295001
            clear HO_301001
            clear HO305
            clear BK278
            clear BK289
            clear BK294
            clear BK300
            clear HB
            have HO_290001 := n0_
            have HO_295001 := n1_
            have HO_301001 := n2_
            have HO305 := n3_
            have BK278 := n4_
            have BK289 := n5_
            have BK294 := n6_
            have BK300 := n7_
            have HB := n8_
            clear n0_ n1_ n2_ n3_ n4_ n5_ n6_ n7_ n8_
            (try clear hb)
            (try clear hb2)
            (try clear hk)
            (try clear hi)
            refine hK.out _ _ ⟨(blk_cell BK294.out 0).trans rfl, (blk_cell BK294.out 1).trans rfl, (blk_cell BK278.out 0).trans rfl, (blk_cell BK278.out 1).trans rfl⟩ (fun hHeld => ?_)
            clear hK K
            refine norm_ (a' := ?_) ?_ ?_
            rotate_left
            · show Act.put _ (some 44) _ = _
              simp only [Act.put, List.setIfInBounds_toArray, List.set_cons_zero, List.set_cons_succ, i64_w, i32_w]
              rfl
            refine pure_ (i := 4) (N := some 45) (v := ?_) (a' := ?_) #[true, true, true, true, true] rfl rfl (by kernel_rfl) (fun _ _ _ h => h) (Or.inl ⟨by rfl, ?_⟩) ?_ ?_
            rotate_left
            · intro w'
              go_simp
              with_reducible rfl
            rotate_left
            · simp only [Act.put, List.setIfInBounds_toArray, List.set_cons_zero, List.set_cons_succ, i64_w, i32_w]
              rfl
            refine done_ (by kernel_rfl) ?_
            try go_wp2
            go_ret
            exact ⟨by first | rfl | (simp [errW_none, errW_some] <;> rfl) | (simp [*, errW_none, errW_some] <;> rfl), by repeat (first | (with_reducible first | exact HB.out | apply below_alloc | apply pw_below_drewN | apply below_drew1 | refine below_set ?_ GE278.out | refine below_set ?_ GE289.out | refine below_set ?_ GE294.out | refine below_set ?_ GE300.out) | exact HB.out)⟩

/-- THE ONE PURE STATEMENT of laws_FnExactPrimaryAssociate. -/
def laws_FnExactPrimaryAssociate.Pure : Prop := ∀ (a0_0 : Int) (l0_1 : List Int), (Lit.int .i64 a0_0).wf = true → l0_1.length ≤ maxLen → (∀ x ∈ l0_1, (Lit.int .i64 x).wf = true) → ∃ k, laws_FnExactPrimaryAssociate.f k a0_0 l0_1 = some true
theorem laws_FnExactPrimaryAssociate.walk (P : laws_FnExactPrimaryAssociate.Pure) (a0_0 : Int) (a0_1 : Option Addr) (len0_1 cap0_1 : Nat) (z0_1 : List Int) (w : World) (w0_0 : (Lit.int .i64 a0_0).wf = true) (w0_1 : (a0_1 = none ∧ len0_1 = 0 ∧ cap0_1 = 0 ∧ z0_1 = []) ∨ ∃ x, a0_1 = some x ∧ len0_1 ≤ cap0_1 ∧ cap0_1 ≤ maxLen ∧ z0_1.length = cap0_1 ∧ (∀ i, i < z0_1.length → w.cell? (x.add i) = some (.int .i64 (z0_1.getD i 0))) ∧ ∀ n ∈ z0_1, (Lit.int .i64 n).wf = true) :
    Calls Try.prog 4 #[.agg #[.int .i64 a0_0, .slice a0_1 len0_1 cap0_1]] w fun e w' => e = .returned (.bool true) ∧ Below w.heap.size w w' := by
  obtain ⟨l0_1, rfl, hr0_1, hm0_1, hw0_1, hc0_1⟩ := ReadsInt.ofRowC w0_1
  obtain ⟨k, h⟩ := P a0_0 l0_1 w0_0 hm0_1 hw0_1
  refine (laws_FnExactPrimaryAssociate.calls k a0_0 _ _ l0_1 true w (Kd.C_of_reads (d := (0 : Int)) (h1 := fun _ => rfl) hr0_1) hc0_1 h).mono ?_
  rintro e w' ⟨rfl, hd⟩
  exact ⟨rfl, hd⟩

end Go.Proofs.Ytpmbhleenfnchab.PFnExactPrimaryAssociate
