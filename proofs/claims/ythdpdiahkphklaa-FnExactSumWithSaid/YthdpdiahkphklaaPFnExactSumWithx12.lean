/- The functions that the law reaches, as plain functions, each with the proof that the program comes to it; no condition. Written by a program of this session (wip/mp.py) over the printing of the kit; what is marked HAND is told by hand. -/
import Derived.Test.YthdpdiahkphklaaPFnExactSumWithx0
import Derived.Test.YthdpdiahkphklaaPFnExactSumWithx1
import Derived.Test.YthdpdiahkphklaaPFnExactSumWithx6
import Derived.Test.YthdpdiahkphklaaPFnExactSumWithx11
namespace Go.Proofs.Ythdpdiahkphklaa.PFnExactSumWith
open Go.RowKit Go.Proofs.YthdpdiahkphklaaW.PrintWords Go.Proofs.YthdpdiahkphklaaW.PrintLast Go.Proofs.YthdpdiahkphklaaW.PrintMore
attribute [local go_sem] max2_int min2_int max_two min_two max_three min_three max_four min_four   -- for this text's walks alone
set_option linter.unusedVariables false
set_option linter.unusedSimpArgs false

/-! ### laws_FnExactSumWith: function 8 -/
mutual
def laws_FnExactSumWith.j0 : Nat → List Int → Int → List Int → Int → Bool → Int → Int → Int → Int → List Int → Int → List Int → Option (Bool)
  | 0, _, _, _, _, _, _, _, _, _, _, _, _ => none
  | k + 1, x0, x6, x7, x9, x43, x358000, x358001, x358002, x370000, x370001, x382000, x382001 => if x43 = true then (some false) else ((laws_toInt64S.f k x0).bind fun t383 => ((laws_eqInt64S.f k x7 t383).bind fun t386 => (if t386 = true then ((laws_markInt64S.f k x7 1).bind fun bt387 => (if bt387.1 < 0 then (laws_FnExactSumWith.j1 k x0 x6 true x358000 x358001 x358002 x370000 x370001 x382000 x382001) else ((laws_eqCyclo.f k x382000 x382001 x370000 x370001).bind fun t389 => (if t389 = true then (laws_FnExactSumWith.j1 k x0 x6 (x9 != x6) x358000 x358001 x358002 x370000 x370001 x382000 x382001) else (laws_FnExactSumWith.j1 k x0 x6 true x358000 x358001 x358002 x370000 x370001 x382000 x382001))))) else (some false))))
def laws_FnExactSumWith.j1 : Nat → List Int → Int → Bool → Int → Int → Int → Int → List Int → Int → List Int → Option (Bool)
  | 0, _, _, _, _, _, _, _, _, _, _ => none
  | k + 1, x0, x6, x64, x358000, x358001, x358002, x370000, x370001, x382000, x382001 => if x64 = true then (some false) else ((laws_markCyclo.f k x382000 x382001 1).bind fun bt390 => ((laws_heldCyclo.f k x382000 bt390.2 1).bind fun t392 => (if t392 < 0 then (some false) else (if t392 = bt390.1 then ((laws_toInt64S.f k x0).bind fun t393 => ((laws_toCharacter.f x358000 x358001 x358002).bind fun bt396 => ((impl_SumWith.f k t393 bt396.1 bt396.2.1 bt396.2.2).bind fun bt399 => ((laws_eqCyclo.f k bt399.1 bt399.2.1 x370000 x370001).bind fun t405 => (if t405 = true then (laws_FnExactSumWith.j2 k bt390.1 (bt399.2.2 != x6) x382000 bt390.2) else (laws_FnExactSumWith.j2 k bt390.1 true x382000 bt390.2)))))) else (some false)))))
def laws_FnExactSumWith.j2 : Nat → Int → Bool → Int → List Int → Option (Bool)
  | 0, _, _, _, _ => none
  | k + 1, x11, x92, x382000, x382001 => if x92 = true then (some false) else ((laws_heldCyclo.f k x382000 x382001 1).bind fun t406 => (if t406 < 0 then (some false) else (if t406 = x11 then (some true) else (some false))))
end
def laws_FnExactSumWith.f (k : Nat) (l0 : List Int) (a1_0 : Int) (a1_1 : Int) (a1_2 : Int) : Option (Bool) := if (l0.length : Int) > 1048576 then (some true) else ((laws_toInt64S.f k l0).bind fun t358 => ((laws_toCharacter.f a1_0 a1_1 a1_2).bind fun bt361 => ((spec_SumWith.f k t358 bt361.1 bt361.2.1 bt361.2.2).bind fun bt364 => ((laws_toInt64S.f k l0).bind fun t370 => ((laws_toCharacter.f a1_0 a1_1 a1_2).bind fun bt373 => ((impl_SumWith.f k t370 bt373.1 bt373.2.1 bt373.2.2).bind fun bt376 => ((laws_eqCyclo.f k bt376.1 bt376.2.1 bt364.1 bt364.2.1).bind fun t382 => (if t382 = true then (laws_FnExactSumWith.j0 k l0 bt364.2.2 t370 bt376.2.2 (bt376.2.2 != bt364.2.2) a1_0 a1_1 a1_2 bt364.1 bt364.2.1 bt376.1 bt376.2.1) else (laws_FnExactSumWith.j0 k l0 bt364.2.2 t370 bt376.2.2 true a1_0 a1_1 a1_2 bt364.1 bt364.2.1 bt376.1 bt376.2.1)))))))))
theorem laws_FnExactSumWith.mono_l : ∀ k, (∀ y0 y1 y2 y3 y4 y5 y6 y7 y8 y9 y10 y11, LeO (laws_FnExactSumWith.j0 k y0 y1 y2 y3 y4 y5 y6 y7 y8 y9 y10 y11) (laws_FnExactSumWith.j0 (k + 1) y0 y1 y2 y3 y4 y5 y6 y7 y8 y9 y10 y11)) ∧ (∀ y0 y1 y2 y3 y4 y5 y6 y7 y8 y9, LeO (laws_FnExactSumWith.j1 k y0 y1 y2 y3 y4 y5 y6 y7 y8 y9) (laws_FnExactSumWith.j1 (k + 1) y0 y1 y2 y3 y4 y5 y6 y7 y8 y9)) ∧ (∀ y0 y1 y2 y3, LeO (laws_FnExactSumWith.j2 k y0 y1 y2 y3) (laws_FnExactSumWith.j2 (k + 1) y0 y1 y2 y3))
  | 0 => ⟨fun _ _ _ _ _ _ _ _ _ _ _ _ r h => by simp [laws_FnExactSumWith.j0] at h, fun _ _ _ _ _ _ _ _ _ _ r h => by simp [laws_FnExactSumWith.j1] at h, fun _ _ _ _ r h => by simp [laws_FnExactSumWith.j2] at h⟩
  | k + 1 => by
    obtain ⟨ih0, ih1, ih2⟩ := laws_FnExactSumWith.mono_l k
    refine ⟨?_, ?_, ?_⟩
    · intro y0 y1 y2 y3 y4 y5 y6 y7 y8 y9 y10 y11
      unfold laws_FnExactSumWith.j0
      repeat' first
      | (with_reducible exact ih0 _ _ _ _ _ _ _ _ _ _ _ _)
      | (with_reducible exact ih1 _ _ _ _ _ _ _ _ _ _)
      | (with_reducible exact ih2 _ _ _ _)
      | (with_reducible exact impl_SumWith.mono _ _ _ _ _)
      | (with_reducible exact laws_eqCyclo.mono _ _ _ _ _)
      | (with_reducible exact laws_eqInt64S.mono _ _ _)
      | (with_reducible exact laws_heldCyclo.mono _ _ _ _)
      | (with_reducible exact laws_markCyclo.mono _ _ _ _)
      | (with_reducible exact laws_markInt64S.mono _ _ _)
      | (with_reducible exact laws_toInt64S.mono _ _)
      | (with_reducible exact spec_SumWith.mono _ _ _ _ _)
      | (with_reducible exact LeO.refl _)
      | (with_reducible exact LeO.none _)
      | (with_reducible refine LeO.ite ?_ ?_)
      | (with_reducible refine LeO.bind ?_ (fun _ => ?_))
      | exact ih0 _ _ _ _ _ _ _ _ _ _ _ _
      | exact ih1 _ _ _ _ _ _ _ _ _ _
      | exact ih2 _ _ _ _
      | exact impl_SumWith.mono _ _ _ _ _
      | exact laws_eqCyclo.mono _ _ _ _ _
      | exact laws_eqInt64S.mono _ _ _
      | exact laws_heldCyclo.mono _ _ _ _
      | exact laws_markCyclo.mono _ _ _ _
      | exact laws_markInt64S.mono _ _ _
      | exact laws_toInt64S.mono _ _
      | exact spec_SumWith.mono _ _ _ _ _
      | exact LeO.none _
      | refine LeO.ite ?_ ?_
      | refine LeO.bind ?_ (fun _ => ?_)
    · intro y0 y1 y2 y3 y4 y5 y6 y7 y8 y9
      unfold laws_FnExactSumWith.j1
      repeat' first
      | (with_reducible exact ih0 _ _ _ _ _ _ _ _ _ _ _ _)
      | (with_reducible exact ih1 _ _ _ _ _ _ _ _ _ _)
      | (with_reducible exact ih2 _ _ _ _)
      | (with_reducible exact impl_SumWith.mono _ _ _ _ _)
      | (with_reducible exact laws_eqCyclo.mono _ _ _ _ _)
      | (with_reducible exact laws_eqInt64S.mono _ _ _)
      | (with_reducible exact laws_heldCyclo.mono _ _ _ _)
      | (with_reducible exact laws_markCyclo.mono _ _ _ _)
      | (with_reducible exact laws_markInt64S.mono _ _ _)
      | (with_reducible exact laws_toInt64S.mono _ _)
      | (with_reducible exact spec_SumWith.mono _ _ _ _ _)
      | (with_reducible exact LeO.refl _)
      | (with_reducible exact LeO.none _)
      | (with_reducible refine LeO.ite ?_ ?_)
      | (with_reducible refine LeO.bind ?_ (fun _ => ?_))
      | exact ih0 _ _ _ _ _ _ _ _ _ _ _ _
      | exact ih1 _ _ _ _ _ _ _ _ _ _
      | exact ih2 _ _ _ _
      | exact impl_SumWith.mono _ _ _ _ _
      | exact laws_eqCyclo.mono _ _ _ _ _
      | exact laws_eqInt64S.mono _ _ _
      | exact laws_heldCyclo.mono _ _ _ _
      | exact laws_markCyclo.mono _ _ _ _
      | exact laws_markInt64S.mono _ _ _
      | exact laws_toInt64S.mono _ _
      | exact spec_SumWith.mono _ _ _ _ _
      | exact LeO.none _
      | refine LeO.ite ?_ ?_
      | refine LeO.bind ?_ (fun _ => ?_)
    · intro y0 y1 y2 y3
      unfold laws_FnExactSumWith.j2
      repeat' first
      | (with_reducible exact ih0 _ _ _ _ _ _ _ _ _ _ _ _)
      | (with_reducible exact ih1 _ _ _ _ _ _ _ _ _ _)
      | (with_reducible exact ih2 _ _ _ _)
      | (with_reducible exact impl_SumWith.mono _ _ _ _ _)
      | (with_reducible exact laws_eqCyclo.mono _ _ _ _ _)
      | (with_reducible exact laws_eqInt64S.mono _ _ _)
      | (with_reducible exact laws_heldCyclo.mono _ _ _ _)
      | (with_reducible exact laws_markCyclo.mono _ _ _ _)
      | (with_reducible exact laws_markInt64S.mono _ _ _)
      | (with_reducible exact laws_toInt64S.mono _ _)
      | (with_reducible exact spec_SumWith.mono _ _ _ _ _)
      | (with_reducible exact LeO.refl _)
      | (with_reducible exact LeO.none _)
      | (with_reducible refine LeO.ite ?_ ?_)
      | (with_reducible refine LeO.bind ?_ (fun _ => ?_))
      | exact ih0 _ _ _ _ _ _ _ _ _ _ _ _
      | exact ih1 _ _ _ _ _ _ _ _ _ _
      | exact ih2 _ _ _ _
      | exact impl_SumWith.mono _ _ _ _ _
      | exact laws_eqCyclo.mono _ _ _ _ _
      | exact laws_eqInt64S.mono _ _ _
      | exact laws_heldCyclo.mono _ _ _ _
      | exact laws_markCyclo.mono _ _ _ _
      | exact laws_markInt64S.mono _ _ _
      | exact laws_toInt64S.mono _ _
      | exact spec_SumWith.mono _ _ _ _ _
      | exact LeO.none _
      | refine LeO.ite ?_ ?_
      | refine LeO.bind ?_ (fun _ => ?_)
theorem laws_FnExactSumWith.mono : ∀ a0 a1 a2 a3 k, LeO (laws_FnExactSumWith.f k a0 a1 a2 a3) (laws_FnExactSumWith.f (k + 1) a0 a1 a2 a3) := by
  intro a0 a1 a2 a3 k
  obtain ⟨ih0, ih1, ih2⟩ := laws_FnExactSumWith.mono_l k
  unfold laws_FnExactSumWith.f
  repeat' first
      | (with_reducible exact ih0 _ _ _ _ _ _ _ _ _ _ _ _)
      | (with_reducible exact ih1 _ _ _ _ _ _ _ _ _ _)
      | (with_reducible exact ih2 _ _ _ _)
      | (with_reducible exact impl_SumWith.mono _ _ _ _ _)
      | (with_reducible exact laws_eqCyclo.mono _ _ _ _ _)
      | (with_reducible exact laws_eqInt64S.mono _ _ _)
      | (with_reducible exact laws_heldCyclo.mono _ _ _ _)
      | (with_reducible exact laws_markCyclo.mono _ _ _ _)
      | (with_reducible exact laws_markInt64S.mono _ _ _)
      | (with_reducible exact laws_toInt64S.mono _ _)
      | (with_reducible exact spec_SumWith.mono _ _ _ _ _)
      | (with_reducible exact LeO.refl _)
      | (with_reducible exact LeO.none _)
      | (with_reducible refine LeO.ite ?_ ?_)
      | (with_reducible refine LeO.bind ?_ (fun _ => ?_))
      | exact ih0 _ _ _ _ _ _ _ _ _ _ _ _
      | exact ih1 _ _ _ _ _ _ _ _ _ _
      | exact ih2 _ _ _ _
      | exact impl_SumWith.mono _ _ _ _ _
      | exact laws_eqCyclo.mono _ _ _ _ _
      | exact laws_eqInt64S.mono _ _ _
      | exact laws_heldCyclo.mono _ _ _ _
      | exact laws_markCyclo.mono _ _ _ _
      | exact laws_markInt64S.mono _ _ _
      | exact laws_toInt64S.mono _ _
      | exact spec_SumWith.mono _ _ _ _ _
      | exact LeO.none _
      | refine LeO.ite ?_ ?_
      | refine LeO.bind ?_ (fun _ => ?_)
def laws_FnExactSumWith.T3 : Bool × List (List Nat × List Nat) := (true, [([], []), ([0], [0]), ([], []), ([2, 1], [2]), ([1, 3, 3], [1, 3]), ([4], [4]), ([5], [5]), ([5], [5]), ([], []), ([8, 6, 4, 0, 1, 2, 3, 4, 5, 6, 8], [6, 8]), ([7, 9, 0, 1, 2, 3, 4, 5, 6, 7, 8, 9], [7])])
def laws_FnExactSumWith.B3 : List Nat := [0, 1, 0, 7, 15, 31, 63, 63, 0, 383, 1023]
theorem laws_FnExactSumWith.tab3 : rtab .any (opsOf Try.f8 3) = laws_FnExactSumWith.T3 := by kernel_rfl
theorem laws_FnExactSumWith.bits3 : waitsOk laws_FnExactSumWith.T3.2 laws_FnExactSumWith.B3 = true := by kernel_rfl
def laws_FnExactSumWith.T22 : Bool × List (List Nat × List Nat) := (true, [([], []), ([0], [0]), ([], []), ([2, 1], [2]), ([1, 3, 3], [1, 3]), ([4], [4]), ([5], [5]), ([5], [5]), ([], []), ([8, 6, 4, 0, 1, 2, 3, 4, 5, 6, 8], [6, 8]), ([7, 9, 0, 1, 2, 3, 4, 5, 6, 7, 8, 9], [7])])
def laws_FnExactSumWith.B22 : List Nat := [0, 1, 0, 7, 15, 31, 63, 63, 0, 383, 1023]
theorem laws_FnExactSumWith.tab22 : rtab .any (opsOf Try.f8 22) = laws_FnExactSumWith.T22 := by kernel_rfl
theorem laws_FnExactSumWith.bits22 : waitsOk laws_FnExactSumWith.T22.2 laws_FnExactSumWith.B22 = true := by kernel_rfl
set_option maxHeartbeats 8000000 in
set_option maxRecDepth 100000 in
theorem laws_FnExactSumWith.calls (k : Nat) (A0 : Option Addr) (c0 : Nat) (l0 : List Int) (a1_0 : Int) (a1_1 : Int) (a1_2 : Int) (r : Bool) (w : World) (hr0 : Kd.C (Kd.int .i64) w A0 l0.length l0) (hc0 : l0.length ≤ c0) (h : laws_FnExactSumWith.f k l0 a1_0 a1_1 a1_2 = some r) :
    Calls Try.prog 8 #[.slice A0 l0.length c0, .agg #[.int .i64 a1_0, .int .i64 a1_1, .int .i64 a1_2]] w fun e w' => e = .returned (.bool r) ∧ Below w.heap.size w w' := by
  have hu32 := Try.underlying32
  have hu34 := Try.underlying34
  have HR0 := Aside0.mk hr0
  have HC0 := Aside0.mk hc0
  clear hr0 hc0
  have HB := Aside0.mk (Below.refl w.heap.size w)
  have H : (if (l0.length : Int) > 1048576 then (some true) else ((laws_toInt64S.f k l0).bind fun t358 => ((laws_toCharacter.f a1_0 a1_1 a1_2).bind fun bt361 => ((spec_SumWith.f k t358 bt361.1 bt361.2.1 bt361.2.2).bind fun bt364 => ((laws_toInt64S.f k l0).bind fun t370 => ((laws_toCharacter.f a1_0 a1_1 a1_2).bind fun bt373 => ((impl_SumWith.f k t370 bt373.1 bt373.2.1 bt373.2.2).bind fun bt376 => ((laws_eqCyclo.f k bt376.1 bt376.2.1 bt364.1 bt364.2.1).bind fun t382 => (if t382 = true then (laws_FnExactSumWith.j0 k l0 bt364.2.2 t370 bt376.2.2 (bt376.2.2 != bt364.2.2) a1_0 a1_1 a1_2 bt364.1 bt364.2.1 bt376.1 bt376.2.1) else (laws_FnExactSumWith.j0 k l0 bt364.2.2 t370 bt376.2.2 true a1_0 a1_1 a1_2 bt364.1 bt364.2.1 bt376.1 bt376.2.1)))))))))) = some r := h
  clear h
  by_cases c3 : (l0.length : Int) > 1048576
  · rw [if_pos c3] at H
    have c3b0 : decide (1048576 < (l0.length : Int)) = true := decide_eq_true c3
    have c3b1 : decide (1048576 < l0.length) = true := decide_eq_true (by omega)
    clear c3
    obtain rfl := Option.some.inj H
    go_enter Try.func8, Try.ntmps8
    go_wp2_with (first | ((with_reducible refine gate_dst (N := 3) rfl ?_); refine box_event ?hg (N := 3) ?hd (cs := #[.int .i64 a1_0, .int .i64 a1_1, .int .i64 a1_2]) (t := 32) ?hr ?_; (case hd => rfl); (case hg => rfl); (case hr => first | (go_simp; done) | (go_simp; rfl)); intro gb357 hg w4 hbox hb; have n0_ := Aside0.mk (below_step qB58 hb); have n1_ := Aside0.mk (hbox); have n2_ := Aside0.mk ((by rw [hg]; exact (below_size qB58) : w.heap.size ≤ gb357)); have n3_ := Aside0.mk ((by rw [hg]; exact (below_size qB58) : w.heap.size ≤ gb357)); clear HB; have HB := n0_; have BK357 := n1_; have GW357 := n2_; have GE357 := n3_; clear n0_ n1_ n2_ n3_; clear hb hbox hg))
    go_ret
    exact ⟨by first | rfl | (simp [errW_none, errW_some] <;> rfl) | (simp [*, errW_none, errW_some] <;> rfl), by repeat (first | (with_reducible first | exact HB.out | apply below_alloc | apply pw_below_drewN | apply below_drew1 | refine below_set ?_ GE357.out) | exact HB.out)⟩
  · rw [if_neg c3] at H
    have c3b0 : decide (1048576 < (l0.length : Int)) = false := decide_eq_false c3
    have c3b1 : decide (1048576 < l0.length) = false := decide_eq_false (by omega)
    clear c3
    replace H := Option.bind_eq_some_iff.mp H
    obtain ⟨t358, A50, H⟩ := H
    replace H : ((laws_toCharacter.f a1_0 a1_1 a1_2).bind fun bt361 => ((spec_SumWith.f k t358 bt361.1 bt361.2.1 bt361.2.2).bind fun bt364 => ((laws_toInt64S.f k l0).bind fun t370 => ((laws_toCharacter.f a1_0 a1_1 a1_2).bind fun bt373 => ((impl_SumWith.f k t370 bt373.1 bt373.2.1 bt373.2.2).bind fun bt376 => ((laws_eqCyclo.f k bt376.1 bt376.2.1 bt364.1 bt364.2.1).bind fun t382 => (if t382 = true then (laws_FnExactSumWith.j0 k l0 bt364.2.2 t370 bt376.2.2 (bt376.2.2 != bt364.2.2) a1_0 a1_1 a1_2 bt364.1 bt364.2.1 bt376.1 bt376.2.1) else (laws_FnExactSumWith.j0 k l0 bt364.2.2 t370 bt376.2.2 true a1_0 a1_1 a1_2 bt364.1 bt364.2.1 bt376.1 bt376.2.1)))))))) = some r := H
    have A5 := Aside0.mk A50
    clear A50
    replace H := Option.bind_eq_some_iff.mp H
    obtain ⟨⟨t361, t362, t363⟩, A60, H⟩ := H
    replace H : ((spec_SumWith.f k t358 t361 t362 t363).bind fun bt364 => ((laws_toInt64S.f k l0).bind fun t370 => ((laws_toCharacter.f a1_0 a1_1 a1_2).bind fun bt373 => ((impl_SumWith.f k t370 bt373.1 bt373.2.1 bt373.2.2).bind fun bt376 => ((laws_eqCyclo.f k bt376.1 bt376.2.1 bt364.1 bt364.2.1).bind fun t382 => (if t382 = true then (laws_FnExactSumWith.j0 k l0 bt364.2.2 t370 bt376.2.2 (bt376.2.2 != bt364.2.2) a1_0 a1_1 a1_2 bt364.1 bt364.2.1 bt376.1 bt376.2.1) else (laws_FnExactSumWith.j0 k l0 bt364.2.2 t370 bt376.2.2 true a1_0 a1_1 a1_2 bt364.1 bt364.2.1 bt376.1 bt376.2.1))))))) = some r := H
    have A6 := Aside0.mk A60
    clear A60
    replace H := Option.bind_eq_some_iff.mp H
    obtain ⟨⟨t364, t365, t368⟩, A70, H⟩ := H
    replace H : ((laws_toInt64S.f k l0).bind fun t370 => ((laws_toCharacter.f a1_0 a1_1 a1_2).bind fun bt373 => ((impl_SumWith.f k t370 bt373.1 bt373.2.1 bt373.2.2).bind fun bt376 => ((laws_eqCyclo.f k bt376.1 bt376.2.1 t364 t365).bind fun t382 => (if t382 = true then (laws_FnExactSumWith.j0 k l0 t368 t370 bt376.2.2 (bt376.2.2 != t368) a1_0 a1_1 a1_2 t364 t365 bt376.1 bt376.2.1) else (laws_FnExactSumWith.j0 k l0 t368 t370 bt376.2.2 true a1_0 a1_1 a1_2 t364 t365 bt376.1 bt376.2.1)))))) = some r := H
    have A7 := Aside0.mk A70
    clear A70
    replace H := Option.bind_eq_some_iff.mp H
    obtain ⟨t370, A80, H⟩ := H
    replace H : ((laws_toCharacter.f a1_0 a1_1 a1_2).bind fun bt373 => ((impl_SumWith.f k t370 bt373.1 bt373.2.1 bt373.2.2).bind fun bt376 => ((laws_eqCyclo.f k bt376.1 bt376.2.1 t364 t365).bind fun t382 => (if t382 = true then (laws_FnExactSumWith.j0 k l0 t368 t370 bt376.2.2 (bt376.2.2 != t368) a1_0 a1_1 a1_2 t364 t365 bt376.1 bt376.2.1) else (laws_FnExactSumWith.j0 k l0 t368 t370 bt376.2.2 true a1_0 a1_1 a1_2 t364 t365 bt376.1 bt376.2.1))))) = some r := H
    have A8 := Aside0.mk A80
    clear A80
    replace H := Option.bind_eq_some_iff.mp H
    obtain ⟨⟨t373, t374, t375⟩, A90, H⟩ := H
    replace H : ((impl_SumWith.f k t370 t373 t374 t375).bind fun bt376 => ((laws_eqCyclo.f k bt376.1 bt376.2.1 t364 t365).bind fun t382 => (if t382 = true then (laws_FnExactSumWith.j0 k l0 t368 t370 bt376.2.2 (bt376.2.2 != t368) a1_0 a1_1 a1_2 t364 t365 bt376.1 bt376.2.1) else (laws_FnExactSumWith.j0 k l0 t368 t370 bt376.2.2 true a1_0 a1_1 a1_2 t364 t365 bt376.1 bt376.2.1)))) = some r := H
    have A9 := Aside0.mk A90
    clear A90
    replace H := Option.bind_eq_some_iff.mp H
    obtain ⟨⟨t376, t377, t380⟩, A100, H⟩ := H
    replace H : ((laws_eqCyclo.f k t376 t377 t364 t365).bind fun t382 => (if t382 = true then (laws_FnExactSumWith.j0 k l0 t368 t370 t380 (t380 != t368) a1_0 a1_1 a1_2 t364 t365 t376 t377) else (laws_FnExactSumWith.j0 k l0 t368 t370 t380 true a1_0 a1_1 a1_2 t364 t365 t376 t377))) = some r := H
    have A10 := Aside0.mk A100
    clear A100
    have HC11 := Aside0.mk H
    clear H
    go_enter Try.func8, Try.ntmps8
    try go_wp2_with (first | ((with_reducible refine gate_dst (N := 3) rfl ?_); refine box_event ?hg (N := 3) ?hd (cs := #[.int .i64 a1_0, .int .i64 a1_1, .int .i64 a1_2]) (t := 32) ?hr ?_; (case hd => rfl); (case hg => rfl); (case hr => first | (go_simp; done) | (go_simp; rfl)); intro gb357 hg w12 hbox hb; have n0_ := Aside0.mk (below_step qB58 hb); have n1_ := Aside0.mk (hbox); have n2_ := Aside0.mk ((by rw [hg]; exact (below_size qB58) : w.heap.size ≤ gb357)); have n3_ := Aside0.mk ((by rw [hg]; exact (below_size qB58) : w.heap.size ≤ gb357)); clear HB; have HB := n0_; have BK357 := n1_; have GW357 := n2_; have GE357 := n3_; clear n0_ n1_ n2_ n3_; clear hb hbox hg))
    have n0_ := Aside0.mk (blk_drew BK357.out)
    have n1_ := Aside0.mk (below_drew1 HB.out)
    clear BK357
    clear HB
    have BK357 := n0_
    have HB := n1_
    clear n0_ n1_
    refine start_ (n := 11) (S := fun w' => w'.cell? ⟨gb357, 0, none⟩ = some (.int .i64 a1_0) ∧ w'.cell? ⟨gb357, 1, none⟩ = some (.int .i64 a1_1) ∧ w'.cell? ⟨gb357, 2, none⟩ = some (.int .i64 a1_2)) (ds := []) #[false, false, false, false, false, false, false, false, false, false, false] (by kernel_rfl) rfl rfl ⟨(blk_cell BK357.out 0).trans rfl, (blk_cell BK357.out 1).trans rfl, (blk_cell BK357.out 2).trans rfl⟩ (fun hHeld => ?_); refine with_tabW laws_FnExactSumWith.tab3 laws_FnExactSumWith.bits3 (fun HT_ HW_ => ?_)
    generalize w12.drew = w13 at BK357 HB hHeld ⊢
    refine pure_ (i := 0) (N := some 19) (v := ?_) (a' := ?_) #[true, false, false, false, false, false, false, false, false, false, false] rfl rfl (any_of HT_.out (by kernel_rfl)) (fun _ _ _ h => h) (Or.inl ⟨by rfl, ?_⟩) ?_ ?_
    rotate_left
    · intro w'
      go_simp
      with_reducible rfl
    rotate_left
    · simp only [Act.put, List.setIfInBounds_toArray, List.set_cons_zero, List.set_cons_succ, i64_w, i32_w]
      rfl
    refine take_ (i := 2) (N := some 21) (v := ?_) (a' := ?_) #[true, false, true, false, false, false, false, false, false, false, false] rfl rfl (take_ofW HT_.out HW_.out (by kernel_rfl)) (fun _ _ _ h => h) (Or.inl ⟨by rfl, ?_⟩) hHeld ?_ ?_
    rotate_left
    · rintro w' ⟨s0, s1, s2⟩
      go_simp
      with_reducible rfl
    rotate_left
    · simp only [Act.put, List.setIfInBounds_toArray, List.set_cons_zero, List.set_cons_succ, i64_w, i32_w]
      rfl
    refine join_ (σ := Value × Value × Nat) 2 #[true, true, true, true, true, true, true, true, true, false, false] (fun s_ => [(20, s_.1), (22, .agg #[.int .i64 t361, .int .i64 t362, .int .i64 t363]), (23, .tuple #[.agg #[.int .i64 t364, s_.2.1], .int .i64 t368]), (5, .pointer (some ⟨s_.2.2, 0, none⟩)), (18, .tuple #[.agg #[.int .i64 t364, s_.2.1], .int .i64 t368]), (24, .agg #[.int .i64 t364, s_.2.1]), (25, .int .i64 t368)]) (fun s_ w' => (w'.cell? ⟨gb357, 0, none⟩ = some (.int .i64 a1_0) ∧ w'.cell? ⟨gb357, 1, none⟩ = some (.int .i64 a1_1) ∧ w'.cell? ⟨gb357, 2, none⟩ = some (.int .i64 a1_2)) ∧ (Kd.R (Kd.int .i64) 2 w' w.heap.size (fun k_ => some k_ ≠ (s_.2.1 : Value).ownBlock) s_.1 t358) ∧ (Kd.R (Kd.int .i64) 2 w' w.heap.size (fun k_ => some k_ ≠ (s_.1 : Value).ownBlock) s_.2.1 t365) ∧ (w'.heap[gb357]? = some (.cells #[.int .i64 a1_0, .int .i64 a1_1, .int .i64 a1_2] 32 (0, 0))) ∧ (w'.heap[s_.2.2]? = some (.cells #[.int .i64 0, .slice none 0 0] 34 (0, 0))) ∧ (w.heap.size ≤ s_.2.2) ∧ (w.heap.size ≤ s_.2.2) ∧ (gb357 ≠ s_.2.2) ∧ (s_.2.2 ≠ gb357) ∧ (Below w.heap.size w w')) ?_ ?_
    rotate_left
    · intro hCont
      refine two_ (i := 1) (j := 8) (Ni := some 20) (Nj := some 5) #[true, true, true, false, false, false, false, false, false, false, false] #[true, false, true, false, false, false, false, false, true, false, false] rfl rfl rfl rfl (two_of HT_.out (by kernel_rfl)) (by decide) (by decide) (fun K hK => ?_) (fun K hK => ?_)
      · skip
        refine goes_ Try.func31 (by kernel_rfl) rfl #[.slice A0 l0.length c0] (by rfl) rfl rfl qB55 ?_
        with_reducible refine (laws_toInt64S.calls k _ _ l0 t358 _ ?side1 ?side2 A5.out).mono ?_
        (case side1 => repeat (first | exact (Kd.C_below HR0.out HB.out) | (with_reducible refine Kd.C_alloc ?_ _) | (with_reducible refine Kd.C_drewN ?_ _) | (with_reducible refine Kd.C_drew ?_)))
        (case side2 => exact HC0.out)
        rintro e w14 ⟨v359, rfl, ho0, hb⟩
        refine ⟨_, rfl, ?_⟩
        have n0_ := Aside0.mk (Kd.R_lower ho0 (below_size qB48))
        have n1_ := Aside0.mk (blk_below (g := gb357) (o := .cells #[.int .i64 a1_0, .int .i64 a1_1, .int .i64 a1_2] 32 (0, 0)) qB81 hb)
        have n2_ := Aside0.mk (below_step qB48 hb)
        clear BK357
        clear HB
        have HO360 := n0_
        have BK357 := n1_
        have HB := n2_
        clear n0_ n1_ n2_
        (try clear hb)
        (try clear hb2)
        (try clear hk)
        (try clear hi)
        (try clear ho0)
        refine hK.out _ _ ⟨(blk_cell BK357.out 0).trans rfl, (blk_cell BK357.out 1).trans rfl, (blk_cell BK357.out 2).trans rfl⟩ (fun hHeld => ?_)
        clear hK K
        refine norm_ (a' := ?_) ?_ ?_
        rotate_left
        · show Act.put _ (some 20) _ = _
          simp only [Act.put, List.setIfInBounds_toArray, List.set_cons_zero, List.set_cons_succ, i64_w, i32_w]
          rfl
        refine two_ (i := 3) (j := 8) (Ni := some 22) (Nj := some 5) #[true, true, true, true, false, false, false, false, false, false, false] #[true, true, true, false, false, false, false, false, true, false, false] rfl rfl rfl rfl (two_of HT_.out (by kernel_rfl)) (by decide) (by decide) (fun K hK => ?_) (fun K hK => ?_)
        · skip
          refine goes_ Try.func18 (by kernel_rfl) rfl #[.agg #[.int .i64 a1_0, .int .i64 a1_1, .int .i64 a1_2]] (by rfl) rfl rfl qB55 ?_
          with_reducible refine (laws_toCharacter.calls a1_0 a1_1 a1_2 t361 t362 t363 _ A6.out).mono ?_
          rintro e w15 ⟨rfl, hb⟩
          refine ⟨_, rfl, ?_⟩
          have n0_ := Aside0.mk (Kd.R_below qB102 hb)
          have n1_ := Aside0.mk (blk_below (g := gb357) (o := .cells #[.int .i64 a1_0, .int .i64 a1_1, .int .i64 a1_2] 32 (0, 0)) qB81 hb)
          have n2_ := Aside0.mk (below_step qB48 hb)
          clear HO360
          clear BK357
          clear HB
          have HO360 := n0_
          have BK357 := n1_
          have HB := n2_
          clear n0_ n1_ n2_
          (try clear hb)
          (try clear hb2)
          (try clear hk)
          (try clear hi)
          obtain ⟨Ao16, co16, eo16⟩ := Kd.R_slice HO360.out
          (first | subst eo16 | (injection eo16 with f1_ f2_ f3_; have f4_ := f1_.symm; have f5_ := f3_.symm; clear f1_ f2_ f3_; subst f4_; subst f5_))
          refine hK.out _ _ ⟨(blk_cell BK357.out 0).trans rfl, (blk_cell BK357.out 1).trans rfl, (blk_cell BK357.out 2).trans rfl⟩ (fun hHeld => ?_)
          clear hK K
          refine norm_ (a' := ?_) ?_ ?_
          rotate_left
          · show Act.put _ (some 22) _ = _
            simp only [Act.put, List.setIfInBounds_toArray, List.set_cons_zero, List.set_cons_succ, i64_w, i32_w]
            rfl
          refine two_ (i := 4) (j := 8) (Ni := some 23) (Nj := some 5) #[true, true, true, true, true, false, false, false, false, false, false] #[true, true, true, true, false, false, false, false, true, false, false] rfl rfl rfl rfl (two_of HT_.out (by kernel_rfl)) (by decide) (by decide) (fun K hK => ?_) (fun K hK => ?_)
          · skip
            refine goes_ Try.func30 (by kernel_rfl) rfl #[.slice Ao16 t358.length co16, .agg #[.int .i64 t361, .int .i64 t362, .int .i64 t363]] (by rfl) rfl rfl qB55 ?_
            with_reducible refine (spec_SumWith.calls k _ _ t358 t361 t362 t363 t364 t365 t368 _ ?side1 ?side2 A7.out).mono ?_
            (case side1 => repeat (first | exact (Kd.R_reads' HO360.out).2.2 | (with_reducible refine Kd.C_alloc ?_ _) | (with_reducible refine Kd.C_drewN ?_ _) | (with_reducible refine Kd.C_drew ?_)))
            (case side2 => exact (Kd.R_reads' HO360.out).2.1)
            rintro e w17 ⟨v366, rfl, ho0, hb⟩
            refine ⟨_, rfl, ?_⟩
            have n0_ := Aside0.mk (Kd.R_elder' qB102 (Kd.R_base ho0) hb)
            have n1_ := Aside0.mk (Kd.R_lower (Kd.R_new' ho0 (Kd.R_lt qB102)) (below_size qB48))
            have n2_ := Aside0.mk (blk_below (g := gb357) (o := .cells #[.int .i64 a1_0, .int .i64 a1_1, .int .i64 a1_2] 32 (0, 0)) qB81 hb)
            have n3_ := Aside0.mk (below_step qB48 hb)
            clear HO360
            clear BK357
            clear HB
            have HO360 := n0_
            have HO367 := n1_
            have BK357 := n2_
            have HB := n3_
            clear n0_ n1_ n2_ n3_
            (try clear hb)
            (try clear hb2)
            (try clear hk)
            (try clear hi)
            (try clear ho0)
            refine hK.out _ _ ⟨(blk_cell BK357.out 0).trans rfl, (blk_cell BK357.out 1).trans rfl, (blk_cell BK357.out 2).trans rfl⟩ (fun hHeld => ?_)
            clear hK K
            refine norm_ (a' := ?_) ?_ ?_
            rotate_left
            · show Act.put _ (some 23) _ = _
              simp only [Act.put, List.setIfInBounds_toArray, List.set_cons_zero, List.set_cons_succ, i64_w, i32_w]
              rfl
            refine pure_ (i := 5) (N := some 18) (v := ?_) (a' := ?_) #[true, true, true, true, true, true, false, false, false, false, false] rfl rfl (any_of HT_.out (by kernel_rfl)) (fun _ _ _ h => h) (Or.inl ⟨by rfl, ?_⟩) ?_ ?_
            rotate_left
            · intro w'
              go_simp
              with_reducible rfl
            rotate_left
            · simp only [Act.put, List.setIfInBounds_toArray, List.set_cons_zero, List.set_cons_succ, i64_w, i32_w]
              rfl
            refine pure_ (i := 6) (N := some 24) (v := ?_) (a' := ?_) #[true, true, true, true, true, true, true, false, false, false, false] rfl rfl (any_of HT_.out (by kernel_rfl)) (fun _ _ _ h => h) (Or.inl ⟨by rfl, ?_⟩) ?_ ?_
            rotate_left
            · intro w'
              go_simp
              with_reducible rfl
            rotate_left
            · simp only [Act.put, List.setIfInBounds_toArray, List.set_cons_zero, List.set_cons_succ, i64_w, i32_w]
              rfl
            refine pure_ (i := 7) (N := some 25) (v := ?_) (a' := ?_) #[true, true, true, true, true, true, true, true, false, false, false] rfl rfl (any_of HT_.out (by kernel_rfl)) (fun _ _ _ h => h) (Or.inl ⟨by rfl, ?_⟩) ?_ ?_
            rotate_left
            · intro w'
              go_simp
              with_reducible rfl
            rotate_left
            · simp only [Act.put, List.setIfInBounds_toArray, List.set_cons_zero, List.set_cons_succ, i64_w, i32_w]
              rfl
            refine one_ (i := 8) (N := some 5) #[true, true, true, true, true, true, true, true, true, false, false] rfl rfl (one_of HT_.out (by kernel_rfl)) (by decide) (fun K hK => ?_)
            refine box_step ?hg (N := 5) ?hd (cs := #[.int .i64 0, .slice none 0 0]) (t := 34) ?hr ?_; (case hd => rfl); (case hg => rfl); (case hr => first | (go_simp; done) | (go_simp; rfl))
            intro gb369 hg w18 hbox hb
            have n0_ := Aside0.mk (Kd.R_below qB102 hb)
            have n1_ := Aside0.mk (Kd.R_below qB103 hb)
            have n2_ := Aside0.mk (blk_below (g := gb357) (o := .cells #[.int .i64 a1_0, .int .i64 a1_1, .int .i64 a1_2] 32 (0, 0)) qB81 hb)
            have n3_ := Aside0.mk (below_step qB48 hb)
            have n4_ := Aside0.mk (hbox)
            have n5_ := Aside0.mk ((by rw [hg]; exact (below_size qB48) : w.heap.size ≤ gb369))
            have n6_ := Aside0.mk ((by rw [hg]; exact (below_size qB48) : w.heap.size ≤ gb369))
            have n7_ := Aside0.mk ((by rw [hg]; exact Nat.ne_of_lt (blk_lt (g := gb357) (o := .cells #[.int .i64 a1_0, .int .i64 a1_1, .int .i64 a1_2] 32 (0, 0)) qB81) : gb357 ≠ gb369))
            have n8_ := Aside0.mk ((by rw [hg]; exact Nat.ne_of_gt (blk_lt (g := gb357) (o := .cells #[.int .i64 a1_0, .int .i64 a1_1, .int .i64 a1_2] 32 (0, 0)) qB81) : gb369 ≠ gb357))
            clear HO360
            clear HO367
            clear BK357
            clear HB
            have HO360 := n0_
            have HO367 := n1_
            have BK357 := n2_
            have HB := n3_
            have BK369 := n4_
            have GW369 := n5_
            have GE369 := n6_
            have NB357_369 := n7_
            have NB369_357 := n8_
            clear n0_ n1_ n2_ n3_ n4_ n5_ n6_ n7_ n8_
            clear hb hbox hg
            refine hK.out _ _ ⟨(blk_cell BK357.out 0).trans rfl, (blk_cell BK357.out 1).trans rfl, (blk_cell BK357.out 2).trans rfl⟩ (fun hHeld => ?_)
            clear hK K
            refine norm_ (a' := ?_) ?_ ?_
            rotate_left
            · show Act.put _ (some 5) _ = _
              simp only [Act.put, List.setIfInBounds_toArray, List.set_cons_zero, List.set_cons_succ, i64_w, i32_w]
              rfl
            exact norm_ qB112 (hCont (.slice Ao16 t358.length co16, v366, gb369) _ ⟨hHeld, qB56, qB57, qB81, qB82, GW369.out, GE369.out, NB357_369.out, NB369_357.out, qB33⟩)
          · skip
            refine box_step ?hg (N := 5) ?hd (cs := #[.int .i64 0, .slice none 0 0]) (t := 34) ?hr ?_; (case hd => rfl); (case hg => rfl); (case hr => first | (go_simp; done) | (go_simp; rfl))
            intro gb369 hg w16 hbox hb
            have n0_ := Aside0.mk (Kd.R_below qB102 hb)
            have n1_ := Aside0.mk (blk_below (g := gb357) (o := .cells #[.int .i64 a1_0, .int .i64 a1_1, .int .i64 a1_2] 32 (0, 0)) qB81 hb)
            have n2_ := Aside0.mk (below_step qB48 hb)
            have n3_ := Aside0.mk (hbox)
            have n4_ := Aside0.mk ((by rw [hg]; exact (below_size qB48) : w.heap.size ≤ gb369))
            have n5_ := Aside0.mk ((by rw [hg]; exact (below_size qB48) : w.heap.size ≤ gb369))
            have n6_ := Aside0.mk ((by rw [hg]; exact Nat.ne_of_lt (blk_lt (g := gb357) (o := .cells #[.int .i64 a1_0, .int .i64 a1_1, .int .i64 a1_2] 32 (0, 0)) qB81) : gb357 ≠ gb369))
            have n7_ := Aside0.mk ((by rw [hg]; exact Nat.ne_of_gt (blk_lt (g := gb357) (o := .cells #[.int .i64 a1_0, .int .i64 a1_1, .int .i64 a1_2] 32 (0, 0)) qB81) : gb369 ≠ gb357))
            clear HO360
            clear BK357
            clear HB
            have HO360 := n0_
            have BK357 := n1_
            have HB := n2_
            have BK369 := n3_
            have GW369 := n4_
            have GE369 := n5_
            have NB357_369 := n6_
            have NB369_357 := n7_
            clear n0_ n1_ n2_ n3_ n4_ n5_ n6_ n7_
            clear hb hbox hg
            obtain ⟨Ao17, co17, eo17⟩ := Kd.R_slice HO360.out
            (first | subst eo17 | (injection eo17 with f1_ f2_ f3_; have f4_ := f1_.symm; have f5_ := f3_.symm; clear f1_ f2_ f3_; subst f4_; subst f5_))
            refine hK.out _ _ ⟨(blk_cell BK357.out 0).trans rfl, (blk_cell BK357.out 1).trans rfl, (blk_cell BK357.out 2).trans rfl⟩ (fun hHeld => ?_)
            clear hK K
            refine norm_ (a' := ?_) ?_ ?_
            rotate_left
            · show Act.put _ (some 5) _ = _
              simp only [Act.put, List.setIfInBounds_toArray, List.set_cons_zero, List.set_cons_succ, i64_w, i32_w]
              rfl
            refine one_ (i := 4) (N := some 23) #[true, true, true, true, true, false, false, false, true, false, false] rfl rfl (one_of HT_.out (by kernel_rfl)) (by decide) (fun K hK => ?_)
            refine goes_ Try.func30 (by kernel_rfl) rfl #[.slice Ao17 t358.length co17, .agg #[.int .i64 t361, .int .i64 t362, .int .i64 t363]] (by rfl) rfl rfl qB55 ?_
            with_reducible refine (spec_SumWith.calls k _ _ t358 t361 t362 t363 t364 t365 t368 _ ?side1 ?side2 A7.out).mono ?_
            (case side1 => repeat (first | exact (Kd.R_reads' HO360.out).2.2 | (with_reducible refine Kd.C_alloc ?_ _) | (with_reducible refine Kd.C_drewN ?_ _) | (with_reducible refine Kd.C_drew ?_)))
            (case side2 => exact (Kd.R_reads' HO360.out).2.1)
            rintro e w18 ⟨v366, rfl, ho0, hb⟩
            refine ⟨_, rfl, ?_⟩
            have n0_ := Aside0.mk (Kd.R_elder' qB102 (Kd.R_base ho0) hb)
            have n1_ := Aside0.mk (Kd.R_lower (Kd.R_new' ho0 (Kd.R_lt qB102)) (below_size qB33))
            have n2_ := Aside0.mk (blk_below (g := gb357) (o := .cells #[.int .i64 a1_0, .int .i64 a1_1, .int .i64 a1_2] 32 (0, 0)) qB81 hb)
            have n3_ := Aside0.mk (blk_below (g := gb369) (o := .cells #[.int .i64 0, .slice none 0 0] 34 (0, 0)) qB82 hb)
            have n4_ := Aside0.mk (below_step qB33 hb)
            clear HO360
            clear BK357
            clear BK369
            clear HB
            have HO360 := n0_
            have HO367 := n1_
            have BK357 := n2_
            have BK369 := n3_
            have HB := n4_
            clear n0_ n1_ n2_ n3_ n4_
            (try clear hb)
            (try clear hb2)
            (try clear hk)
            (try clear hi)
            (try clear ho0)
            refine hK.out _ _ ⟨(blk_cell BK357.out 0).trans rfl, (blk_cell BK357.out 1).trans rfl, (blk_cell BK357.out 2).trans rfl⟩ (fun hHeld => ?_)
            clear hK K
            refine norm_ (a' := ?_) ?_ ?_
            rotate_left
            · show Act.put _ (some 23) _ = _
              simp only [Act.put, List.setIfInBounds_toArray, List.set_cons_zero, List.set_cons_succ, i64_w, i32_w]
              rfl
            refine pure_ (i := 5) (N := some 18) (v := ?_) (a' := ?_) #[true, true, true, true, true, true, false, false, true, false, false] rfl rfl (any_of HT_.out (by kernel_rfl)) (fun _ _ _ h => h) (Or.inl ⟨by rfl, ?_⟩) ?_ ?_
            rotate_left
            · intro w'
              go_simp
              with_reducible rfl
            rotate_left
            · simp only [Act.put, List.setIfInBounds_toArray, List.set_cons_zero, List.set_cons_succ, i64_w, i32_w]
              rfl
            refine pure_ (i := 6) (N := some 24) (v := ?_) (a' := ?_) #[true, true, true, true, true, true, true, false, true, false, false] rfl rfl (any_of HT_.out (by kernel_rfl)) (fun _ _ _ h => h) (Or.inl ⟨by rfl, ?_⟩) ?_ ?_
            rotate_left
            · intro w'
              go_simp
              with_reducible rfl
            rotate_left
            · simp only [Act.put, List.setIfInBounds_toArray, List.set_cons_zero, List.set_cons_succ, i64_w, i32_w]
              rfl
            refine pure_ (i := 7) (N := some 25) (v := ?_) (a' := ?_) #[true, true, true, true, true, true, true, true, true, false, false] rfl rfl (any_of HT_.out (by kernel_rfl)) (fun _ _ _ h => h) (Or.inl ⟨by rfl, ?_⟩) ?_ ?_
            rotate_left
            · intro w'
              go_simp
              with_reducible rfl
            rotate_left
            · simp only [Act.put, List.setIfInBounds_toArray, List.set_cons_zero, List.set_cons_succ, i64_w, i32_w]
              rfl
            exact norm_ qB112 (hCont (.slice Ao17 t358.length co17, v366, gb369) _ ⟨hHeld, qB56, qB57, qB81, qB82, GW369.out, GE369.out, NB357_369.out, NB369_357.out, qB33⟩)
        · skip
          refine box_step ?hg (N := 5) ?hd (cs := #[.int .i64 0, .slice none 0 0]) (t := 34) ?hr ?_; (case hd => rfl); (case hg => rfl); (case hr => first | (go_simp; done) | (go_simp; rfl))
          intro gb369 hg w15 hbox hb
          have n0_ := Aside0.mk (Kd.R_below qB102 hb)
          have n1_ := Aside0.mk (blk_below (g := gb357) (o := .cells #[.int .i64 a1_0, .int .i64 a1_1, .int .i64 a1_2] 32 (0, 0)) qB81 hb)
          have n2_ := Aside0.mk (below_step qB48 hb)
          have n3_ := Aside0.mk (hbox)
          have n4_ := Aside0.mk ((by rw [hg]; exact (below_size qB48) : w.heap.size ≤ gb369))
          have n5_ := Aside0.mk ((by rw [hg]; exact (below_size qB48) : w.heap.size ≤ gb369))
          have n6_ := Aside0.mk ((by rw [hg]; exact Nat.ne_of_lt (blk_lt (g := gb357) (o := .cells #[.int .i64 a1_0, .int .i64 a1_1, .int .i64 a1_2] 32 (0, 0)) qB81) : gb357 ≠ gb369))
          have n7_ := Aside0.mk ((by rw [hg]; exact Nat.ne_of_gt (blk_lt (g := gb357) (o := .cells #[.int .i64 a1_0, .int .i64 a1_1, .int .i64 a1_2] 32 (0, 0)) qB81) : gb369 ≠ gb357))
          clear HO360
          clear BK357
          clear HB
          have HO360 := n0_
          have BK357 := n1_
          have HB := n2_
          have BK369 := n3_
          have GW369 := n4_
          have GE369 := n5_
          have NB357_369 := n6_
          have NB369_357 := n7_
          clear n0_ n1_ n2_ n3_ n4_ n5_ n6_ n7_
          clear hb hbox hg
          refine hK.out _ _ ⟨(blk_cell BK357.out 0).trans rfl, (blk_cell BK357.out 1).trans rfl, (blk_cell BK357.out 2).trans rfl⟩ (fun hHeld => ?_)
          clear hK K
          refine norm_ (a' := ?_) ?_ ?_
          rotate_left
          · show Act.put _ (some 5) _ = _
            simp only [Act.put, List.setIfInBounds_toArray, List.set_cons_zero, List.set_cons_succ, i64_w, i32_w]
            rfl
          refine one_ (i := 3) (N := some 22) #[true, true, true, true, false, false, false, false, true, false, false] rfl rfl (one_of HT_.out (by kernel_rfl)) (by decide) (fun K hK => ?_)
          refine goes_ Try.func18 (by kernel_rfl) rfl #[.agg #[.int .i64 a1_0, .int .i64 a1_1, .int .i64 a1_2]] (by rfl) rfl rfl qB55 ?_
          with_reducible refine (laws_toCharacter.calls a1_0 a1_1 a1_2 t361 t362 t363 _ A6.out).mono ?_
          rintro e w16 ⟨rfl, hb⟩
          refine ⟨_, rfl, ?_⟩
          have n0_ := Aside0.mk (Kd.R_below qB102 hb)
          have n1_ := Aside0.mk (blk_below (g := gb357) (o := .cells #[.int .i64 a1_0, .int .i64 a1_1, .int .i64 a1_2] 32 (0, 0)) qB81 hb)
          have n2_ := Aside0.mk (blk_below (g := gb369) (o := .cells #[.int .i64 0, .slice none 0 0] 34 (0, 0)) qB82 hb)
          have n3_ := Aside0.mk (below_step qB33 hb)
          clear HO360
          clear BK357
          clear BK369
          clear HB
          have HO360 := n0_
          have BK357 := n1_
          have BK369 := n2_
          have HB := n3_
          clear n0_ n1_ n2_ n3_
          (try clear hb)
          (try clear hb2)
          (try clear hk)
          (try clear hi)
          obtain ⟨Ao17, co17, eo17⟩ := Kd.R_slice HO360.out
          (first | subst eo17 | (injection eo17 with f1_ f2_ f3_; have f4_ := f1_.symm; have f5_ := f3_.symm; clear f1_ f2_ f3_; subst f4_; subst f5_))
          refine hK.out _ _ ⟨(blk_cell BK357.out 0).trans rfl, (blk_cell BK357.out 1).trans rfl, (blk_cell BK357.out 2).trans rfl⟩ (fun hHeld => ?_)
          clear hK K
          refine norm_ (a' := ?_) ?_ ?_
          rotate_left
          · show Act.put _ (some 22) _ = _
            simp only [Act.put, List.setIfInBounds_toArray, List.set_cons_zero, List.set_cons_succ, i64_w, i32_w]
            rfl
          refine one_ (i := 4) (N := some 23) #[true, true, true, true, true, false, false, false, true, false, false] rfl rfl (one_of HT_.out (by kernel_rfl)) (by decide) (fun K hK => ?_)
          refine goes_ Try.func30 (by kernel_rfl) rfl #[.slice Ao17 t358.length co17, .agg #[.int .i64 t361, .int .i64 t362, .int .i64 t363]] (by rfl) rfl rfl qB55 ?_
          with_reducible refine (spec_SumWith.calls k _ _ t358 t361 t362 t363 t364 t365 t368 _ ?side1 ?side2 A7.out).mono ?_
          (case side1 => repeat (first | exact (Kd.R_reads' HO360.out).2.2 | (with_reducible refine Kd.C_alloc ?_ _) | (with_reducible refine Kd.C_drewN ?_ _) | (with_reducible refine Kd.C_drew ?_)))
          (case side2 => exact (Kd.R_reads' HO360.out).2.1)
          rintro e w18 ⟨v366, rfl, ho0, hb⟩
          refine ⟨_, rfl, ?_⟩
          have n0_ := Aside0.mk (Kd.R_elder' qB102 (Kd.R_base ho0) hb)
          have n1_ := Aside0.mk (Kd.R_lower (Kd.R_new' ho0 (Kd.R_lt qB102)) (below_size qB33))
          have n2_ := Aside0.mk (blk_below (g := gb357) (o := .cells #[.int .i64 a1_0, .int .i64 a1_1, .int .i64 a1_2] 32 (0, 0)) qB81 hb)
          have n3_ := Aside0.mk (blk_below (g := gb369) (o := .cells #[.int .i64 0, .slice none 0 0] 34 (0, 0)) qB82 hb)
          have n4_ := Aside0.mk (below_step qB33 hb)
          clear HO360
          clear BK357
          clear BK369
          clear HB
          have HO360 := n0_
          have HO367 := n1_
          have BK357 := n2_
          have BK369 := n3_
          have HB := n4_
          clear n0_ n1_ n2_ n3_ n4_
          (try clear hb)
          (try clear hb2)
          (try clear hk)
          (try clear hi)
          (try clear ho0)
          refine hK.out _ _ ⟨(blk_cell BK357.out 0).trans rfl, (blk_cell BK357.out 1).trans rfl, (blk_cell BK357.out 2).trans rfl⟩ (fun hHeld => ?_)
          clear hK K
          refine norm_ (a' := ?_) ?_ ?_
          rotate_left
          · show Act.put _ (some 23) _ = _
            simp only [Act.put, List.setIfInBounds_toArray, List.set_cons_zero, List.set_cons_succ, i64_w, i32_w]
            rfl
          refine pure_ (i := 5) (N := some 18) (v := ?_) (a' := ?_) #[true, true, true, true, true, true, false, false, true, false, false] rfl rfl (any_of HT_.out (by kernel_rfl)) (fun _ _ _ h => h) (Or.inl ⟨by rfl, ?_⟩) ?_ ?_
          rotate_left
          · intro w'
            go_simp
            with_reducible rfl
          rotate_left
          · simp only [Act.put, List.setIfInBounds_toArray, List.set_cons_zero, List.set_cons_succ, i64_w, i32_w]
            rfl
          refine pure_ (i := 6) (N := some 24) (v := ?_) (a' := ?_) #[true, true, true, true, true, true, true, false, true, false, false] rfl rfl (any_of HT_.out (by kernel_rfl)) (fun _ _ _ h => h) (Or.inl ⟨by rfl, ?_⟩) ?_ ?_
          rotate_left
          · intro w'
            go_simp
            with_reducible rfl
          rotate_left
          · simp only [Act.put, List.setIfInBounds_toArray, List.set_cons_zero, List.set_cons_succ, i64_w, i32_w]
            rfl
          refine pure_ (i := 7) (N := some 25) (v := ?_) (a' := ?_) #[true, true, true, true, true, true, true, true, true, false, false] rfl rfl (any_of HT_.out (by kernel_rfl)) (fun _ _ _ h => h) (Or.inl ⟨by rfl, ?_⟩) ?_ ?_
          rotate_left
          · intro w'
            go_simp
            with_reducible rfl
          rotate_left
          · simp only [Act.put, List.setIfInBounds_toArray, List.set_cons_zero, List.set_cons_succ, i64_w, i32_w]
            rfl
          exact norm_ qB112 (hCont (.slice Ao17 t358.length co17, v366, gb369) _ ⟨hHeld, qB56, qB57, qB81, qB82, GW369.out, GE369.out, NB357_369.out, NB369_357.out, qB33⟩)
      · skip
        refine box_step ?hg (N := 5) ?hd (cs := #[.int .i64 0, .slice none 0 0]) (t := 34) ?hr ?_; (case hd => rfl); (case hg => rfl); (case hr => first | (go_simp; done) | (go_simp; rfl))
        intro gb369 hg w14 hbox hb
        have n0_ := Aside0.mk (blk_below (g := gb357) (o := .cells #[.int .i64 a1_0, .int .i64 a1_1, .int .i64 a1_2] 32 (0, 0)) qB81 hb)
        have n1_ := Aside0.mk (below_step qB48 hb)
        have n2_ := Aside0.mk (hbox)
        have n3_ := Aside0.mk ((by rw [hg]; exact (below_size qB48) : w.heap.size ≤ gb369))
        have n4_ := Aside0.mk ((by rw [hg]; exact (below_size qB48) : w.heap.size ≤ gb369))
        have n5_ := Aside0.mk ((by rw [hg]; exact Nat.ne_of_lt (blk_lt (g := gb357) (o := .cells #[.int .i64 a1_0, .int .i64 a1_1, .int .i64 a1_2] 32 (0, 0)) qB81) : gb357 ≠ gb369))
        have n6_ := Aside0.mk ((by rw [hg]; exact Nat.ne_of_gt (blk_lt (g := gb357) (o := .cells #[.int .i64 a1_0, .int .i64 a1_1, .int .i64 a1_2] 32 (0, 0)) qB81) : gb369 ≠ gb357))
        clear BK357
        clear HB
        have BK357 := n0_
        have HB := n1_
        have BK369 := n2_
        have GW369 := n3_
        have GE369 := n4_
        have NB357_369 := n5_
        have NB369_357 := n6_
        clear n0_ n1_ n2_ n3_ n4_ n5_ n6_
        clear hb hbox hg
        refine hK.out _ _ ⟨(blk_cell BK357.out 0).trans rfl, (blk_cell BK357.out 1).trans rfl, (blk_cell BK357.out 2).trans rfl⟩ (fun hHeld => ?_)
        clear hK K
        refine norm_ (a' := ?_) ?_ ?_
        rotate_left
        · show Act.put _ (some 5) _ = _
          simp only [Act.put, List.setIfInBounds_toArray, List.set_cons_zero, List.set_cons_succ, i64_w, i32_w]
          rfl
        refine one_ (i := 1) (N := some 20) #[true, true, true, false, false, false, false, false, true, false, false] rfl rfl (one_of HT_.out (by kernel_rfl)) (by decide) (fun K hK => ?_)
        refine goes_ Try.func31 (by kernel_rfl) rfl #[.slice A0 l0.length c0] (by rfl) rfl rfl qB55 ?_
        with_reducible refine (laws_toInt64S.calls k _ _ l0 t358 _ ?side1 ?side2 A5.out).mono ?_
        (case side1 => repeat (first | exact (Kd.C_below HR0.out HB.out) | (with_reducible refine Kd.C_alloc ?_ _) | (with_reducible refine Kd.C_drewN ?_ _) | (with_reducible refine Kd.C_drew ?_)))
        (case side2 => exact HC0.out)
        rintro e w15 ⟨v359, rfl, ho0, hb⟩
        refine ⟨_, rfl, ?_⟩
        have n0_ := Aside0.mk (Kd.R_lower ho0 (below_size qB33))
        have n1_ := Aside0.mk (blk_below (g := gb357) (o := .cells #[.int .i64 a1_0, .int .i64 a1_1, .int .i64 a1_2] 32 (0, 0)) qB81 hb)
        have n2_ := Aside0.mk (blk_below (g := gb369) (o := .cells #[.int .i64 0, .slice none 0 0] 34 (0, 0)) qB82 hb)
        have n3_ := Aside0.mk (below_step qB33 hb)
        clear BK357
        clear BK369
        clear HB
        have HO360 := n0_
        have BK357 := n1_
        have BK369 := n2_
        have HB := n3_
        clear n0_ n1_ n2_ n3_
        (try clear hb)
        (try clear hb2)
        (try clear hk)
        (try clear hi)
        (try clear ho0)
        refine hK.out _ _ ⟨(blk_cell BK357.out 0).trans rfl, (blk_cell BK357.out 1).trans rfl, (blk_cell BK357.out 2).trans rfl⟩ (fun hHeld => ?_)
        clear hK K
        refine norm_ (a' := ?_) ?_ ?_
        rotate_left
        · show Act.put _ (some 20) _ = _
          simp only [Act.put, List.setIfInBounds_toArray, List.set_cons_zero, List.set_cons_succ, i64_w, i32_w]
          rfl
        refine one_ (i := 3) (N := some 22) #[true, true, true, true, false, false, false, false, true, false, false] rfl rfl (one_of HT_.out (by kernel_rfl)) (by decide) (fun K hK => ?_)
        refine goes_ Try.func18 (by kernel_rfl) rfl #[.agg #[.int .i64 a1_0, .int .i64 a1_1, .int .i64 a1_2]] (by rfl) rfl rfl qB55 ?_
        with_reducible refine (laws_toCharacter.calls a1_0 a1_1 a1_2 t361 t362 t363 _ A6.out).mono ?_
        rintro e w16 ⟨rfl, hb⟩
        refine ⟨_, rfl, ?_⟩
        have n0_ := Aside0.mk (Kd.R_below qB102 hb)
        have n1_ := Aside0.mk (blk_below (g := gb357) (o := .cells #[.int .i64 a1_0, .int .i64 a1_1, .int .i64 a1_2] 32 (0, 0)) qB81 hb)
        have n2_ := Aside0.mk (blk_below (g := gb369) (o := .cells #[.int .i64 0, .slice none 0 0] 34 (0, 0)) qB82 hb)
        have n3_ := Aside0.mk (below_step qB33 hb)
        clear HO360
        clear BK357
        clear BK369
        clear HB
        have HO360 := n0_
        have BK357 := n1_
        have BK369 := n2_
        have HB := n3_
        clear n0_ n1_ n2_ n3_
        (try clear hb)
        (try clear hb2)
        (try clear hk)
        (try clear hi)
        obtain ⟨Ao17, co17, eo17⟩ := Kd.R_slice HO360.out
        (first | subst eo17 | (injection eo17 with f1_ f2_ f3_; have f4_ := f1_.symm; have f5_ := f3_.symm; clear f1_ f2_ f3_; subst f4_; subst f5_))
        refine hK.out _ _ ⟨(blk_cell BK357.out 0).trans rfl, (blk_cell BK357.out 1).trans rfl, (blk_cell BK357.out 2).trans rfl⟩ (fun hHeld => ?_)
        clear hK K
        refine norm_ (a' := ?_) ?_ ?_
        rotate_left
        · show Act.put _ (some 22) _ = _
          simp only [Act.put, List.setIfInBounds_toArray, List.set_cons_zero, List.set_cons_succ, i64_w, i32_w]
          rfl
        refine one_ (i := 4) (N := some 23) #[true, true, true, true, true, false, false, false, true, false, false] rfl rfl (one_of HT_.out (by kernel_rfl)) (by decide) (fun K hK => ?_)
        refine goes_ Try.func30 (by kernel_rfl) rfl #[.slice Ao17 t358.length co17, .agg #[.int .i64 t361, .int .i64 t362, .int .i64 t363]] (by rfl) rfl rfl qB55 ?_
        with_reducible refine (spec_SumWith.calls k _ _ t358 t361 t362 t363 t364 t365 t368 _ ?side1 ?side2 A7.out).mono ?_
        (case side1 => repeat (first | exact (Kd.R_reads' HO360.out).2.2 | (with_reducible refine Kd.C_alloc ?_ _) | (with_reducible refine Kd.C_drewN ?_ _) | (with_reducible refine Kd.C_drew ?_)))
        (case side2 => exact (Kd.R_reads' HO360.out).2.1)
        rintro e w18 ⟨v366, rfl, ho0, hb⟩
        refine ⟨_, rfl, ?_⟩
        have n0_ := Aside0.mk (Kd.R_elder' qB102 (Kd.R_base ho0) hb)
        have n1_ := Aside0.mk (Kd.R_lower (Kd.R_new' ho0 (Kd.R_lt qB102)) (below_size qB33))
        have n2_ := Aside0.mk (blk_below (g := gb357) (o := .cells #[.int .i64 a1_0, .int .i64 a1_1, .int .i64 a1_2] 32 (0, 0)) qB81 hb)
        have n3_ := Aside0.mk (blk_below (g := gb369) (o := .cells #[.int .i64 0, .slice none 0 0] 34 (0, 0)) qB82 hb)
        have n4_ := Aside0.mk (below_step qB33 hb)
        clear HO360
        clear BK357
        clear BK369
        clear HB
        have HO360 := n0_
        have HO367 := n1_
        have BK357 := n2_
        have BK369 := n3_
        have HB := n4_
        clear n0_ n1_ n2_ n3_ n4_
        (try clear hb)
        (try clear hb2)
        (try clear hk)
        (try clear hi)
        (try clear ho0)
        refine hK.out _ _ ⟨(blk_cell BK357.out 0).trans rfl, (blk_cell BK357.out 1).trans rfl, (blk_cell BK357.out 2).trans rfl⟩ (fun hHeld => ?_)
        clear hK K
        refine norm_ (a' := ?_) ?_ ?_
        rotate_left
        · show Act.put _ (some 23) _ = _
          simp only [Act.put, List.setIfInBounds_toArray, List.set_cons_zero, List.set_cons_succ, i64_w, i32_w]
          rfl
        refine pure_ (i := 5) (N := some 18) (v := ?_) (a' := ?_) #[true, true, true, true, true, true, false, false, true, false, false] rfl rfl (any_of HT_.out (by kernel_rfl)) (fun _ _ _ h => h) (Or.inl ⟨by rfl, ?_⟩) ?_ ?_
        rotate_left
        · intro w'
          go_simp
          with_reducible rfl
        rotate_left
        · simp only [Act.put, List.setIfInBounds_toArray, List.set_cons_zero, List.set_cons_succ, i64_w, i32_w]
          rfl
        refine pure_ (i := 6) (N := some 24) (v := ?_) (a' := ?_) #[true, true, true, true, true, true, true, false, true, false, false] rfl rfl (any_of HT_.out (by kernel_rfl)) (fun _ _ _ h => h) (Or.inl ⟨by rfl, ?_⟩) ?_ ?_
        rotate_left
        · intro w'
          go_simp
          with_reducible rfl
        rotate_left
        · simp only [Act.put, List.setIfInBounds_toArray, List.set_cons_zero, List.set_cons_succ, i64_w, i32_w]
          rfl
        refine pure_ (i := 7) (N := some 25) (v := ?_) (a' := ?_) #[true, true, true, true, true, true, true, true, true, false, false] rfl rfl (any_of HT_.out (by kernel_rfl)) (fun _ _ _ h => h) (Or.inl ⟨by rfl, ?_⟩) ?_ ?_
        rotate_left
        · intro w'
          go_simp
          with_reducible rfl
        rotate_left
        · simp only [Act.put, List.setIfInBounds_toArray, List.set_cons_zero, List.set_cons_succ, i64_w, i32_w]
          rfl
        exact norm_ qB112 (hCont (.slice Ao17 t358.length co17, v366, gb369) _ ⟨hHeld, qB56, qB57, qB81, qB82, GW369.out, GE369.out, NB357_369.out, NB369_357.out, qB33⟩)
    rintro ⟨v359, v366, gb369⟩ w19 ⟨hS_, h0_, h1_, h2_, h3_, h4_, h5_, h6_, h7_, h8_⟩
    have n0_ : Aside0 (Kd.R (Kd.int .i64) 2 w19 w.heap.size (fun k_ => some k_ ≠ (v366 : Value).ownBlock) v359 t358) := ⟨h0_⟩
    have n1_ : Aside0 (Kd.R (Kd.int .i64) 2 w19 w.heap.size (fun k_ => some k_ ≠ (v359 : Value).ownBlock) v366 t365) := ⟨h1_⟩
    have n2_ : Aside0 (w19.heap[gb357]? = some (.cells #[.int .i64 a1_0, .int .i64 a1_1, .int .i64 a1_2] 32 (0, 0))) := ⟨h2_⟩
    have n3_ : Aside0 (w19.heap[gb369]? = some (.cells #[.int .i64 0, .slice none 0 0] 34 (0, 0))) := ⟨h3_⟩
    have n4_ : Aside0 (w.heap.size ≤ gb369) := ⟨h4_⟩
    have n5_ : Aside0 (w.heap.size ≤ gb369) := ⟨h5_⟩
    have n6_ : Aside0 (gb357 ≠ gb369) := ⟨h6_⟩
    have n7_ : Aside0 (gb369 ≠ gb357) := ⟨h7_⟩
    have n8_ : Aside0 (Below w.heap.size w w19) := ⟨h8_⟩
    clear BK357
    clear HB
    clear h0_ h1_ h2_ h3_ h4_ h5_ h6_ h7_ h8_
    have HO360 := n0_
    have HO367 := n1_
    have BK357 := n2_
    have BK369 := n3_
    have GW369 := n4_
    have GE369 := n5_
    have NB357_369 := n6_
    have NB369_357 := n7_
    have HB := n8_
    clear n0_ n1_ n2_ n3_ n4_ n5_ n6_ n7_ n8_
    have hHeld : w19.cell? ⟨gb357, 0, none⟩ = some (.int .i64 a1_0) ∧ w19.cell? ⟨gb357, 1, none⟩ = some (.int .i64 a1_1) ∧ w19.cell? ⟨gb357, 2, none⟩ = some (.int .i64 a1_2) := hS_
    obtain ⟨Ao21, co21, eo21⟩ := Kd.R_slice HO367.out
    (first | subst eo21 | (injection eo21 with f1_ f2_ f3_; have f4_ := f1_.symm; have f5_ := f3_.symm; clear f1_ f2_ f3_; subst f4_; subst f5_))
    refine norm_ (a' := ?_) ?_ ?_
    rotate_left
    · simp only [putAll, Act.put, List.setIfInBounds_toArray, List.set_cons_zero, List.set_cons_succ]
      rfl
    refine one_ (i := 9) (N := none) #[true, true, true, true, true, true, true, true, true, true, false] rfl rfl (one_of HT_.out (by kernel_rfl)) (by decide) (fun K hK => ?_)
    have hs20 : w19.cell? ⟨gb369, 0, none⟩ = some (.int .i64 0) := (blk_cell BK369.out 0).trans rfl
    have hfs20 := blk_frozen BK369.out 0
    have hns20_0 := NB357_369.out
    have hms20_0 := NB369_357.out
    have hs22 : w19.cell? ⟨gb369, 1, none⟩ = some (.slice none 0 0) := (blk_cell BK369.out 1).trans rfl
    have hfs22 := blk_frozen BK369.out 1
    have hns22_0 := NB357_369.out
    have hms22_0 := NB369_357.out
    refine skip_ (w1 := ?_) (by rfl) rfl ?_ ?_
    rotate_left
    · go_simp
      rfl
    refine hK.out _ _ ⟨((cell_far (p := ⟨gb369, _, none⟩) NB357_369.out _).trans (((cell_far (p := ⟨gb369, _, none⟩) NB357_369.out _).trans (hHeld.1)))), ((cell_far (p := ⟨gb369, _, none⟩) NB357_369.out _).trans (((cell_far (p := ⟨gb369, _, none⟩) NB357_369.out _).trans (hHeld.2.1)))), ((cell_far (p := ⟨gb369, _, none⟩) NB357_369.out _).trans (((cell_far (p := ⟨gb369, _, none⟩) NB357_369.out _).trans (hHeld.2.2))))⟩ (fun hHeld => ?_)
    clear hK K
    refine pure_ (i := 10) (N := some 6) (v := ?_) (a' := ?_) #[true, true, true, true, true, true, true, true, true, true, true] rfl rfl (any_of HT_.out (by kernel_rfl)) (fun _ _ _ h => h) (Or.inl ⟨by rfl, ?_⟩) ?_ ?_
    rotate_left
    · intro w'
      go_simp
      with_reducible rfl
    rotate_left
    · simp only [Act.put, List.setIfInBounds_toArray, List.set_cons_zero, List.set_cons_succ, i64_w, i32_w]
      rfl
    refine done_ (done_of HT_.out (by kernel_rfl)) ?_
    go_upto_region 6 with (first | ((with_reducible refine gate_callee (f := 31) rfl ?_); refine goesL_ (some 27) rfl rfl Try.func31 (by kernel_rfl) rfl #[.slice A0 l0.length c0] rfl qB55 ?_; (with_reducible refine (laws_toInt64S.calls k _ _ l0 t370 _ ?side1 ?side2 A8.out).mono ?_); (case side1 => exact Kd.C_below HR0.out qB33); (case side2 => exact HC0.out); rintro e w23 ⟨v371, rfl, ho0, hb⟩; refine ⟨_, rfl, ?_⟩; have n0_ := Aside0.mk (Kd.R_elder' qB15 (Kd.R_base ho0) hb); have n1_ := Aside0.mk (Kd.R_elder' qB16 (Kd.R_base ho0) hb); have n2_ := Aside0.mk (Kd.R_lower (Kd.R_new' (Kd.R_new' ho0 (Kd.R_lt qB15)) (Kd.R_lt qB16)) (below_size qB33)); have n3_ := Aside0.mk (blk_below (g := gb357) (o := .cells #[.int .i64 a1_0, .int .i64 a1_1, .int .i64 a1_2] 32 (0, 0)) (by (with_reducible repeat (first | refine blk_drewN ?_ _ | refine blk_drew ?_ | refine blk_alloc ?_ _)); refine blk_far ?_ NB357_369.out _; (with_reducible repeat (first | refine blk_drewN ?_ _ | refine blk_drew ?_ | refine blk_alloc ?_ _)); refine blk_far ?_ NB357_369.out _; (with_reducible repeat (first | refine blk_drewN ?_ _ | refine blk_drew ?_ | refine blk_alloc ?_ _)); exact BK357.out) hb); have n4_ := Aside0.mk (blk_below (g := gb369) (o := .cells #[.int .i64 t364, .slice Ao21 t365.length co21] 34 (0, 0)) (by (with_reducible repeat (first | refine blk_drewN ?_ _ | refine blk_drew ?_ | refine blk_alloc ?_ _)); refine blk_put (cs := #[.int .i64 t364, .slice none 0 0]) ?_ 1 _ rfl; (with_reducible repeat (first | refine blk_drewN ?_ _ | refine blk_drew ?_ | refine blk_alloc ?_ _)); refine blk_put (cs := #[.int .i64 0, .slice none 0 0]) ?_ 0 _ rfl; (with_reducible repeat (first | refine blk_drewN ?_ _ | refine blk_drew ?_ | refine blk_alloc ?_ _)); exact BK369.out) hb); have n5_ := Aside0.mk (below_step qB33 hb); clear HO360; clear HO367; clear BK357; clear BK369; clear HB; have HO360 := n0_; have HO367 := n1_; have HO372 := n2_; have BK357 := n3_; have BK369 := n4_; have HB := n5_; clear n0_ n1_ n2_ n3_ n4_ n5_; (try clear hb); (try clear hb2); (try clear hk); (try clear hi); (try clear ho0); have hnb24 := NB357_369.out; have hnc24 := NB369_357.out; have hcz25_0 : w23.cell? ⟨gb357, 0, none⟩ = some (.int .i64 a1_0) := (blk_cell BK357.out 0).trans rfl; have hcz25_1 : w23.cell? ⟨gb357, 1, none⟩ = some (.int .i64 a1_1) := (blk_cell BK357.out 1).trans rfl; have hcz25_2 : w23.cell? ⟨gb357, 2, none⟩ = some (.int .i64 a1_2) := (blk_cell BK357.out 2).trans rfl; have hfz25_0 := blk_frozen BK357.out 0; have hfz25_1 := blk_frozen BK357.out 1; have hfz25_2 := blk_frozen BK357.out 2) | ((with_reducible refine gate_callee (f := 18) rfl ?_); refine goesL_ (some 31) rfl rfl Try.func18 (by kernel_rfl) rfl #[.agg #[.int .i64 a1_0, .int .i64 a1_1, .int .i64 a1_2]] rfl qB55 ?_; (with_reducible refine (laws_toCharacter.calls a1_0 a1_1 a1_2 t373 t374 t375 _ A9.out).mono ?_); rintro e w26 ⟨rfl, hb⟩; refine ⟨_, rfl, ?_⟩; have n0_ := Aside0.mk (Kd.R_below qB102 hb); have n1_ := Aside0.mk (Kd.R_below qB103 hb); have n2_ := Aside0.mk (Kd.R_below qB104 hb); have n3_ := Aside0.mk (blk_below (g := gb357) (o := .cells #[.int .i64 a1_0, .int .i64 a1_1, .int .i64 a1_2] 32 (0, 0)) qB81 hb); have n4_ := Aside0.mk (blk_below (g := gb369) (o := .cells #[.int .i64 t364, .slice Ao21 t365.length co21] 34 (0, 0)) qB82 hb); have n5_ := Aside0.mk (below_step qB33 hb); clear HO360; clear HO367; clear HO372; clear BK357; clear BK369; clear HB; have HO360 := n0_; have HO367 := n1_; have HO372 := n2_; have BK357 := n3_; have BK369 := n4_; have HB := n5_; clear n0_ n1_ n2_ n3_ n4_ n5_; (try clear hb); (try clear hb2); (try clear hk); (try clear hi); obtain ⟨Ao27, co27, eo27⟩ := Kd.R_slice HO372.out; subst eo27) | ((with_reducible refine gate_callee (f := 32) rfl ?_); refine goesL_ (some 32) rfl rfl Try.func32 (by kernel_rfl) rfl #[.slice Ao27 t370.length co27, .agg #[.int .i64 t373, .int .i64 t374, .int .i64 t375]] rfl qB55 ?_; (with_reducible refine (impl_SumWith.calls k _ _ t370 t373 t374 t375 t376 t377 t380 _ ?side1 ?side2 A10.out).mono ?_); (case side1 => repeat (first | exact (Kd.R_reads' HO372.out).2.2 | (with_reducible refine Kd.C_alloc ?_ _) | (with_reducible refine Kd.C_drewN ?_ _) | (with_reducible refine Kd.C_drew ?_))); (case side2 => exact (Kd.R_reads' HO372.out).2.1); rintro e w28 ⟨v378, rfl, ho0, hb⟩; refine ⟨_, rfl, ?_⟩; have n0_ := Aside0.mk (Kd.R_elder' qB102 (Kd.R_base ho0) hb); have n1_ := Aside0.mk (Kd.R_elder' qB103 (Kd.R_base ho0) hb); have n2_ := Aside0.mk (Kd.R_elder' qB104 (Kd.R_base ho0) hb); have n3_ := Aside0.mk (Kd.R_lower (Kd.R_new' (Kd.R_new' (Kd.R_new' ho0 (Kd.R_lt qB102)) (Kd.R_lt qB103)) (Kd.R_lt qB104)) (below_size qB33)); have n4_ := Aside0.mk (blk_below (g := gb357) (o := .cells #[.int .i64 a1_0, .int .i64 a1_1, .int .i64 a1_2] 32 (0, 0)) qB81 hb); have n5_ := Aside0.mk (blk_below (g := gb369) (o := .cells #[.int .i64 t364, .slice Ao21 t365.length co21] 34 (0, 0)) qB82 hb); have n6_ := Aside0.mk (below_step qB33 hb); clear HO360; clear HO367; clear HO372; clear BK357; clear BK369; clear HB; have HO360 := n0_; have HO367 := n1_; have HO372 := n2_; have HO379 := n3_; have BK357 := n4_; have BK369 := n5_; have HB := n6_; clear n0_ n1_ n2_ n3_ n4_ n5_ n6_; (try clear hb); (try clear hb2); (try clear hk); (try clear hi); (try clear ho0)) | ((with_reducible refine gate_dst (N := 8) rfl ?_); refine box_event ?hg (N := 8) ?hd (cs := #[.int .i64 0, .slice none 0 0]) (t := 34) ?hr ?_; (case hd => rfl); (case hg => rfl); (case hr => first | (go_simp; done) | (go_simp; rfl)); intro gb381 hg w29 hbox hb; have n0_ := Aside0.mk (Kd.R_below qB102 hb); have n1_ := Aside0.mk (Kd.R_below qB103 hb); have n2_ := Aside0.mk (Kd.R_below qB104 hb); have n3_ := Aside0.mk (Kd.R_below (by (with_reducible repeat (first | apply Kd.R_alloc | apply Kd.R_drewN | apply Kd.R_drew)); exact HO379.out) hb); have n4_ := Aside0.mk (blk_below (g := gb357) (o := .cells #[.int .i64 a1_0, .int .i64 a1_1, .int .i64 a1_2] 32 (0, 0)) qB81 hb); have n5_ := Aside0.mk (blk_below (g := gb369) (o := .cells #[.int .i64 t364, .slice Ao21 t365.length co21] 34 (0, 0)) qB82 hb); have n6_ := Aside0.mk (below_step qB33 hb); have n7_ := Aside0.mk (hbox); have n8_ := Aside0.mk ((by rw [hg]; exact (below_size qB33) : w.heap.size ≤ gb381)); have n9_ := Aside0.mk ((by rw [hg]; exact (below_size qB33) : w.heap.size ≤ gb381)); have n10_ := Aside0.mk ((by rw [hg]; exact Nat.ne_of_lt (blk_lt (g := gb357) (o := .cells #[.int .i64 a1_0, .int .i64 a1_1, .int .i64 a1_2] 32 (0, 0)) qB81) : gb357 ≠ gb381)); have n11_ := Aside0.mk ((by rw [hg]; exact Nat.ne_of_gt (blk_lt (g := gb357) (o := .cells #[.int .i64 a1_0, .int .i64 a1_1, .int .i64 a1_2] 32 (0, 0)) qB81) : gb381 ≠ gb357)); have n12_ := Aside0.mk ((by rw [hg]; exact Nat.ne_of_lt (blk_lt (g := gb369) (o := .cells #[.int .i64 t364, .slice Ao21 t365.length co21] 34 (0, 0)) qB82) : gb369 ≠ gb381)); have n13_ := Aside0.mk ((by rw [hg]; exact Nat.ne_of_gt (blk_lt (g := gb369) (o := .cells #[.int .i64 t364, .slice Ao21 t365.length co21] 34 (0, 0)) qB82) : gb381 ≠ gb369)); clear HO360; clear HO367; clear HO372; clear HO379; clear BK357; clear BK369; clear HB; have HO360 := n0_; have HO367 := n1_; have HO372 := n2_; have HO379 := n3_; have BK357 := n4_; have BK369 := n5_; have HB := n6_; have BK381 := n7_; have GW381 := n8_; have GE381 := n9_; have NB357_381 := n10_; have NB381_357 := n11_; have NB369_381 := n12_; have NB381_369 := n13_; clear n0_ n1_ n2_ n3_ n4_ n5_ n6_ n7_ n8_ n9_ n10_ n11_ n12_ n13_; clear hb hbox hg; have hnb30 := NB381_357.out; have hnc30 := NB357_381.out; have hnb31 := NB381_369.out; have hnc31 := NB369_381.out; have hcz32_0 : w29.cell? ⟨gb381, 0, none⟩ = some (.int .i64 0) := (blk_cell BK381.out 0).trans rfl; have hcz32_1 : w29.cell? ⟨gb381, 1, none⟩ = some (.slice none 0 0) := (blk_cell BK381.out 1).trans rfl; have hfz32_0 := blk_frozen BK381.out 0; have hfz32_1 := blk_frozen BK381.out 1; obtain ⟨Ao33, co33, eo33⟩ := Kd.R_slice HO379.out; subst eo33))
    (try simp only [Act.put, List.setIfInBounds_toArray, List.set_cons_zero, List.set_cons_succ])
    go_cut [43] (fun v43 wc => ∃ (kq : Nat) (x43_10 : Bool), v43 = .bool x43_10 ∧ Aside0 (laws_FnExactSumWith.j0 kq l0 t368 t370 t380 x43_10 a1_0 a1_1 a1_2 t364 t365 t376 t377 = some r) ∧ Aside0 (kq ≤ k) ∧ Aside0 (Kd.R (Kd.int .i64) 2 wc w.heap.size (fun k_ => some k_ ≠ ((.slice Ao21 t365.length co21) : Value).ownBlock ∧ some k_ ≠ ((.slice Ao33 t377.length co33) : Value).ownBlock) (.slice Ao27 t370.length co27) t370) ∧ Aside0 (Kd.R (Kd.int .i64) 2 wc w.heap.size (fun k_ => some k_ ≠ ((.slice Ao27 t370.length co27) : Value).ownBlock ∧ some k_ ≠ ((.slice Ao33 t377.length co33) : Value).ownBlock) (.slice Ao21 t365.length co21) t365) ∧ Aside0 (Kd.R (Kd.int .i64) 2 wc w.heap.size (fun k_ => some k_ ≠ ((.slice Ao27 t370.length co27) : Value).ownBlock ∧ some k_ ≠ ((.slice Ao21 t365.length co21) : Value).ownBlock) (.slice Ao33 t377.length co33) t377) ∧ Aside0 (wc.heap[gb357]? = some (.cells #[.int .i64 a1_0, .int .i64 a1_1, .int .i64 a1_2] 32 (0, 0))) ∧ Aside0 (wc.heap[gb369]? = some (.cells #[.int .i64 t364, (.slice Ao21 t365.length co21)] 34 (0, 0))) ∧ Aside0 (wc.heap[gb381]? = some (.cells #[.int .i64 t376, (.slice Ao33 t377.length co33)] 34 (0, 0))) ∧ Aside0 (Below w.heap.size w wc))
    case first =>
      have H := HC11.out
      clear HC11
      replace H := Option.bind_eq_some_iff.mp H
      obtain ⟨t382, A340, H⟩ := H
      replace H : (if t382 = true then (laws_FnExactSumWith.j0 k l0 t368 t370 t380 (t380 != t368) a1_0 a1_1 a1_2 t364 t365 t376 t377) else (laws_FnExactSumWith.j0 k l0 t368 t370 t380 true a1_0 a1_1 a1_2 t364 t365 t376 t377)) = some r := H
      have A34 := Aside0.mk A340
      clear A340
      by_cases c35 : t382 = true
      · subst c35
        have H1 : (laws_FnExactSumWith.j0 k l0 t368 t370 t380 (t380 != t368) a1_0 a1_1 a1_2 t364 t365 t376 t377) = some r := by rw [if_pos rfl] at H; exact H
        clear H
        have H := H1
        clear H1
        have H' := Aside0.mk H
        clear H
        have hnb36 := NB381_357.out
        have hnc36 := NB357_381.out
        have hnb37 := NB381_369.out
        have hnc37 := NB369_381.out
        have hcz38_0 : w29.cell? ⟨gb381, 0, none⟩ = some (.int .i64 0) := (blk_cell BK381.out 0).trans rfl
        have hcz38_1 : w29.cell? ⟨gb381, 1, none⟩ = some (.slice none 0 0) := (blk_cell BK381.out 1).trans rfl
        have hfz38_0 := blk_frozen BK381.out 0
        have hfz38_1 := blk_frozen BK381.out 1
        have hnb39 := NB369_357.out
        have hnc39 := NB357_369.out
        have hcz40_0 : w29.cell? ⟨gb369, 0, none⟩ = some (.int .i64 t364) := (blk_cell BK369.out 0).trans rfl
        have hcz40_1 : w29.cell? ⟨gb369, 1, none⟩ = some (.slice Ao21 t365.length co21) := (blk_cell BK369.out 1).trans rfl
        have hfz40_0 := blk_frozen BK369.out 0
        have hfz40_1 := blk_frozen BK369.out 1
        go_wp2_with (first | ((with_reducible refine gate_callee (f := 20) rfl ?_); refine goesL_ (some 37) rfl rfl Try.func20 (by kernel_rfl) rfl #[.agg #[.int .i64 t376, .slice Ao33 t377.length co33], .agg #[.int .i64 t364, .slice Ao21 t365.length co21]] rfl qB55 ?_; (with_reducible refine (laws_eqCyclo.calls k t376 _ _ t377 t364 _ _ t365 true _ ?side1 ?side2 ?side3 ?side4 A34.out).mono ?_); (case side1 => refine (Kd.R_reads' (e := 2) (base := w.heap.size) (ok := fun k_ => (((True ∧ some k_ ≠ (v359 : Value).ownBlock) ∧ some k_ ≠ (.slice Ao21 t365.length co21 : Value).ownBlock) ∧ some k_ ≠ (.slice Ao27 t370.length co27 : Value).ownBlock)) (n := t377.length) (c := co33) ?_).2.2; exact qB17); (case side2 => exact (Kd.R_reads' HO379.out).2.1); (case side3 => refine (Kd.R_reads' (e := 2) (base := w.heap.size) (ok := fun k_ => ((some k_ ≠ (v359 : Value).ownBlock ∧ some k_ ≠ (.slice Ao27 t370.length co27 : Value).ownBlock) ∧ some k_ ≠ (.slice Ao33 t377.length co33 : Value).ownBlock)) (n := t365.length) (c := co21) ?_).2.2; exact qB18); (case side4 => exact (Kd.R_reads' HO367.out).2.1); rintro e w41 ⟨rfl, hb⟩; refine ⟨_, rfl, ?_⟩; have n0_ := Aside0.mk (Kd.R_below qB19 hb); have n1_ := Aside0.mk (Kd.R_below qB18 hb); have n2_ := Aside0.mk (Kd.R_below qB20 hb); have n3_ := Aside0.mk (Kd.R_below qB17 hb); have n4_ := Aside0.mk (blk_below (g := gb357) (o := .cells #[.int .i64 a1_0, .int .i64 a1_1, .int .i64 a1_2] 32 (0, 0)) qB6 hb); have n5_ := Aside0.mk (blk_below (g := gb369) (o := .cells #[.int .i64 t364, .slice Ao21 t365.length co21] 34 (0, 0)) qB7 hb); have n6_ := Aside0.mk (blk_below (g := gb381) (o := .cells #[.int .i64 t376, .slice Ao33 t377.length co33] 34 (0, 0)) qB2 hb); have n7_ := Aside0.mk (below_step qB25 hb); clear HO360; clear HO367; clear HO372; clear HO379; clear BK357; clear BK369; clear BK381; clear HB; have HO360 := n0_; have HO367 := n1_; have HO372 := n2_; have HO379 := n3_; have BK357 := n4_; have BK369 := n5_; have BK381 := n6_; have HB := n7_; clear n0_ n1_ n2_ n3_ n4_ n5_ n6_ n7_; (try clear hb); (try clear hb2); (try clear hk); (try clear hi)))
        go_meet
        case rel => exact ⟨_, ((t380 != t368)), qB115, H', ⟨by first | omega | exact Nat.le_refl _⟩, ⟨by (with_reducible repeat (first | apply Kd.R_alloc | apply Kd.R_drewN | apply Kd.R_drew)); exact Kd.R_mono HO372.out (fun _ hk => ⟨hk.1.2, hk.2⟩)⟩, ⟨by (with_reducible repeat (first | apply Kd.R_alloc | apply Kd.R_drewN | apply Kd.R_drew)); exact Kd.R_mono HO367.out (fun _ hk => ⟨hk.1.2, hk.2⟩)⟩, ⟨by (with_reducible repeat (first | apply Kd.R_alloc | apply Kd.R_drewN | apply Kd.R_drew)); exact Kd.R_mono HO379.out (fun _ hk => ⟨hk.2, hk.1.2⟩)⟩, ⟨by (with_reducible repeat (first | refine blk_drewN ?_ _ | refine blk_drew ?_ | refine blk_alloc ?_ _)); exact BK357.out⟩, ⟨by (with_reducible repeat (first | refine blk_drewN ?_ _ | refine blk_drew ?_ | refine blk_alloc ?_ _)); exact BK369.out⟩, ⟨by (with_reducible repeat (first | refine blk_drewN ?_ _ | refine blk_drew ?_ | refine blk_alloc ?_ _)); exact BK381.out⟩, ⟨by repeat (first | (with_reducible first | exact HB.out | apply below_alloc | apply pw_below_drewN | apply below_drew1 | refine below_set ?_ GE357.out | refine below_set ?_ GE369.out | refine below_set ?_ GE381.out) | exact HB.out)⟩⟩
      · replace c35 := Bool.eq_false_iff.mpr c35
        subst c35
        have H1 : (laws_FnExactSumWith.j0 k l0 t368 t370 t380 true a1_0 a1_1 a1_2 t364 t365 t376 t377) = some r := by rw [if_neg (show ¬ (false = true) by decide)] at H; exact H
        clear H
        have H := H1
        clear H1
        have H' := Aside0.mk H
        clear H
        have hnb42 := NB381_357.out
        have hnc42 := NB357_381.out
        have hnb43 := NB381_369.out
        have hnc43 := NB369_381.out
        have hcz44_0 : w29.cell? ⟨gb381, 0, none⟩ = some (.int .i64 0) := (blk_cell BK381.out 0).trans rfl
        have hcz44_1 : w29.cell? ⟨gb381, 1, none⟩ = some (.slice none 0 0) := (blk_cell BK381.out 1).trans rfl
        have hfz44_0 := blk_frozen BK381.out 0
        have hfz44_1 := blk_frozen BK381.out 1
        have hnb45 := NB369_357.out
        have hnc45 := NB357_369.out
        have hcz46_0 : w29.cell? ⟨gb369, 0, none⟩ = some (.int .i64 t364) := (blk_cell BK369.out 0).trans rfl
        have hcz46_1 : w29.cell? ⟨gb369, 1, none⟩ = some (.slice Ao21 t365.length co21) := (blk_cell BK369.out 1).trans rfl
        have hfz46_0 := blk_frozen BK369.out 0
        have hfz46_1 := blk_frozen BK369.out 1
        go_wp2_with (first | ((with_reducible refine gate_callee (f := 20) rfl ?_); refine goesL_ (some 37) rfl rfl Try.func20 (by kernel_rfl) rfl #[.agg #[.int .i64 t376, .slice Ao33 t377.length co33], .agg #[.int .i64 t364, .slice Ao21 t365.length co21]] rfl qB55 ?_; (with_reducible refine (laws_eqCyclo.calls k t376 _ _ t377 t364 _ _ t365 false _ ?side1 ?side2 ?side3 ?side4 A34.out).mono ?_); (case side1 => refine (Kd.R_reads' (e := 2) (base := w.heap.size) (ok := fun k_ => (((True ∧ some k_ ≠ (v359 : Value).ownBlock) ∧ some k_ ≠ (.slice Ao21 t365.length co21 : Value).ownBlock) ∧ some k_ ≠ (.slice Ao27 t370.length co27 : Value).ownBlock)) (n := t377.length) (c := co33) ?_).2.2; exact qB17); (case side2 => exact (Kd.R_reads' HO379.out).2.1); (case side3 => refine (Kd.R_reads' (e := 2) (base := w.heap.size) (ok := fun k_ => ((some k_ ≠ (v359 : Value).ownBlock ∧ some k_ ≠ (.slice Ao27 t370.length co27 : Value).ownBlock) ∧ some k_ ≠ (.slice Ao33 t377.length co33 : Value).ownBlock)) (n := t365.length) (c := co21) ?_).2.2; exact qB18); (case side4 => exact (Kd.R_reads' HO367.out).2.1); rintro e w47 ⟨rfl, hb⟩; refine ⟨_, rfl, ?_⟩; have n0_ := Aside0.mk (Kd.R_below qB19 hb); have n1_ := Aside0.mk (Kd.R_below qB18 hb); have n2_ := Aside0.mk (Kd.R_below qB20 hb); have n3_ := Aside0.mk (Kd.R_below qB17 hb); have n4_ := Aside0.mk (blk_below (g := gb357) (o := .cells #[.int .i64 a1_0, .int .i64 a1_1, .int .i64 a1_2] 32 (0, 0)) qB6 hb); have n5_ := Aside0.mk (blk_below (g := gb369) (o := .cells #[.int .i64 t364, .slice Ao21 t365.length co21] 34 (0, 0)) qB7 hb); have n6_ := Aside0.mk (blk_below (g := gb381) (o := .cells #[.int .i64 t376, .slice Ao33 t377.length co33] 34 (0, 0)) qB2 hb); have n7_ := Aside0.mk (below_step qB25 hb); clear HO360; clear HO367; clear HO372; clear HO379; clear BK357; clear BK369; clear BK381; clear HB; have HO360 := n0_; have HO367 := n1_; have HO372 := n2_; have HO379 := n3_; have BK357 := n4_; have BK369 := n5_; have BK381 := n6_; have HB := n7_; clear n0_ n1_ n2_ n3_ n4_ n5_ n6_ n7_; (try clear hb); (try clear hb2); (try clear hk); (try clear hi)))
        go_meet
        case rel => exact ⟨_, (true), qB115, H', ⟨by first | omega | exact Nat.le_refl _⟩, ⟨by (with_reducible repeat (first | apply Kd.R_alloc | apply Kd.R_drewN | apply Kd.R_drew)); exact Kd.R_mono HO372.out (fun _ hk => ⟨hk.1.2, hk.2⟩)⟩, ⟨by (with_reducible repeat (first | apply Kd.R_alloc | apply Kd.R_drewN | apply Kd.R_drew)); exact Kd.R_mono HO367.out (fun _ hk => ⟨hk.1.2, hk.2⟩)⟩, ⟨by (with_reducible repeat (first | apply Kd.R_alloc | apply Kd.R_drewN | apply Kd.R_drew)); exact Kd.R_mono HO379.out (fun _ hk => ⟨hk.2, hk.1.2⟩)⟩, ⟨by (with_reducible repeat (first | refine blk_drewN ?_ _ | refine blk_drew ?_ | refine blk_alloc ?_ _)); exact BK357.out⟩, ⟨by (with_reducible repeat (first | refine blk_drewN ?_ _ | refine blk_drew ?_ | refine blk_alloc ?_ _)); exact BK369.out⟩, ⟨by (with_reducible repeat (first | refine blk_drewN ?_ _ | refine blk_drew ?_ | refine blk_alloc ?_ _)); exact BK381.out⟩, ⟨by repeat (first | (with_reducible first | exact HB.out | apply below_alloc | apply pw_below_drewN | apply below_drew1 | refine below_set ?_ GE357.out | refine below_set ?_ GE369.out | refine below_set ?_ GE381.out) | exact HB.out)⟩⟩
    case rest =>
      clear HC11
      try clear c1
      try clear c2
      try clear p2
      try clear c3
      try clear c4
      try clear c18
      try clear c20
      try clear c24
      try clear c30
      try clear c31
      try clear c32
      try clear c35
      try clear c36
      try clear c37
      try clear c39
      try clear c42
      try clear c43
      try clear c45
      try clear hcz25_0
      try clear hcz25_1
      try clear hcz25_2
      try clear hcz32_0
      try clear hcz32_1
      try clear hcz38_0
      try clear hcz38_1
      try clear hcz40_0
      try clear hcz40_1
      try clear hcz44_0
      try clear hcz44_1
      try clear hcz46_0
      try clear hcz46_1
      try clear hfz25_0
      try clear hfz25_1
      try clear hfz25_2
      try clear hfz32_0
      try clear hfz32_1
      try clear hfz38_0
      try clear hfz38_1
      try clear hfz40_0
      try clear hfz40_1
      try clear hfz44_0
      try clear hfz44_1
      try clear hfz46_0
      try clear hfz46_1
      obtain ⟨kq, x43_10, rfl, HA, HJ10, HO_7, HO_370001, HO_382001, BK357, BK369, BK381, HB⟩ := hcut
      cases kq with
      | zero => exact absurd HA.out (by simp [laws_FnExactSumWith.j0])
      | succ kj10 =>
        have H := HA.out
        clear HA
        simp only [laws_FnExactSumWith.j0] at H
        by_cases c48 : x43_10 = true
        · subst c48
          have H1 : (some false) = some r := by rw [if_pos rfl] at H; exact H
          clear H
          have H := H1
          clear H1
          obtain rfl := Option.some.inj H
          go_wp2
          go_ret
          exact ⟨by first | rfl | (simp [errW_none, errW_some] <;> rfl) | (simp [*, errW_none, errW_some] <;> rfl), by repeat (first | (with_reducible first | exact HB.out | apply below_alloc | apply pw_below_drewN | apply below_drew1 | refine below_set ?_ GE357.out | refine below_set ?_ GE369.out | refine below_set ?_ GE381.out) | exact HB.out)⟩
        · replace c48 := Bool.eq_false_iff.mpr c48
          subst c48
          have H1 : ((laws_toInt64S.f kj10 l0).bind fun t383 => ((laws_eqInt64S.f kj10 t370 t383).bind fun t386 => (if t386 = true then ((laws_markInt64S.f kj10 t370 1).bind fun bt387 => (if bt387.1 < 0 then (laws_FnExactSumWith.j1 kj10 l0 t368 true a1_0 a1_1 a1_2 t364 t365 t376 t377) else ((laws_eqCyclo.f kj10 t376 t377 t364 t365).bind fun t389 => (if t389 = true then (laws_FnExactSumWith.j1 kj10 l0 t368 (t380 != t368) a1_0 a1_1 a1_2 t364 t365 t376 t377) else (laws_FnExactSumWith.j1 kj10 l0 t368 true a1_0 a1_1 a1_2 t364 t365 t376 t377))))) else (some false)))) = some r := by rw [if_neg (show ¬ (false = true) by decide)] at H; exact H
          clear H
          have H := H1
          clear H1
          replace H := Option.bind_eq_some_iff.mp H
          obtain ⟨t383, A490, H⟩ := H
          replace H : ((laws_eqInt64S.f kj10 t370 t383).bind fun t386 => (if t386 = true then ((laws_markInt64S.f kj10 t370 1).bind fun bt387 => (if bt387.1 < 0 then (laws_FnExactSumWith.j1 kj10 l0 t368 true a1_0 a1_1 a1_2 t364 t365 t376 t377) else ((laws_eqCyclo.f kj10 t376 t377 t364 t365).bind fun t389 => (if t389 = true then (laws_FnExactSumWith.j1 kj10 l0 t368 (t380 != t368) a1_0 a1_1 a1_2 t364 t365 t376 t377) else (laws_FnExactSumWith.j1 kj10 l0 t368 true a1_0 a1_1 a1_2 t364 t365 t376 t377))))) else (some false))) = some r := H
          have A49 := Aside0.mk A490
          clear A490
          replace H := Option.bind_eq_some_iff.mp H
          obtain ⟨t386, A500, H⟩ := H
          replace H : (if t386 = true then ((laws_markInt64S.f kj10 t370 1).bind fun bt387 => (if bt387.1 < 0 then (laws_FnExactSumWith.j1 kj10 l0 t368 true a1_0 a1_1 a1_2 t364 t365 t376 t377) else ((laws_eqCyclo.f kj10 t376 t377 t364 t365).bind fun t389 => (if t389 = true then (laws_FnExactSumWith.j1 kj10 l0 t368 (t380 != t368) a1_0 a1_1 a1_2 t364 t365 t376 t377) else (laws_FnExactSumWith.j1 kj10 l0 t368 true a1_0 a1_1 a1_2 t364 t365 t376 t377))))) else (some false)) = some r := H
          have A50 := Aside0.mk A500
          clear A500
          by_cases c51 : t386 = true
          · subst c51
            have H1 : ((laws_markInt64S.f kj10 t370 1).bind fun bt387 => (if bt387.1 < 0 then (laws_FnExactSumWith.j1 kj10 l0 t368 true a1_0 a1_1 a1_2 t364 t365 t376 t377) else ((laws_eqCyclo.f kj10 t376 t377 t364 t365).bind fun t389 => (if t389 = true then (laws_FnExactSumWith.j1 kj10 l0 t368 (t380 != t368) a1_0 a1_1 a1_2 t364 t365 t376 t377) else (laws_FnExactSumWith.j1 kj10 l0 t368 true a1_0 a1_1 a1_2 t364 t365 t376 t377))))) = some r := by rw [if_pos rfl] at H; exact H
            clear H
            have H := H1
            clear H1
            replace H := Option.bind_eq_some_iff.mp H
            obtain ⟨⟨t387, t388⟩, A520, H⟩ := H
            replace H : (if t387 < 0 then (laws_FnExactSumWith.j1 kj10 l0 t368 true a1_0 a1_1 a1_2 t364 t365 t376 t377) else ((laws_eqCyclo.f kj10 t376 t377 t364 t365).bind fun t389 => (if t389 = true then (laws_FnExactSumWith.j1 kj10 l0 t368 (t380 != t368) a1_0 a1_1 a1_2 t364 t365 t376 t377) else (laws_FnExactSumWith.j1 kj10 l0 t368 true a1_0 a1_1 a1_2 t364 t365 t376 t377)))) = some r := H
            have A52 := Aside0.mk A520
            clear A520
            have HC53 := Aside0.mk H
            clear H
            go_upto_region 12 with (first | ((with_reducible refine gate_callee (f := 31) rfl ?_); refine goesL_ (some 46) rfl rfl Try.func31 (by kernel_rfl) rfl #[.slice A0 l0.length c0] rfl qB55 ?_; (with_reducible refine (laws_toInt64S.calls kj10 _ _ l0 t383 _ ?side1 ?side2 A49.out).mono ?_); (case side1 => repeat (first | exact (Kd.C_below HR0.out HB.out) | (with_reducible refine Kd.C_alloc ?_ _) | (with_reducible refine Kd.C_drewN ?_ _) | (with_reducible refine Kd.C_drew ?_))); (case side2 => exact HC0.out); rintro e w54 ⟨v384, rfl, ho0, hb⟩; refine ⟨_, rfl, ?_⟩; have n0_ := Aside0.mk (Kd.R_elder' qB111 (Kd.R_base ho0) hb); have n1_ := Aside0.mk (Kd.R_elder' qB86 (Kd.R_base ho0) hb); have n2_ := Aside0.mk (Kd.R_elder' qB87 (Kd.R_base ho0) hb); have n3_ := Aside0.mk (Kd.R_lower (Kd.R_new' (Kd.R_new' (Kd.R_new' ho0 (Kd.R_lt qB111)) (Kd.R_lt qB86)) (Kd.R_lt qB87)) (below_size qB25)); have n4_ := Aside0.mk (blk_below (g := gb357) (o := .cells #[.int .i64 a1_0, .int .i64 a1_1, .int .i64 a1_2] 32 (0, 0)) qB81 hb); have n5_ := Aside0.mk (blk_below (g := gb369) (o := .cells #[.int .i64 t364, .slice Ao21 t365.length co21] 34 (0, 0)) qB82 hb); have n6_ := Aside0.mk (blk_below (g := gb381) (o := .cells #[.int .i64 t376, .slice Ao33 t377.length co33] 34 (0, 0)) qB83 hb); have n7_ := Aside0.mk (below_step qB25 hb); clear HO_7; clear HO_370001; clear HO_382001; clear BK357; clear BK369; clear BK381; clear HB; have HO_7 := n0_; have HO_370001 := n1_; have HO_382001 := n2_; have HO385 := n3_; have BK357 := n4_; have BK369 := n5_; have BK381 := n6_; have HB := n7_; clear n0_ n1_ n2_ n3_ n4_ n5_ n6_ n7_; (try clear hb); (try clear hb2); (try clear hk); (try clear hi); (try clear ho0); obtain ⟨Ao55, co55, eo55⟩ := Kd.R_slice HO385.out; subst eo55) | ((with_reducible refine gate_callee (f := 14) rfl ?_); refine goesL_ (some 47) rfl rfl Try.func14 (by kernel_rfl) rfl #[.slice Ao27 t370.length co27, .slice Ao55 t383.length co55] rfl qB55 ?_; (with_reducible refine (laws_eqInt64S.calls kj10 _ _ t370 _ _ t383 true _ ?side1 ?side2 ?side3 ?side4 A50.out).mono ?_); (case side1 => repeat (first | exact (Kd.R_reads' HO_7.out).2.2 | (with_reducible refine Kd.C_alloc ?_ _) | (with_reducible refine Kd.C_drewN ?_ _) | (with_reducible refine Kd.C_drew ?_))); (case side2 => exact (Kd.R_reads' HO_7.out).2.1); (case side3 => repeat (first | exact (Kd.R_reads' HO385.out).2.2 | (with_reducible refine Kd.C_alloc ?_ _) | (with_reducible refine Kd.C_drewN ?_ _) | (with_reducible refine Kd.C_drew ?_))); (case side4 => exact (Kd.R_reads' HO385.out).2.1); rintro e w' ⟨rfl, ⟨nd, rfl⟩⟩; refine ⟨_, rfl, ?_⟩) | ((with_reducible refine gate_callee (f := 15) rfl ?_); refine goesL_ (some 51) rfl rfl Try.func15 (by kernel_rfl) rfl #[.slice Ao27 t370.length co27, .int .i64 1] rfl qB55 ?_; (with_reducible refine (laws_markInt64S.calls kj10 (fun k_ => some k_ = (.slice Ao27 t370.length co27 : Value).ownBlock) (.slice Ao27 t370.length co27) t370 1 t387 t388 w _ ?side1 ?side2 A52.out).mono ?_); (case side1 => repeat (first | (with_reducible first | exact HB.out | apply below_alloc | apply pw_below_drewN | apply below_drew1 | refine below_set ?_ GE357.out | refine below_set ?_ GE369.out | refine below_set ?_ GE381.out) | exact HB.out)); (case side2 => exact Kd.R_tight rfl HO_7.out); rintro e w56 ⟨rfl, hy0, hb, hkp⟩; refine ⟨_, rfl, ?_⟩; have n0_ := Aside0.mk (Kd.R_reok rfl hy0 (fun k_ e_ => HO_7.out.1 k_ e_)); have n1_ := Aside0.mk (Kd.R_mono (ok' := fun k_ => some k_ ≠ (.slice Ao27 t370.length co27 : Value).ownBlock ∧ some k_ ≠ (.slice Ao33 t377.length co33 : Value).ownBlock ∧ some k_ ≠ (.slice Ao55 t383.length co55 : Value).ownBlock) (Kd.R_keptB (HO_370001.out) hkp (fun k_ hk_ hs_ => (hk_.1.1) hs_)) (fun k_ hk_ => ⟨hk_.1.1.1, hk_.1.1.2, hk_.1.2⟩)); have n2_ := Aside0.mk (Kd.R_mono (ok' := fun k_ => some k_ ≠ (.slice Ao27 t370.length co27 : Value).ownBlock ∧ some k_ ≠ (.slice Ao21 t365.length co21 : Value).ownBlock ∧ some k_ ≠ (.slice Ao55 t383.length co55 : Value).ownBlock) (Kd.R_keptB (HO_382001.out) hkp (fun k_ hk_ hs_ => (hk_.1.1) hs_)) (fun k_ hk_ => ⟨hk_.1.1.1, hk_.1.1.2, hk_.1.2⟩)); have n3_ := Aside0.mk (blk_kept qB81 hkp (fun hs_ => (fun e_ => (Kd.R_ne HO_7.out BK357.out (by decide)) e_) hs_)); have n4_ := Aside0.mk (blk_kept qB82 hkp (fun hs_ => (fun e_ => (Kd.R_ne HO_7.out BK369.out (by decide)) e_) hs_)); have n5_ := Aside0.mk (blk_kept qB83 hkp (fun hs_ => (fun e_ => (Kd.R_ne HO_7.out BK381.out (by decide)) e_) hs_)); have n6_ := Aside0.mk (Kd.R_mono (ok' := fun k_ => some k_ ≠ (.slice Ao27 t370.length co27 : Value).ownBlock ∧ some k_ ≠ (.slice Ao21 t365.length co21 : Value).ownBlock ∧ some k_ ≠ (.slice Ao33 t377.length co33 : Value).ownBlock) (Kd.R_keptB (HO385.out) hkp (fun k_ hk_ hs_ => (hk_.1.1.2) hs_)) (fun k_ hk_ => ⟨hk_.1.1.1.2, hk_.1.1.2, hk_.1.2⟩)); have n7_ := Aside0.mk (hb); clear HO_7; clear HO_370001; clear HO_382001; clear BK357; clear BK369; clear BK381; clear HO385; clear HB; have HO_7 := n0_; have HO_370001 := n1_; have HO_382001 := n2_; have BK357 := n3_; have BK369 := n4_; have BK381 := n5_; have HO385 := n6_; have HB := n7_; clear n0_ n1_ n2_ n3_ n4_ n5_ n6_ n7_; (try clear hb); (try clear hkp); (try clear hy0)))
            (try simp only [Act.put, List.setIfInBounds_toArray, List.set_cons_zero, List.set_cons_succ])
            go_cut [64] (fun v64 wc => ∃ (kq : Nat) (x64_52 : Bool), v64 = .bool x64_52 ∧ Aside0 (laws_FnExactSumWith.j1 kq l0 t368 x64_52 a1_0 a1_1 a1_2 t364 t365 t376 t377 = some r) ∧ Aside0 (kq ≤ kj10) ∧ Aside0 (Kd.R (Kd.int .i64) 2 wc w.heap.size (fun k_ => some k_ ≠ ((.slice Ao33 t377.length co33) : Value).ownBlock) (.slice Ao21 t365.length co21) t365) ∧ Aside0 (Kd.R (Kd.int .i64) 2 wc w.heap.size (fun k_ => some k_ ≠ ((.slice Ao21 t365.length co21) : Value).ownBlock) (.slice Ao33 t377.length co33) t377) ∧ Aside0 (wc.heap[gb357]? = some (.cells #[.int .i64 a1_0, .int .i64 a1_1, .int .i64 a1_2] 32 (0, 0))) ∧ Aside0 (wc.heap[gb369]? = some (.cells #[.int .i64 t364, (.slice Ao21 t365.length co21)] 34 (0, 0))) ∧ Aside0 (wc.heap[gb381]? = some (.cells #[.int .i64 t376, (.slice Ao33 t377.length co33)] 34 (0, 0))) ∧ Aside0 (Below w.heap.size w wc))
            case first =>
              have H := HC53.out
              clear HC53
              by_cases c57 : t387 < 0
              · rw [if_pos c57] at H
                have c57b0 : decide (t387 < 0) = true := decide_eq_true c57
                clear c57
                (first | rw [c57b0] | (simp only [i64_w, i32_w]; rw [c57b0]) | skip)
                have H' := Aside0.mk H
                clear H
                go_wp2
                go_meet
                case rel => exact ⟨_, (true), qB115, H', ⟨by have := HJ10.out; first | omega | exact Nat.le_refl _⟩, ⟨by (with_reducible repeat (first | apply Kd.R_alloc | apply Kd.R_drewN | apply Kd.R_drew)); exact Kd.R_mono HO_370001.out (fun _ hk => hk.2.1)⟩, ⟨by (with_reducible repeat (first | apply Kd.R_alloc | apply Kd.R_drewN | apply Kd.R_drew)); exact Kd.R_mono HO_382001.out (fun _ hk => hk.2.1)⟩, ⟨by (with_reducible repeat (first | refine blk_drewN ?_ _ | refine blk_drew ?_ | refine blk_alloc ?_ _)); exact BK357.out⟩, ⟨by (with_reducible repeat (first | refine blk_drewN ?_ _ | refine blk_drew ?_ | refine blk_alloc ?_ _)); exact BK369.out⟩, ⟨by (with_reducible repeat (first | refine blk_drewN ?_ _ | refine blk_drew ?_ | refine blk_alloc ?_ _)); exact BK381.out⟩, ⟨by repeat (first | (with_reducible first | exact HB.out | apply below_alloc | apply pw_below_drewN | apply below_drew1 | refine below_set ?_ GE357.out | refine below_set ?_ GE369.out | refine below_set ?_ GE381.out) | exact HB.out)⟩⟩
              · rw [if_neg c57] at H
                have c57b0 : decide (t387 < 0) = false := decide_eq_false c57
                clear c57
                (first | rw [c57b0] | (simp only [i64_w, i32_w]; rw [c57b0]) | skip)
                replace H := Option.bind_eq_some_iff.mp H
                obtain ⟨t389, A580, H⟩ := H
                replace H : (if t389 = true then (laws_FnExactSumWith.j1 kj10 l0 t368 (t380 != t368) a1_0 a1_1 a1_2 t364 t365 t376 t377) else (laws_FnExactSumWith.j1 kj10 l0 t368 true a1_0 a1_1 a1_2 t364 t365 t376 t377)) = some r := H
                have A58 := Aside0.mk A580
                clear A580
                by_cases c59 : t389 = true
                · subst c59
                  have H1 : (laws_FnExactSumWith.j1 kj10 l0 t368 (t380 != t368) a1_0 a1_1 a1_2 t364 t365 t376 t377) = some r := by rw [if_pos rfl] at H; exact H
                  clear H
                  have H := H1
                  clear H1
                  have H' := Aside0.mk H
                  clear H
                  have hnb60 := NB381_357.out
                  have hnc60 := NB357_381.out
                  have hnb61 := NB381_369.out
                  have hnc61 := NB369_381.out
                  have hcz62_0 : w56.cell? ⟨gb381, 0, none⟩ = some (.int .i64 t376) := (blk_cell BK381.out 0).trans rfl
                  have hcz62_1 : w56.cell? ⟨gb381, 1, none⟩ = some (.slice Ao33 t377.length co33) := (blk_cell BK381.out 1).trans rfl
                  have hfz62_0 := blk_frozen BK381.out 0
                  have hfz62_1 := blk_frozen BK381.out 1
                  have hnb63 := NB369_357.out
                  have hnc63 := NB357_369.out
                  have hcz64_0 : w56.cell? ⟨gb369, 0, none⟩ = some (.int .i64 t364) := (blk_cell BK369.out 0).trans rfl
                  have hcz64_1 : w56.cell? ⟨gb369, 1, none⟩ = some (.slice Ao21 t365.length co21) := (blk_cell BK369.out 1).trans rfl
                  have hfz64_0 := blk_frozen BK369.out 0
                  have hfz64_1 := blk_frozen BK369.out 1
                  go_wp2_with (first | (go_at_call 20; (with_reducible refine (laws_eqCyclo.calls kj10 t376 _ _ t377 t364 _ _ t365 true _ ?side1 ?side2 ?side3 ?side4 A58.out).mono ?_); (case side1 => repeat (first | exact (Kd.R_reads' HO_382001.out).2.2 | (with_reducible refine Kd.C_alloc ?_ _) | (with_reducible refine Kd.C_drewN ?_ _) | (with_reducible refine Kd.C_drew ?_))); (case side2 => exact (Kd.R_reads' HO_382001.out).2.1); (case side3 => repeat (first | exact (Kd.R_reads' HO_370001.out).2.2 | (with_reducible refine Kd.C_alloc ?_ _) | (with_reducible refine Kd.C_drewN ?_ _) | (with_reducible refine Kd.C_drew ?_))); (case side4 => exact (Kd.R_reads' HO_370001.out).2.1); rintro e w65 ⟨rfl, hb⟩; have n0_ := Aside0.mk (Kd.R_below qB111 hb); have n1_ := Aside0.mk (Kd.R_below qB86 hb); have n2_ := Aside0.mk (Kd.R_below qB87 hb); have n3_ := Aside0.mk (Kd.R_below qB105 hb); have n4_ := Aside0.mk (blk_below (g := gb357) (o := .cells #[.int .i64 a1_0, .int .i64 a1_1, .int .i64 a1_2] 32 (0, 0)) qB81 hb); have n5_ := Aside0.mk (blk_below (g := gb369) (o := .cells #[.int .i64 t364, .slice Ao21 t365.length co21] 34 (0, 0)) qB82 hb); have n6_ := Aside0.mk (blk_below (g := gb381) (o := .cells #[.int .i64 t376, .slice Ao33 t377.length co33] 34 (0, 0)) qB83 hb); have n7_ := Aside0.mk (below_step qB25 hb); clear HO_7; clear HO_370001; clear HO_382001; clear HO385; clear BK357; clear BK369; clear BK381; clear HB; have HO_7 := n0_; have HO_370001 := n1_; have HO_382001 := n2_; have HO385 := n3_; have BK357 := n4_; have BK369 := n5_; have BK381 := n6_; have HB := n7_; clear n0_ n1_ n2_ n3_ n4_ n5_ n6_ n7_; (try clear hb); (try clear hb2); (try clear hk); (try clear hi)))
                  go_meet
                  case rel => exact ⟨_, ((t380 != t368)), qB115, H', ⟨by have := HJ10.out; first | omega | exact Nat.le_refl _⟩, ⟨by (with_reducible repeat (first | apply Kd.R_alloc | apply Kd.R_drewN | apply Kd.R_drew)); exact Kd.R_mono HO_370001.out (fun _ hk => hk.2.1)⟩, ⟨by (with_reducible repeat (first | apply Kd.R_alloc | apply Kd.R_drewN | apply Kd.R_drew)); exact Kd.R_mono HO_382001.out (fun _ hk => hk.2.1)⟩, ⟨by (with_reducible repeat (first | refine blk_drewN ?_ _ | refine blk_drew ?_ | refine blk_alloc ?_ _)); exact BK357.out⟩, ⟨by (with_reducible repeat (first | refine blk_drewN ?_ _ | refine blk_drew ?_ | refine blk_alloc ?_ _)); exact BK369.out⟩, ⟨by (with_reducible repeat (first | refine blk_drewN ?_ _ | refine blk_drew ?_ | refine blk_alloc ?_ _)); exact BK381.out⟩, ⟨by repeat (first | (with_reducible first | exact HB.out | apply below_alloc | apply pw_below_drewN | apply below_drew1 | refine below_set ?_ GE357.out | refine below_set ?_ GE369.out | refine below_set ?_ GE381.out) | exact HB.out)⟩⟩
                · replace c59 := Bool.eq_false_iff.mpr c59
                  subst c59
                  have H1 : (laws_FnExactSumWith.j1 kj10 l0 t368 true a1_0 a1_1 a1_2 t364 t365 t376 t377) = some r := by rw [if_neg (show ¬ (false = true) by decide)] at H; exact H
                  clear H
                  have H := H1
                  clear H1
                  have H' := Aside0.mk H
                  clear H
                  have hnb66 := NB381_357.out
                  have hnc66 := NB357_381.out
                  have hnb67 := NB381_369.out
                  have hnc67 := NB369_381.out
                  have hcz68_0 : w56.cell? ⟨gb381, 0, none⟩ = some (.int .i64 t376) := (blk_cell BK381.out 0).trans rfl
                  have hcz68_1 : w56.cell? ⟨gb381, 1, none⟩ = some (.slice Ao33 t377.length co33) := (blk_cell BK381.out 1).trans rfl
                  have hfz68_0 := blk_frozen BK381.out 0
                  have hfz68_1 := blk_frozen BK381.out 1
                  have hnb69 := NB369_357.out
                  have hnc69 := NB357_369.out
                  have hcz70_0 : w56.cell? ⟨gb369, 0, none⟩ = some (.int .i64 t364) := (blk_cell BK369.out 0).trans rfl
                  have hcz70_1 : w56.cell? ⟨gb369, 1, none⟩ = some (.slice Ao21 t365.length co21) := (blk_cell BK369.out 1).trans rfl
                  have hfz70_0 := blk_frozen BK369.out 0
                  have hfz70_1 := blk_frozen BK369.out 1
                  go_wp2_with (first | (go_at_call 20; (with_reducible refine (laws_eqCyclo.calls kj10 t376 _ _ t377 t364 _ _ t365 false _ ?side1 ?side2 ?side3 ?side4 A58.out).mono ?_); (case side1 => repeat (first | exact (Kd.R_reads' HO_382001.out).2.2 | (with_reducible refine Kd.C_alloc ?_ _) | (with_reducible refine Kd.C_drewN ?_ _) | (with_reducible refine Kd.C_drew ?_))); (case side2 => exact (Kd.R_reads' HO_382001.out).2.1); (case side3 => repeat (first | exact (Kd.R_reads' HO_370001.out).2.2 | (with_reducible refine Kd.C_alloc ?_ _) | (with_reducible refine Kd.C_drewN ?_ _) | (with_reducible refine Kd.C_drew ?_))); (case side4 => exact (Kd.R_reads' HO_370001.out).2.1); rintro e w71 ⟨rfl, hb⟩; have n0_ := Aside0.mk (Kd.R_below qB111 hb); have n1_ := Aside0.mk (Kd.R_below qB86 hb); have n2_ := Aside0.mk (Kd.R_below qB87 hb); have n3_ := Aside0.mk (Kd.R_below qB105 hb); have n4_ := Aside0.mk (blk_below (g := gb357) (o := .cells #[.int .i64 a1_0, .int .i64 a1_1, .int .i64 a1_2] 32 (0, 0)) qB81 hb); have n5_ := Aside0.mk (blk_below (g := gb369) (o := .cells #[.int .i64 t364, .slice Ao21 t365.length co21] 34 (0, 0)) qB82 hb); have n6_ := Aside0.mk (blk_below (g := gb381) (o := .cells #[.int .i64 t376, .slice Ao33 t377.length co33] 34 (0, 0)) qB83 hb); have n7_ := Aside0.mk (below_step qB25 hb); clear HO_7; clear HO_370001; clear HO_382001; clear HO385; clear BK357; clear BK369; clear BK381; clear HB; have HO_7 := n0_; have HO_370001 := n1_; have HO_382001 := n2_; have HO385 := n3_; have BK357 := n4_; have BK369 := n5_; have BK381 := n6_; have HB := n7_; clear n0_ n1_ n2_ n3_ n4_ n5_ n6_ n7_; (try clear hb); (try clear hb2); (try clear hk); (try clear hi)))
                  go_meet
                  case rel => exact ⟨_, (true), qB115, H', ⟨by have := HJ10.out; first | omega | exact Nat.le_refl _⟩, ⟨by (with_reducible repeat (first | apply Kd.R_alloc | apply Kd.R_drewN | apply Kd.R_drew)); exact Kd.R_mono HO_370001.out (fun _ hk => hk.2.1)⟩, ⟨by (with_reducible repeat (first | apply Kd.R_alloc | apply Kd.R_drewN | apply Kd.R_drew)); exact Kd.R_mono HO_382001.out (fun _ hk => hk.2.1)⟩, ⟨by (with_reducible repeat (first | refine blk_drewN ?_ _ | refine blk_drew ?_ | refine blk_alloc ?_ _)); exact BK357.out⟩, ⟨by (with_reducible repeat (first | refine blk_drewN ?_ _ | refine blk_drew ?_ | refine blk_alloc ?_ _)); exact BK369.out⟩, ⟨by (with_reducible repeat (first | refine blk_drewN ?_ _ | refine blk_drew ?_ | refine blk_alloc ?_ _)); exact BK381.out⟩, ⟨by repeat (first | (with_reducible first | exact HB.out | apply below_alloc | apply pw_below_drewN | apply below_drew1 | refine below_set ?_ GE357.out | refine below_set ?_ GE369.out | refine below_set ?_ GE381.out) | exact HB.out)⟩⟩
            case rest =>
              clear HC53
              try clear c1
              try clear c2
              try clear p2
              try clear c3
              try clear c4
              try clear c5
              try clear c6
              try clear c14
              try clear c15
              try clear c18
              try clear c20
              try clear c24
              try clear c30
              try clear c31
              try clear c32
              try clear c35
              try clear c36
              try clear c37
              try clear c39
              try clear c42
              try clear c43
              try clear c45
              try clear c48
              try clear c51
              try clear c57
              try clear c57b0
              try clear c59
              try clear c60
              try clear c61
              try clear c63
              try clear c66
              try clear c67
              try clear c69
              try clear hcz25_0
              try clear hcz25_1
              try clear hcz25_2
              try clear hcz32_0
              try clear hcz32_1
              try clear hcz38_0
              try clear hcz38_1
              try clear hcz40_0
              try clear hcz40_1
              try clear hcz44_0
              try clear hcz44_1
              try clear hcz46_0
              try clear hcz46_1
              try clear hcz62_0
              try clear hcz62_1
              try clear hcz64_0
              try clear hcz64_1
              try clear hcz68_0
              try clear hcz68_1
              try clear hcz70_0
              try clear hcz70_1
              try clear hfz25_0
              try clear hfz25_1
              try clear hfz25_2
              try clear hfz32_0
              try clear hfz32_1
              try clear hfz38_0
              try clear hfz38_1
              try clear hfz40_0
              try clear hfz40_1
              try clear hfz44_0
              try clear hfz44_1
              try clear hfz46_0
              try clear hfz46_1
              try clear hfz62_0
              try clear hfz62_1
              try clear hfz64_0
              try clear hfz64_1
              try clear hfz68_0
              try clear hfz68_1
              try clear hfz70_0
              try clear hfz70_1
              try clear p2
              obtain ⟨kq, x64_52, rfl, HA, HJ52, HO_370001, HO_382001, BK357, BK369, BK381, HB⟩ := hcut
              cases kq with
              | zero => exact absurd HA.out (by simp [laws_FnExactSumWith.j1])
              | succ kj52 =>
                have H := HA.out
                clear HA
                simp only [laws_FnExactSumWith.j1] at H
                by_cases c72 : x64_52 = true
                · subst c72
                  have H1 : (some false) = some r := by rw [if_pos rfl] at H; exact H
                  clear H
                  have H := H1
                  clear H1
                  obtain rfl := Option.some.inj H
                  go_wp2
                  go_ret
                  exact ⟨by first | rfl | (simp [errW_none, errW_some] <;> rfl) | (simp [*, errW_none, errW_some] <;> rfl), by repeat (first | (with_reducible first | exact HB.out | apply below_alloc | apply pw_below_drewN | apply below_drew1 | refine below_set ?_ GE357.out | refine below_set ?_ GE369.out | refine below_set ?_ GE381.out) | exact HB.out)⟩
                · replace c72 := Bool.eq_false_iff.mpr c72
                  subst c72
                  have H1 : ((laws_markCyclo.f kj52 t376 t377 1).bind fun bt390 => ((laws_heldCyclo.f kj52 t376 bt390.2 1).bind fun t392 => (if t392 < 0 then (some false) else (if t392 = bt390.1 then ((laws_toInt64S.f kj52 l0).bind fun t393 => ((laws_toCharacter.f a1_0 a1_1 a1_2).bind fun bt396 => ((impl_SumWith.f kj52 t393 bt396.1 bt396.2.1 bt396.2.2).bind fun bt399 => ((laws_eqCyclo.f kj52 bt399.1 bt399.2.1 t364 t365).bind fun t405 => (if t405 = true then (laws_FnExactSumWith.j2 kj52 bt390.1 (bt399.2.2 != t368) t376 bt390.2) else (laws_FnExactSumWith.j2 kj52 bt390.1 true t376 bt390.2)))))) else (some false))))) = some r := by rw [if_neg (show ¬ (false = true) by decide)] at H; exact H
                  clear H
                  have H := H1
                  clear H1
                  replace H := Option.bind_eq_some_iff.mp H
                  obtain ⟨⟨t390, t391⟩, A730, H⟩ := H
                  replace H : ((laws_heldCyclo.f kj52 t376 t391 1).bind fun t392 => (if t392 < 0 then (some false) else (if t392 = t390 then ((laws_toInt64S.f kj52 l0).bind fun t393 => ((laws_toCharacter.f a1_0 a1_1 a1_2).bind fun bt396 => ((impl_SumWith.f kj52 t393 bt396.1 bt396.2.1 bt396.2.2).bind fun bt399 => ((laws_eqCyclo.f kj52 bt399.1 bt399.2.1 t364 t365).bind fun t405 => (if t405 = true then (laws_FnExactSumWith.j2 kj52 t390 (bt399.2.2 != t368) t376 t391) else (laws_FnExactSumWith.j2 kj52 t390 true t376 t391)))))) else (some false)))) = some r := H
                  have A73 := Aside0.mk A730
                  clear A730
                  replace H := Option.bind_eq_some_iff.mp H
                  obtain ⟨t392, A740, H⟩ := H
                  replace H : (if t392 < 0 then (some false) else (if t392 = t390 then ((laws_toInt64S.f kj52 l0).bind fun t393 => ((laws_toCharacter.f a1_0 a1_1 a1_2).bind fun bt396 => ((impl_SumWith.f kj52 t393 bt396.1 bt396.2.1 bt396.2.2).bind fun bt399 => ((laws_eqCyclo.f kj52 bt399.1 bt399.2.1 t364 t365).bind fun t405 => (if t405 = true then (laws_FnExactSumWith.j2 kj52 t390 (bt399.2.2 != t368) t376 t391) else (laws_FnExactSumWith.j2 kj52 t390 true t376 t391)))))) else (some false))) = some r := H
                  have A74 := Aside0.mk A740
                  clear A740
                  by_cases c75 : t392 < 0
                  · rw [if_pos c75] at H
                    have c75b0 : decide (t392 < 0) = true := decide_eq_true c75
                    clear c75
                    obtain rfl := Option.some.inj H
                    have hnb76 := NB381_357.out
                    have hnc76 := NB357_381.out
                    have hnb77 := NB381_369.out
                    have hnc77 := NB369_381.out
                    have hcz78_0 : wc.cell? ⟨gb381, 0, none⟩ = some (.int .i64 t376) := (blk_cell BK381.out 0).trans rfl
                    have hcz78_1 : wc.cell? ⟨gb381, 1, none⟩ = some (.slice Ao33 t377.length co33) := (blk_cell BK381.out 1).trans rfl
                    have hfz78_0 := blk_frozen BK381.out 0
                    have hfz78_1 := blk_frozen BK381.out 1
                    go_wp2_with (first | ((with_reducible refine gate_callee (f := 21) rfl ?_); refine goesL_ (some 67) rfl rfl Try.func21 (by kernel_rfl) rfl #[.agg #[.int .i64 t376, .slice Ao33 t377.length co33], .int .i64 1] rfl qB55 ?_; (with_reducible refine (laws_markCyclo.calls kj52 t376 (fun k_ => some k_ = (.slice Ao33 t377.length co33 : Value).ownBlock) (.slice Ao33 t377.length co33) t377 1 t390 t391 w _ ?side1 ?side2 A73.out).mono ?_); (case side1 => repeat (first | (with_reducible first | exact HB.out | apply below_alloc | apply pw_below_drewN | apply below_drew1 | refine below_set ?_ GE357.out | refine below_set ?_ GE369.out | refine below_set ?_ GE381.out) | exact HB.out)); (case side2 => exact Kd.R_tight rfl HO_382001.out); rintro e w79 ⟨rfl, hy0, hb, hkp⟩; refine ⟨_, rfl, ?_⟩; have n0_ := Aside0.mk (Kd.R_mono (ok' := fun k_ => some k_ ≠ (.slice Ao33 t377.length co33 : Value).ownBlock) (Kd.R_keptB (HO_370001.out) hkp (fun k_ hk_ hs_ => (hk_) hs_)) (fun k_ hk_ => hk_.1)); have n1_ := Aside0.mk (Kd.R_reok rfl hy0 (fun k_ e_ => HO_382001.out.1 k_ e_)); have n2_ := Aside0.mk (blk_kept qB81 hkp (fun hs_ => (fun e_ => (Kd.R_ne HO_382001.out BK357.out (by decide)) e_) hs_)); have n3_ := Aside0.mk (blk_kept qB82 hkp (fun hs_ => (fun e_ => (Kd.R_ne HO_382001.out BK369.out (by decide)) e_) hs_)); have n4_ := Aside0.mk (blk_kept qB83 hkp (fun hs_ => (fun e_ => (Kd.R_ne HO_382001.out BK381.out (by decide)) e_) hs_)); have n5_ := Aside0.mk (hb); clear HO_370001; clear HO_382001; clear BK357; clear BK369; clear BK381; clear HB; have HO_370001 := n0_; have HO_382001 := n1_; have BK357 := n2_; have BK369 := n3_; have BK381 := n4_; have HB := n5_; clear n0_ n1_ n2_ n3_ n4_ n5_; (try clear hb); (try clear hkp); (try clear hy0); have hcz80_0 : w79.cell? ⟨gb381, 0, none⟩ = some (.int .i64 t376) := (blk_cell BK381.out 0).trans rfl; have hcz80_1 : w79.cell? ⟨gb381, 1, none⟩ = some (.slice Ao33 t377.length co33) := (blk_cell BK381.out 1).trans rfl; have hfz80_0 := blk_frozen BK381.out 0; have hfz80_1 := blk_frozen BK381.out 1) | ((with_reducible refine gate_callee (f := 22) rfl ?_); refine goesL_ (some 70) rfl rfl Try.func22 (by kernel_rfl) rfl #[.agg #[.int .i64 t376, .slice Ao33 t391.length co33], .int .i64 1] rfl qB26 ?_; (with_reducible refine (laws_heldCyclo.calls kj52 t376 _ _ t391 1 t392 _ ?side1 ?side2 A74.out).mono ?_); (case side1 => repeat (first | exact (Kd.R_reads' HO_382001.out).2.2 | (with_reducible refine Kd.C_alloc ?_ _) | (with_reducible refine Kd.C_drewN ?_ _) | (with_reducible refine Kd.C_drew ?_))); (case side2 => rw [show t391.length = t377.length from (Kd.R_reads' HO_382001.out).1.symm]; exact (Kd.R_reads' HO_382001.out).2.1); rintro e w81 ⟨rfl, hb⟩; refine ⟨_, rfl, ?_⟩; have n0_ := Aside0.mk (Kd.R_below qB86 hb); have n1_ := Aside0.mk (Kd.R_below qB87 hb); have n2_ := Aside0.mk (blk_below (g := gb357) (o := .cells #[.int .i64 a1_0, .int .i64 a1_1, .int .i64 a1_2] 32 (0, 0)) qB81 hb); have n3_ := Aside0.mk (blk_below (g := gb369) (o := .cells #[.int .i64 t364, .slice Ao21 t365.length co21] 34 (0, 0)) qB82 hb); have n4_ := Aside0.mk (blk_below (g := gb381) (o := .cells #[.int .i64 t376, .slice Ao33 t377.length co33] 34 (0, 0)) qB83 hb); have n5_ := Aside0.mk (below_step qB25 hb); clear HO_370001; clear HO_382001; clear BK357; clear BK369; clear BK381; clear HB; have HO_370001 := n0_; have HO_382001 := n1_; have BK357 := n2_; have BK369 := n3_; have BK381 := n4_; have HB := n5_; clear n0_ n1_ n2_ n3_ n4_ n5_; (try clear hb); (try clear hb2); (try clear hk); (try clear hi)))
                    go_ret
                    exact ⟨by first | rfl | (simp [errW_none, errW_some] <;> rfl) | (simp [*, errW_none, errW_some] <;> rfl), by repeat (first | (with_reducible first | exact HB.out | apply below_alloc | apply pw_below_drewN | apply below_drew1 | refine below_set ?_ GE357.out | refine below_set ?_ GE369.out | refine below_set ?_ GE381.out) | exact HB.out)⟩
                  · rw [if_neg c75] at H
                    have c75b0 : decide (t392 < 0) = false := decide_eq_false c75
                    clear c75
                    by_cases c82 : t392 = t390
                    · rw [if_pos c82] at H
                      have c82b0 : (t392 == t390) = true := beq_iff_eq.mpr c82
                      have c82b1 : (t392 != t390) = false := bne_eq_false_iff_eq.mpr c82
                      clear c82
                      replace H := Option.bind_eq_some_iff.mp H
                      obtain ⟨t393, A830, H⟩ := H
                      replace H : ((laws_toCharacter.f a1_0 a1_1 a1_2).bind fun bt396 => ((impl_SumWith.f kj52 t393 bt396.1 bt396.2.1 bt396.2.2).bind fun bt399 => ((laws_eqCyclo.f kj52 bt399.1 bt399.2.1 t364 t365).bind fun t405 => (if t405 = true then (laws_FnExactSumWith.j2 kj52 t390 (bt399.2.2 != t368) t376 t391) else (laws_FnExactSumWith.j2 kj52 t390 true t376 t391))))) = some r := H
                      have A83 := Aside0.mk A830
                      clear A830
                      replace H := Option.bind_eq_some_iff.mp H
                      obtain ⟨⟨t396, t397, t398⟩, A840, H⟩ := H
                      replace H : ((impl_SumWith.f kj52 t393 t396 t397 t398).bind fun bt399 => ((laws_eqCyclo.f kj52 bt399.1 bt399.2.1 t364 t365).bind fun t405 => (if t405 = true then (laws_FnExactSumWith.j2 kj52 t390 (bt399.2.2 != t368) t376 t391) else (laws_FnExactSumWith.j2 kj52 t390 true t376 t391)))) = some r := H
                      have A84 := Aside0.mk A840
                      clear A840
                      replace H := Option.bind_eq_some_iff.mp H
                      obtain ⟨⟨t399, t400, t403⟩, A850, H⟩ := H
                      replace H : ((laws_eqCyclo.f kj52 t399 t400 t364 t365).bind fun t405 => (if t405 = true then (laws_FnExactSumWith.j2 kj52 t390 (t403 != t368) t376 t391) else (laws_FnExactSumWith.j2 kj52 t390 true t376 t391))) = some r := H
                      have A85 := Aside0.mk A850
                      clear A850
                      have HC86 := Aside0.mk H
                      clear H
                      have hnb87 := NB381_357.out
                      have hnc87 := NB357_381.out
                      have hnb88 := NB381_369.out
                      have hnc88 := NB369_381.out
                      have hcz89_0 : wc.cell? ⟨gb381, 0, none⟩ = some (.int .i64 t376) := (blk_cell BK381.out 0).trans rfl
                      have hcz89_1 : wc.cell? ⟨gb381, 1, none⟩ = some (.slice Ao33 t377.length co33) := (blk_cell BK381.out 1).trans rfl
                      have hfz89_0 := blk_frozen BK381.out 0
                      have hfz89_1 := blk_frozen BK381.out 1
                      try go_wp2_with (first | ((with_reducible refine gate_callee (f := 21) rfl ?_); refine goesL_ (some 67) rfl rfl Try.func21 (by kernel_rfl) rfl #[.agg #[.int .i64 t376, .slice Ao33 t377.length co33], .int .i64 1] rfl qB55 ?_; (with_reducible refine (laws_markCyclo.calls kj52 t376 (fun k_ => some k_ = (.slice Ao33 t377.length co33 : Value).ownBlock) (.slice Ao33 t377.length co33) t377 1 t390 t391 w _ ?side1 ?side2 A73.out).mono ?_); (case side1 => repeat (first | (with_reducible first | exact HB.out | apply below_alloc | apply pw_below_drewN | apply below_drew1 | refine below_set ?_ GE357.out | refine below_set ?_ GE369.out | refine below_set ?_ GE381.out) | exact HB.out)); (case side2 => exact Kd.R_tight rfl HO_382001.out); rintro e w90 ⟨rfl, hy0, hb, hkp⟩; refine ⟨_, rfl, ?_⟩; have n0_ := Aside0.mk (Kd.R_mono (ok' := fun k_ => some k_ ≠ (.slice Ao33 t377.length co33 : Value).ownBlock) (Kd.R_keptB (HO_370001.out) hkp (fun k_ hk_ hs_ => (hk_) hs_)) (fun k_ hk_ => hk_.1)); have n1_ := Aside0.mk (Kd.R_reok rfl hy0 (fun k_ e_ => HO_382001.out.1 k_ e_)); have n2_ := Aside0.mk (blk_kept qB81 hkp (fun hs_ => (fun e_ => (Kd.R_ne HO_382001.out BK357.out (by decide)) e_) hs_)); have n3_ := Aside0.mk (blk_kept qB82 hkp (fun hs_ => (fun e_ => (Kd.R_ne HO_382001.out BK369.out (by decide)) e_) hs_)); have n4_ := Aside0.mk (blk_kept qB83 hkp (fun hs_ => (fun e_ => (Kd.R_ne HO_382001.out BK381.out (by decide)) e_) hs_)); have n5_ := Aside0.mk (hb); clear HO_370001; clear HO_382001; clear BK357; clear BK369; clear BK381; clear HB; have HO_370001 := n0_; have HO_382001 := n1_; have BK357 := n2_; have BK369 := n3_; have BK381 := n4_; have HB := n5_; clear n0_ n1_ n2_ n3_ n4_ n5_; (try clear hb); (try clear hkp); (try clear hy0); have hcz91_0 : w90.cell? ⟨gb381, 0, none⟩ = some (.int .i64 t376) := (blk_cell BK381.out 0).trans rfl; have hcz91_1 : w90.cell? ⟨gb381, 1, none⟩ = some (.slice Ao33 t377.length co33) := (blk_cell BK381.out 1).trans rfl; have hfz91_0 := blk_frozen BK381.out 0; have hfz91_1 := blk_frozen BK381.out 1) | ((with_reducible refine gate_callee (f := 22) rfl ?_); refine goesL_ (some 70) rfl rfl Try.func22 (by kernel_rfl) rfl #[.agg #[.int .i64 t376, .slice Ao33 t391.length co33], .int .i64 1] rfl qB26 ?_; (with_reducible refine (laws_heldCyclo.calls kj52 t376 _ _ t391 1 t392 _ ?side1 ?side2 A74.out).mono ?_); (case side1 => repeat (first | exact (Kd.R_reads' HO_382001.out).2.2 | (with_reducible refine Kd.C_alloc ?_ _) | (with_reducible refine Kd.C_drewN ?_ _) | (with_reducible refine Kd.C_drew ?_))); (case side2 => rw [show t391.length = t377.length from (Kd.R_reads' HO_382001.out).1.symm]; exact (Kd.R_reads' HO_382001.out).2.1); rintro e w92 ⟨rfl, hb⟩; refine ⟨_, rfl, ?_⟩; have n0_ := Aside0.mk (Kd.R_below qB86 hb); have n1_ := Aside0.mk (Kd.R_below qB87 hb); have n2_ := Aside0.mk (blk_below (g := gb357) (o := .cells #[.int .i64 a1_0, .int .i64 a1_1, .int .i64 a1_2] 32 (0, 0)) qB81 hb); have n3_ := Aside0.mk (blk_below (g := gb369) (o := .cells #[.int .i64 t364, .slice Ao21 t365.length co21] 34 (0, 0)) qB82 hb); have n4_ := Aside0.mk (blk_below (g := gb381) (o := .cells #[.int .i64 t376, .slice Ao33 t377.length co33] 34 (0, 0)) qB83 hb); have n5_ := Aside0.mk (below_step qB25 hb); clear HO_370001; clear HO_382001; clear BK357; clear BK369; clear BK381; clear HB; have HO_370001 := n0_; have HO_382001 := n1_; have BK357 := n2_; have BK369 := n3_; have BK381 := n4_; have HB := n5_; clear n0_ n1_ n2_ n3_ n4_ n5_; (try clear hb); (try clear hb2); (try clear hk); (try clear hi)))
                      have n0_ := Aside0.mk (Kd.R_drew HO_370001.out)
                      have n1_ := Aside0.mk (Kd.R_drew HO_382001.out)
                      have n2_ := Aside0.mk (blk_drew BK357.out)
                      have n3_ := Aside0.mk (blk_drew BK369.out)
                      have n4_ := Aside0.mk (blk_drew BK381.out)
                      have n5_ := Aside0.mk (below_drew1 HB.out)
                      clear HO_370001
                      clear HO_382001
                      clear BK357
                      clear BK369
                      clear BK381
                      clear HB
                      have HO_370001 := n0_
                      have HO_382001 := n1_
                      have BK357 := n2_
                      have BK369 := n3_
                      have BK381 := n4_
                      have HB := n5_
                      clear n0_ n1_ n2_ n3_ n4_ n5_
                      refine start_ (n := 11) (S := fun w' => w'.cell? ⟨gb357, 0, none⟩ = some (.int .i64 a1_0) ∧ w'.cell? ⟨gb357, 1, none⟩ = some (.int .i64 a1_1) ∧ w'.cell? ⟨gb357, 2, none⟩ = some (.int .i64 a1_2)) (ds := []) #[false, false, false, false, false, false, false, false, false, false, false] (by kernel_rfl) rfl rfl ⟨(blk_cell BK357.out 0).trans rfl, (blk_cell BK357.out 1).trans rfl, (blk_cell BK357.out 2).trans rfl⟩ (fun hHeld => ?_); refine with_tabW laws_FnExactSumWith.tab22 laws_FnExactSumWith.bits22 (fun HT_ HW_ => ?_)
                      generalize w92.drew = w93 at HO_370001 HO_382001 BK357 BK369 BK381 HB hHeld ⊢
                      refine pure_ (i := 0) (N := some 77) (v := ?_) (a' := ?_) #[true, false, false, false, false, false, false, false, false, false, false] rfl rfl (any_of HT_.out (by kernel_rfl)) (fun _ _ _ h => h) (Or.inl ⟨by rfl, ?_⟩) ?_ ?_
                      rotate_left
                      · intro w'
                        go_simp
                        with_reducible rfl
                      rotate_left
                      · simp only [Act.put, List.setIfInBounds_toArray, List.set_cons_zero, List.set_cons_succ, i64_w, i32_w]
                        rfl
                      refine take_ (i := 2) (N := some 79) (v := ?_) (a' := ?_) #[true, false, true, false, false, false, false, false, false, false, false] rfl rfl (take_ofW HT_.out HW_.out (by kernel_rfl)) (fun _ _ _ h => h) (Or.inl ⟨by rfl, ?_⟩) hHeld ?_ ?_
                      rotate_left
                      · rintro w' ⟨s0, s1, s2⟩
                        go_simp
                        with_reducible rfl
                      rotate_left
                      · simp only [Act.put, List.setIfInBounds_toArray, List.set_cons_zero, List.set_cons_succ, i64_w, i32_w]
                        rfl
                      refine join_ (σ := Value × Value × Nat) 2 #[true, true, true, true, true, true, true, true, true, false, false] (fun s_ => [(78, s_.1), (80, .agg #[.int .i64 t396, .int .i64 t397, .int .i64 t398]), (81, .tuple #[.agg #[.int .i64 t399, s_.2.1], .int .i64 t403]), (13, .pointer (some ⟨s_.2.2, 0, none⟩)), (76, .tuple #[.agg #[.int .i64 t399, s_.2.1], .int .i64 t403]), (82, .agg #[.int .i64 t399, s_.2.1]), (83, .int .i64 t403)]) (fun s_ w' => (w'.cell? ⟨gb357, 0, none⟩ = some (.int .i64 a1_0) ∧ w'.cell? ⟨gb357, 1, none⟩ = some (.int .i64 a1_1) ∧ w'.cell? ⟨gb357, 2, none⟩ = some (.int .i64 a1_2)) ∧ (Kd.R (Kd.int .i64) 2 w' w.heap.size (fun k_ => some k_ ≠ (s_.2.1 : Value).ownBlock ∧ some k_ ≠ (.slice Ao21 t365.length co21 : Value).ownBlock ∧ some k_ ≠ (.slice Ao33 t377.length co33 : Value).ownBlock) s_.1 t393) ∧ (Kd.R (Kd.int .i64) 2 w' w.heap.size (fun k_ => some k_ ≠ (s_.1 : Value).ownBlock ∧ some k_ ≠ (.slice Ao21 t365.length co21 : Value).ownBlock ∧ some k_ ≠ (.slice Ao33 t377.length co33 : Value).ownBlock) s_.2.1 t400) ∧ (Kd.R (Kd.int .i64) 2 w' w.heap.size (fun k_ => some k_ ≠ (s_.1 : Value).ownBlock ∧ some k_ ≠ (s_.2.1 : Value).ownBlock ∧ some k_ ≠ (.slice Ao33 t377.length co33 : Value).ownBlock) (.slice Ao21 t365.length co21) t365) ∧ (Kd.R (Kd.int .i64) 2 w' w.heap.size (fun k_ => some k_ ≠ (s_.1 : Value).ownBlock ∧ some k_ ≠ (s_.2.1 : Value).ownBlock ∧ some k_ ≠ (.slice Ao21 t365.length co21 : Value).ownBlock) (.slice Ao33 t377.length co33) t391) ∧ (w'.heap[gb357]? = some (.cells #[.int .i64 a1_0, .int .i64 a1_1, .int .i64 a1_2] 32 (0, 0))) ∧ (w'.heap[gb369]? = some (.cells #[.int .i64 t364, .slice Ao21 t365.length co21] 34 (0, 0))) ∧ (w'.heap[gb381]? = some (.cells #[.int .i64 t376, .slice Ao33 t377.length co33] 34 (0, 0))) ∧ (w'.heap[s_.2.2]? = some (.cells #[.int .i64 0, .slice none 0 0] 34 (0, 0))) ∧ (w.heap.size ≤ s_.2.2) ∧ (w.heap.size ≤ s_.2.2) ∧ (gb357 ≠ s_.2.2) ∧ (s_.2.2 ≠ gb357) ∧ (gb369 ≠ s_.2.2) ∧ (s_.2.2 ≠ gb369) ∧ (gb381 ≠ s_.2.2) ∧ (s_.2.2 ≠ gb381) ∧ (Below w.heap.size w w')) ?_ ?_
                      rotate_left
                      · intro hCont
                        refine two_ (i := 1) (j := 8) (Ni := some 78) (Nj := some 13) #[true, true, true, false, false, false, false, false, false, false, false] #[true, false, true, false, false, false, false, false, true, false, false] rfl rfl rfl rfl (two_of HT_.out (by kernel_rfl)) (by decide) (by decide) (fun K hK => ?_) (fun K hK => ?_)
                        · skip
                          refine goes_ Try.func31 (by kernel_rfl) rfl #[.slice A0 l0.length c0] (by rfl) rfl rfl qB55 ?_
                          with_reducible refine (laws_toInt64S.calls kj52 _ _ l0 t393 _ ?side1 ?side2 A83.out).mono ?_
                          (case side1 => repeat (first | exact (Kd.C_below HR0.out HB.out) | (with_reducible refine Kd.C_alloc ?_ _) | (with_reducible refine Kd.C_drewN ?_ _) | (with_reducible refine Kd.C_drew ?_)))
                          (case side2 => exact HC0.out)
                          rintro e w94 ⟨v394, rfl, ho0, hb⟩
                          refine ⟨_, rfl, ?_⟩
                          have n0_ := Aside0.mk (Kd.R_elder' qB86 (Kd.R_base ho0) hb)
                          have n1_ := Aside0.mk (Kd.R_elder' qB87 (Kd.R_base ho0) hb)
                          have n2_ := Aside0.mk (Kd.R_lower (Kd.R_new' (Kd.R_new' ho0 (Kd.R_lt qB86)) (Kd.R_lt qB87)) (below_size qB25))
                          have n3_ := Aside0.mk (blk_below (g := gb357) (o := .cells #[.int .i64 a1_0, .int .i64 a1_1, .int .i64 a1_2] 32 (0, 0)) qB81 hb)
                          have n4_ := Aside0.mk (blk_below (g := gb369) (o := .cells #[.int .i64 t364, .slice Ao21 t365.length co21] 34 (0, 0)) qB82 hb)
                          have n5_ := Aside0.mk (blk_below (g := gb381) (o := .cells #[.int .i64 t376, .slice Ao33 t377.length co33] 34 (0, 0)) qB83 hb)
                          have n6_ := Aside0.mk (below_step qB25 hb)
                          clear HO_370001
                          clear HO_382001
                          clear BK357
                          clear BK369
                          clear BK381
                          clear HB
                          have HO_370001 := n0_
                          have HO_382001 := n1_
                          have HO395 := n2_
                          have BK357 := n3_
                          have BK369 := n4_
                          have BK381 := n5_
                          have HB := n6_
                          clear n0_ n1_ n2_ n3_ n4_ n5_ n6_
                          (try clear hb)
                          (try clear hb2)
                          (try clear hk)
                          (try clear hi)
                          (try clear ho0)
                          refine hK.out _ _ ⟨(blk_cell BK357.out 0).trans rfl, (blk_cell BK357.out 1).trans rfl, (blk_cell BK357.out 2).trans rfl⟩ (fun hHeld => ?_)
                          clear hK K
                          refine norm_ (a' := ?_) ?_ ?_
                          rotate_left
                          · show Act.put _ (some 78) _ = _
                            simp only [Act.put, List.setIfInBounds_toArray, List.set_cons_zero, List.set_cons_succ, i64_w, i32_w]
                            rfl
                          refine two_ (i := 3) (j := 8) (Ni := some 80) (Nj := some 13) #[true, true, true, true, false, false, false, false, false, false, false] #[true, true, true, false, false, false, false, false, true, false, false] rfl rfl rfl rfl (two_of HT_.out (by kernel_rfl)) (by decide) (by decide) (fun K hK => ?_) (fun K hK => ?_)
                          · skip
                            refine goes_ Try.func18 (by kernel_rfl) rfl #[.agg #[.int .i64 a1_0, .int .i64 a1_1, .int .i64 a1_2]] (by rfl) rfl rfl qB55 ?_
                            with_reducible refine (laws_toCharacter.calls a1_0 a1_1 a1_2 t396 t397 t398 _ A84.out).mono ?_
                            rintro e w95 ⟨rfl, hb⟩
                            refine ⟨_, rfl, ?_⟩
                            have n0_ := Aside0.mk (Kd.R_below qB86 hb)
                            have n1_ := Aside0.mk (Kd.R_below qB87 hb)
                            have n2_ := Aside0.mk (Kd.R_below qB106 hb)
                            have n3_ := Aside0.mk (blk_below (g := gb357) (o := .cells #[.int .i64 a1_0, .int .i64 a1_1, .int .i64 a1_2] 32 (0, 0)) qB81 hb)
                            have n4_ := Aside0.mk (blk_below (g := gb369) (o := .cells #[.int .i64 t364, .slice Ao21 t365.length co21] 34 (0, 0)) qB82 hb)
                            have n5_ := Aside0.mk (blk_below (g := gb381) (o := .cells #[.int .i64 t376, .slice Ao33 t377.length co33] 34 (0, 0)) qB83 hb)
                            have n6_ := Aside0.mk (below_step qB25 hb)
                            clear HO_370001
                            clear HO_382001
                            clear HO395
                            clear BK357
                            clear BK369
                            clear BK381
                            clear HB
                            have HO_370001 := n0_
                            have HO_382001 := n1_
                            have HO395 := n2_
                            have BK357 := n3_
                            have BK369 := n4_
                            have BK381 := n5_
                            have HB := n6_
                            clear n0_ n1_ n2_ n3_ n4_ n5_ n6_
                            (try clear hb)
                            (try clear hb2)
                            (try clear hk)
                            (try clear hi)
                            obtain ⟨Ao96, co96, eo96⟩ := Kd.R_slice HO395.out
                            (first | subst eo96 | (injection eo96 with f1_ f2_ f3_; have f4_ := f1_.symm; have f5_ := f3_.symm; clear f1_ f2_ f3_; subst f4_; subst f5_))
                            refine hK.out _ _ ⟨(blk_cell BK357.out 0).trans rfl, (blk_cell BK357.out 1).trans rfl, (blk_cell BK357.out 2).trans rfl⟩ (fun hHeld => ?_)
                            clear hK K
                            refine norm_ (a' := ?_) ?_ ?_
                            rotate_left
                            · show Act.put _ (some 80) _ = _
                              simp only [Act.put, List.setIfInBounds_toArray, List.set_cons_zero, List.set_cons_succ, i64_w, i32_w]
                              rfl
                            refine two_ (i := 4) (j := 8) (Ni := some 81) (Nj := some 13) #[true, true, true, true, true, false, false, false, false, false, false] #[true, true, true, true, false, false, false, false, true, false, false] rfl rfl rfl rfl (two_of HT_.out (by kernel_rfl)) (by decide) (by decide) (fun K hK => ?_) (fun K hK => ?_)
                            · skip
                              refine goes_ Try.func32 (by kernel_rfl) rfl #[.slice Ao96 t393.length co96, .agg #[.int .i64 t396, .int .i64 t397, .int .i64 t398]] (by rfl) rfl rfl qB55 ?_
                              with_reducible refine (impl_SumWith.calls kj52 _ _ t393 t396 t397 t398 t399 t400 t403 _ ?side1 ?side2 A85.out).mono ?_
                              (case side1 => repeat (first | exact (Kd.R_reads' HO395.out).2.2 | (with_reducible refine Kd.C_alloc ?_ _) | (with_reducible refine Kd.C_drewN ?_ _) | (with_reducible refine Kd.C_drew ?_)))
                              (case side2 => exact (Kd.R_reads' HO395.out).2.1)
                              rintro e w97 ⟨v401, rfl, ho0, hb⟩
                              refine ⟨_, rfl, ?_⟩
                              have n0_ := Aside0.mk (Kd.R_elder' qB86 (Kd.R_base ho0) hb)
                              have n1_ := Aside0.mk (Kd.R_elder' qB87 (Kd.R_base ho0) hb)
                              have n2_ := Aside0.mk (Kd.R_elder' qB106 (Kd.R_base ho0) hb)
                              have n3_ := Aside0.mk (Kd.R_lower (Kd.R_new' (Kd.R_new' (Kd.R_new' ho0 (Kd.R_lt qB86)) (Kd.R_lt qB87)) (Kd.R_lt qB106)) (below_size qB25))
                              have n4_ := Aside0.mk (blk_below (g := gb357) (o := .cells #[.int .i64 a1_0, .int .i64 a1_1, .int .i64 a1_2] 32 (0, 0)) qB81 hb)
                              have n5_ := Aside0.mk (blk_below (g := gb369) (o := .cells #[.int .i64 t364, .slice Ao21 t365.length co21] 34 (0, 0)) qB82 hb)
                              have n6_ := Aside0.mk (blk_below (g := gb381) (o := .cells #[.int .i64 t376, .slice Ao33 t377.length co33] 34 (0, 0)) qB83 hb)
                              have n7_ := Aside0.mk (below_step qB25 hb)
                              clear HO_370001
                              clear HO_382001
                              clear HO395
                              clear BK357
                              clear BK369
                              clear BK381
                              clear HB
                              have HO_370001 := n0_
                              have HO_382001 := n1_
                              have HO395 := n2_
                              have HO402 := n3_
                              have BK357 := n4_
                              have BK369 := n5_
                              have BK381 := n6_
                              have HB := n7_
                              clear n0_ n1_ n2_ n3_ n4_ n5_ n6_ n7_
                              (try clear hb)
                              (try clear hb2)
                              (try clear hk)
                              (try clear hi)
                              (try clear ho0)
                              refine hK.out _ _ ⟨(blk_cell BK357.out 0).trans rfl, (blk_cell BK357.out 1).trans rfl, (blk_cell BK357.out 2).trans rfl⟩ (fun hHeld => ?_)
                              clear hK K
                              refine norm_ (a' := ?_) ?_ ?_
                              rotate_left
                              · show Act.put _ (some 81) _ = _
                                simp only [Act.put, List.setIfInBounds_toArray, List.set_cons_zero, List.set_cons_succ, i64_w, i32_w]
                                rfl
                              refine pure_ (i := 5) (N := some 76) (v := ?_) (a' := ?_) #[true, true, true, true, true, true, false, false, false, false, false] rfl rfl (any_of HT_.out (by kernel_rfl)) (fun _ _ _ h => h) (Or.inl ⟨by rfl, ?_⟩) ?_ ?_
                              rotate_left
                              · intro w'
                                go_simp
                                with_reducible rfl
                              rotate_left
                              · simp only [Act.put, List.setIfInBounds_toArray, List.set_cons_zero, List.set_cons_succ, i64_w, i32_w]
                                rfl
                              refine pure_ (i := 6) (N := some 82) (v := ?_) (a' := ?_) #[true, true, true, true, true, true, true, false, false, false, false] rfl rfl (any_of HT_.out (by kernel_rfl)) (fun _ _ _ h => h) (Or.inl ⟨by rfl, ?_⟩) ?_ ?_
                              rotate_left
                              · intro w'
                                go_simp
                                with_reducible rfl
                              rotate_left
                              · simp only [Act.put, List.setIfInBounds_toArray, List.set_cons_zero, List.set_cons_succ, i64_w, i32_w]
                                rfl
                              refine pure_ (i := 7) (N := some 83) (v := ?_) (a' := ?_) #[true, true, true, true, true, true, true, true, false, false, false] rfl rfl (any_of HT_.out (by kernel_rfl)) (fun _ _ _ h => h) (Or.inl ⟨by rfl, ?_⟩) ?_ ?_
                              rotate_left
                              · intro w'
                                go_simp
                                with_reducible rfl
                              rotate_left
                              · simp only [Act.put, List.setIfInBounds_toArray, List.set_cons_zero, List.set_cons_succ, i64_w, i32_w]
                                rfl
                              refine one_ (i := 8) (N := some 13) #[true, true, true, true, true, true, true, true, true, false, false] rfl rfl (one_of HT_.out (by kernel_rfl)) (by decide) (fun K hK => ?_)
                              refine box_step ?hg (N := 13) ?hd (cs := #[.int .i64 0, .slice none 0 0]) (t := 34) ?hr ?_; (case hd => rfl); (case hg => rfl); (case hr => first | (go_simp; done) | (go_simp; rfl))
                              intro gb404 hg w98 hbox hb
                              have n0_ := Aside0.mk (Kd.R_below qB86 hb)
                              have n1_ := Aside0.mk (Kd.R_below qB87 hb)
                              have n2_ := Aside0.mk (Kd.R_below qB106 hb)
                              have n3_ := Aside0.mk (Kd.R_below (by (with_reducible repeat (first | apply Kd.R_alloc | apply Kd.R_drewN | apply Kd.R_drew)); exact HO402.out) hb)
                              have n4_ := Aside0.mk (blk_below (g := gb357) (o := .cells #[.int .i64 a1_0, .int .i64 a1_1, .int .i64 a1_2] 32 (0, 0)) qB81 hb)
                              have n5_ := Aside0.mk (blk_below (g := gb369) (o := .cells #[.int .i64 t364, .slice Ao21 t365.length co21] 34 (0, 0)) qB82 hb)
                              have n6_ := Aside0.mk (blk_below (g := gb381) (o := .cells #[.int .i64 t376, .slice Ao33 t377.length co33] 34 (0, 0)) qB83 hb)
                              have n7_ := Aside0.mk (below_step qB25 hb)
                              have n8_ := Aside0.mk (hbox)
                              have n9_ := Aside0.mk ((by rw [hg]; exact (below_size qB25) : w.heap.size ≤ gb404))
                              have n10_ := Aside0.mk ((by rw [hg]; exact (below_size qB25) : w.heap.size ≤ gb404))
                              have n11_ := Aside0.mk ((by rw [hg]; exact Nat.ne_of_lt (blk_lt (g := gb357) (o := .cells #[.int .i64 a1_0, .int .i64 a1_1, .int .i64 a1_2] 32 (0, 0)) qB81) : gb357 ≠ gb404))
                              have n12_ := Aside0.mk ((by rw [hg]; exact Nat.ne_of_gt (blk_lt (g := gb357) (o := .cells #[.int .i64 a1_0, .int .i64 a1_1, .int .i64 a1_2] 32 (0, 0)) qB81) : gb404 ≠ gb357))
                              have n13_ := Aside0.mk ((by rw [hg]; exact Nat.ne_of_lt (blk_lt (g := gb369) (o := .cells #[.int .i64 t364, .slice Ao21 t365.length co21] 34 (0, 0)) qB82) : gb369 ≠ gb404))
                              have n14_ := Aside0.mk ((by rw [hg]; exact Nat.ne_of_gt (blk_lt (g := gb369) (o := .cells #[.int .i64 t364, .slice Ao21 t365.length co21] 34 (0, 0)) qB82) : gb404 ≠ gb369))
                              have n15_ := Aside0.mk ((by rw [hg]; exact Nat.ne_of_lt (blk_lt (g := gb381) (o := .cells #[.int .i64 t376, .slice Ao33 t377.length co33] 34 (0, 0)) qB83) : gb381 ≠ gb404))
                              have n16_ := Aside0.mk ((by rw [hg]; exact Nat.ne_of_gt (blk_lt (g := gb381) (o := .cells #[.int .i64 t376, .slice Ao33 t377.length co33] 34 (0, 0)) qB83) : gb404 ≠ gb381))
                              clear HO_370001
                              clear HO_382001
                              clear HO395
                              clear HO402
                              clear BK357
                              clear BK369
                              clear BK381
                              clear HB
                              have HO_370001 := n0_
                              have HO_382001 := n1_
                              have HO395 := n2_
                              have HO402 := n3_
                              have BK357 := n4_
                              have BK369 := n5_
                              have BK381 := n6_
                              have HB := n7_
                              have BK404 := n8_
                              have GW404 := n9_
                              have GE404 := n10_
                              have NB357_404 := n11_
                              have NB404_357 := n12_
                              have NB369_404 := n13_
                              have NB404_369 := n14_
                              have NB381_404 := n15_
                              have NB404_381 := n16_
                              clear n0_ n1_ n2_ n3_ n4_ n5_ n6_ n7_ n8_ n9_ n10_ n11_ n12_ n13_ n14_ n15_ n16_
                              clear hb hbox hg
                              refine hK.out _ _ ⟨(blk_cell BK357.out 0).trans rfl, (blk_cell BK357.out 1).trans rfl, (blk_cell BK357.out 2).trans rfl⟩ (fun hHeld => ?_)
                              clear hK K
                              refine norm_ (a' := ?_) ?_ ?_
                              rotate_left
                              · show Act.put _ (some 13) _ = _
                                simp only [Act.put, List.setIfInBounds_toArray, List.set_cons_zero, List.set_cons_succ, i64_w, i32_w]
                                rfl
                              exact norm_ qB112 (hCont (.slice Ao96 t393.length co96, v401, gb404) _ ⟨hHeld, qB51, qB52, qB49, qB50, qB81, qB82, qB83, qB84, GW404.out, GE404.out, NB357_404.out, NB404_357.out, NB369_404.out, NB404_369.out, NB381_404.out, NB404_381.out, qB22⟩)
                            · skip
                              refine box_step ?hg (N := 13) ?hd (cs := #[.int .i64 0, .slice none 0 0]) (t := 34) ?hr ?_; (case hd => rfl); (case hg => rfl); (case hr => first | (go_simp; done) | (go_simp; rfl))
                              intro gb404 hg w96 hbox hb
                              have n0_ := Aside0.mk (Kd.R_below qB86 hb)
                              have n1_ := Aside0.mk (Kd.R_below qB87 hb)
                              have n2_ := Aside0.mk (Kd.R_below qB106 hb)
                              have n3_ := Aside0.mk (blk_below (g := gb357) (o := .cells #[.int .i64 a1_0, .int .i64 a1_1, .int .i64 a1_2] 32 (0, 0)) qB81 hb)
                              have n4_ := Aside0.mk (blk_below (g := gb369) (o := .cells #[.int .i64 t364, .slice Ao21 t365.length co21] 34 (0, 0)) qB82 hb)
                              have n5_ := Aside0.mk (blk_below (g := gb381) (o := .cells #[.int .i64 t376, .slice Ao33 t377.length co33] 34 (0, 0)) qB83 hb)
                              have n6_ := Aside0.mk (below_step qB25 hb)
                              have n7_ := Aside0.mk (hbox)
                              have n8_ := Aside0.mk ((by rw [hg]; exact (below_size qB25) : w.heap.size ≤ gb404))
                              have n9_ := Aside0.mk ((by rw [hg]; exact (below_size qB25) : w.heap.size ≤ gb404))
                              have n10_ := Aside0.mk ((by rw [hg]; exact Nat.ne_of_lt (blk_lt (g := gb357) (o := .cells #[.int .i64 a1_0, .int .i64 a1_1, .int .i64 a1_2] 32 (0, 0)) qB81) : gb357 ≠ gb404))
                              have n11_ := Aside0.mk ((by rw [hg]; exact Nat.ne_of_gt (blk_lt (g := gb357) (o := .cells #[.int .i64 a1_0, .int .i64 a1_1, .int .i64 a1_2] 32 (0, 0)) qB81) : gb404 ≠ gb357))
                              have n12_ := Aside0.mk ((by rw [hg]; exact Nat.ne_of_lt (blk_lt (g := gb369) (o := .cells #[.int .i64 t364, .slice Ao21 t365.length co21] 34 (0, 0)) qB82) : gb369 ≠ gb404))
                              have n13_ := Aside0.mk ((by rw [hg]; exact Nat.ne_of_gt (blk_lt (g := gb369) (o := .cells #[.int .i64 t364, .slice Ao21 t365.length co21] 34 (0, 0)) qB82) : gb404 ≠ gb369))
                              have n14_ := Aside0.mk ((by rw [hg]; exact Nat.ne_of_lt (blk_lt (g := gb381) (o := .cells #[.int .i64 t376, .slice Ao33 t377.length co33] 34 (0, 0)) qB83) : gb381 ≠ gb404))
                              have n15_ := Aside0.mk ((by rw [hg]; exact Nat.ne_of_gt (blk_lt (g := gb381) (o := .cells #[.int .i64 t376, .slice Ao33 t377.length co33] 34 (0, 0)) qB83) : gb404 ≠ gb381))
                              clear HO_370001
                              clear HO_382001
                              clear HO395
                              clear BK357
                              clear BK369
                              clear BK381
                              clear HB
                              have HO_370001 := n0_
                              have HO_382001 := n1_
                              have HO395 := n2_
                              have BK357 := n3_
                              have BK369 := n4_
                              have BK381 := n5_
                              have HB := n6_
                              have BK404 := n7_
                              have GW404 := n8_
                              have GE404 := n9_
                              have NB357_404 := n10_
                              have NB404_357 := n11_
                              have NB369_404 := n12_
                              have NB404_369 := n13_
                              have NB381_404 := n14_
                              have NB404_381 := n15_
                              clear n0_ n1_ n2_ n3_ n4_ n5_ n6_ n7_ n8_ n9_ n10_ n11_ n12_ n13_ n14_ n15_
                              clear hb hbox hg
                              obtain ⟨Ao97, co97, eo97⟩ := Kd.R_slice HO395.out
                              (first | subst eo97 | (injection eo97 with f1_ f2_ f3_; have f4_ := f1_.symm; have f5_ := f3_.symm; clear f1_ f2_ f3_; subst f4_; subst f5_))
                              refine hK.out _ _ ⟨(blk_cell BK357.out 0).trans rfl, (blk_cell BK357.out 1).trans rfl, (blk_cell BK357.out 2).trans rfl⟩ (fun hHeld => ?_)
                              clear hK K
                              refine norm_ (a' := ?_) ?_ ?_
                              rotate_left
                              · show Act.put _ (some 13) _ = _
                                simp only [Act.put, List.setIfInBounds_toArray, List.set_cons_zero, List.set_cons_succ, i64_w, i32_w]
                                rfl
                              refine one_ (i := 4) (N := some 81) #[true, true, true, true, true, false, false, false, true, false, false] rfl rfl (one_of HT_.out (by kernel_rfl)) (by decide) (fun K hK => ?_)
                              refine goes_ Try.func32 (by kernel_rfl) rfl #[.slice Ao97 t393.length co97, .agg #[.int .i64 t396, .int .i64 t397, .int .i64 t398]] (by rfl) rfl rfl qB55 ?_
                              with_reducible refine (impl_SumWith.calls kj52 _ _ t393 t396 t397 t398 t399 t400 t403 _ ?side1 ?side2 A85.out).mono ?_
                              (case side1 => repeat (first | exact (Kd.R_reads' HO395.out).2.2 | (with_reducible refine Kd.C_alloc ?_ _) | (with_reducible refine Kd.C_drewN ?_ _) | (with_reducible refine Kd.C_drew ?_)))
                              (case side2 => exact (Kd.R_reads' HO395.out).2.1)
                              rintro e w98 ⟨v401, rfl, ho0, hb⟩
                              refine ⟨_, rfl, ?_⟩
                              have n0_ := Aside0.mk (Kd.R_elder' qB86 (Kd.R_base ho0) hb)
                              have n1_ := Aside0.mk (Kd.R_elder' qB87 (Kd.R_base ho0) hb)
                              have n2_ := Aside0.mk (Kd.R_elder' qB106 (Kd.R_base ho0) hb)
                              have n3_ := Aside0.mk (Kd.R_lower (Kd.R_new' (Kd.R_new' (Kd.R_new' ho0 (Kd.R_lt qB86)) (Kd.R_lt qB87)) (Kd.R_lt qB106)) (below_size qB22))
                              have n4_ := Aside0.mk (blk_below (g := gb357) (o := .cells #[.int .i64 a1_0, .int .i64 a1_1, .int .i64 a1_2] 32 (0, 0)) qB81 hb)
                              have n5_ := Aside0.mk (blk_below (g := gb369) (o := .cells #[.int .i64 t364, .slice Ao21 t365.length co21] 34 (0, 0)) qB82 hb)
                              have n6_ := Aside0.mk (blk_below (g := gb381) (o := .cells #[.int .i64 t376, .slice Ao33 t377.length co33] 34 (0, 0)) qB83 hb)
                              have n7_ := Aside0.mk (blk_below (g := gb404) (o := .cells #[.int .i64 0, .slice none 0 0] 34 (0, 0)) qB84 hb)
                              have n8_ := Aside0.mk (below_step qB22 hb)
                              clear HO_370001
                              clear HO_382001
                              clear HO395
                              clear BK357
                              clear BK369
                              clear BK381
                              clear BK404
                              clear HB
                              have HO_370001 := n0_
                              have HO_382001 := n1_
                              have HO395 := n2_
                              have HO402 := n3_
                              have BK357 := n4_
                              have BK369 := n5_
                              have BK381 := n6_
                              have BK404 := n7_
                              have HB := n8_
                              clear n0_ n1_ n2_ n3_ n4_ n5_ n6_ n7_ n8_
                              (try clear hb)
                              (try clear hb2)
                              (try clear hk)
                              (try clear hi)
                              (try clear ho0)
                              refine hK.out _ _ ⟨(blk_cell BK357.out 0).trans rfl, (blk_cell BK357.out 1).trans rfl, (blk_cell BK357.out 2).trans rfl⟩ (fun hHeld => ?_)
                              clear hK K
                              refine norm_ (a' := ?_) ?_ ?_
                              rotate_left
                              · show Act.put _ (some 81) _ = _
                                simp only [Act.put, List.setIfInBounds_toArray, List.set_cons_zero, List.set_cons_succ, i64_w, i32_w]
                                rfl
                              refine pure_ (i := 5) (N := some 76) (v := ?_) (a' := ?_) #[true, true, true, true, true, true, false, false, true, false, false] rfl rfl (any_of HT_.out (by kernel_rfl)) (fun _ _ _ h => h) (Or.inl ⟨by rfl, ?_⟩) ?_ ?_
                              rotate_left
                              · intro w'
                                go_simp
                                with_reducible rfl
                              rotate_left
                              · simp only [Act.put, List.setIfInBounds_toArray, List.set_cons_zero, List.set_cons_succ, i64_w, i32_w]
                                rfl
                              refine pure_ (i := 6) (N := some 82) (v := ?_) (a' := ?_) #[true, true, true, true, true, true, true, false, true, false, false] rfl rfl (any_of HT_.out (by kernel_rfl)) (fun _ _ _ h => h) (Or.inl ⟨by rfl, ?_⟩) ?_ ?_
                              rotate_left
                              · intro w'
                                go_simp
                                with_reducible rfl
                              rotate_left
                              · simp only [Act.put, List.setIfInBounds_toArray, List.set_cons_zero, List.set_cons_succ, i64_w, i32_w]
                                rfl
                              refine pure_ (i := 7) (N := some 83) (v := ?_) (a' := ?_) #[true, true, true, true, true, true, true, true, true, false, false] rfl rfl (any_of HT_.out (by kernel_rfl)) (fun _ _ _ h => h) (Or.inl ⟨by rfl, ?_⟩) ?_ ?_
                              rotate_left
                              · intro w'
                                go_simp
                                with_reducible rfl
                              rotate_left
                              · simp only [Act.put, List.setIfInBounds_toArray, List.set_cons_zero, List.set_cons_succ, i64_w, i32_w]
                                rfl
                              exact norm_ qB112 (hCont (.slice Ao97 t393.length co97, v401, gb404) _ ⟨hHeld, qB51, qB52, qB49, qB50, qB81, qB82, qB83, qB84, GW404.out, GE404.out, NB357_404.out, NB404_357.out, NB369_404.out, NB404_369.out, NB381_404.out, NB404_381.out, qB22⟩)
                          · skip
                            refine box_step ?hg (N := 13) ?hd (cs := #[.int .i64 0, .slice none 0 0]) (t := 34) ?hr ?_; (case hd => rfl); (case hg => rfl); (case hr => first | (go_simp; done) | (go_simp; rfl))
                            intro gb404 hg w95 hbox hb
                            have n0_ := Aside0.mk (Kd.R_below qB86 hb)
                            have n1_ := Aside0.mk (Kd.R_below qB87 hb)
                            have n2_ := Aside0.mk (Kd.R_below qB106 hb)
                            have n3_ := Aside0.mk (blk_below (g := gb357) (o := .cells #[.int .i64 a1_0, .int .i64 a1_1, .int .i64 a1_2] 32 (0, 0)) qB81 hb)
                            have n4_ := Aside0.mk (blk_below (g := gb369) (o := .cells #[.int .i64 t364, .slice Ao21 t365.length co21] 34 (0, 0)) qB82 hb)
                            have n5_ := Aside0.mk (blk_below (g := gb381) (o := .cells #[.int .i64 t376, .slice Ao33 t377.length co33] 34 (0, 0)) qB83 hb)
                            have n6_ := Aside0.mk (below_step qB25 hb)
                            have n7_ := Aside0.mk (hbox)
                            have n8_ := Aside0.mk ((by rw [hg]; exact (below_size qB25) : w.heap.size ≤ gb404))
                            have n9_ := Aside0.mk ((by rw [hg]; exact (below_size qB25) : w.heap.size ≤ gb404))
                            have n10_ := Aside0.mk ((by rw [hg]; exact Nat.ne_of_lt (blk_lt (g := gb357) (o := .cells #[.int .i64 a1_0, .int .i64 a1_1, .int .i64 a1_2] 32 (0, 0)) qB81) : gb357 ≠ gb404))
                            have n11_ := Aside0.mk ((by rw [hg]; exact Nat.ne_of_gt (blk_lt (g := gb357) (o := .cells #[.int .i64 a1_0, .int .i64 a1_1, .int .i64 a1_2] 32 (0, 0)) qB81) : gb404 ≠ gb357))
                            have n12_ := Aside0.mk ((by rw [hg]; exact Nat.ne_of_lt (blk_lt (g := gb369) (o := .cells #[.int .i64 t364, .slice Ao21 t365.length co21] 34 (0, 0)) qB82) : gb369 ≠ gb404))
                            have n13_ := Aside0.mk ((by rw [hg]; exact Nat.ne_of_gt (blk_lt (g := gb369) (o := .cells #[.int .i64 t364, .slice Ao21 t365.length co21] 34 (0, 0)) qB82) : gb404 ≠ gb369))
                            have n14_ := Aside0.mk ((by rw [hg]; exact Nat.ne_of_lt (blk_lt (g := gb381) (o := .cells #[.int .i64 t376, .slice Ao33 t377.length co33] 34 (0, 0)) qB83) : gb381 ≠ gb404))
                            have n15_ := Aside0.mk ((by rw [hg]; exact Nat.ne_of_gt (blk_lt (g := gb381) (o := .cells #[.int .i64 t376, .slice Ao33 t377.length co33] 34 (0, 0)) qB83) : gb404 ≠ gb381))
                            clear HO_370001
                            clear HO_382001
                            clear HO395
                            clear BK357
                            clear BK369
                            clear BK381
                            clear HB
                            have HO_370001 := n0_
                            have HO_382001 := n1_
                            have HO395 := n2_
                            have BK357 := n3_
                            have BK369 := n4_
                            have BK381 := n5_
                            have HB := n6_
                            have BK404 := n7_
                            have GW404 := n8_
                            have GE404 := n9_
                            have NB357_404 := n10_
                            have NB404_357 := n11_
                            have NB369_404 := n12_
                            have NB404_369 := n13_
                            have NB381_404 := n14_
                            have NB404_381 := n15_
                            clear n0_ n1_ n2_ n3_ n4_ n5_ n6_ n7_ n8_ n9_ n10_ n11_ n12_ n13_ n14_ n15_
                            clear hb hbox hg
                            refine hK.out _ _ ⟨(blk_cell BK357.out 0).trans rfl, (blk_cell BK357.out 1).trans rfl, (blk_cell BK357.out 2).trans rfl⟩ (fun hHeld => ?_)
                            clear hK K
                            refine norm_ (a' := ?_) ?_ ?_
                            rotate_left
                            · show Act.put _ (some 13) _ = _
                              simp only [Act.put, List.setIfInBounds_toArray, List.set_cons_zero, List.set_cons_succ, i64_w, i32_w]
                              rfl
                            refine one_ (i := 3) (N := some 80) #[true, true, true, true, false, false, false, false, true, false, false] rfl rfl (one_of HT_.out (by kernel_rfl)) (by decide) (fun K hK => ?_)
                            refine goes_ Try.func18 (by kernel_rfl) rfl #[.agg #[.int .i64 a1_0, .int .i64 a1_1, .int .i64 a1_2]] (by rfl) rfl rfl qB55 ?_
                            with_reducible refine (laws_toCharacter.calls a1_0 a1_1 a1_2 t396 t397 t398 _ A84.out).mono ?_
                            rintro e w96 ⟨rfl, hb⟩
                            refine ⟨_, rfl, ?_⟩
                            have n0_ := Aside0.mk (Kd.R_below qB86 hb)
                            have n1_ := Aside0.mk (Kd.R_below qB87 hb)
                            have n2_ := Aside0.mk (Kd.R_below qB106 hb)
                            have n3_ := Aside0.mk (blk_below (g := gb357) (o := .cells #[.int .i64 a1_0, .int .i64 a1_1, .int .i64 a1_2] 32 (0, 0)) qB81 hb)
                            have n4_ := Aside0.mk (blk_below (g := gb369) (o := .cells #[.int .i64 t364, .slice Ao21 t365.length co21] 34 (0, 0)) qB82 hb)
                            have n5_ := Aside0.mk (blk_below (g := gb381) (o := .cells #[.int .i64 t376, .slice Ao33 t377.length co33] 34 (0, 0)) qB83 hb)
                            have n6_ := Aside0.mk (blk_below (g := gb404) (o := .cells #[.int .i64 0, .slice none 0 0] 34 (0, 0)) qB84 hb)
                            have n7_ := Aside0.mk (below_step qB22 hb)
                            clear HO_370001
                            clear HO_382001
                            clear HO395
                            clear BK357
                            clear BK369
                            clear BK381
                            clear BK404
                            clear HB
                            have HO_370001 := n0_
                            have HO_382001 := n1_
                            have HO395 := n2_
                            have BK357 := n3_
                            have BK369 := n4_
                            have BK381 := n5_
                            have BK404 := n6_
                            have HB := n7_
                            clear n0_ n1_ n2_ n3_ n4_ n5_ n6_ n7_
                            (try clear hb)
                            (try clear hb2)
                            (try clear hk)
                            (try clear hi)
                            obtain ⟨Ao97, co97, eo97⟩ := Kd.R_slice HO395.out
                            (first | subst eo97 | (injection eo97 with f1_ f2_ f3_; have f4_ := f1_.symm; have f5_ := f3_.symm; clear f1_ f2_ f3_; subst f4_; subst f5_))
                            refine hK.out _ _ ⟨(blk_cell BK357.out 0).trans rfl, (blk_cell BK357.out 1).trans rfl, (blk_cell BK357.out 2).trans rfl⟩ (fun hHeld => ?_)
                            clear hK K
                            refine norm_ (a' := ?_) ?_ ?_
                            rotate_left
                            · show Act.put _ (some 80) _ = _
                              simp only [Act.put, List.setIfInBounds_toArray, List.set_cons_zero, List.set_cons_succ, i64_w, i32_w]
                              rfl
                            refine one_ (i := 4) (N := some 81) #[true, true, true, true, true, false, false, false, true, false, false] rfl rfl (one_of HT_.out (by kernel_rfl)) (by decide) (fun K hK => ?_)
                            refine goes_ Try.func32 (by kernel_rfl) rfl #[.slice Ao97 t393.length co97, .agg #[.int .i64 t396, .int .i64 t397, .int .i64 t398]] (by rfl) rfl rfl qB55 ?_
                            with_reducible refine (impl_SumWith.calls kj52 _ _ t393 t396 t397 t398 t399 t400 t403 _ ?side1 ?side2 A85.out).mono ?_
                            (case side1 => repeat (first | exact (Kd.R_reads' HO395.out).2.2 | (with_reducible refine Kd.C_alloc ?_ _) | (with_reducible refine Kd.C_drewN ?_ _) | (with_reducible refine Kd.C_drew ?_)))
                            (case side2 => exact (Kd.R_reads' HO395.out).2.1)
                            rintro e w98 ⟨v401, rfl, ho0, hb⟩
                            refine ⟨_, rfl, ?_⟩
                            have n0_ := Aside0.mk (Kd.R_elder' qB86 (Kd.R_base ho0) hb)
                            have n1_ := Aside0.mk (Kd.R_elder' qB87 (Kd.R_base ho0) hb)
                            have n2_ := Aside0.mk (Kd.R_elder' qB106 (Kd.R_base ho0) hb)
                            have n3_ := Aside0.mk (Kd.R_lower (Kd.R_new' (Kd.R_new' (Kd.R_new' ho0 (Kd.R_lt qB86)) (Kd.R_lt qB87)) (Kd.R_lt qB106)) (below_size qB22))
                            have n4_ := Aside0.mk (blk_below (g := gb357) (o := .cells #[.int .i64 a1_0, .int .i64 a1_1, .int .i64 a1_2] 32 (0, 0)) qB81 hb)
                            have n5_ := Aside0.mk (blk_below (g := gb369) (o := .cells #[.int .i64 t364, .slice Ao21 t365.length co21] 34 (0, 0)) qB82 hb)
                            have n6_ := Aside0.mk (blk_below (g := gb381) (o := .cells #[.int .i64 t376, .slice Ao33 t377.length co33] 34 (0, 0)) qB83 hb)
                            have n7_ := Aside0.mk (blk_below (g := gb404) (o := .cells #[.int .i64 0, .slice none 0 0] 34 (0, 0)) qB84 hb)
                            have n8_ := Aside0.mk (below_step qB22 hb)
                            clear HO_370001
                            clear HO_382001
                            clear HO395
                            clear BK357
                            clear BK369
                            clear BK381
                            clear BK404
                            clear HB
                            have HO_370001 := n0_
                            have HO_382001 := n1_
                            have HO395 := n2_
                            have HO402 := n3_
                            have BK357 := n4_
                            have BK369 := n5_
                            have BK381 := n6_
                            have BK404 := n7_
                            have HB := n8_
                            clear n0_ n1_ n2_ n3_ n4_ n5_ n6_ n7_ n8_
                            (try clear hb)
                            (try clear hb2)
                            (try clear hk)
                            (try clear hi)
                            (try clear ho0)
                            refine hK.out _ _ ⟨(blk_cell BK357.out 0).trans rfl, (blk_cell BK357.out 1).trans rfl, (blk_cell BK357.out 2).trans rfl⟩ (fun hHeld => ?_)
                            clear hK K
                            refine norm_ (a' := ?_) ?_ ?_
                            rotate_left
                            · show Act.put _ (some 81) _ = _
                              simp only [Act.put, List.setIfInBounds_toArray, List.set_cons_zero, List.set_cons_succ, i64_w, i32_w]
                              rfl
                            refine pure_ (i := 5) (N := some 76) (v := ?_) (a' := ?_) #[true, true, true, true, true, true, false, false, true, false, false] rfl rfl (any_of HT_.out (by kernel_rfl)) (fun _ _ _ h => h) (Or.inl ⟨by rfl, ?_⟩) ?_ ?_
                            rotate_left
                            · intro w'
                              go_simp
                              with_reducible rfl
                            rotate_left
                            · simp only [Act.put, List.setIfInBounds_toArray, List.set_cons_zero, List.set_cons_succ, i64_w, i32_w]
                              rfl
                            refine pure_ (i := 6) (N := some 82) (v := ?_) (a' := ?_) #[true, true, true, true, true, true, true, false, true, false, false] rfl rfl (any_of HT_.out (by kernel_rfl)) (fun _ _ _ h => h) (Or.inl ⟨by rfl, ?_⟩) ?_ ?_
                            rotate_left
                            · intro w'
                              go_simp
                              with_reducible rfl
                            rotate_left
                            · simp only [Act.put, List.setIfInBounds_toArray, List.set_cons_zero, List.set_cons_succ, i64_w, i32_w]
                              rfl
                            refine pure_ (i := 7) (N := some 83) (v := ?_) (a' := ?_) #[true, true, true, true, true, true, true, true, true, false, false] rfl rfl (any_of HT_.out (by kernel_rfl)) (fun _ _ _ h => h) (Or.inl ⟨by rfl, ?_⟩) ?_ ?_
                            rotate_left
                            · intro w'
                              go_simp
                              with_reducible rfl
                            rotate_left
                            · simp only [Act.put, List.setIfInBounds_toArray, List.set_cons_zero, List.set_cons_succ, i64_w, i32_w]
                              rfl
                            exact norm_ qB112 (hCont (.slice Ao97 t393.length co97, v401, gb404) _ ⟨hHeld, qB51, qB52, qB49, qB50, qB81, qB82, qB83, qB84, GW404.out, GE404.out, NB357_404.out, NB404_357.out, NB369_404.out, NB404_369.out, NB381_404.out, NB404_381.out, qB22⟩)
                        · skip
                          refine box_step ?hg (N := 13) ?hd (cs := #[.int .i64 0, .slice none 0 0]) (t := 34) ?hr ?_; (case hd => rfl); (case hg => rfl); (case hr => first | (go_simp; done) | (go_simp; rfl))
                          intro gb404 hg w94 hbox hb
                          have n0_ := Aside0.mk (Kd.R_below qB86 hb)
                          have n1_ := Aside0.mk (Kd.R_below qB87 hb)
                          have n2_ := Aside0.mk (blk_below (g := gb357) (o := .cells #[.int .i64 a1_0, .int .i64 a1_1, .int .i64 a1_2] 32 (0, 0)) qB81 hb)
                          have n3_ := Aside0.mk (blk_below (g := gb369) (o := .cells #[.int .i64 t364, .slice Ao21 t365.length co21] 34 (0, 0)) qB82 hb)
                          have n4_ := Aside0.mk (blk_below (g := gb381) (o := .cells #[.int .i64 t376, .slice Ao33 t377.length co33] 34 (0, 0)) qB83 hb)
                          have n5_ := Aside0.mk (below_step qB25 hb)
                          have n6_ := Aside0.mk (hbox)
                          have n7_ := Aside0.mk ((by rw [hg]; exact (below_size qB25) : w.heap.size ≤ gb404))
                          have n8_ := Aside0.mk ((by rw [hg]; exact (below_size qB25) : w.heap.size ≤ gb404))
                          have n9_ := Aside0.mk ((by rw [hg]; exact Nat.ne_of_lt (blk_lt (g := gb357) (o := .cells #[.int .i64 a1_0, .int .i64 a1_1, .int .i64 a1_2] 32 (0, 0)) qB81) : gb357 ≠ gb404))
                          have n10_ := Aside0.mk ((by rw [hg]; exact Nat.ne_of_gt (blk_lt (g := gb357) (o := .cells #[.int .i64 a1_0, .int .i64 a1_1, .int .i64 a1_2] 32 (0, 0)) qB81) : gb404 ≠ gb357))
                          have n11_ := Aside0.mk ((by rw [hg]; exact Nat.ne_of_lt (blk_lt (g := gb369) (o := .cells #[.int .i64 t364, .slice Ao21 t365.length co21] 34 (0, 0)) qB82) : gb369 ≠ gb404))
                          have n12_ := Aside0.mk ((by rw [hg]; exact Nat.ne_of_gt (blk_lt (g := gb369) (o := .cells #[.int .i64 t364, .slice Ao21 t365.length co21] 34 (0, 0)) qB82) : gb404 ≠ gb369))
                          have n13_ := Aside0.mk ((by rw [hg]; exact Nat.ne_of_lt (blk_lt (g := gb381) (o := .cells #[.int .i64 t376, .slice Ao33 t377.length co33] 34 (0, 0)) qB83) : gb381 ≠ gb404))
                          have n14_ := Aside0.mk ((by rw [hg]; exact Nat.ne_of_gt (blk_lt (g := gb381) (o := .cells #[.int .i64 t376, .slice Ao33 t377.length co33] 34 (0, 0)) qB83) : gb404 ≠ gb381))
                          clear HO_370001
                          clear HO_382001
                          clear BK357
                          clear BK369
                          clear BK381
                          clear HB
                          have HO_370001 := n0_
                          have HO_382001 := n1_
                          have BK357 := n2_
                          have BK369 := n3_
                          have BK381 := n4_
                          have HB := n5_
                          have BK404 := n6_
                          have GW404 := n7_
                          have GE404 := n8_
                          have NB357_404 := n9_
                          have NB404_357 := n10_
                          have NB369_404 := n11_
                          have NB404_369 := n12_
                          have NB381_404 := n13_
                          have NB404_381 := n14_
                          clear n0_ n1_ n2_ n3_ n4_ n5_ n6_ n7_ n8_ n9_ n10_ n11_ n12_ n13_ n14_
                          clear hb hbox hg
                          refine hK.out _ _ ⟨(blk_cell BK357.out 0).trans rfl, (blk_cell BK357.out 1).trans rfl, (blk_cell BK357.out 2).trans rfl⟩ (fun hHeld => ?_)
                          clear hK K
                          refine norm_ (a' := ?_) ?_ ?_
                          rotate_left
                          · show Act.put _ (some 13) _ = _
                            simp only [Act.put, List.setIfInBounds_toArray, List.set_cons_zero, List.set_cons_succ, i64_w, i32_w]
                            rfl
                          refine one_ (i := 1) (N := some 78) #[true, true, true, false, false, false, false, false, true, false, false] rfl rfl (one_of HT_.out (by kernel_rfl)) (by decide) (fun K hK => ?_)
                          refine goes_ Try.func31 (by kernel_rfl) rfl #[.slice A0 l0.length c0] (by rfl) rfl rfl qB55 ?_
                          with_reducible refine (laws_toInt64S.calls kj52 _ _ l0 t393 _ ?side1 ?side2 A83.out).mono ?_
                          (case side1 => repeat (first | exact (Kd.C_below HR0.out HB.out) | (with_reducible refine Kd.C_alloc ?_ _) | (with_reducible refine Kd.C_drewN ?_ _) | (with_reducible refine Kd.C_drew ?_)))
                          (case side2 => exact HC0.out)
                          rintro e w95 ⟨v394, rfl, ho0, hb⟩
                          refine ⟨_, rfl, ?_⟩
                          have n0_ := Aside0.mk (Kd.R_elder' qB86 (Kd.R_base ho0) hb)
                          have n1_ := Aside0.mk (Kd.R_elder' qB87 (Kd.R_base ho0) hb)
                          have n2_ := Aside0.mk (Kd.R_lower (Kd.R_new' (Kd.R_new' ho0 (Kd.R_lt qB86)) (Kd.R_lt qB87)) (below_size qB22))
                          have n3_ := Aside0.mk (blk_below (g := gb357) (o := .cells #[.int .i64 a1_0, .int .i64 a1_1, .int .i64 a1_2] 32 (0, 0)) qB81 hb)
                          have n4_ := Aside0.mk (blk_below (g := gb369) (o := .cells #[.int .i64 t364, .slice Ao21 t365.length co21] 34 (0, 0)) qB82 hb)
                          have n5_ := Aside0.mk (blk_below (g := gb381) (o := .cells #[.int .i64 t376, .slice Ao33 t377.length co33] 34 (0, 0)) qB83 hb)
                          have n6_ := Aside0.mk (blk_below (g := gb404) (o := .cells #[.int .i64 0, .slice none 0 0] 34 (0, 0)) qB84 hb)
                          have n7_ := Aside0.mk (below_step qB22 hb)
                          clear HO_370001
                          clear HO_382001
                          clear BK357
                          clear BK369
                          clear BK381
                          clear BK404
                          clear HB
                          have HO_370001 := n0_
                          have HO_382001 := n1_
                          have HO395 := n2_
                          have BK357 := n3_
                          have BK369 := n4_
                          have BK381 := n5_
                          have BK404 := n6_
                          have HB := n7_
                          clear n0_ n1_ n2_ n3_ n4_ n5_ n6_ n7_
                          (try clear hb)
                          (try clear hb2)
                          (try clear hk)
                          (try clear hi)
                          (try clear ho0)
                          refine hK.out _ _ ⟨(blk_cell BK357.out 0).trans rfl, (blk_cell BK357.out 1).trans rfl, (blk_cell BK357.out 2).trans rfl⟩ (fun hHeld => ?_)
                          clear hK K
                          refine norm_ (a' := ?_) ?_ ?_
                          rotate_left
                          · show Act.put _ (some 78) _ = _
                            simp only [Act.put, List.setIfInBounds_toArray, List.set_cons_zero, List.set_cons_succ, i64_w, i32_w]
                            rfl
                          refine one_ (i := 3) (N := some 80) #[true, true, true, true, false, false, false, false, true, false, false] rfl rfl (one_of HT_.out (by kernel_rfl)) (by decide) (fun K hK => ?_)
                          refine goes_ Try.func18 (by kernel_rfl) rfl #[.agg #[.int .i64 a1_0, .int .i64 a1_1, .int .i64 a1_2]] (by rfl) rfl rfl qB55 ?_
                          with_reducible refine (laws_toCharacter.calls a1_0 a1_1 a1_2 t396 t397 t398 _ A84.out).mono ?_
                          rintro e w96 ⟨rfl, hb⟩
                          refine ⟨_, rfl, ?_⟩
                          have n0_ := Aside0.mk (Kd.R_below qB86 hb)
                          have n1_ := Aside0.mk (Kd.R_below qB87 hb)
                          have n2_ := Aside0.mk (Kd.R_below qB106 hb)
                          have n3_ := Aside0.mk (blk_below (g := gb357) (o := .cells #[.int .i64 a1_0, .int .i64 a1_1, .int .i64 a1_2] 32 (0, 0)) qB81 hb)
                          have n4_ := Aside0.mk (blk_below (g := gb369) (o := .cells #[.int .i64 t364, .slice Ao21 t365.length co21] 34 (0, 0)) qB82 hb)
                          have n5_ := Aside0.mk (blk_below (g := gb381) (o := .cells #[.int .i64 t376, .slice Ao33 t377.length co33] 34 (0, 0)) qB83 hb)
                          have n6_ := Aside0.mk (blk_below (g := gb404) (o := .cells #[.int .i64 0, .slice none 0 0] 34 (0, 0)) qB84 hb)
                          have n7_ := Aside0.mk (below_step qB22 hb)
                          clear HO_370001
                          clear HO_382001
                          clear HO395
                          clear BK357
                          clear BK369
                          clear BK381
                          clear BK404
                          clear HB
                          have HO_370001 := n0_
                          have HO_382001 := n1_
                          have HO395 := n2_
                          have BK357 := n3_
                          have BK369 := n4_
                          have BK381 := n5_
                          have BK404 := n6_
                          have HB := n7_
                          clear n0_ n1_ n2_ n3_ n4_ n5_ n6_ n7_
                          (try clear hb)
                          (try clear hb2)
                          (try clear hk)
                          (try clear hi)
                          obtain ⟨Ao97, co97, eo97⟩ := Kd.R_slice HO395.out
                          (first | subst eo97 | (injection eo97 with f1_ f2_ f3_; have f4_ := f1_.symm; have f5_ := f3_.symm; clear f1_ f2_ f3_; subst f4_; subst f5_))
                          refine hK.out _ _ ⟨(blk_cell BK357.out 0).trans rfl, (blk_cell BK357.out 1).trans rfl, (blk_cell BK357.out 2).trans rfl⟩ (fun hHeld => ?_)
                          clear hK K
                          refine norm_ (a' := ?_) ?_ ?_
                          rotate_left
                          · show Act.put _ (some 80) _ = _
                            simp only [Act.put, List.setIfInBounds_toArray, List.set_cons_zero, List.set_cons_succ, i64_w, i32_w]
                            rfl
                          refine one_ (i := 4) (N := some 81) #[true, true, true, true, true, false, false, false, true, false, false] rfl rfl (one_of HT_.out (by kernel_rfl)) (by decide) (fun K hK => ?_)
                          refine goes_ Try.func32 (by kernel_rfl) rfl #[.slice Ao97 t393.length co97, .agg #[.int .i64 t396, .int .i64 t397, .int .i64 t398]] (by rfl) rfl rfl qB55 ?_
                          with_reducible refine (impl_SumWith.calls kj52 _ _ t393 t396 t397 t398 t399 t400 t403 _ ?side1 ?side2 A85.out).mono ?_
                          (case side1 => repeat (first | exact (Kd.R_reads' HO395.out).2.2 | (with_reducible refine Kd.C_alloc ?_ _) | (with_reducible refine Kd.C_drewN ?_ _) | (with_reducible refine Kd.C_drew ?_)))
                          (case side2 => exact (Kd.R_reads' HO395.out).2.1)
                          rintro e w98 ⟨v401, rfl, ho0, hb⟩
                          refine ⟨_, rfl, ?_⟩
                          have n0_ := Aside0.mk (Kd.R_elder' qB86 (Kd.R_base ho0) hb)
                          have n1_ := Aside0.mk (Kd.R_elder' qB87 (Kd.R_base ho0) hb)
                          have n2_ := Aside0.mk (Kd.R_elder' qB106 (Kd.R_base ho0) hb)
                          have n3_ := Aside0.mk (Kd.R_lower (Kd.R_new' (Kd.R_new' (Kd.R_new' ho0 (Kd.R_lt qB86)) (Kd.R_lt qB87)) (Kd.R_lt qB106)) (below_size qB22))
                          have n4_ := Aside0.mk (blk_below (g := gb357) (o := .cells #[.int .i64 a1_0, .int .i64 a1_1, .int .i64 a1_2] 32 (0, 0)) qB81 hb)
                          have n5_ := Aside0.mk (blk_below (g := gb369) (o := .cells #[.int .i64 t364, .slice Ao21 t365.length co21] 34 (0, 0)) qB82 hb)
                          have n6_ := Aside0.mk (blk_below (g := gb381) (o := .cells #[.int .i64 t376, .slice Ao33 t377.length co33] 34 (0, 0)) qB83 hb)
                          have n7_ := Aside0.mk (blk_below (g := gb404) (o := .cells #[.int .i64 0, .slice none 0 0] 34 (0, 0)) qB84 hb)
                          have n8_ := Aside0.mk (below_step qB22 hb)
                          clear HO_370001
                          clear HO_382001
                          clear HO395
                          clear BK357
                          clear BK369
                          clear BK381
                          clear BK404
                          clear HB
                          have HO_370001 := n0_
                          have HO_382001 := n1_
                          have HO395 := n2_
                          have HO402 := n3_
                          have BK357 := n4_
                          have BK369 := n5_
                          have BK381 := n6_
                          have BK404 := n7_
                          have HB := n8_
                          clear n0_ n1_ n2_ n3_ n4_ n5_ n6_ n7_ n8_
                          (try clear hb)
                          (try clear hb2)
                          (try clear hk)
                          (try clear hi)
                          (try clear ho0)
                          refine hK.out _ _ ⟨(blk_cell BK357.out 0).trans rfl, (blk_cell BK357.out 1).trans rfl, (blk_cell BK357.out 2).trans rfl⟩ (fun hHeld => ?_)
                          clear hK K
                          refine norm_ (a' := ?_) ?_ ?_
                          rotate_left
                          · show Act.put _ (some 81) _ = _
                            simp only [Act.put, List.setIfInBounds_toArray, List.set_cons_zero, List.set_cons_succ, i64_w, i32_w]
                            rfl
                          refine pure_ (i := 5) (N := some 76) (v := ?_) (a' := ?_) #[true, true, true, true, true, true, false, false, true, false, false] rfl rfl (any_of HT_.out (by kernel_rfl)) (fun _ _ _ h => h) (Or.inl ⟨by rfl, ?_⟩) ?_ ?_
                          rotate_left
                          · intro w'
                            go_simp
                            with_reducible rfl
                          rotate_left
                          · simp only [Act.put, List.setIfInBounds_toArray, List.set_cons_zero, List.set_cons_succ, i64_w, i32_w]
                            rfl
                          refine pure_ (i := 6) (N := some 82) (v := ?_) (a' := ?_) #[true, true, true, true, true, true, true, false, true, false, false] rfl rfl (any_of HT_.out (by kernel_rfl)) (fun _ _ _ h => h) (Or.inl ⟨by rfl, ?_⟩) ?_ ?_
                          rotate_left
                          · intro w'
                            go_simp
                            with_reducible rfl
                          rotate_left
                          · simp only [Act.put, List.setIfInBounds_toArray, List.set_cons_zero, List.set_cons_succ, i64_w, i32_w]
                            rfl
                          refine pure_ (i := 7) (N := some 83) (v := ?_) (a' := ?_) #[true, true, true, true, true, true, true, true, true, false, false] rfl rfl (any_of HT_.out (by kernel_rfl)) (fun _ _ _ h => h) (Or.inl ⟨by rfl, ?_⟩) ?_ ?_
                          rotate_left
                          · intro w'
                            go_simp
                            with_reducible rfl
                          rotate_left
                          · simp only [Act.put, List.setIfInBounds_toArray, List.set_cons_zero, List.set_cons_succ, i64_w, i32_w]
                            rfl
                          exact norm_ qB112 (hCont (.slice Ao97 t393.length co97, v401, gb404) _ ⟨hHeld, qB51, qB52, qB49, qB50, qB81, qB82, qB83, qB84, GW404.out, GE404.out, NB357_404.out, NB404_357.out, NB369_404.out, NB404_369.out, NB381_404.out, NB404_381.out, qB22⟩)
                      rintro ⟨v394, v401, gb404⟩ w99 ⟨hS_, h0_, h1_, h2_, h3_, h4_, h5_, h6_, h7_, h8_, h9_, h10_, h11_, h12_, h13_, h14_, h15_, h16_⟩
                      have n0_ : Aside0 (Kd.R (Kd.int .i64) 2 w99 w.heap.size (fun k_ => some k_ ≠ (v401 : Value).ownBlock ∧ some k_ ≠ (.slice Ao21 t365.length co21 : Value).ownBlock ∧ some k_ ≠ (.slice Ao33 t377.length co33 : Value).ownBlock) v394 t393) := ⟨h0_⟩
                      have n1_ : Aside0 (Kd.R (Kd.int .i64) 2 w99 w.heap.size (fun k_ => some k_ ≠ (v394 : Value).ownBlock ∧ some k_ ≠ (.slice Ao21 t365.length co21 : Value).ownBlock ∧ some k_ ≠ (.slice Ao33 t377.length co33 : Value).ownBlock) v401 t400) := ⟨h1_⟩
                      have n2_ : Aside0 (Kd.R (Kd.int .i64) 2 w99 w.heap.size (fun k_ => some k_ ≠ (v394 : Value).ownBlock ∧ some k_ ≠ (v401 : Value).ownBlock ∧ some k_ ≠ (.slice Ao33 t377.length co33 : Value).ownBlock) (.slice Ao21 t365.length co21) t365) := ⟨h2_⟩
                      have n3_ : Aside0 (Kd.R (Kd.int .i64) 2 w99 w.heap.size (fun k_ => some k_ ≠ (v394 : Value).ownBlock ∧ some k_ ≠ (v401 : Value).ownBlock ∧ some k_ ≠ (.slice Ao21 t365.length co21 : Value).ownBlock) (.slice Ao33 t377.length co33) t391) := ⟨h3_⟩
                      have n4_ : Aside0 (w99.heap[gb357]? = some (.cells #[.int .i64 a1_0, .int .i64 a1_1, .int .i64 a1_2] 32 (0, 0))) := ⟨h4_⟩
                      have n5_ : Aside0 (w99.heap[gb369]? = some (.cells #[.int .i64 t364, .slice Ao21 t365.length co21] 34 (0, 0))) := ⟨h5_⟩
                      have n6_ : Aside0 (w99.heap[gb381]? = some (.cells #[.int .i64 t376, .slice Ao33 t377.length co33] 34 (0, 0))) := ⟨h6_⟩
                      have n7_ : Aside0 (w99.heap[gb404]? = some (.cells #[.int .i64 0, .slice none 0 0] 34 (0, 0))) := ⟨h7_⟩
                      have n8_ : Aside0 (w.heap.size ≤ gb404) := ⟨h8_⟩
                      have n9_ : Aside0 (w.heap.size ≤ gb404) := ⟨h9_⟩
                      have n10_ : Aside0 (gb357 ≠ gb404) := ⟨h10_⟩
                      have n11_ : Aside0 (gb404 ≠ gb357) := ⟨h11_⟩
                      have n12_ : Aside0 (gb369 ≠ gb404) := ⟨h12_⟩
                      have n13_ : Aside0 (gb404 ≠ gb369) := ⟨h13_⟩
                      have n14_ : Aside0 (gb381 ≠ gb404) := ⟨h14_⟩
                      have n15_ : Aside0 (gb404 ≠ gb381) := ⟨h15_⟩
                      have n16_ : Aside0 (Below w.heap.size w w99) := ⟨h16_⟩
                      clear HO_370001
                      clear HO_382001
                      clear BK357
                      clear BK369
                      clear BK381
                      clear HB
                      clear h0_ h1_ h2_ h3_ h4_ h5_ h6_ h7_ h8_ h9_ h10_ h11_ h12_ h13_ h14_ h15_ h16_
                      have HO395 := n0_
                      have HO402 := n1_
                      have HO_370001 := n2_
                      have HO_382001 := n3_
                      have BK357 := n4_
                      have BK369 := n5_
                      have BK381 := n6_
                      have BK404 := n7_
                      have GW404 := n8_
                      have GE404 := n9_
                      have NB357_404 := n10_
                      have NB404_357 := n11_
                      have NB369_404 := n12_
                      have NB404_369 := n13_
                      have NB381_404 := n14_
                      have NB404_381 := n15_
                      have HB := n16_
                      clear n0_ n1_ n2_ n3_ n4_ n5_ n6_ n7_ n8_ n9_ n10_ n11_ n12_ n13_ n14_ n15_ n16_
                      have hHeld : w99.cell? ⟨gb357, 0, none⟩ = some (.int .i64 a1_0) ∧ w99.cell? ⟨gb357, 1, none⟩ = some (.int .i64 a1_1) ∧ w99.cell? ⟨gb357, 2, none⟩ = some (.int .i64 a1_2) := hS_
                      obtain ⟨Ao101, co101, eo101⟩ := Kd.R_slice HO402.out
                      (first | subst eo101 | (injection eo101 with f1_ f2_ f3_; have f4_ := f1_.symm; have f5_ := f3_.symm; clear f1_ f2_ f3_; subst f4_; subst f5_))
                      refine norm_ (a' := ?_) ?_ ?_
                      rotate_left
                      · simp only [putAll, Act.put, List.setIfInBounds_toArray, List.set_cons_zero, List.set_cons_succ]
                        rfl
                      refine one_ (i := 9) (N := none) #[true, true, true, true, true, true, true, true, true, true, false] rfl rfl (one_of HT_.out (by kernel_rfl)) (by decide) (fun K hK => ?_)
                      have hs100 : w99.cell? ⟨gb404, 0, none⟩ = some (.int .i64 0) := (blk_cell BK404.out 0).trans rfl
                      have hfs100 := blk_frozen BK404.out 0
                      have hns100_0 := NB357_404.out
                      have hns100_1 := NB369_404.out
                      have hns100_2 := NB381_404.out
                      have hms100_0 := NB404_357.out
                      have hms100_1 := NB404_369.out
                      have hms100_2 := NB404_381.out
                      have hs102 : w99.cell? ⟨gb404, 1, none⟩ = some (.slice none 0 0) := (blk_cell BK404.out 1).trans rfl
                      have hfs102 := blk_frozen BK404.out 1
                      have hns102_0 := NB357_404.out
                      have hns102_1 := NB369_404.out
                      have hns102_2 := NB381_404.out
                      have hms102_0 := NB404_357.out
                      have hms102_1 := NB404_369.out
                      have hms102_2 := NB404_381.out
                      refine skip_ (w1 := ?_) (by rfl) rfl ?_ ?_
                      rotate_left
                      · go_simp
                        rfl
                      refine hK.out _ _ ⟨((cell_far (p := ⟨gb404, _, none⟩) NB357_404.out _).trans (((cell_far (p := ⟨gb404, _, none⟩) NB357_404.out _).trans (hHeld.1)))), ((cell_far (p := ⟨gb404, _, none⟩) NB357_404.out _).trans (((cell_far (p := ⟨gb404, _, none⟩) NB357_404.out _).trans (hHeld.2.1)))), ((cell_far (p := ⟨gb404, _, none⟩) NB357_404.out _).trans (((cell_far (p := ⟨gb404, _, none⟩) NB357_404.out _).trans (hHeld.2.2))))⟩ (fun hHeld => ?_)
                      clear hK K
                      refine pure_ (i := 10) (N := some 14) (v := ?_) (a' := ?_) #[true, true, true, true, true, true, true, true, true, true, true] rfl rfl (any_of HT_.out (by kernel_rfl)) (fun _ _ _ h => h) (Or.inl ⟨by rfl, ?_⟩) ?_ ?_
                      rotate_left
                      · intro w'
                        go_simp
                        with_reducible rfl
                      rotate_left
                      · simp only [Act.put, List.setIfInBounds_toArray, List.set_cons_zero, List.set_cons_succ, i64_w, i32_w]
                        rfl
                      refine done_ (done_of HT_.out (by kernel_rfl)) ?_
                      go_upto_region 23 with (fail)
                      go_cut [92] (fun v92 wc => ∃ (kq : Nat) (x92_85 : Bool), v92 = .bool x92_85 ∧ Aside0 (laws_FnExactSumWith.j2 kq t390 x92_85 t376 t391 = some r) ∧ Aside0 (kq ≤ kj52) ∧ Aside0 (Kd.R (Kd.int .i64) 2 wc w.heap.size (fun k_ => some k_ ≠ ((.slice Ao33 t377.length co33) : Value).ownBlock ∧ some k_ ≠ ((.slice Ao101 t400.length co101) : Value).ownBlock) (.slice Ao21 t365.length co21) t365) ∧ Aside0 (Kd.R (Kd.int .i64) 2 wc w.heap.size (fun k_ => some k_ ≠ ((.slice Ao21 t365.length co21) : Value).ownBlock ∧ some k_ ≠ ((.slice Ao101 t400.length co101) : Value).ownBlock) (.slice Ao33 t377.length co33) t391) ∧ Aside0 (Kd.R (Kd.int .i64) 2 wc w.heap.size (fun k_ => some k_ ≠ ((.slice Ao21 t365.length co21) : Value).ownBlock ∧ some k_ ≠ ((.slice Ao33 t377.length co33) : Value).ownBlock) (.slice Ao101 t400.length co101) t400) ∧ Aside0 (wc.heap[gb357]? = some (.cells #[.int .i64 a1_0, .int .i64 a1_1, .int .i64 a1_2] 32 (0, 0))) ∧ Aside0 (wc.heap[gb369]? = some (.cells #[.int .i64 t364, (.slice Ao21 t365.length co21)] 34 (0, 0))) ∧ Aside0 (wc.heap[gb381]? = some (.cells #[.int .i64 t376, (.slice Ao33 t377.length co33)] 34 (0, 0))) ∧ Aside0 (wc.heap[gb404]? = some (.cells #[.int .i64 t399, (.slice Ao101 t400.length co101)] 34 (0, 0))) ∧ Aside0 (Below w.heap.size w wc))
                      case first =>
                        have H := HC86.out
                        clear HC86
                        replace H := Option.bind_eq_some_iff.mp H
                        obtain ⟨t405, A1030, H⟩ := H
                        replace H : (if t405 = true then (laws_FnExactSumWith.j2 kj52 t390 (t403 != t368) t376 t391) else (laws_FnExactSumWith.j2 kj52 t390 true t376 t391)) = some r := H
                        have A103 := Aside0.mk A1030
                        clear A1030
                        by_cases c104 : t405 = true
                        · subst c104
                          have H1 : (laws_FnExactSumWith.j2 kj52 t390 (t403 != t368) t376 t391) = some r := by rw [if_pos rfl] at H; exact H
                          clear H
                          have H := H1
                          clear H1
                          have H' := Aside0.mk H
                          clear H
                          have hnb105 := NB404_357.out
                          have hnc105 := NB357_404.out
                          have hnb106 := NB404_369.out
                          have hnc106 := NB369_404.out
                          have hnb107 := NB404_381.out
                          have hnc107 := NB381_404.out
                          have hcz108_0 : w99.cell? ⟨gb404, 0, none⟩ = some (.int .i64 0) := (blk_cell BK404.out 0).trans rfl
                          have hcz108_1 : w99.cell? ⟨gb404, 1, none⟩ = some (.slice none 0 0) := (blk_cell BK404.out 1).trans rfl
                          have hfz108_0 := blk_frozen BK404.out 0
                          have hfz108_1 := blk_frozen BK404.out 1
                          have hnb109 := NB369_357.out
                          have hnc109 := NB357_369.out
                          have hnb110 := NB369_381.out
                          have hnc110 := NB381_369.out
                          have hcz111_0 : w99.cell? ⟨gb369, 0, none⟩ = some (.int .i64 t364) := (blk_cell BK369.out 0).trans rfl
                          have hcz111_1 : w99.cell? ⟨gb369, 1, none⟩ = some (.slice Ao21 t365.length co21) := (blk_cell BK369.out 1).trans rfl
                          have hfz111_0 := blk_frozen BK369.out 0
                          have hfz111_1 := blk_frozen BK369.out 1
                          go_wp2_with (first | ((with_reducible refine gate_callee (f := 20) rfl ?_); refine goesL_ (some 86) rfl rfl Try.func20 (by kernel_rfl) rfl #[.agg #[.int .i64 t399, .slice Ao101 t400.length co101], .agg #[.int .i64 t364, .slice Ao21 t365.length co21]] rfl qB55 ?_; (with_reducible refine (laws_eqCyclo.calls kj52 t399 _ _ t400 t364 _ _ t365 true _ ?side1 ?side2 ?side3 ?side4 A103.out).mono ?_); (case side1 => refine (Kd.R_reads' (e := 2) (base := w.heap.size) (ok := fun k_ => (some k_ ≠ (v394 : Value).ownBlock ∧ (some k_ ≠ (.slice Ao21 t365.length co21 : Value).ownBlock ∧ some k_ ≠ (.slice Ao33 t377.length co33 : Value).ownBlock))) (n := t400.length) (c := co101) ?_).2.2; exact qB13); (case side2 => exact (Kd.R_reads' HO402.out).2.1); (case side3 => refine (Kd.R_reads' (e := 2) (base := w.heap.size) (ok := fun k_ => (some k_ ≠ (v394 : Value).ownBlock ∧ (some k_ ≠ (.slice Ao101 t400.length co101 : Value).ownBlock ∧ some k_ ≠ (.slice Ao33 t377.length co33 : Value).ownBlock))) (n := t365.length) (c := co21) ?_).2.2; exact qB11); (case side4 => exact (Kd.R_reads' HO_370001.out).2.1); rintro e w112 ⟨rfl, hb⟩; refine ⟨_, rfl, ?_⟩; have n0_ := Aside0.mk (Kd.R_below qB11 hb); have n1_ := Aside0.mk (Kd.R_below qB12 hb); have n2_ := Aside0.mk (Kd.R_below qB14 hb); have n3_ := Aside0.mk (Kd.R_below qB13 hb); have n4_ := Aside0.mk (blk_below (g := gb357) (o := .cells #[.int .i64 a1_0, .int .i64 a1_1, .int .i64 a1_2] 32 (0, 0)) qB8 hb); have n5_ := Aside0.mk (blk_below (g := gb369) (o := .cells #[.int .i64 t364, .slice Ao21 t365.length co21] 34 (0, 0)) qB9 hb); have n6_ := Aside0.mk (blk_below (g := gb381) (o := .cells #[.int .i64 t376, .slice Ao33 t377.length co33] 34 (0, 0)) qB10 hb); have n7_ := Aside0.mk (blk_below (g := gb404) (o := .cells #[.int .i64 t399, .slice Ao101 t400.length co101] 34 (0, 0)) qB3 hb); have n8_ := Aside0.mk (below_step qB22 hb); clear HO_370001; clear HO_382001; clear HO395; clear HO402; clear BK357; clear BK369; clear BK381; clear BK404; clear HB; have HO_370001 := n0_; have HO_382001 := n1_; have HO395 := n2_; have HO402 := n3_; have BK357 := n4_; have BK369 := n5_; have BK381 := n6_; have BK404 := n7_; have HB := n8_; clear n0_ n1_ n2_ n3_ n4_ n5_ n6_ n7_ n8_; (try clear hb); (try clear hb2); (try clear hk); (try clear hi)))
                          go_meet
                          case rel => exact ⟨_, ((t403 != t368)), qB115, H', ⟨by have := HJ10.out; have := HJ52.out; first | omega | exact Nat.le_refl _⟩, ⟨by (with_reducible repeat (first | apply Kd.R_alloc | apply Kd.R_drewN | apply Kd.R_drew)); exact Kd.R_mono HO_370001.out (fun _ hk => ⟨hk.2.2, hk.2.1⟩)⟩, ⟨by (with_reducible repeat (first | apply Kd.R_alloc | apply Kd.R_drewN | apply Kd.R_drew)); exact Kd.R_mono HO_382001.out (fun _ hk => ⟨hk.2.2, hk.2.1⟩)⟩, ⟨by (with_reducible repeat (first | apply Kd.R_alloc | apply Kd.R_drewN | apply Kd.R_drew)); exact Kd.R_mono HO402.out (fun _ hk => ⟨hk.2.1, hk.2.2⟩)⟩, ⟨by (with_reducible repeat (first | refine blk_drewN ?_ _ | refine blk_drew ?_ | refine blk_alloc ?_ _)); exact BK357.out⟩, ⟨by (with_reducible repeat (first | refine blk_drewN ?_ _ | refine blk_drew ?_ | refine blk_alloc ?_ _)); exact BK369.out⟩, ⟨by (with_reducible repeat (first | refine blk_drewN ?_ _ | refine blk_drew ?_ | refine blk_alloc ?_ _)); exact BK381.out⟩, ⟨by (with_reducible repeat (first | refine blk_drewN ?_ _ | refine blk_drew ?_ | refine blk_alloc ?_ _)); exact BK404.out⟩, ⟨by repeat (first | (with_reducible first | exact HB.out | apply below_alloc | apply pw_below_drewN | apply below_drew1 | refine below_set ?_ GE357.out | refine below_set ?_ GE369.out | refine below_set ?_ GE381.out | refine below_set ?_ GE404.out) | exact HB.out)⟩⟩
                        · replace c104 := Bool.eq_false_iff.mpr c104
                          subst c104
                          have H1 : (laws_FnExactSumWith.j2 kj52 t390 true t376 t391) = some r := by rw [if_neg (show ¬ (false = true) by decide)] at H; exact H
                          clear H
                          have H := H1
                          clear H1
                          have H' := Aside0.mk H
                          clear H
                          have hnb113 := NB404_357.out
                          have hnc113 := NB357_404.out
                          have hnb114 := NB404_369.out
                          have hnc114 := NB369_404.out
                          have hnb115 := NB404_381.out
                          have hnc115 := NB381_404.out
                          have hcz116_0 : w99.cell? ⟨gb404, 0, none⟩ = some (.int .i64 0) := (blk_cell BK404.out 0).trans rfl
                          have hcz116_1 : w99.cell? ⟨gb404, 1, none⟩ = some (.slice none 0 0) := (blk_cell BK404.out 1).trans rfl
                          have hfz116_0 := blk_frozen BK404.out 0
                          have hfz116_1 := blk_frozen BK404.out 1
                          have hnb117 := NB369_357.out
                          have hnc117 := NB357_369.out
                          have hnb118 := NB369_381.out
                          have hnc118 := NB381_369.out
                          have hcz119_0 : w99.cell? ⟨gb369, 0, none⟩ = some (.int .i64 t364) := (blk_cell BK369.out 0).trans rfl
                          have hcz119_1 : w99.cell? ⟨gb369, 1, none⟩ = some (.slice Ao21 t365.length co21) := (blk_cell BK369.out 1).trans rfl
                          have hfz119_0 := blk_frozen BK369.out 0
                          have hfz119_1 := blk_frozen BK369.out 1
                          go_wp2_with (first | ((with_reducible refine gate_callee (f := 20) rfl ?_); refine goesL_ (some 86) rfl rfl Try.func20 (by kernel_rfl) rfl #[.agg #[.int .i64 t399, .slice Ao101 t400.length co101], .agg #[.int .i64 t364, .slice Ao21 t365.length co21]] rfl qB55 ?_; (with_reducible refine (laws_eqCyclo.calls kj52 t399 _ _ t400 t364 _ _ t365 false _ ?side1 ?side2 ?side3 ?side4 A103.out).mono ?_); (case side1 => refine (Kd.R_reads' (e := 2) (base := w.heap.size) (ok := fun k_ => (some k_ ≠ (v394 : Value).ownBlock ∧ (some k_ ≠ (.slice Ao21 t365.length co21 : Value).ownBlock ∧ some k_ ≠ (.slice Ao33 t377.length co33 : Value).ownBlock))) (n := t400.length) (c := co101) ?_).2.2; exact qB13); (case side2 => exact (Kd.R_reads' HO402.out).2.1); (case side3 => refine (Kd.R_reads' (e := 2) (base := w.heap.size) (ok := fun k_ => (some k_ ≠ (v394 : Value).ownBlock ∧ (some k_ ≠ (.slice Ao101 t400.length co101 : Value).ownBlock ∧ some k_ ≠ (.slice Ao33 t377.length co33 : Value).ownBlock))) (n := t365.length) (c := co21) ?_).2.2; exact qB11); (case side4 => exact (Kd.R_reads' HO_370001.out).2.1); rintro e w120 ⟨rfl, hb⟩; refine ⟨_, rfl, ?_⟩; have n0_ := Aside0.mk (Kd.R_below qB11 hb); have n1_ := Aside0.mk (Kd.R_below qB12 hb); have n2_ := Aside0.mk (Kd.R_below qB14 hb); have n3_ := Aside0.mk (Kd.R_below qB13 hb); have n4_ := Aside0.mk (blk_below (g := gb357) (o := .cells #[.int .i64 a1_0, .int .i64 a1_1, .int .i64 a1_2] 32 (0, 0)) qB8 hb); have n5_ := Aside0.mk (blk_below (g := gb369) (o := .cells #[.int .i64 t364, .slice Ao21 t365.length co21] 34 (0, 0)) qB9 hb); have n6_ := Aside0.mk (blk_below (g := gb381) (o := .cells #[.int .i64 t376, .slice Ao33 t377.length co33] 34 (0, 0)) qB10 hb); have n7_ := Aside0.mk (blk_below (g := gb404) (o := .cells #[.int .i64 t399, .slice Ao101 t400.length co101] 34 (0, 0)) qB3 hb); have n8_ := Aside0.mk (below_step qB22 hb); clear HO_370001; clear HO_382001; clear HO395; clear HO402; clear BK357; clear BK369; clear BK381; clear BK404; clear HB; have HO_370001 := n0_; have HO_382001 := n1_; have HO395 := n2_; have HO402 := n3_; have BK357 := n4_; have BK369 := n5_; have BK381 := n6_; have BK404 := n7_; have HB := n8_; clear n0_ n1_ n2_ n3_ n4_ n5_ n6_ n7_ n8_; (try clear hb); (try clear hb2); (try clear hk); (try clear hi)))
                          go_meet
                          case rel => exact ⟨_, (true), qB115, H', ⟨by have := HJ10.out; have := HJ52.out; first | omega | exact Nat.le_refl _⟩, ⟨by (with_reducible repeat (first | apply Kd.R_alloc | apply Kd.R_drewN | apply Kd.R_drew)); exact Kd.R_mono HO_370001.out (fun _ hk => ⟨hk.2.2, hk.2.1⟩)⟩, ⟨by (with_reducible repeat (first | apply Kd.R_alloc | apply Kd.R_drewN | apply Kd.R_drew)); exact Kd.R_mono HO_382001.out (fun _ hk => ⟨hk.2.2, hk.2.1⟩)⟩, ⟨by (with_reducible repeat (first | apply Kd.R_alloc | apply Kd.R_drewN | apply Kd.R_drew)); exact Kd.R_mono HO402.out (fun _ hk => ⟨hk.2.1, hk.2.2⟩)⟩, ⟨by (with_reducible repeat (first | refine blk_drewN ?_ _ | refine blk_drew ?_ | refine blk_alloc ?_ _)); exact BK357.out⟩, ⟨by (with_reducible repeat (first | refine blk_drewN ?_ _ | refine blk_drew ?_ | refine blk_alloc ?_ _)); exact BK369.out⟩, ⟨by (with_reducible repeat (first | refine blk_drewN ?_ _ | refine blk_drew ?_ | refine blk_alloc ?_ _)); exact BK381.out⟩, ⟨by (with_reducible repeat (first | refine blk_drewN ?_ _ | refine blk_drew ?_ | refine blk_alloc ?_ _)); exact BK404.out⟩, ⟨by repeat (first | (with_reducible first | exact HB.out | apply below_alloc | apply pw_below_drewN | apply below_drew1 | refine below_set ?_ GE357.out | refine below_set ?_ GE369.out | refine below_set ?_ GE381.out | refine below_set ?_ GE404.out) | exact HB.out)⟩⟩
                      case rest =>
                        clear HC86
                        try clear c1
                        try clear c2
                        try clear p2
                        try clear c3
                        try clear c10
                        try clear c11
                        try clear c18
                        try clear c20
                        try clear c31
                        try clear c32
                        try clear c104
                        try clear c105
                        try clear c106
                        try clear c107
                        try clear c109
                        try clear c110
                        try clear c113
                        try clear c114
                        try clear c115
                        try clear c117
                        try clear c118
                        try clear hcz108_0
                        try clear hcz108_1
                        try clear hcz111_0
                        try clear hcz111_1
                        try clear hcz116_0
                        try clear hcz116_1
                        try clear hcz119_0
                        try clear hcz119_1
                        try clear hfz108_0
                        try clear hfz108_1
                        try clear hfz111_0
                        try clear hfz111_1
                        try clear hfz116_0
                        try clear hfz116_1
                        try clear hfz119_0
                        try clear hfz119_1
                        obtain ⟨kq, x92_85, rfl, HA, HJ85, HO_370001, HO_382001, HO_405001, BK357, BK369, BK381, BK404, HB⟩ := hcut
                        have hl382001_85 := (Kd.R_reads' HO_382001.out).1
                        rw [hl382001_85] at HO_382001
                        (try simp only [hl382001_85])
                        (try simp only [hl382001_85] at BK357)
                        (try simp only [hl382001_85] at BK369)
                        (try simp only [hl382001_85] at BK381)
                        (try simp only [hl382001_85] at BK404)
                        (try simp only [hl382001_85] at HO_370001)
                        (try simp only [hl382001_85] at HO_405001)
                        cases kq with
                        | zero => exact absurd HA.out (by simp [laws_FnExactSumWith.j2])
                        | succ kj85 =>
                          have H := HA.out
                          clear HA
                          simp only [laws_FnExactSumWith.j2] at H
                          by_cases c121 : x92_85 = true
                          · subst c121
                            have H1 : (some false) = some r := by rw [if_pos rfl] at H; exact H
                            clear H
                            have H := H1
                            clear H1
                            obtain rfl := Option.some.inj H
                            go_wp2
                            go_ret
                            exact ⟨by first | rfl | (simp [errW_none, errW_some] <;> rfl) | (simp [*, errW_none, errW_some] <;> rfl), by repeat (first | (with_reducible first | exact HB.out | apply below_alloc | apply pw_below_drewN | apply below_drew1 | refine below_set ?_ GE357.out | refine below_set ?_ GE369.out | refine below_set ?_ GE381.out | refine below_set ?_ GE404.out) | exact HB.out)⟩
                          · replace c121 := Bool.eq_false_iff.mpr c121
                            subst c121
                            have H1 : ((laws_heldCyclo.f kj85 t376 t391 1).bind fun t406 => (if t406 < 0 then (some false) else (if t406 = t390 then (some true) else (some false)))) = some r := by rw [if_neg (show ¬ (false = true) by decide)] at H; exact H
                            clear H
                            have H := H1
                            clear H1
                            replace H := Option.bind_eq_some_iff.mp H
                            obtain ⟨t406, A1220, H⟩ := H
                            replace H : (if t406 < 0 then (some false) else (if t406 = t390 then (some true) else (some false))) = some r := H
                            have A122 := Aside0.mk A1220
                            clear A1220
                            by_cases c123 : t406 < 0
                            · rw [if_pos c123] at H
                              have c123b0 : decide (t406 < 0) = true := decide_eq_true c123
                              clear c123
                              obtain rfl := Option.some.inj H
                              have hnb124 := NB381_357.out
                              have hnc124 := NB357_381.out
                              have hnb125 := NB381_369.out
                              have hnc125 := NB369_381.out
                              have hnb126 := NB381_404.out
                              have hnc126 := NB404_381.out
                              have hcz127_0 : wc.cell? ⟨gb381, 0, none⟩ = some (.int .i64 t376) := (blk_cell BK381.out 0).trans rfl
                              have hcz127_1 : wc.cell? ⟨gb381, 1, none⟩ = some (.slice Ao33 t391.length co33) := (blk_cell BK381.out 1).trans rfl
                              have hfz127_0 := blk_frozen BK381.out 0
                              have hfz127_1 := blk_frozen BK381.out 1
                              go_wp2_with (first | ((with_reducible refine gate_callee (f := 22) rfl ?_); refine goesL_ (some 95) rfl rfl Try.func22 (by kernel_rfl) rfl #[.agg #[.int .i64 t376, .slice Ao33 t391.length co33], .int .i64 1] rfl qB55 ?_; (with_reducible refine (laws_heldCyclo.calls kj85 t376 _ _ t391 1 t406 _ ?side1 ?side2 A122.out).mono ?_); (case side1 => repeat (first | exact (Kd.R_reads' HO_382001.out).2.2 | (with_reducible refine Kd.C_alloc ?_ _) | (with_reducible refine Kd.C_drewN ?_ _) | (with_reducible refine Kd.C_drew ?_))); (case side2 => exact (Kd.R_reads' HO_382001.out).2.1); rintro e w128 ⟨rfl, hb⟩; refine ⟨_, rfl, ?_⟩; have n0_ := Aside0.mk (Kd.R_below qB86 hb); have n1_ := Aside0.mk (Kd.R_below qB87 hb); have n2_ := Aside0.mk (Kd.R_below qB88 hb); have n3_ := Aside0.mk (blk_below (g := gb357) (o := .cells #[.int .i64 a1_0, .int .i64 a1_1, .int .i64 a1_2] 32 (0, 0)) qB81 hb); have n4_ := Aside0.mk (blk_below (g := gb369) (o := .cells #[.int .i64 t364, .slice Ao21 t365.length co21] 34 (0, 0)) qB82 hb); have n5_ := Aside0.mk (blk_below (g := gb381) (o := .cells #[.int .i64 t376, .slice Ao33 t391.length co33] 34 (0, 0)) qB83 hb); have n6_ := Aside0.mk (blk_below (g := gb404) (o := .cells #[.int .i64 t399, .slice Ao101 t400.length co101] 34 (0, 0)) qB84 hb); have n7_ := Aside0.mk (below_step qB22 hb); clear HO_370001; clear HO_382001; clear HO_405001; clear BK357; clear BK369; clear BK381; clear BK404; clear HB; have HO_370001 := n0_; have HO_382001 := n1_; have HO_405001 := n2_; have BK357 := n3_; have BK369 := n4_; have BK381 := n5_; have BK404 := n6_; have HB := n7_; clear n0_ n1_ n2_ n3_ n4_ n5_ n6_ n7_; (try clear hb); (try clear hb2); (try clear hk); (try clear hi)))
                              go_ret
                              exact ⟨by first | rfl | (simp [errW_none, errW_some] <;> rfl) | (simp [*, errW_none, errW_some] <;> rfl), by repeat (first | (with_reducible first | exact HB.out | apply below_alloc | apply pw_below_drewN | apply below_drew1 | refine below_set ?_ GE357.out | refine below_set ?_ GE369.out | refine below_set ?_ GE381.out | refine below_set ?_ GE404.out) | exact HB.out)⟩
                            · rw [if_neg c123] at H
                              have c123b0 : decide (t406 < 0) = false := decide_eq_false c123
                              clear c123
                              by_cases c129 : t406 = t390
                              · rw [if_pos c129] at H
                                have c129b0 : (t406 == t390) = true := beq_iff_eq.mpr c129
                                have c129b1 : (t406 != t390) = false := bne_eq_false_iff_eq.mpr c129
                                clear c129
                                obtain rfl := Option.some.inj H
                                have hnb130 := NB381_357.out
                                have hnc130 := NB357_381.out
                                have hnb131 := NB381_369.out
                                have hnc131 := NB369_381.out
                                have hnb132 := NB381_404.out
                                have hnc132 := NB404_381.out
                                have hcz133_0 : wc.cell? ⟨gb381, 0, none⟩ = some (.int .i64 t376) := (blk_cell BK381.out 0).trans rfl
                                have hcz133_1 : wc.cell? ⟨gb381, 1, none⟩ = some (.slice Ao33 t391.length co33) := (blk_cell BK381.out 1).trans rfl
                                have hfz133_0 := blk_frozen BK381.out 0
                                have hfz133_1 := blk_frozen BK381.out 1
                                go_wp2_with (first | ((with_reducible refine gate_callee (f := 22) rfl ?_); refine goesL_ (some 95) rfl rfl Try.func22 (by kernel_rfl) rfl #[.agg #[.int .i64 t376, .slice Ao33 t391.length co33], .int .i64 1] rfl qB55 ?_; (with_reducible refine (laws_heldCyclo.calls kj85 t376 _ _ t391 1 t406 _ ?side1 ?side2 A122.out).mono ?_); (case side1 => repeat (first | exact (Kd.R_reads' HO_382001.out).2.2 | (with_reducible refine Kd.C_alloc ?_ _) | (with_reducible refine Kd.C_drewN ?_ _) | (with_reducible refine Kd.C_drew ?_))); (case side2 => exact (Kd.R_reads' HO_382001.out).2.1); rintro e w134 ⟨rfl, hb⟩; refine ⟨_, rfl, ?_⟩; have n0_ := Aside0.mk (Kd.R_below qB86 hb); have n1_ := Aside0.mk (Kd.R_below qB87 hb); have n2_ := Aside0.mk (Kd.R_below qB88 hb); have n3_ := Aside0.mk (blk_below (g := gb357) (o := .cells #[.int .i64 a1_0, .int .i64 a1_1, .int .i64 a1_2] 32 (0, 0)) qB81 hb); have n4_ := Aside0.mk (blk_below (g := gb369) (o := .cells #[.int .i64 t364, .slice Ao21 t365.length co21] 34 (0, 0)) qB82 hb); have n5_ := Aside0.mk (blk_below (g := gb381) (o := .cells #[.int .i64 t376, .slice Ao33 t391.length co33] 34 (0, 0)) qB83 hb); have n6_ := Aside0.mk (blk_below (g := gb404) (o := .cells #[.int .i64 t399, .slice Ao101 t400.length co101] 34 (0, 0)) qB84 hb); have n7_ := Aside0.mk (below_step qB22 hb); clear HO_370001; clear HO_382001; clear HO_405001; clear BK357; clear BK369; clear BK381; clear BK404; clear HB; have HO_370001 := n0_; have HO_382001 := n1_; have HO_405001 := n2_; have BK357 := n3_; have BK369 := n4_; have BK381 := n5_; have BK404 := n6_; have HB := n7_; clear n0_ n1_ n2_ n3_ n4_ n5_ n6_ n7_; (try clear hb); (try clear hb2); (try clear hk); (try clear hi)))
                                go_ret
                                exact ⟨by first | rfl | (simp [errW_none, errW_some] <;> rfl) | (simp [*, errW_none, errW_some] <;> rfl), by repeat (first | (with_reducible first | exact HB.out | apply below_alloc | apply pw_below_drewN | apply below_drew1 | refine below_set ?_ GE357.out | refine below_set ?_ GE369.out | refine below_set ?_ GE381.out | refine below_set ?_ GE404.out) | exact HB.out)⟩
                              · rw [if_neg c129] at H
                                have c129b0 : (t406 == t390) = false := beq_eq_false_iff_ne.mpr c129
                                have c129b1 : (t406 != t390) = true := bne_iff_ne.mpr c129
                                obtain rfl := Option.some.inj H
                                have hnb135 := NB381_357.out
                                have hnc135 := NB357_381.out
                                have hnb136 := NB381_369.out
                                have hnc136 := NB369_381.out
                                have hnb137 := NB381_404.out
                                have hnc137 := NB404_381.out
                                have hcz138_0 : wc.cell? ⟨gb381, 0, none⟩ = some (.int .i64 t376) := (blk_cell BK381.out 0).trans rfl
                                have hcz138_1 : wc.cell? ⟨gb381, 1, none⟩ = some (.slice Ao33 t391.length co33) := (blk_cell BK381.out 1).trans rfl
                                have hfz138_0 := blk_frozen BK381.out 0
                                have hfz138_1 := blk_frozen BK381.out 1
                                go_wp2_with (first | ((with_reducible refine gate_callee (f := 22) rfl ?_); refine goesL_ (some 95) rfl rfl Try.func22 (by kernel_rfl) rfl #[.agg #[.int .i64 t376, .slice Ao33 t391.length co33], .int .i64 1] rfl qB55 ?_; (with_reducible refine (laws_heldCyclo.calls kj85 t376 _ _ t391 1 t406 _ ?side1 ?side2 A122.out).mono ?_); (case side1 => repeat (first | exact (Kd.R_reads' HO_382001.out).2.2 | (with_reducible refine Kd.C_alloc ?_ _) | (with_reducible refine Kd.C_drewN ?_ _) | (with_reducible refine Kd.C_drew ?_))); (case side2 => exact (Kd.R_reads' HO_382001.out).2.1); rintro e w139 ⟨rfl, hb⟩; refine ⟨_, rfl, ?_⟩; have n0_ := Aside0.mk (Kd.R_below qB86 hb); have n1_ := Aside0.mk (Kd.R_below qB87 hb); have n2_ := Aside0.mk (Kd.R_below qB88 hb); have n3_ := Aside0.mk (blk_below (g := gb357) (o := .cells #[.int .i64 a1_0, .int .i64 a1_1, .int .i64 a1_2] 32 (0, 0)) qB81 hb); have n4_ := Aside0.mk (blk_below (g := gb369) (o := .cells #[.int .i64 t364, .slice Ao21 t365.length co21] 34 (0, 0)) qB82 hb); have n5_ := Aside0.mk (blk_below (g := gb381) (o := .cells #[.int .i64 t376, .slice Ao33 t391.length co33] 34 (0, 0)) qB83 hb); have n6_ := Aside0.mk (blk_below (g := gb404) (o := .cells #[.int .i64 t399, .slice Ao101 t400.length co101] 34 (0, 0)) qB84 hb); have n7_ := Aside0.mk (below_step qB22 hb); clear HO_370001; clear HO_382001; clear HO_405001; clear BK357; clear BK369; clear BK381; clear BK404; clear HB; have HO_370001 := n0_; have HO_382001 := n1_; have HO_405001 := n2_; have BK357 := n3_; have BK369 := n4_; have BK381 := n5_; have BK404 := n6_; have HB := n7_; clear n0_ n1_ n2_ n3_ n4_ n5_ n6_ n7_; (try clear hb); (try clear hb2); (try clear hk); (try clear hi)))
                                go_ret
                                exact ⟨by first | rfl | (simp [errW_none, errW_some] <;> rfl) | (simp [*, errW_none, errW_some] <;> rfl), by repeat (first | (with_reducible first | exact HB.out | apply below_alloc | apply pw_below_drewN | apply below_drew1 | refine below_set ?_ GE357.out | refine below_set ?_ GE369.out | refine below_set ?_ GE381.out | refine below_set ?_ GE404.out) | exact HB.out)⟩
                    · rw [if_neg c82] at H
                      have c82b0 : (t392 == t390) = false := beq_eq_false_iff_ne.mpr c82
                      have c82b1 : (t392 != t390) = true := bne_iff_ne.mpr c82
                      obtain rfl := Option.some.inj H
                      have hnb140 := NB381_357.out
                      have hnc140 := NB357_381.out
                      have hnb141 := NB381_369.out
                      have hnc141 := NB369_381.out
                      have hcz142_0 : wc.cell? ⟨gb381, 0, none⟩ = some (.int .i64 t376) := (blk_cell BK381.out 0).trans rfl
                      have hcz142_1 : wc.cell? ⟨gb381, 1, none⟩ = some (.slice Ao33 t377.length co33) := (blk_cell BK381.out 1).trans rfl
                      have hfz142_0 := blk_frozen BK381.out 0
                      have hfz142_1 := blk_frozen BK381.out 1
                      go_wp2_with (first | ((with_reducible refine gate_callee (f := 21) rfl ?_); refine goesL_ (some 67) rfl rfl Try.func21 (by kernel_rfl) rfl #[.agg #[.int .i64 t376, .slice Ao33 t377.length co33], .int .i64 1] rfl qB55 ?_; (with_reducible refine (laws_markCyclo.calls kj52 t376 (fun k_ => some k_ = (.slice Ao33 t377.length co33 : Value).ownBlock) (.slice Ao33 t377.length co33) t377 1 t390 t391 w _ ?side1 ?side2 A73.out).mono ?_); (case side1 => repeat (first | (with_reducible first | exact HB.out | apply below_alloc | apply pw_below_drewN | apply below_drew1 | refine below_set ?_ GE357.out | refine below_set ?_ GE369.out | refine below_set ?_ GE381.out) | exact HB.out)); (case side2 => exact Kd.R_tight rfl HO_382001.out); rintro e w143 ⟨rfl, hy0, hb, hkp⟩; refine ⟨_, rfl, ?_⟩; have n0_ := Aside0.mk (Kd.R_mono (ok' := fun k_ => some k_ ≠ (.slice Ao33 t377.length co33 : Value).ownBlock) (Kd.R_keptB (HO_370001.out) hkp (fun k_ hk_ hs_ => (hk_) hs_)) (fun k_ hk_ => hk_.1)); have n1_ := Aside0.mk (Kd.R_reok rfl hy0 (fun k_ e_ => HO_382001.out.1 k_ e_)); have n2_ := Aside0.mk (blk_kept qB81 hkp (fun hs_ => (fun e_ => (Kd.R_ne HO_382001.out BK357.out (by decide)) e_) hs_)); have n3_ := Aside0.mk (blk_kept qB82 hkp (fun hs_ => (fun e_ => (Kd.R_ne HO_382001.out BK369.out (by decide)) e_) hs_)); have n4_ := Aside0.mk (blk_kept qB83 hkp (fun hs_ => (fun e_ => (Kd.R_ne HO_382001.out BK381.out (by decide)) e_) hs_)); have n5_ := Aside0.mk (hb); clear HO_370001; clear HO_382001; clear BK357; clear BK369; clear BK381; clear HB; have HO_370001 := n0_; have HO_382001 := n1_; have BK357 := n2_; have BK369 := n3_; have BK381 := n4_; have HB := n5_; clear n0_ n1_ n2_ n3_ n4_ n5_; (try clear hb); (try clear hkp); (try clear hy0); have hcz144_0 : w143.cell? ⟨gb381, 0, none⟩ = some (.int .i64 t376) := (blk_cell BK381.out 0).trans rfl; have hcz144_1 : w143.cell? ⟨gb381, 1, none⟩ = some (.slice Ao33 t377.length co33) := (blk_cell BK381.out 1).trans rfl; have hfz144_0 := blk_frozen BK381.out 0; have hfz144_1 := blk_frozen BK381.out 1) | ((with_reducible refine gate_callee (f := 22) rfl ?_); refine goesL_ (some 70) rfl rfl Try.func22 (by kernel_rfl) rfl #[.agg #[.int .i64 t376, .slice Ao33 t391.length co33], .int .i64 1] rfl qB26 ?_; (with_reducible refine (laws_heldCyclo.calls kj52 t376 _ _ t391 1 t392 _ ?side1 ?side2 A74.out).mono ?_); (case side1 => repeat (first | exact (Kd.R_reads' HO_382001.out).2.2 | (with_reducible refine Kd.C_alloc ?_ _) | (with_reducible refine Kd.C_drewN ?_ _) | (with_reducible refine Kd.C_drew ?_))); (case side2 => rw [show t391.length = t377.length from (Kd.R_reads' HO_382001.out).1.symm]; exact (Kd.R_reads' HO_382001.out).2.1); rintro e w145 ⟨rfl, hb⟩; refine ⟨_, rfl, ?_⟩; have n0_ := Aside0.mk (Kd.R_below qB86 hb); have n1_ := Aside0.mk (Kd.R_below qB87 hb); have n2_ := Aside0.mk (blk_below (g := gb357) (o := .cells #[.int .i64 a1_0, .int .i64 a1_1, .int .i64 a1_2] 32 (0, 0)) qB81 hb); have n3_ := Aside0.mk (blk_below (g := gb369) (o := .cells #[.int .i64 t364, .slice Ao21 t365.length co21] 34 (0, 0)) qB82 hb); have n4_ := Aside0.mk (blk_below (g := gb381) (o := .cells #[.int .i64 t376, .slice Ao33 t377.length co33] 34 (0, 0)) qB83 hb); have n5_ := Aside0.mk (below_step qB25 hb); clear HO_370001; clear HO_382001; clear BK357; clear BK369; clear BK381; clear HB; have HO_370001 := n0_; have HO_382001 := n1_; have BK357 := n2_; have BK369 := n3_; have BK381 := n4_; have HB := n5_; clear n0_ n1_ n2_ n3_ n4_ n5_; (try clear hb); (try clear hb2); (try clear hk); (try clear hi)))
                      go_ret
                      exact ⟨by first | rfl | (simp [errW_none, errW_some] <;> rfl) | (simp [*, errW_none, errW_some] <;> rfl), by repeat (first | (with_reducible first | exact HB.out | apply below_alloc | apply pw_below_drewN | apply below_drew1 | refine below_set ?_ GE357.out | refine below_set ?_ GE369.out | refine below_set ?_ GE381.out) | exact HB.out)⟩
          · replace c51 := Bool.eq_false_iff.mpr c51
            subst c51
            have H1 : (some false) = some r := by rw [if_neg (show ¬ (false = true) by decide)] at H; exact H
            clear H
            have H := H1
            clear H1
            obtain rfl := Option.some.inj H
            go_wp2_with (first | ((with_reducible refine gate_callee (f := 31) rfl ?_); refine goesL_ (some 46) rfl rfl Try.func31 (by kernel_rfl) rfl #[.slice A0 l0.length c0] rfl qB55 ?_; (with_reducible refine (laws_toInt64S.calls kj10 _ _ l0 t383 _ ?side1 ?side2 A49.out).mono ?_); (case side1 => repeat (first | exact (Kd.C_below HR0.out HB.out) | (with_reducible refine Kd.C_alloc ?_ _) | (with_reducible refine Kd.C_drewN ?_ _) | (with_reducible refine Kd.C_drew ?_))); (case side2 => exact HC0.out); rintro e w146 ⟨v384, rfl, ho0, hb⟩; refine ⟨_, rfl, ?_⟩; have n0_ := Aside0.mk (Kd.R_elder' qB111 (Kd.R_base ho0) hb); have n1_ := Aside0.mk (Kd.R_elder' qB86 (Kd.R_base ho0) hb); have n2_ := Aside0.mk (Kd.R_elder' qB87 (Kd.R_base ho0) hb); have n3_ := Aside0.mk (Kd.R_lower (Kd.R_new' (Kd.R_new' (Kd.R_new' ho0 (Kd.R_lt qB111)) (Kd.R_lt qB86)) (Kd.R_lt qB87)) (below_size qB25)); have n4_ := Aside0.mk (blk_below (g := gb357) (o := .cells #[.int .i64 a1_0, .int .i64 a1_1, .int .i64 a1_2] 32 (0, 0)) qB81 hb); have n5_ := Aside0.mk (blk_below (g := gb369) (o := .cells #[.int .i64 t364, .slice Ao21 t365.length co21] 34 (0, 0)) qB82 hb); have n6_ := Aside0.mk (blk_below (g := gb381) (o := .cells #[.int .i64 t376, .slice Ao33 t377.length co33] 34 (0, 0)) qB83 hb); have n7_ := Aside0.mk (below_step qB25 hb); clear HO_7; clear HO_370001; clear HO_382001; clear BK357; clear BK369; clear BK381; clear HB; have HO_7 := n0_; have HO_370001 := n1_; have HO_382001 := n2_; have HO385 := n3_; have BK357 := n4_; have BK369 := n5_; have BK381 := n6_; have HB := n7_; clear n0_ n1_ n2_ n3_ n4_ n5_ n6_ n7_; (try clear hb); (try clear hb2); (try clear hk); (try clear hi); (try clear ho0); obtain ⟨Ao147, co147, eo147⟩ := Kd.R_slice HO385.out; subst eo147) | ((with_reducible refine gate_callee (f := 14) rfl ?_); refine goesL_ (some 47) rfl rfl Try.func14 (by kernel_rfl) rfl #[.slice Ao27 t370.length co27, .slice Ao147 t383.length co147] rfl qB55 ?_; (with_reducible refine (laws_eqInt64S.calls kj10 _ _ t370 _ _ t383 false _ ?side1 ?side2 ?side3 ?side4 A50.out).mono ?_); (case side1 => repeat (first | exact (Kd.R_reads' HO_7.out).2.2 | (with_reducible refine Kd.C_alloc ?_ _) | (with_reducible refine Kd.C_drewN ?_ _) | (with_reducible refine Kd.C_drew ?_))); (case side2 => exact (Kd.R_reads' HO_7.out).2.1); (case side3 => repeat (first | exact (Kd.R_reads' HO385.out).2.2 | (with_reducible refine Kd.C_alloc ?_ _) | (with_reducible refine Kd.C_drewN ?_ _) | (with_reducible refine Kd.C_drew ?_))); (case side4 => exact (Kd.R_reads' HO385.out).2.1); rintro e w' ⟨rfl, ⟨nd, rfl⟩⟩; refine ⟨_, rfl, ?_⟩))
            go_ret
            exact ⟨by first | rfl | (simp [errW_none, errW_some] <;> rfl) | (simp [*, errW_none, errW_some] <;> rfl), by repeat (first | (with_reducible first | exact HB.out | apply below_alloc | apply pw_below_drewN | apply below_drew1 | refine below_set ?_ GE357.out | refine below_set ?_ GE369.out | refine below_set ?_ GE381.out) | exact HB.out)⟩

/-- THE ONE PURE STATEMENT of laws_FnExactSumWith. -/
def laws_FnExactSumWith.Pure : Prop := ∀ (l0 : List Int) (a1_0 : Int) (a1_1 : Int) (a1_2 : Int), l0.length ≤ maxLen → (∀ x ∈ l0, (Lit.int .i64 x).wf = true) → (Lit.int .i64 a1_0).wf = true → (Lit.int .i64 a1_1).wf = true → (Lit.int .i64 a1_2).wf = true → ∃ k, laws_FnExactSumWith.f k l0 a1_0 a1_1 a1_2 = some true
theorem laws_FnExactSumWith.walk (P : laws_FnExactSumWith.Pure) (a0 : Option Addr) (len0 cap0 : Nat) (z0 : List Int) (a1_0 : Int) (a1_1 : Int) (a1_2 : Int) (w : World) (w0 : (a0 = none ∧ len0 = 0 ∧ cap0 = 0 ∧ z0 = []) ∨ ∃ x, a0 = some x ∧ len0 ≤ cap0 ∧ cap0 ≤ maxLen ∧ z0.length = cap0 ∧ (∀ i, i < z0.length → w.cell? (x.add i) = some (.int .i64 (z0.getD i 0))) ∧ ∀ n ∈ z0, (Lit.int .i64 n).wf = true) (w1_0 : (Lit.int .i64 a1_0).wf = true) (w1_1 : (Lit.int .i64 a1_1).wf = true) (w1_2 : (Lit.int .i64 a1_2).wf = true) :
    Calls Try.prog 8 #[.slice a0 len0 cap0, .agg #[.int .i64 a1_0, .int .i64 a1_1, .int .i64 a1_2]] w fun e w' => e = .returned (.bool true) ∧ Below w.heap.size w w' := by
  obtain ⟨l0, rfl, hr0, hm0, hw0, hc0⟩ := ReadsInt.ofRowC w0
  obtain ⟨k, h⟩ := P l0 a1_0 a1_1 a1_2 hm0 hw0 w1_0 w1_1 w1_2
  refine (laws_FnExactSumWith.calls k _ _ l0 a1_0 a1_1 a1_2 true w (Kd.C_of_reads (d := (0 : Int)) (h1 := fun _ => rfl) hr0) hc0 h).mono ?_
  rintro e w' ⟨rfl, hd⟩
  exact ⟨rfl, hd⟩

end Go.Proofs.Ythdpdiahkphklaa.PFnExactSumWith
