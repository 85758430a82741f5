/- The functions that the law reaches, as plain functions, each with the proof that the program comes to it; no condition. Written by a program of this session (wip/mp.py) over the printing of the kit; what is marked HAND is told by hand. -/
import Derived.Test.YthdpdiahkphklaaPFnExactJacobiSumx0
import Derived.Test.YthdpdiahkphklaaPFnExactJacobiSumx1
import Derived.Test.YthdpdiahkphklaaPFnExactJacobiSumx7
import Derived.Test.YthdpdiahkphklaaPFnExactJacobiSumx13
namespace Go.Proofs.Ythdpdiahkphklaa.PFnExactJacobiSum
open Go.RowKit Go.Proofs.YthdpdiahkphklaaW.PrintWords Go.Proofs.YthdpdiahkphklaaW.PrintLast Go.Proofs.YthdpdiahkphklaaW.PrintMore
attribute [local go_sem] max2_int min2_int max_two min_two max_three min_three max_four min_four   -- for this text's walks alone
set_option linter.unusedVariables false
set_option linter.unusedSimpArgs false

/-! ### laws_FnExactJacobiSum: function 6 -/
mutual
def laws_FnExactJacobiSum.j0 : Nat → Int → Bool → Int → Int → Int → Int → Int → Int → Int → List Int → Int → List Int → Option (Bool)
 | 0, _, _, _, _, _, _, _, _, _, _, _, _ => none
 | k + 1, x6, x37, x417000, x417001, x417002, x418000, x418001, x418002, x430000, x430001, x442000, x442001 => if x37 = true then (some false) else ((laws_markCyclo.f k x442000 x442001 1).bind fun bt443 => ((laws_heldCyclo.f k x442000 bt443.2 1).bind fun t445 => (if t445 < 0 then (some false) else (if t445 = bt443.1 then ((laws_toCharacter.f x417000 x417001 x417002).bind fun bt446 => ((laws_toCharacter.f x418000 x418001 x418002).bind fun bt449 => ((impl_JacobiSum.f k bt446.1 bt446.2.1 bt446.2.2 bt449.1 bt449.2.1 bt449.2.2).bind fun bt452 => ((laws_eqCyclo.f k bt452.1 bt452.2.1 x430000 x430001).bind fun t458 => (if t458 = true then (laws_FnExactJacobiSum.j1 k bt443.1 (bt452.2.2 != x6) x442000 bt443.2) else (laws_FnExactJacobiSum.j1 k bt443.1 true x442000 bt443.2)))))) else (some false)))))
def laws_FnExactJacobiSum.j1 : Nat → Int → Bool → Int → List Int → Option (Bool)
 | 0, _, _, _, _ => none
 | k + 1, x9, x65, x442000, x442001 => if x65 = true then (some false) else ((laws_heldCyclo.f k x442000 x442001 1).bind fun t459 => (if t459 < 0 then (some false) else (if t459 = x9 then (some true) else (some false))))
end
def laws_FnExactJacobiSum.f (k : Nat) (a0_0 : Int) (a0_1 : Int) (a0_2 : Int) (a1_0 : Int) (a1_1 : Int) (a1_2 : Int) : Option (Bool) := (laws_toCharacter.f a0_0 a0_1 a0_2).bind fun bt418 => ((laws_toCharacter.f a1_0 a1_1 a1_2).bind fun bt421 => ((spec_JacobiSum.f k bt418.1 bt418.2.1 bt418.2.2 bt421.1 bt421.2.1 bt421.2.2).bind fun bt424 => ((laws_toCharacter.f a0_0 a0_1 a0_2).bind fun bt430 => ((laws_toCharacter.f a1_0 a1_1 a1_2).bind fun bt433 => ((impl_JacobiSum.f k bt430.1 bt430.2.1 bt430.2.2 bt433.1 bt433.2.1 bt433.2.2).bind fun bt436 => ((laws_eqCyclo.f k bt436.1 bt436.2.1 bt424.1 bt424.2.1).bind fun t442 => (if t442 = true then (laws_FnExactJacobiSum.j0 k bt424.2.2 (bt436.2.2 != bt424.2.2) a0_0 a0_1 a0_2 a1_0 a1_1 a1_2 bt424.1 bt424.2.1 bt436.1 bt436.2.1) else (laws_FnExactJacobiSum.j0 k bt424.2.2 true a0_0 a0_1 a0_2 a1_0 a1_1 a1_2 bt424.1 bt424.2.1 bt436.1 bt436.2.1))))))))
theorem laws_FnExactJacobiSum.mono_l : ∀ k, (∀ y0 y1 y2 y3 y4 y5 y6 y7 y8 y9 y10 y11, LeO (laws_FnExactJacobiSum.j0 k y0 y1 y2 y3 y4 y5 y6 y7 y8 y9 y10 y11) (laws_FnExactJacobiSum.j0 (k + 1) y0 y1 y2 y3 y4 y5 y6 y7 y8 y9 y10 y11)) ∧ (∀ y0 y1 y2 y3, LeO (laws_FnExactJacobiSum.j1 k y0 y1 y2 y3) (laws_FnExactJacobiSum.j1 (k + 1) y0 y1 y2 y3))
 | 0 => ⟨fun _ _ _ _ _ _ _ _ _ _ _ _ r h => by simp [laws_FnExactJacobiSum.j0] at h, fun _ _ _ _ r h => by simp [laws_FnExactJacobiSum.j1] at h⟩
 | k + 1 => by
  obtain ⟨ih0, ih1⟩ := laws_FnExactJacobiSum.mono_l k
  refine ⟨?_, ?_⟩
  ·intro y0 y1 y2 y3 y4 y5 y6 y7 y8 y9 y10 y11
   unfold laws_FnExactJacobiSum.j0
   repeat' first
   | (with_reducible exact ih0 _ _ _ _ _ _ _ _ _ _ _ _)
   | (with_reducible exact ih1 _ _ _ _)
   | (with_reducible exact impl_JacobiSum.mono _ _ _ _ _ _ _)
   | (with_reducible exact laws_eqCyclo.mono _ _ _ _ _)
   | (with_reducible exact laws_heldCyclo.mono _ _ _ _)
   | (with_reducible exact laws_markCyclo.mono _ _ _ _)
   | (with_reducible exact spec_JacobiSum.mono _ _ _ _ _ _ _)
   | (with_reducible exact LeO.refl _)
   | (with_reducible exact LeO.none _)
   | (with_reducible refine LeO.ite ?_ ?_)
   | (with_reducible refine LeO.bind ?_ (fun _ => ?_))
   | exact ih0 _ _ _ _ _ _ _ _ _ _ _ _
   | exact ih1 _ _ _ _
   | exact impl_JacobiSum.mono _ _ _ _ _ _ _
   | exact laws_eqCyclo.mono _ _ _ _ _
   | exact laws_heldCyclo.mono _ _ _ _
   | exact laws_markCyclo.mono _ _ _ _
   | exact spec_JacobiSum.mono _ _ _ _ _ _ _
   | exact LeO.none _
   | refine LeO.ite ?_ ?_
   | refine LeO.bind ?_ (fun _ => ?_)
  ·intro y0 y1 y2 y3
   unfold laws_FnExactJacobiSum.j1
   repeat' first
   | (with_reducible exact ih0 _ _ _ _ _ _ _ _ _ _ _ _)
   | (with_reducible exact ih1 _ _ _ _)
   | (with_reducible exact impl_JacobiSum.mono _ _ _ _ _ _ _)
   | (with_reducible exact laws_eqCyclo.mono _ _ _ _ _)
   | (with_reducible exact laws_heldCyclo.mono _ _ _ _)
   | (with_reducible exact laws_markCyclo.mono _ _ _ _)
   | (with_reducible exact spec_JacobiSum.mono _ _ _ _ _ _ _)
   | (with_reducible exact LeO.refl _)
   | (with_reducible exact LeO.none _)
   | (with_reducible refine LeO.ite ?_ ?_)
   | (with_reducible refine LeO.bind ?_ (fun _ => ?_))
   | exact ih0 _ _ _ _ _ _ _ _ _ _ _ _
   | exact ih1 _ _ _ _
   | exact impl_JacobiSum.mono _ _ _ _ _ _ _
   | exact laws_eqCyclo.mono _ _ _ _ _
   | exact laws_heldCyclo.mono _ _ _ _
   | exact laws_markCyclo.mono _ _ _ _
   | exact spec_JacobiSum.mono _ _ _ _ _ _ _
   | exact LeO.none _
   | refine LeO.ite ?_ ?_
   | refine LeO.bind ?_ (fun _ => ?_)
theorem laws_FnExactJacobiSum.mono : ∀ a0 a1 a2 a3 a4 a5 k, LeO (laws_FnExactJacobiSum.f k a0 a1 a2 a3 a4 a5) (laws_FnExactJacobiSum.f (k + 1) a0 a1 a2 a3 a4 a5) := by
 intro a0 a1 a2 a3 a4 a5 k
 obtain ⟨ih0, ih1⟩ := laws_FnExactJacobiSum.mono_l k
 unfold laws_FnExactJacobiSum.f
 repeat' first
   | (with_reducible exact ih0 _ _ _ _ _ _ _ _ _ _ _ _)
   | (with_reducible exact ih1 _ _ _ _)
   | (with_reducible exact impl_JacobiSum.mono _ _ _ _ _ _ _)
   | (with_reducible exact laws_eqCyclo.mono _ _ _ _ _)
   | (with_reducible exact laws_heldCyclo.mono _ _ _ _)
   | (with_reducible exact laws_markCyclo.mono _ _ _ _)
   | (with_reducible exact spec_JacobiSum.mono _ _ _ _ _ _ _)
   | (with_reducible exact LeO.refl _)
   | (with_reducible exact LeO.none _)
   | (with_reducible refine LeO.ite ?_ ?_)
   | (with_reducible refine LeO.bind ?_ (fun _ => ?_))
   | exact ih0 _ _ _ _ _ _ _ _ _ _ _ _
   | exact ih1 _ _ _ _
   | exact impl_JacobiSum.mono _ _ _ _ _ _ _
   | exact laws_eqCyclo.mono _ _ _ _ _
   | exact laws_heldCyclo.mono _ _ _ _
   | exact laws_markCyclo.mono _ _ _ _
   | exact spec_JacobiSum.mono _ _ _ _ _ _ _
   | exact LeO.none _
   | refine LeO.ite ?_ ?_
   | refine LeO.bind ?_ (fun _ => ?_)
def laws_FnExactJacobiSum.T1 : Bool × List (List Nat × List Nat) := (true, [([], []), ([0], [0]), ([], []), ([2, 1], [2]), ([1, 3, 3], [1, 3]), ([4], [4]), ([5], [5]), ([5], [5]), ([], []), ([8, 6, 4, 0, 1, 2, 3, 4, 5, 6, 8], [6, 8]), ([7, 9, 0, 1, 2, 3, 4, 5, 6, 7, 8, 9], [7])])
def laws_FnExactJacobiSum.B1 : List Nat := [0, 1, 0, 7, 15, 31, 63, 63, 0, 383, 1023]
theorem laws_FnExactJacobiSum.tab1 : rtab .any (opsOf Try.f6 1) = laws_FnExactJacobiSum.T1 := by kernel_rfl
theorem laws_FnExactJacobiSum.bits1 : waitsOk laws_FnExactJacobiSum.T1.2 laws_FnExactJacobiSum.B1 = true := by kernel_rfl
def laws_FnExactJacobiSum.T2 : Bool × List (List Nat × List Nat) := (true, [([], []), ([0], [0]), ([], []), ([2, 1], [2]), ([1, 3, 3], [1, 3]), ([4], [4]), ([5], [5]), ([5], [5]), ([], []), ([8, 6, 4, 0, 1, 2, 3, 4, 5, 6, 8], [6, 8]), ([7, 9, 0, 1, 2, 3, 4, 5, 6, 7, 8, 9], [7])])
def laws_FnExactJacobiSum.B2 : List Nat := [0, 1, 0, 7, 15, 31, 63, 63, 0, 383, 1023]
theorem laws_FnExactJacobiSum.tab2 : rtab .any (opsOf Try.f6 2) = laws_FnExactJacobiSum.T2 := by kernel_rfl
theorem laws_FnExactJacobiSum.bits2 : waitsOk laws_FnExactJacobiSum.T2.2 laws_FnExactJacobiSum.B2 = true := by kernel_rfl
def laws_FnExactJacobiSum.T13 : Bool × List (List Nat × List Nat) := (true, [([], []), ([0], [0]), ([], []), ([2, 1], [2]), ([1, 3, 3], [1, 3]), ([4], [4]), ([5], [5]), ([5], [5]), ([], []), ([8, 6, 4, 0, 1, 2, 3, 4, 5, 6, 8], [6, 8]), ([7, 9, 0, 1, 2, 3, 4, 5, 6, 7, 8, 9], [7])])
def laws_FnExactJacobiSum.B13 : List Nat := [0, 1, 0, 7, 15, 31, 63, 63, 0, 383, 1023]
theorem laws_FnExactJacobiSum.tab13 : rtab .any (opsOf Try.f6 13) = laws_FnExactJacobiSum.T13 := by kernel_rfl
theorem laws_FnExactJacobiSum.bits13 : waitsOk laws_FnExactJacobiSum.T13.2 laws_FnExactJacobiSum.B13 = true := by kernel_rfl
set_option maxHeartbeats 8000000 in
set_option maxRecDepth 100000 in
theorem laws_FnExactJacobiSum.calls (k : Nat) (a0_0 : Int) (a0_1 : Int) (a0_2 : Int) (a1_0 : Int) (a1_1 : Int) (a1_2 : Int) (r : Bool) (w : World) (h : laws_FnExactJacobiSum.f k a0_0 a0_1 a0_2 a1_0 a1_1 a1_2 = some r) :
  Calls Try.prog 6 #[.agg #[.int .i64 a0_0, .int .i64 a0_1, .int .i64 a0_2], .agg #[.int .i64 a1_0, .int .i64 a1_1, .int .i64 a1_2]] w fun e w' => e = .returned (.bool r) ∧ Below w.heap.size w w' := by
 have hu32 := Try.underlying32
 have hu34 := Try.underlying34
 have HB := Aside0.mk (Below.refl w.heap.size w)
 have H : ((laws_toCharacter.f a0_0 a0_1 a0_2).bind fun bt418 => ((laws_toCharacter.f a1_0 a1_1 a1_2).bind fun bt421 => ((spec_JacobiSum.f k bt418.1 bt418.2.1 bt418.2.2 bt421.1 bt421.2.1 bt421.2.2).bind fun bt424 => ((laws_toCharacter.f a0_0 a0_1 a0_2).bind fun bt430 => ((laws_toCharacter.f a1_0 a1_1 a1_2).bind fun bt433 => ((impl_JacobiSum.f k bt430.1 bt430.2.1 bt430.2.2 bt433.1 bt433.2.1 bt433.2.2).bind fun bt436 => ((laws_eqCyclo.f k bt436.1 bt436.2.1 bt424.1 bt424.2.1).bind fun t442 => (if t442 = true then (laws_FnExactJacobiSum.j0 k bt424.2.2 (bt436.2.2 != bt424.2.2) a0_0 a0_1 a0_2 a1_0 a1_1 a1_2 bt424.1 bt424.2.1 bt436.1 bt436.2.1) else (laws_FnExactJacobiSum.j0 k bt424.2.2 true a0_0 a0_1 a0_2 a1_0 a1_1 a1_2 bt424.1 bt424.2.1 bt436.1 bt436.2.1))))))))) = some r := h
 clear h
 replace H := Option.bind_eq_some_iff.mp H
 obtain ⟨⟨t418, t419, t420⟩, A30, H⟩ := H
 replace H : ((laws_toCharacter.f a1_0 a1_1 a1_2).bind fun bt421 => ((spec_JacobiSum.f k t418 t419 t420 bt421.1 bt421.2.1 bt421.2.2).bind fun bt424 => ((laws_toCharacter.f a0_0 a0_1 a0_2).bind fun bt430 => ((laws_toCharacter.f a1_0 a1_1 a1_2).bind fun bt433 => ((impl_JacobiSum.f k bt430.1 bt430.2.1 bt430.2.2 bt433.1 bt433.2.1 bt433.2.2).bind fun bt436 => ((laws_eqCyclo.f k bt436.1 bt436.2.1 bt424.1 bt424.2.1).bind fun t442 => (if t442 = true then (laws_FnExactJacobiSum.j0 k bt424.2.2 (bt436.2.2 != bt424.2.2) a0_0 a0_1 a0_2 a1_0 a1_1 a1_2 bt424.1 bt424.2.1 bt436.1 bt436.2.1) else (laws_FnExactJacobiSum.j0 k bt424.2.2 true a0_0 a0_1 a0_2 a1_0 a1_1 a1_2 bt424.1 bt424.2.1 bt436.1 bt436.2.1)))))))) = some r := H
 have A3 := Aside0.mk A30
 clear A30
 replace H := Option.bind_eq_some_iff.mp H
 obtain ⟨⟨t421, t422, t423⟩, A40, H⟩ := H
 replace H : ((spec_JacobiSum.f k t418 t419 t420 t421 t422 t423).bind fun bt424 => ((laws_toCharacter.f a0_0 a0_1 a0_2).bind fun bt430 => ((laws_toCharacter.f a1_0 a1_1 a1_2).bind fun bt433 => ((impl_JacobiSum.f k bt430.1 bt430.2.1 bt430.2.2 bt433.1 bt433.2.1 bt433.2.2).bind fun bt436 => ((laws_eqCyclo.f k bt436.1 bt436.2.1 bt424.1 bt424.2.1).bind fun t442 => (if t442 = true then (laws_FnExactJacobiSum.j0 k bt424.2.2 (bt436.2.2 != bt424.2.2) a0_0 a0_1 a0_2 a1_0 a1_1 a1_2 bt424.1 bt424.2.1 bt436.1 bt436.2.1) else (laws_FnExactJacobiSum.j0 k bt424.2.2 true a0_0 a0_1 a0_2 a1_0 a1_1 a1_2 bt424.1 bt424.2.1 bt436.1 bt436.2.1))))))) = some r := H
 have A4 := Aside0.mk A40
 clear A40
 replace H := Option.bind_eq_some_iff.mp H
 obtain ⟨⟨t424, t425, t428⟩, A50, H⟩ := H
 replace H : ((laws_toCharacter.f a0_0 a0_1 a0_2).bind fun bt430 => ((laws_toCharacter.f a1_0 a1_1 a1_2).bind fun bt433 => ((impl_JacobiSum.f k bt430.1 bt430.2.1 bt430.2.2 bt433.1 bt433.2.1 bt433.2.2).bind fun bt436 => ((laws_eqCyclo.f k bt436.1 bt436.2.1 t424 t425).bind fun t442 => (if t442 = true then (laws_FnExactJacobiSum.j0 k t428 (bt436.2.2 != t428) a0_0 a0_1 a0_2 a1_0 a1_1 a1_2 t424 t425 bt436.1 bt436.2.1) else (laws_FnExactJacobiSum.j0 k t428 true a0_0 a0_1 a0_2 a1_0 a1_1 a1_2 t424 t425 bt436.1 bt436.2.1)))))) = some r := H
 have A5 := Aside0.mk A50
 clear A50
 replace H := Option.bind_eq_some_iff.mp H
 obtain ⟨⟨t430, t431, t432⟩, A60, H⟩ := H
 replace H : ((laws_toCharacter.f a1_0 a1_1 a1_2).bind fun bt433 => ((impl_JacobiSum.f k t430 t431 t432 bt433.1 bt433.2.1 bt433.2.2).bind fun bt436 => ((laws_eqCyclo.f k bt436.1 bt436.2.1 t424 t425).bind fun t442 => (if t442 = true then (laws_FnExactJacobiSum.j0 k t428 (bt436.2.2 != t428) a0_0 a0_1 a0_2 a1_0 a1_1 a1_2 t424 t425 bt436.1 bt436.2.1) else (laws_FnExactJacobiSum.j0 k t428 true a0_0 a0_1 a0_2 a1_0 a1_1 a1_2 t424 t425 bt436.1 bt436.2.1))))) = some r := H
 have A6 := Aside0.mk A60
 clear A60
 replace H := Option.bind_eq_some_iff.mp H
 obtain ⟨⟨t433, t434, t435⟩, A70, H⟩ := H
 replace H : ((impl_JacobiSum.f k t430 t431 t432 t433 t434 t435).bind fun bt436 => ((laws_eqCyclo.f k bt436.1 bt436.2.1 t424 t425).bind fun t442 => (if t442 = true then (laws_FnExactJacobiSum.j0 k t428 (bt436.2.2 != t428) a0_0 a0_1 a0_2 a1_0 a1_1 a1_2 t424 t425 bt436.1 bt436.2.1) else (laws_FnExactJacobiSum.j0 k t428 true a0_0 a0_1 a0_2 a1_0 a1_1 a1_2 t424 t425 bt436.1 bt436.2.1)))) = some r := H
 have A7 := Aside0.mk A70
 clear A70
 replace H := Option.bind_eq_some_iff.mp H
 obtain ⟨⟨t436, t437, t440⟩, A80, H⟩ := H
 replace H : ((laws_eqCyclo.f k t436 t437 t424 t425).bind fun t442 => (if t442 = true then (laws_FnExactJacobiSum.j0 k t428 (t440 != t428) a0_0 a0_1 a0_2 a1_0 a1_1 a1_2 t424 t425 t436 t437) else (laws_FnExactJacobiSum.j0 k t428 true a0_0 a0_1 a0_2 a1_0 a1_1 a1_2 t424 t425 t436 t437))) = some r := H
 have A8 := Aside0.mk A80
 clear A80
 have HC9 := Aside0.mk H
 clear H
 go_enter Try.func6, Try.ntmps6
 try go_wp2_with (first | ((with_reducible refine gate_dst (N := 2) rfl ?_); refine box_event ?hg (N := 2) ?hd (cs := #[.int .i64 a0_0, .int .i64 a0_1, .int .i64 a0_2]) (t := 32) ?hr ?_; (case hd => rfl); (case hg => rfl); (case hr => first | (go_simp; done) | (go_simp; rfl)); intro gb416 hg w10 hbox hb; have n0_ := Aside0.mk (below_step qB60 hb); have n1_ := Aside0.mk (hbox); have n2_ := Aside0.mk ((by rw [hg]; exact (below_size qB60) : w.heap.size ≤ gb416)); have n3_ := Aside0.mk ((by rw [hg]; exact (below_size qB60) : w.heap.size ≤ gb416)); clear HB; have HB := n0_; have BK416 := n1_; have GW416 := n2_; have GE416 := n3_; clear n0_ n1_ n2_ n3_; clear hb hbox hg) | ((with_reducible refine gate_dst (N := 3) rfl ?_); refine box_event ?hg (N := 3) ?hd (cs := #[.int .i64 a1_0, .int .i64 a1_1, .int .i64 a1_2]) (t := 32) ?hr ?_; (case hd => rfl); (case hg => rfl); (case hr => first | (go_simp; done) | (go_simp; rfl)); intro gb417 hg w11 hbox hb; have n0_ := Aside0.mk (blk_below (g := gb416) (o := .cells #[.int .i64 a0_0, .int .i64 a0_1, .int .i64 a0_2] 32 (0, 0)) qB90 hb); have n1_ := Aside0.mk (below_step qB49 hb); have n2_ := Aside0.mk (hbox); have n3_ := Aside0.mk ((by rw [hg]; exact (below_size qB49) : w.heap.size ≤ gb417)); have n4_ := Aside0.mk ((by rw [hg]; exact (below_size qB49) : w.heap.size ≤ gb417)); have n5_ := Aside0.mk ((by rw [hg]; exact Nat.ne_of_lt (blk_lt (g := gb416) (o := .cells #[.int .i64 a0_0, .int .i64 a0_1, .int .i64 a0_2] 32 (0, 0)) qB90) : gb416 ≠ gb417)); have n6_ := Aside0.mk ((by rw [hg]; exact Nat.ne_of_gt (blk_lt (g := gb416) (o := .cells #[.int .i64 a0_0, .int .i64 a0_1, .int .i64 a0_2] 32 (0, 0)) qB90) : gb417 ≠ gb416)); clear BK416; clear HB; have BK416 := n0_; have HB := n1_; have BK417 := n2_; have GW417 := n3_; have GE417 := n4_; have NB416_417 := n5_; have NB417_416 := n6_; clear n0_ n1_ n2_ n3_ n4_ n5_ n6_; clear hb hbox hg))
 have n0_ := Aside0.mk (blk_drew BK416.out)
 have n1_ := Aside0.mk (blk_drew BK417.out)
 have n2_ := Aside0.mk (below_drew1 HB.out)
 clear BK416
 clear BK417
 clear HB
 have BK416 := n0_
 have BK417 := n1_
 have HB := n2_
 clear n0_ n1_ n2_
 refine start_ (n := 11) (S := fun w' => w'.cell? ⟨gb416, 0, none⟩ = some (.int .i64 a0_0) ∧ w'.cell? ⟨gb416, 1, none⟩ = some (.int .i64 a0_1) ∧ w'.cell? ⟨gb416, 2, none⟩ = some (.int .i64 a0_2) ∧ w'.cell? ⟨gb417, 0, none⟩ = some (.int .i64 a1_0) ∧ w'.cell? ⟨gb417, 1, none⟩ = some (.int .i64 a1_1) ∧ w'.cell? ⟨gb417, 2, none⟩ = some (.int .i64 a1_2)) (ds := []) #[false, false, false, false, false, false, false, false, false, false, false] (by kernel_rfl) rfl rfl ⟨(blk_cell BK416.out 0).trans rfl, (blk_cell BK416.out 1).trans rfl, (blk_cell BK416.out 2).trans rfl, (blk_cell BK417.out 0).trans rfl, (blk_cell BK417.out 1).trans rfl, (blk_cell BK417.out 2).trans rfl⟩ (fun hHeld => ?_); refine with_tabW laws_FnExactJacobiSum.tab1 laws_FnExactJacobiSum.bits1 (fun HT_ HW_ => ?_)
 generalize w11.drew = w12 at BK416 BK417 HB hHeld ⊢
 refine take_ (i := 0) (N := some 14) (v := ?_) (a' := ?_) #[true, false, false, false, false, false, false, false, false, false, false] rfl rfl (take_ofW HT_.out HW_.out (by kernel_rfl)) (fun _ _ _ h => h) (Or.inl ⟨by rfl, ?_⟩) hHeld ?_ ?_
 rotate_left
 ·rintro w' ⟨s0, s1, s2, s3, s4, s5⟩
  go_simp
  with_reducible rfl
 rotate_left
 ·simp only [Act.put, List.setIfInBounds_toArray, List.set_cons_zero, List.set_cons_succ, i64_w, i32_w]
  rfl
 refine take_ (i := 2) (N := some 16) (v := ?_) (a' := ?_) #[true, false, true, false, false, false, false, false, false, false, false] rfl rfl (take_ofW HT_.out HW_.out (by kernel_rfl)) (fun _ _ _ h => h) (Or.inl ⟨by rfl, ?_⟩) hHeld ?_ ?_
 rotate_left
 ·rintro w' ⟨s0, s1, s2, s3, s4, s5⟩
  go_simp
  with_reducible rfl
 rotate_left
 ·simp only [Act.put, List.setIfInBounds_toArray, List.set_cons_zero, List.set_cons_succ, i64_w, i32_w]
  rfl
 refine join_ (σ := Value × Nat) 2 #[true, true, true, true, true, true, true, true, true, false, false] (fun s_ => [(15, .agg #[.int .i64 t418, .int .i64 t419, .int .i64 t420]), (17, .agg #[.int .i64 t421, .int .i64 t422, .int .i64 t423]), (18, .tuple #[.agg #[.int .i64 t424, s_.1], .int .i64 t428]), (5, .pointer (some ⟨s_.2, 0, none⟩)), (13, .tuple #[.agg #[.int .i64 t424, s_.1], .int .i64 t428]), (19, .agg #[.int .i64 t424, s_.1]), (20, .int .i64 t428)]) (fun s_ w' => (w'.cell? ⟨gb416, 0, none⟩ = some (.int .i64 a0_0) ∧ w'.cell? ⟨gb416, 1, none⟩ = some (.int .i64 a0_1) ∧ w'.cell? ⟨gb416, 2, none⟩ = some (.int .i64 a0_2) ∧ w'.cell? ⟨gb417, 0, none⟩ = some (.int .i64 a1_0) ∧ w'.cell? ⟨gb417, 1, none⟩ = some (.int .i64 a1_1) ∧ w'.cell? ⟨gb417, 2, none⟩ = some (.int .i64 a1_2)) ∧ (Kd.R (Kd.int .i64) 2 w' w.heap.size (fun _ => True) s_.1 t425) ∧ (w'.heap[gb416]? = some (.cells #[.int .i64 a0_0, .int .i64 a0_1, .int .i64 a0_2] 32 (0, 0))) ∧ (w'.heap[gb417]? = some (.cells #[.int .i64 a1_0, .int .i64 a1_1, .int .i64 a1_2] 32 (0, 0))) ∧ (w'.heap[s_.2]? = some (.cells #[.int .i64 0, .slice none 0 0] 34 (0, 0))) ∧ (w.heap.size ≤ s_.2) ∧ (w.heap.size ≤ s_.2) ∧ (gb416 ≠ s_.2) ∧ (s_.2 ≠ gb416) ∧ (gb417 ≠ s_.2) ∧ (s_.2 ≠ gb417) ∧ (Below w.heap.size w w')) ?_ ?_
 rotate_left
 ·intro hCont
  refine two_ (i := 1) (j := 8) (Ni := some 15) (Nj := some 5) #[true, true, true, false, false, false, false, false, false, false, false] #[true, false, true, false, false, false, false, false, true, false, false] rfl rfl rfl rfl (two_of HT_.out (by kernel_rfl)) (by decide) (by decide) (fun K hK => ?_) (fun K hK => ?_)
  ·skip
   refine goes_ Try.func18 (by kernel_rfl) rfl #[.agg #[.int .i64 a0_0, .int .i64 a0_1, .int .i64 a0_2]] (by rfl) rfl rfl qB57 ?_
   with_reducible refine (laws_toCharacter.calls a0_0 a0_1 a0_2 t418 t419 t420 _ A3.out).mono ?_
   rintro e w13 ⟨rfl, hb⟩
   refine ⟨_, rfl, ?_⟩
   have n0_ := Aside0.mk (blk_below (g := gb416) (o := .cells #[.int .i64 a0_0, .int .i64 a0_1, .int .i64 a0_2] 32 (0, 0)) qB90 hb)
   have n1_ := Aside0.mk (blk_below (g := gb417) (o := .cells #[.int .i64 a1_0, .int .i64 a1_1, .int .i64 a1_2] 32 (0, 0)) qB91 hb)
   have n2_ := Aside0.mk (below_step qB29 hb)
   clear BK416
   clear BK417
   clear HB
   have BK416 := n0_
   have BK417 := n1_
   have HB := n2_
   clear n0_ n1_ n2_
   (try clear hb)
   (try clear hb2)
   (try clear hk)
   (try clear hi)
   refine hK.out _ _ ⟨(blk_cell BK416.out 0).trans rfl, (blk_cell BK416.out 1).trans rfl, (blk_cell BK416.out 2).trans rfl, (blk_cell BK417.out 0).trans rfl, (blk_cell BK417.out 1).trans rfl, (blk_cell BK417.out 2).trans rfl⟩ (fun hHeld => ?_)
   clear hK K
   refine norm_ (a' := ?_) ?_ ?_
   rotate_left
   ·show Act.put _ (some 15) _ = _
    simp only [Act.put, List.setIfInBounds_toArray, List.set_cons_zero, List.set_cons_succ, i64_w, i32_w]
    rfl
   refine two_ (i := 3) (j := 8) (Ni := some 17) (Nj := some 5) #[true, true, true, true, false, false, false, false, false, false, false] #[true, true, true, false, false, false, false, false, true, false, false] rfl rfl rfl rfl (two_of HT_.out (by kernel_rfl)) (by decide) (by decide) (fun K hK => ?_) (fun K hK => ?_)
   ·skip
    refine goes_ Try.func18 (by kernel_rfl) rfl #[.agg #[.int .i64 a1_0, .int .i64 a1_1, .int .i64 a1_2]] (by rfl) rfl rfl qB57 ?_
    with_reducible refine (laws_toCharacter.calls a1_0 a1_1 a1_2 t421 t422 t423 _ A4.out).mono ?_
    rintro e w14 ⟨rfl, hb⟩
    refine ⟨_, rfl, ?_⟩
    have n0_ := Aside0.mk (blk_below (g := gb416) (o := .cells #[.int .i64 a0_0, .int .i64 a0_1, .int .i64 a0_2] 32 (0, 0)) qB90 hb)
    have n1_ := Aside0.mk (blk_below (g := gb417) (o := .cells #[.int .i64 a1_0, .int .i64 a1_1, .int .i64 a1_2] 32 (0, 0)) qB91 hb)
    have n2_ := Aside0.mk (below_step qB29 hb)
    clear BK416
    clear BK417
    clear HB
    have BK416 := n0_
    have BK417 := n1_
    have HB := n2_
    clear n0_ n1_ n2_
    (try clear hb)
    (try clear hb2)
    (try clear hk)
    (try clear hi)
    refine hK.out _ _ ⟨(blk_cell BK416.out 0).trans rfl, (blk_cell BK416.out 1).trans rfl, (blk_cell BK416.out 2).trans rfl, (blk_cell BK417.out 0).trans rfl, (blk_cell BK417.out 1).trans rfl, (blk_cell BK417.out 2).trans rfl⟩ (fun hHeld => ?_)
    clear hK K
    refine norm_ (a' := ?_) ?_ ?_
    rotate_left
    ·show Act.put _ (some 17) _ = _
     simp only [Act.put, List.setIfInBounds_toArray, List.set_cons_zero, List.set_cons_succ, i64_w, i32_w]
     rfl
    refine two_ (i := 4) (j := 8) (Ni := some 18) (Nj := some 5) #[true, true, true, true, true, false, false, false, false, false, false] #[true, true, true, true, false, false, false, false, true, false, false] rfl rfl rfl rfl (two_of HT_.out (by kernel_rfl)) (by decide) (by decide) (fun K hK => ?_) (fun K hK => ?_)
    ·skip
     refine goes_ Try.func23 (by kernel_rfl) rfl #[.agg #[.int .i64 t418, .int .i64 t419, .int .i64 t420], .agg #[.int .i64 t421, .int .i64 t422, .int .i64 t423]] (by rfl) rfl rfl qB57 ?_
     with_reducible refine (spec_JacobiSum.calls k t418 t419 t420 t421 t422 t423 t424 t425 t428 _ A5.out).mono ?_
     rintro e w15 ⟨v426, rfl, ho0, hb⟩
     refine ⟨_, rfl, ?_⟩
     have n0_ := Aside0.mk (Kd.R_lower ho0 (below_size qB29))
     have n1_ := Aside0.mk (blk_below (g := gb416) (o := .cells #[.int .i64 a0_0, .int .i64 a0_1, .int .i64 a0_2] 32 (0, 0)) qB90 hb)
     have n2_ := Aside0.mk (blk_below (g := gb417) (o := .cells #[.int .i64 a1_0, .int .i64 a1_1, .int .i64 a1_2] 32 (0, 0)) qB91 hb)
     have n3_ := Aside0.mk (below_step qB29 hb)
     clear BK416
     clear BK417
     clear HB
     have HO427 := n0_
     have BK416 := n1_
     have BK417 := n2_
     have HB := n3_
     clear n0_ n1_ n2_ n3_
     (try clear hb)
     (try clear hb2)
     (try clear hk)
     (try clear hi)
     (try clear ho0)
     refine hK.out _ _ ⟨(blk_cell BK416.out 0).trans rfl, (blk_cell BK416.out 1).trans rfl, (blk_cell BK416.out 2).trans rfl, (blk_cell BK417.out 0).trans rfl, (blk_cell BK417.out 1).trans rfl, (blk_cell BK417.out 2).trans rfl⟩ (fun hHeld => ?_)
     clear hK K
     refine norm_ (a' := ?_) ?_ ?_
     rotate_left
     ·show Act.put _ (some 18) _ = _
      simp only [Act.put, List.setIfInBounds_toArray, List.set_cons_zero, List.set_cons_succ, i64_w, i32_w]
      rfl
     refine pure_ (i := 5) (N := some 13) (v := ?_) (a' := ?_) #[true, true, true, true, true, true, false, false, false, false, false] rfl rfl (any_of HT_.out (by kernel_rfl)) (fun _ _ _ h => h) (Or.inl ⟨by rfl, ?_⟩) ?_ ?_
     rotate_left
     ·intro w'
      go_simp
      with_reducible rfl
     rotate_left
     ·simp only [Act.put, List.setIfInBounds_toArray, List.set_cons_zero, List.set_cons_succ, i64_w, i32_w]
      rfl
     refine pure_ (i := 6) (N := some 19) (v := ?_) (a' := ?_) #[true, true, true, true, true, true, true, false, false, false, false] rfl rfl (any_of HT_.out (by kernel_rfl)) (fun _ _ _ h => h) (Or.inl ⟨by rfl, ?_⟩) ?_ ?_
     rotate_left
     ·intro w'
      go_simp
      with_reducible rfl
     rotate_left
     ·simp only [Act.put, List.setIfInBounds_toArray, List.set_cons_zero, List.set_cons_succ, i64_w, i32_w]
      rfl
     refine pure_ (i := 7) (N := some 20) (v := ?_) (a' := ?_) #[true, true, true, true, true, true, true, true, false, false, false] rfl rfl (any_of HT_.out (by kernel_rfl)) (fun _ _ _ h => h) (Or.inl ⟨by rfl, ?_⟩) ?_ ?_
     rotate_left
     ·intro w'
      go_simp
      with_reducible rfl
     rotate_left
     ·simp only [Act.put, List.setIfInBounds_toArray, List.set_cons_zero, List.set_cons_succ, i64_w, i32_w]
      rfl
     refine one_ (i := 8) (N := some 5) #[true, true, true, true, true, true, true, true, true, false, false] rfl rfl (one_of HT_.out (by kernel_rfl)) (by decide) (fun K hK => ?_)
     refine box_step ?hg (N := 5) ?hd (cs := #[.int .i64 0, .slice none 0 0]) (t := 34) ?hr ?_; (case hd => rfl); (case hg => rfl); (case hr => first | (go_simp; done) | (go_simp; rfl))
     intro gb429 hg w16 hbox hb
     have n0_ := Aside0.mk (Kd.R_below qB111 hb)
     have n1_ := Aside0.mk (blk_below (g := gb416) (o := .cells #[.int .i64 a0_0, .int .i64 a0_1, .int .i64 a0_2] 32 (0, 0)) qB90 hb)
     have n2_ := Aside0.mk (blk_below (g := gb417) (o := .cells #[.int .i64 a1_0, .int .i64 a1_1, .int .i64 a1_2] 32 (0, 0)) qB91 hb)
     have n3_ := Aside0.mk (below_step qB29 hb)
     have n4_ := Aside0.mk (hbox)
     have n5_ := Aside0.mk ((by rw [hg]; exact (below_size qB29) : w.heap.size ≤ gb429))
     have n6_ := Aside0.mk ((by rw [hg]; exact (below_size qB29) : w.heap.size ≤ gb429))
     have n7_ := Aside0.mk ((by rw [hg]; exact Nat.ne_of_lt (blk_lt (g := gb416) (o := .cells #[.int .i64 a0_0, .int .i64 a0_1, .int .i64 a0_2] 32 (0, 0)) qB90) : gb416 ≠ gb429))
     have n8_ := Aside0.mk ((by rw [hg]; exact Nat.ne_of_gt (blk_lt (g := gb416) (o := .cells #[.int .i64 a0_0, .int .i64 a0_1, .int .i64 a0_2] 32 (0, 0)) qB90) : gb429 ≠ gb416))
     have n9_ := Aside0.mk ((by rw [hg]; exact Nat.ne_of_lt (blk_lt (g := gb417) (o := .cells #[.int .i64 a1_0, .int .i64 a1_1, .int .i64 a1_2] 32 (0, 0)) qB91) : gb417 ≠ gb429))
     have n10_ := Aside0.mk ((by rw [hg]; exact Nat.ne_of_gt (blk_lt (g := gb417) (o := .cells #[.int .i64 a1_0, .int .i64 a1_1, .int .i64 a1_2] 32 (0, 0)) qB91) : gb429 ≠ gb417))
     clear HO427
     clear BK416
     clear BK417
     clear HB
     have HO427 := n0_
     have BK416 := n1_
     have BK417 := n2_
     have HB := n3_
     have BK429 := n4_
     have GW429 := n5_
     have GE429 := n6_
     have NB416_429 := n7_
     have NB429_416 := n8_
     have NB417_429 := n9_
     have NB429_417 := n10_
     clear n0_ n1_ n2_ n3_ n4_ n5_ n6_ n7_ n8_ n9_ n10_
     clear hb hbox hg
     refine hK.out _ _ ⟨(blk_cell BK416.out 0).trans rfl, (blk_cell BK416.out 1).trans rfl, (blk_cell BK416.out 2).trans rfl, (blk_cell BK417.out 0).trans rfl, (blk_cell BK417.out 1).trans rfl, (blk_cell BK417.out 2).trans rfl⟩ (fun hHeld => ?_)
     clear hK K
     refine norm_ (a' := ?_) ?_ ?_
     rotate_left
     ·show Act.put _ (some 5) _ = _
      simp only [Act.put, List.setIfInBounds_toArray, List.set_cons_zero, List.set_cons_succ, i64_w, i32_w]
      rfl
     exact norm_ qB117 (hCont (v426, gb429) _ ⟨hHeld, qB111, qB90, qB91, qB92, GW429.out, GE429.out, NB416_429.out, NB429_416.out, NB417_429.out, NB429_417.out, qB22⟩)
    ·skip
     refine box_step ?hg (N := 5) ?hd (cs := #[.int .i64 0, .slice none 0 0]) (t := 34) ?hr ?_; (case hd => rfl); (case hg => rfl); (case hr => first | (go_simp; done) | (go_simp; rfl))
     intro gb429 hg w15 hbox hb
     have n0_ := Aside0.mk (blk_below (g := gb416) (o := .cells #[.int .i64 a0_0, .int .i64 a0_1, .int .i64 a0_2] 32 (0, 0)) qB90 hb)
     have n1_ := Aside0.mk (blk_below (g := gb417) (o := .cells #[.int .i64 a1_0, .int .i64 a1_1, .int .i64 a1_2] 32 (0, 0)) qB91 hb)
     have n2_ := Aside0.mk (below_step qB29 hb)
     have n3_ := Aside0.mk (hbox)
     have n4_ := Aside0.mk ((by rw [hg]; exact (below_size qB29) : w.heap.size ≤ gb429))
     have n5_ := Aside0.mk ((by rw [hg]; exact (below_size qB29) : w.heap.size ≤ gb429))
     have n6_ := Aside0.mk ((by rw [hg]; exact Nat.ne_of_lt (blk_lt (g := gb416) (o := .cells #[.int .i64 a0_0, .int .i64 a0_1, .int .i64 a0_2] 32 (0, 0)) qB90) : gb416 ≠ gb429))
     have n7_ := Aside0.mk ((by rw [hg]; exact Nat.ne_of_gt (blk_lt (g := gb416) (o := .cells #[.int .i64 a0_0, .int .i64 a0_1, .int .i64 a0_2] 32 (0, 0)) qB90) : gb429 ≠ gb416))
     have n8_ := Aside0.mk ((by rw [hg]; exact Nat.ne_of_lt (blk_lt (g := gb417) (o := .cells #[.int .i64 a1_0, .int .i64 a1_1, .int .i64 a1_2] 32 (0, 0)) qB91) : gb417 ≠ gb429))
     have n9_ := Aside0.mk ((by rw [hg]; exact Nat.ne_of_gt (blk_lt (g := gb417) (o := .cells #[.int .i64 a1_0, .int .i64 a1_1, .int .i64 a1_2] 32 (0, 0)) qB91) : gb429 ≠ gb417))
     clear BK416
     clear BK417
     clear HB
     have BK416 := n0_
     have BK417 := n1_
     have HB := n2_
     have BK429 := n3_
     have GW429 := n4_
     have GE429 := n5_
     have NB416_429 := n6_
     have NB429_416 := n7_
     have NB417_429 := n8_
     have NB429_417 := n9_
     clear n0_ n1_ n2_ n3_ n4_ n5_ n6_ n7_ n8_ n9_
     clear hb hbox hg
     refine hK.out _ _ ⟨(blk_cell BK416.out 0).trans rfl, (blk_cell BK416.out 1).trans rfl, (blk_cell BK416.out 2).trans rfl, (blk_cell BK417.out 0).trans rfl, (blk_cell BK417.out 1).trans rfl, (blk_cell BK417.out 2).trans rfl⟩ (fun hHeld => ?_)
     clear hK K
     refine norm_ (a' := ?_) ?_ ?_
     rotate_left
     ·show Act.put _ (some 5) _ = _
      simp only [Act.put, List.setIfInBounds_toArray, List.set_cons_zero, List.set_cons_succ, i64_w, i32_w]
      rfl
     refine one_ (i := 4) (N := some 18) #[true, true, true, true, true, false, false, false, true, false, false] rfl rfl (one_of HT_.out (by kernel_rfl)) (by decide) (fun K hK => ?_)
     refine goes_ Try.func23 (by kernel_rfl) rfl #[.agg #[.int .i64 t418, .int .i64 t419, .int .i64 t420], .agg #[.int .i64 t421, .int .i64 t422, .int .i64 t423]] (by rfl) rfl rfl qB57 ?_
     with_reducible refine (spec_JacobiSum.calls k t418 t419 t420 t421 t422 t423 t424 t425 t428 _ A5.out).mono ?_
     rintro e w16 ⟨v426, rfl, ho0, hb⟩
     refine ⟨_, rfl, ?_⟩
     have n0_ := Aside0.mk (Kd.R_lower ho0 (below_size qB22))
     have n1_ := Aside0.mk (blk_below (g := gb416) (o := .cells #[.int .i64 a0_0, .int .i64 a0_1, .int .i64 a0_2] 32 (0, 0)) qB90 hb)
     have n2_ := Aside0.mk (blk_below (g := gb417) (o := .cells #[.int .i64 a1_0, .int .i64 a1_1, .int .i64 a1_2] 32 (0, 0)) qB91 hb)
     have n3_ := Aside0.mk (blk_below (g := gb429) (o := .cells #[.int .i64 0, .slice none 0 0] 34 (0, 0)) qB92 hb)
     have n4_ := Aside0.mk (below_step qB22 hb)
     clear BK416
     clear BK417
     clear BK429
     clear HB
     have HO427 := n0_
     have BK416 := n1_
     have BK417 := n2_
     have BK429 := n3_
     have HB := n4_
     clear n0_ n1_ n2_ n3_ n4_
     (try clear hb)
     (try clear hb2)
     (try clear hk)
     (try clear hi)
     (try clear ho0)
     refine hK.out _ _ ⟨(blk_cell BK416.out 0).trans rfl, (blk_cell BK416.out 1).trans rfl, (blk_cell BK416.out 2).trans rfl, (blk_cell BK417.out 0).trans rfl, (blk_cell BK417.out 1).trans rfl, (blk_cell BK417.out 2).trans rfl⟩ (fun hHeld => ?_)
     clear hK K
     refine norm_ (a' := ?_) ?_ ?_
     rotate_left
     ·show Act.put _ (some 18) _ = _
      simp only [Act.put, List.setIfInBounds_toArray, List.set_cons_zero, List.set_cons_succ, i64_w, i32_w]
      rfl
     refine pure_ (i := 5) (N := some 13) (v := ?_) (a' := ?_) #[true, true, true, true, true, true, false, false, true, false, false] rfl rfl (any_of HT_.out (by kernel_rfl)) (fun _ _ _ h => h) (Or.inl ⟨by rfl, ?_⟩) ?_ ?_
     rotate_left
     ·intro w'
      go_simp
      with_reducible rfl
     rotate_left
     ·simp only [Act.put, List.setIfInBounds_toArray, List.set_cons_zero, List.set_cons_succ, i64_w, i32_w]
      rfl
     refine pure_ (i := 6) (N := some 19) (v := ?_) (a' := ?_) #[true, true, true, true, true, true, true, false, true, false, false] rfl rfl (any_of HT_.out (by kernel_rfl)) (fun _ _ _ h => h) (Or.inl ⟨by rfl, ?_⟩) ?_ ?_
     rotate_left
     ·intro w'
      go_simp
      with_reducible rfl
     rotate_left
     ·simp only [Act.put, List.setIfInBounds_toArray, List.set_cons_zero, List.set_cons_succ, i64_w, i32_w]
      rfl
     refine pure_ (i := 7) (N := some 20) (v := ?_) (a' := ?_) #[true, true, true, true, true, true, true, true, true, false, false] rfl rfl (any_of HT_.out (by kernel_rfl)) (fun _ _ _ h => h) (Or.inl ⟨by rfl, ?_⟩) ?_ ?_
     rotate_left
     ·intro w'
      go_simp
      with_reducible rfl
     rotate_left
     ·simp only [Act.put, List.setIfInBounds_toArray, List.set_cons_zero, List.set_cons_succ, i64_w, i32_w]
      rfl
     exact norm_ qB117 (hCont (v426, gb429) _ ⟨hHeld, qB111, qB90, qB91, qB92, GW429.out, GE429.out, NB416_429.out, NB429_416.out, NB417_429.out, NB429_417.out, qB22⟩)
   ·skip
    refine box_step ?hg (N := 5) ?hd (cs := #[.int .i64 0, .slice none 0 0]) (t := 34) ?hr ?_; (case hd => rfl); (case hg => rfl); (case hr => first | (go_simp; done) | (go_simp; rfl))
    intro gb429 hg w14 hbox hb
    have n0_ := Aside0.mk (blk_below (g := gb416) (o := .cells #[.int .i64 a0_0, .int .i64 a0_1, .int .i64 a0_2] 32 (0, 0)) qB90 hb)
    have n1_ := Aside0.mk (blk_below (g := gb417) (o := .cells #[.int .i64 a1_0, .int .i64 a1_1, .int .i64 a1_2] 32 (0, 0)) qB91 hb)
    have n2_ := Aside0.mk (below_step qB29 hb)
    have n3_ := Aside0.mk (hbox)
    have n4_ := Aside0.mk ((by rw [hg]; exact (below_size qB29) : w.heap.size ≤ gb429))
    have n5_ := Aside0.mk ((by rw [hg]; exact (below_size qB29) : w.heap.size ≤ gb429))
    have n6_ := Aside0.mk ((by rw [hg]; exact Nat.ne_of_lt (blk_lt (g := gb416) (o := .cells #[.int .i64 a0_0, .int .i64 a0_1, .int .i64 a0_2] 32 (0, 0)) qB90) : gb416 ≠ gb429))
    have n7_ := Aside0.mk ((by rw [hg]; exact Nat.ne_of_gt (blk_lt (g := gb416) (o := .cells #[.int .i64 a0_0, .int .i64 a0_1, .int .i64 a0_2] 32 (0, 0)) qB90) : gb429 ≠ gb416))
    have n8_ := Aside0.mk ((by rw [hg]; exact Nat.ne_of_lt (blk_lt (g := gb417) (o := .cells #[.int .i64 a1_0, .int .i64 a1_1, .int .i64 a1_2] 32 (0, 0)) qB91) : gb417 ≠ gb429))
    have n9_ := Aside0.mk ((by rw [hg]; exact Nat.ne_of_gt (blk_lt (g := gb417) (o := .cells #[.int .i64 a1_0, .int .i64 a1_1, .int .i64 a1_2] 32 (0, 0)) qB91) : gb429 ≠ gb417))
    clear BK416
    clear BK417
    clear HB
    have BK416 := n0_
    have BK417 := n1_
    have HB := n2_
    have BK429 := n3_
    have GW429 := n4_
    have GE429 := n5_
    have NB416_429 := n6_
    have NB429_416 := n7_
    have NB417_429 := n8_
    have NB429_417 := n9_
    clear n0_ n1_ n2_ n3_ n4_ n5_ n6_ n7_ n8_ n9_
    clear hb hbox hg
    refine hK.out _ _ ⟨(blk_cell BK416.out 0).trans rfl, (blk_cell BK416.out 1).trans rfl, (blk_cell BK416.out 2).trans rfl, (blk_cell BK417.out 0).trans rfl, (blk_cell BK417.out 1).trans rfl, (blk_cell BK417.out 2).trans rfl⟩ (fun hHeld => ?_)
    clear hK K
    refine norm_ (a' := ?_) ?_ ?_
    rotate_left
    ·show Act.put _ (some 5) _ = _
     simp only [Act.put, List.setIfInBounds_toArray, List.set_cons_zero, List.set_cons_succ, i64_w, i32_w]
     rfl
    refine one_ (i := 3) (N := some 17) #[true, true, true, true, false, false, false, false, true, false, false] rfl rfl (one_of HT_.out (by kernel_rfl)) (by decide) (fun K hK => ?_)
    refine goes_ Try.func18 (by kernel_rfl) rfl #[.agg #[.int .i64 a1_0, .int .i64 a1_1, .int .i64 a1_2]] (by rfl) rfl rfl qB57 ?_
    with_reducible refine (laws_toCharacter.calls a1_0 a1_1 a1_2 t421 t422 t423 _ A4.out).mono ?_
    rintro e w15 ⟨rfl, hb⟩
    refine ⟨_, rfl, ?_⟩
    have n0_ := Aside0.mk (blk_below (g := gb416) (o := .cells #[.int .i64 a0_0, .int .i64 a0_1, .int .i64 a0_2] 32 (0, 0)) qB90 hb)
    have n1_ := Aside0.mk (blk_below (g := gb417) (o := .cells #[.int .i64 a1_0, .int .i64 a1_1, .int .i64 a1_2] 32 (0, 0)) qB91 hb)
    have n2_ := Aside0.mk (blk_below (g := gb429) (o := .cells #[.int .i64 0, .slice none 0 0] 34 (0, 0)) qB92 hb)
    have n3_ := Aside0.mk (below_step qB22 hb)
    clear BK416
    clear BK417
    clear BK429
    clear HB
    have BK416 := n0_
    have BK417 := n1_
    have BK429 := n2_
    have HB := n3_
    clear n0_ n1_ n2_ n3_
    (try clear hb)
    (try clear hb2)
    (try clear hk)
    (try clear hi)
    refine hK.out _ _ ⟨(blk_cell BK416.out 0).trans rfl, (blk_cell BK416.out 1).trans rfl, (blk_cell BK416.out 2).trans rfl, (blk_cell BK417.out 0).trans rfl, (blk_cell BK417.out 1).trans rfl, (blk_cell BK417.out 2).trans rfl⟩ (fun hHeld => ?_)
    clear hK K
    refine norm_ (a' := ?_) ?_ ?_
    rotate_left
    ·show Act.put _ (some 17) _ = _
     simp only [Act.put, List.setIfInBounds_toArray, List.set_cons_zero, List.set_cons_succ, i64_w, i32_w]
     rfl
    refine one_ (i := 4) (N := some 18) #[true, true, true, true, true, false, false, false, true, false, false] rfl rfl (one_of HT_.out (by kernel_rfl)) (by decide) (fun K hK => ?_)
    refine goes_ Try.func23 (by kernel_rfl) rfl #[.agg #[.int .i64 t418, .int .i64 t419, .int .i64 t420], .agg #[.int .i64 t421, .int .i64 t422, .int .i64 t423]] (by rfl) rfl rfl qB57 ?_
    with_reducible refine (spec_JacobiSum.calls k t418 t419 t420 t421 t422 t423 t424 t425 t428 _ A5.out).mono ?_
    rintro e w16 ⟨v426, rfl, ho0, hb⟩
    refine ⟨_, rfl, ?_⟩
    have n0_ := Aside0.mk (Kd.R_lower ho0 (below_size qB22))
    have n1_ := Aside0.mk (blk_below (g := gb416) (o := .cells #[.int .i64 a0_0, .int .i64 a0_1, .int .i64 a0_2] 32 (0, 0)) qB90 hb)
    have n2_ := Aside0.mk (blk_below (g := gb417) (o := .cells #[.int .i64 a1_0, .int .i64 a1_1, .int .i64 a1_2] 32 (0, 0)) qB91 hb)
    have n3_ := Aside0.mk (blk_below (g := gb429) (o := .cells #[.int .i64 0, .slice none 0 0] 34 (0, 0)) qB92 hb)
    have n4_ := Aside0.mk (below_step qB22 hb)
    clear BK416
    clear BK417
    clear BK429
    clear HB
    have HO427 := n0_
    have BK416 := n1_
    have BK417 := n2_
    have BK429 := n3_
    have HB := n4_
    clear n0_ n1_ n2_ n3_ n4_
    (try clear hb)
    (try clear hb2)
    (try clear hk)
    (try clear hi)
    (try clear ho0)
    refine hK.out _ _ ⟨(blk_cell BK416.out 0).trans rfl, (blk_cell BK416.out 1).trans rfl, (blk_cell BK416.out 2).trans rfl, (blk_cell BK417.out 0).trans rfl, (blk_cell BK417.out 1).trans rfl, (blk_cell BK417.out 2).trans rfl⟩ (fun hHeld => ?_)
    clear hK K
    refine norm_ (a' := ?_) ?_ ?_
    rotate_left
    ·show Act.put _ (some 18) _ = _
     simp only [Act.put, List.setIfInBounds_toArray, List.set_cons_zero, List.set_cons_succ, i64_w, i32_w]
     rfl
    refine pure_ (i := 5) (N := some 13) (v := ?_) (a' := ?_) #[true, true, true, true, true, true, false, false, true, false, false] rfl rfl (any_of HT_.out (by kernel_rfl)) (fun _ _ _ h => h) (Or.inl ⟨by rfl, ?_⟩) ?_ ?_
    rotate_left
    ·intro w'
     go_simp
     with_reducible rfl
    rotate_left
    ·simp only [Act.put, List.setIfInBounds_toArray, List.set_cons_zero, List.set_cons_succ, i64_w, i32_w]
     rfl
    refine pure_ (i := 6) (N := some 19) (v := ?_) (a' := ?_) #[true, true, true, true, true, true, true, false, true, false, false] rfl rfl (any_of HT_.out (by kernel_rfl)) (fun _ _ _ h => h) (Or.inl ⟨by rfl, ?_⟩) ?_ ?_
    rotate_left
    ·intro w'
     go_simp
     with_reducible rfl
    rotate_left
    ·simp only [Act.put, List.setIfInBounds_toArray, List.set_cons_zero, List.set_cons_succ, i64_w, i32_w]
     rfl
    refine pure_ (i := 7) (N := some 20) (v := ?_) (a' := ?_) #[true, true, true, true, true, true, true, true, true, false, false] rfl rfl (any_of HT_.out (by kernel_rfl)) (fun _ _ _ h => h) (Or.inl ⟨by rfl, ?_⟩) ?_ ?_
    rotate_left
    ·intro w'
     go_simp
     with_reducible rfl
    rotate_left
    ·simp only [Act.put, List.setIfInBounds_toArray, List.set_cons_zero, List.set_cons_succ, i64_w, i32_w]
     rfl
    exact norm_ qB117 (hCont (v426, gb429) _ ⟨hHeld, qB111, qB90, qB91, qB92, GW429.out, GE429.out, NB416_429.out, NB429_416.out, NB417_429.out, NB429_417.out, qB22⟩)
  ·skip
   refine box_step ?hg (N := 5) ?hd (cs := #[.int .i64 0, .slice none 0 0]) (t := 34) ?hr ?_; (case hd => rfl); (case hg => rfl); (case hr => first | (go_simp; done) | (go_simp; rfl))
   intro gb429 hg w13 hbox hb
   have n0_ := Aside0.mk (blk_below (g := gb416) (o := .cells #[.int .i64 a0_0, .int .i64 a0_1, .int .i64 a0_2] 32 (0, 0)) qB90 hb)
   have n1_ := Aside0.mk (blk_below (g := gb417) (o := .cells #[.int .i64 a1_0, .int .i64 a1_1, .int .i64 a1_2] 32 (0, 0)) qB91 hb)
   have n2_ := Aside0.mk (below_step qB29 hb)
   have n3_ := Aside0.mk (hbox)
   have n4_ := Aside0.mk ((by rw [hg]; exact (below_size qB29) : w.heap.size ≤ gb429))
   have n5_ := Aside0.mk ((by rw [hg]; exact (below_size qB29) : w.heap.size ≤ gb429))
   have n6_ := Aside0.mk ((by rw [hg]; exact Nat.ne_of_lt (blk_lt (g := gb416) (o := .cells #[.int .i64 a0_0, .int .i64 a0_1, .int .i64 a0_2] 32 (0, 0)) qB90) : gb416 ≠ gb429))
   have n7_ := Aside0.mk ((by rw [hg]; exact Nat.ne_of_gt (blk_lt (g := gb416) (o := .cells #[.int .i64 a0_0, .int .i64 a0_1, .int .i64 a0_2] 32 (0, 0)) qB90) : gb429 ≠ gb416))
   have n8_ := Aside0.mk ((by rw [hg]; exact Nat.ne_of_lt (blk_lt (g := gb417) (o := .cells #[.int .i64 a1_0, .int .i64 a1_1, .int .i64 a1_2] 32 (0, 0)) qB91) : gb417 ≠ gb429))
   have n9_ := Aside0.mk ((by rw [hg]; exact Nat.ne_of_gt (blk_lt (g := gb417) (o := .cells #[.int .i64 a1_0, .int .i64 a1_1, .int .i64 a1_2] 32 (0, 0)) qB91) : gb429 ≠ gb417))
   clear BK416
   clear BK417
   clear HB
   have BK416 := n0_
   have BK417 := n1_
   have HB := n2_
   have BK429 := n3_
   have GW429 := n4_
   have GE429 := n5_
   have NB416_429 := n6_
   have NB429_416 := n7_
   have NB417_429 := n8_
   have NB429_417 := n9_
   clear n0_ n1_ n2_ n3_ n4_ n5_ n6_ n7_ n8_ n9_
   clear hb hbox hg
   refine hK.out _ _ ⟨(blk_cell BK416.out 0).trans rfl, (blk_cell BK416.out 1).trans rfl, (blk_cell BK416.out 2).trans rfl, (blk_cell BK417.out 0).trans rfl, (blk_cell BK417.out 1).trans rfl, (blk_cell BK417.out 2).trans rfl⟩ (fun hHeld => ?_)
   clear hK K
   refine norm_ (a' := ?_) ?_ ?_
   rotate_left
   ·show Act.put _ (some 5) _ = _
    simp only [Act.put, List.setIfInBounds_toArray, List.set_cons_zero, List.set_cons_succ, i64_w, i32_w]
    rfl
   refine one_ (i := 1) (N := some 15) #[true, true, true, false, false, false, false, false, true, false, false] rfl rfl (one_of HT_.out (by kernel_rfl)) (by decide) (fun K hK => ?_)
   refine goes_ Try.func18 (by kernel_rfl) rfl #[.agg #[.int .i64 a0_0, .int .i64 a0_1, .int .i64 a0_2]] (by rfl) rfl rfl qB57 ?_
   with_reducible refine (laws_toCharacter.calls a0_0 a0_1 a0_2 t418 t419 t420 _ A3.out).mono ?_
   rintro e w14 ⟨rfl, hb⟩
   refine ⟨_, rfl, ?_⟩
   have n0_ := Aside0.mk (blk_below (g := gb416) (o := .cells #[.int .i64 a0_0, .int .i64 a0_1, .int .i64 a0_2] 32 (0, 0)) qB90 hb)
   have n1_ := Aside0.mk (blk_below (g := gb417) (o := .cells #[.int .i64 a1_0, .int .i64 a1_1, .int .i64 a1_2] 32 (0, 0)) qB91 hb)
   have n2_ := Aside0.mk (blk_below (g := gb429) (o := .cells #[.int .i64 0, .slice none 0 0] 34 (0, 0)) qB92 hb)
   have n3_ := Aside0.mk (below_step qB22 hb)
   clear BK416
   clear BK417
   clear BK429
   clear HB
   have BK416 := n0_
   have BK417 := n1_
   have BK429 := n2_
   have HB := n3_
   clear n0_ n1_ n2_ n3_
   (try clear hb)
   (try clear hb2)
   (try clear hk)
   (try clear hi)
   refine hK.out _ _ ⟨(blk_cell BK416.out 0).trans rfl, (blk_cell BK416.out 1).trans rfl, (blk_cell BK416.out 2).trans rfl, (blk_cell BK417.out 0).trans rfl, (blk_cell BK417.out 1).trans rfl, (blk_cell BK417.out 2).trans rfl⟩ (fun hHeld => ?_)
   clear hK K
   refine norm_ (a' := ?_) ?_ ?_
   rotate_left
   ·show Act.put _ (some 15) _ = _
    simp only [Act.put, List.setIfInBounds_toArray, List.set_cons_zero, List.set_cons_succ, i64_w, i32_w]
    rfl
   refine one_ (i := 3) (N := some 17) #[true, true, true, true, false, false, false, false, true, false, false] rfl rfl (one_of HT_.out (by kernel_rfl)) (by decide) (fun K hK => ?_)
   refine goes_ Try.func18 (by kernel_rfl) rfl #[.agg #[.int .i64 a1_0, .int .i64 a1_1, .int .i64 a1_2]] (by rfl) rfl rfl qB57 ?_
   with_reducible refine (laws_toCharacter.calls a1_0 a1_1 a1_2 t421 t422 t423 _ A4.out).mono ?_
   rintro e w15 ⟨rfl, hb⟩
   refine ⟨_, rfl, ?_⟩
   have n0_ := Aside0.mk (blk_below (g := gb416) (o := .cells #[.int .i64 a0_0, .int .i64 a0_1, .int .i64 a0_2] 32 (0, 0)) qB90 hb)
   have n1_ := Aside0.mk (blk_below (g := gb417) (o := .cells #[.int .i64 a1_0, .int .i64 a1_1, .int .i64 a1_2] 32 (0, 0)) qB91 hb)
   have n2_ := Aside0.mk (blk_below (g := gb429) (o := .cells #[.int .i64 0, .slice none 0 0] 34 (0, 0)) qB92 hb)
   have n3_ := Aside0.mk (below_step qB22 hb)
   clear BK416
   clear BK417
   clear BK429
   clear HB
   have BK416 := n0_
   have BK417 := n1_
   have BK429 := n2_
   have HB := n3_
   clear n0_ n1_ n2_ n3_
   (try clear hb)
   (try clear hb2)
   (try clear hk)
   (try clear hi)
   refine hK.out _ _ ⟨(blk_cell BK416.out 0).trans rfl, (blk_cell BK416.out 1).trans rfl, (blk_cell BK416.out 2).trans rfl, (blk_cell BK417.out 0).trans rfl, (blk_cell BK417.out 1).trans rfl, (blk_cell BK417.out 2).trans rfl⟩ (fun hHeld => ?_)
   clear hK K
   refine norm_ (a' := ?_) ?_ ?_
   rotate_left
   ·show Act.put _ (some 17) _ = _
    simp only [Act.put, List.setIfInBounds_toArray, List.set_cons_zero, List.set_cons_succ, i64_w, i32_w]
    rfl
   refine one_ (i := 4) (N := some 18) #[true, true, true, true, true, false, false, false, true, false, false] rfl rfl (one_of HT_.out (by kernel_rfl)) (by decide) (fun K hK => ?_)
   refine goes_ Try.func23 (by kernel_rfl) rfl #[.agg #[.int .i64 t418, .int .i64 t419, .int .i64 t420], .agg #[.int .i64 t421, .int .i64 t422, .int .i64 t423]] (by rfl) rfl rfl qB57 ?_
   with_reducible refine (spec_JacobiSum.calls k t418 t419 t420 t421 t422 t423 t424 t425 t428 _ A5.out).mono ?_
   rintro e w16 ⟨v426, rfl, ho0, hb⟩
   refine ⟨_, rfl, ?_⟩
   have n0_ := Aside0.mk (Kd.R_lower ho0 (below_size qB22))
   have n1_ := Aside0.mk (blk_below (g := gb416) (o := .cells #[.int .i64 a0_0, .int .i64 a0_1, .int .i64 a0_2] 32 (0, 0)) qB90 hb)
   have n2_ := Aside0.mk (blk_below (g := gb417) (o := .cells #[.int .i64 a1_0, .int .i64 a1_1, .int .i64 a1_2] 32 (0, 0)) qB91 hb)
   have n3_ := Aside0.mk (blk_below (g := gb429) (o := .cells #[.int .i64 0, .slice none 0 0] 34 (0, 0)) qB92 hb)
   have n4_ := Aside0.mk (below_step qB22 hb)
   clear BK416
   clear BK417
   clear BK429
   clear HB
   have HO427 := n0_
   have BK416 := n1_
   have BK417 := n2_
   have BK429 := n3_
   have HB := n4_
   clear n0_ n1_ n2_ n3_ n4_
   (try clear hb)
   (try clear hb2)
   (try clear hk)
   (try clear hi)
   (try clear ho0)
   refine hK.out _ _ ⟨(blk_cell BK416.out 0).trans rfl, (blk_cell BK416.out 1).trans rfl, (blk_cell BK416.out 2).trans rfl, (blk_cell BK417.out 0).trans rfl, (blk_cell BK417.out 1).trans rfl, (blk_cell BK417.out 2).trans rfl⟩ (fun hHeld => ?_)
   clear hK K
   refine norm_ (a' := ?_) ?_ ?_
   rotate_left
   ·show Act.put _ (some 18) _ = _
    simp only [Act.put, List.setIfInBounds_toArray, List.set_cons_zero, List.set_cons_succ, i64_w, i32_w]
    rfl
   refine pure_ (i := 5) (N := some 13) (v := ?_) (a' := ?_) #[true, true, true, true, true, true, false, false, true, false, false] rfl rfl (any_of HT_.out (by kernel_rfl)) (fun _ _ _ h => h) (Or.inl ⟨by rfl, ?_⟩) ?_ ?_
   rotate_left
   ·intro w'
    go_simp
    with_reducible rfl
   rotate_left
   ·simp only [Act.put, List.setIfInBounds_toArray, List.set_cons_zero, List.set_cons_succ, i64_w, i32_w]
    rfl
   refine pure_ (i := 6) (N := some 19) (v := ?_) (a' := ?_) #[true, true, true, true, true, true, true, false, true, false, false] rfl rfl (any_of HT_.out (by kernel_rfl)) (fun _ _ _ h => h) (Or.inl ⟨by rfl, ?_⟩) ?_ ?_
   rotate_left
   ·intro w'
    go_simp
    with_reducible rfl
   rotate_left
   ·simp only [Act.put, List.setIfInBounds_toArray, List.set_cons_zero, List.set_cons_succ, i64_w, i32_w]
    rfl
   refine pure_ (i := 7) (N := some 20) (v := ?_) (a' := ?_) #[true, true, true, true, true, true, true, true, true, false, false] rfl rfl (any_of HT_.out (by kernel_rfl)) (fun _ _ _ h => h) (Or.inl ⟨by rfl, ?_⟩) ?_ ?_
   rotate_left
   ·intro w'
    go_simp
    with_reducible rfl
   rotate_left
   ·simp only [Act.put, List.setIfInBounds_toArray, List.set_cons_zero, List.set_cons_succ, i64_w, i32_w]
    rfl
   exact norm_ qB117 (hCont (v426, gb429) _ ⟨hHeld, qB111, qB90, qB91, qB92, GW429.out, GE429.out, NB416_429.out, NB429_416.out, NB417_429.out, NB429_417.out, qB22⟩)
 rintro ⟨v426, gb429⟩ w17 ⟨hS_, h0_, h1_, h2_, h3_, h4_, h5_, h6_, h7_, h8_, h9_, h10_⟩
 have n0_ : Aside0 (Kd.R (Kd.int .i64) 2 w17 w.heap.size (fun _ => True) v426 t425) := ⟨h0_⟩
 have n1_ : Aside0 (w17.heap[gb416]? = some (.cells #[.int .i64 a0_0, .int .i64 a0_1, .int .i64 a0_2] 32 (0, 0))) := ⟨h1_⟩
 have n2_ : Aside0 (w17.heap[gb417]? = some (.cells #[.int .i64 a1_0, .int .i64 a1_1, .int .i64 a1_2] 32 (0, 0))) := ⟨h2_⟩
 have n3_ : Aside0 (w17.heap[gb429]? = some (.cells #[.int .i64 0, .slice none 0 0] 34 (0, 0))) := ⟨h3_⟩
 have n4_ : Aside0 (w.heap.size ≤ gb429) := ⟨h4_⟩
 have n5_ : Aside0 (w.heap.size ≤ gb429) := ⟨h5_⟩
 have n6_ : Aside0 (gb416 ≠ gb429) := ⟨h6_⟩
 have n7_ : Aside0 (gb429 ≠ gb416) := ⟨h7_⟩
 have n8_ : Aside0 (gb417 ≠ gb429) := ⟨h8_⟩
 have n9_ : Aside0 (gb429 ≠ gb417) := ⟨h9_⟩
 have n10_ : Aside0 (Below w.heap.size w w17) := ⟨h10_⟩
 clear BK416
 clear BK417
 clear HB
 clear h0_ h1_ h2_ h3_ h4_ h5_ h6_ h7_ h8_ h9_ h10_
 have HO427 := n0_
 have BK416 := n1_
 have BK417 := n2_
 have BK429 := n3_
 have GW429 := n4_
 have GE429 := n5_
 have NB416_429 := n6_
 have NB429_416 := n7_
 have NB417_429 := n8_
 have NB429_417 := n9_
 have HB := n10_
 clear n0_ n1_ n2_ n3_ n4_ n5_ n6_ n7_ n8_ n9_ n10_
 have hHeld : w17.cell? ⟨gb416, 0, none⟩ = some (.int .i64 a0_0) ∧ w17.cell? ⟨gb416, 1, none⟩ = some (.int .i64 a0_1) ∧ w17.cell? ⟨gb416, 2, none⟩ = some (.int .i64 a0_2) ∧ w17.cell? ⟨gb417, 0, none⟩ = some (.int .i64 a1_0) ∧ w17.cell? ⟨gb417, 1, none⟩ = some (.int .i64 a1_1) ∧ w17.cell? ⟨gb417, 2, none⟩ = some (.int .i64 a1_2) := hS_
 obtain ⟨Ao19, co19, eo19⟩ := Kd.R_slice HO427.out
 (first | subst eo19 | (injection eo19 with f1_ f2_ f3_; have f4_ := f1_.symm; have f5_ := f3_.symm; clear f1_ f2_ f3_; subst f4_; subst f5_))
 refine norm_ (a' := ?_) ?_ ?_
 rotate_left
 ·simp only [putAll, Act.put, List.setIfInBounds_toArray, List.set_cons_zero, List.set_cons_succ]
  rfl
 refine one_ (i := 9) (N := none) #[true, true, true, true, true, true, true, true, true, true, false] rfl rfl (one_of HT_.out (by kernel_rfl)) (by decide) (fun K hK => ?_)
 have hs18 : w17.cell? ⟨gb429, 0, none⟩ = some (.int .i64 0) := (blk_cell BK429.out 0).trans rfl
 have hfs18 := blk_frozen BK429.out 0
 have hns18_0 := NB416_429.out
 have hns18_1 := NB417_429.out
 have hms18_0 := NB429_416.out
 have hms18_1 := NB429_417.out
 have hs20 : w17.cell? ⟨gb429, 1, none⟩ = some (.slice none 0 0) := (blk_cell BK429.out 1).trans rfl
 have hfs20 := blk_frozen BK429.out 1
 have hns20_0 := NB416_429.out
 have hns20_1 := NB417_429.out
 have hms20_0 := NB429_416.out
 have hms20_1 := NB429_417.out
 refine skip_ (w1 := ?_) (by rfl) rfl ?_ ?_
 rotate_left
 ·go_simp
  rfl
 refine hK.out _ _ ⟨((cell_far (p := ⟨gb429, _, none⟩) NB416_429.out _).trans (((cell_far (p := ⟨gb429, _, none⟩) NB416_429.out _).trans (hHeld.1)))), ((cell_far (p := ⟨gb429, _, none⟩) NB416_429.out _).trans (((cell_far (p := ⟨gb429, _, none⟩) NB416_429.out _).trans (hHeld.2.1)))), ((cell_far (p := ⟨gb429, _, none⟩) NB416_429.out _).trans (((cell_far (p := ⟨gb429, _, none⟩) NB416_429.out _).trans (hHeld.2.2.1)))), ((cell_far (p := ⟨gb429, _, none⟩) NB417_429.out _).trans (((cell_far (p := ⟨gb429, _, none⟩) NB417_429.out _).trans (hHeld.2.2.2.1)))), ((cell_far (p := ⟨gb429, _, none⟩) NB417_429.out _).trans (((cell_far (p := ⟨gb429, _, none⟩) NB417_429.out _).trans (hHeld.2.2.2.2.1)))), ((cell_far (p := ⟨gb429, _, none⟩) NB417_429.out _).trans (((cell_far (p := ⟨gb429, _, none⟩) NB417_429.out _).trans (hHeld.2.2.2.2.2))))⟩ (fun hHeld => ?_)
 clear hK K
 refine pure_ (i := 10) (N := some 6) (v := ?_) (a' := ?_) #[true, true, true, true, true, true, true, true, true, true, true] rfl rfl (any_of HT_.out (by kernel_rfl)) (fun _ _ _ h => h) (Or.inl ⟨by rfl, ?_⟩) ?_ ?_
 rotate_left
 ·intro w'
  go_simp
  with_reducible rfl
 rotate_left
 ·simp only [Act.put, List.setIfInBounds_toArray, List.set_cons_zero, List.set_cons_succ, i64_w, i32_w]
  rfl
 refine done_ (done_of HT_.out (by kernel_rfl)) ?_
 try go_wp2
 have n0_ : Aside0 (Kd.R (Kd.int .i64) 2 ((w17.setCell ⟨gb429, 0, none⟩ (.int .i64 t424)).setCell ⟨gb429, 1, none⟩ (.slice Ao19 t425.length co19)) w.heap.size (fun _ => True) (.slice Ao19 t425.length co19) t425) := ⟨by (with_reducible repeat (first | apply Kd.R_alloc | apply Kd.R_drewN | apply Kd.R_drew)); exact Kd.R_mono (Kd.R_far (p := ⟨gb429, 1, none⟩) (Kd.R_far (p := ⟨gb429, 0, none⟩) (Kd.R_types HO427.out BK429.out (by decide)) (fun _ hk => hk.2) (.int .i64 t424)) (fun _ hk => hk.2) (.slice Ao19 t425.length co19)) (fun _ hk => trivial)⟩
 have n1_ : Aside0 (((w17.setCell ⟨gb429, 0, none⟩ (.int .i64 t424)).setCell ⟨gb429, 1, none⟩ (.slice Ao19 t425.length co19)).heap[gb416]? = some (.cells #[.int .i64 a0_0, .int .i64 a0_1, .int .i64 a0_2] 32 (0, 0))) := ⟨by (with_reducible repeat (first | refine blk_drewN ?_ _ | refine blk_drew ?_ | refine blk_alloc ?_ _)); refine blk_far ?_ NB416_429.out _; (with_reducible repeat (first | refine blk_drewN ?_ _ | refine blk_drew ?_ | refine blk_alloc ?_ _)); refine blk_far ?_ NB416_429.out _; (with_reducible repeat (first | refine blk_drewN ?_ _ | refine blk_drew ?_ | refine blk_alloc ?_ _)); exact BK416.out⟩
 have n2_ : Aside0 (((w17.setCell ⟨gb429, 0, none⟩ (.int .i64 t424)).setCell ⟨gb429, 1, none⟩ (.slice Ao19 t425.length co19)).heap[gb417]? = some (.cells #[.int .i64 a1_0, .int .i64 a1_1, .int .i64 a1_2] 32 (0, 0))) := ⟨by (with_reducible repeat (first | refine blk_drewN ?_ _ | refine blk_drew ?_ | refine blk_alloc ?_ _)); refine blk_far ?_ NB417_429.out _; (with_reducible repeat (first | refine blk_drewN ?_ _ | refine blk_drew ?_ | refine blk_alloc ?_ _)); refine blk_far ?_ NB417_429.out _; (with_reducible repeat (first | refine blk_drewN ?_ _ | refine blk_drew ?_ | refine blk_alloc ?_ _)); exact BK417.out⟩
 have n3_ : Aside0 (((w17.setCell ⟨gb429, 0, none⟩ (.int .i64 t424)).setCell ⟨gb429, 1, none⟩ (.slice Ao19 t425.length co19)).heap[gb429]? = some (.cells #[.int .i64 t424, .slice Ao19 t425.length co19] 34 (0, 0))) := ⟨by (with_reducible repeat (first | refine blk_drewN ?_ _ | refine blk_drew ?_ | refine blk_alloc ?_ _)); refine blk_put (cs := #[.int .i64 t424, .slice none 0 0]) ?_ 1 _ rfl; (with_reducible repeat (first | refine blk_drewN ?_ _ | refine blk_drew ?_ | refine blk_alloc ?_ _)); refine blk_put (cs := #[.int .i64 0, .slice none 0 0]) ?_ 0 _ rfl; (with_reducible repeat (first | refine blk_drewN ?_ _ | refine blk_drew ?_ | refine blk_alloc ?_ _)); exact BK429.out⟩
 have n4_ : Aside0 (Below w.heap.size w ((w17.setCell ⟨gb429, 0, none⟩ (.int .i64 t424)).setCell ⟨gb429, 1, none⟩ (.slice Ao19 t425.length co19))) := ⟨by repeat (first | (with_reducible first | exact HB.out | apply below_alloc | apply pw_below_drewN | apply below_drew1 | refine below_set ?_ GE416.out | refine below_set ?_ GE417.out | refine below_set ?_ GE429.out) | exact HB.out)⟩
 (try clear HO427)
 (try clear BK416)
 (try clear BK417)
 (try clear BK429)
 (try clear HB)
 generalize ((w17.setCell ⟨gb429, 0, none⟩ (.int .i64 t424)).setCell ⟨gb429, 1, none⟩ (.slice Ao19 t425.length co19)) = w21 at n0_ n1_ n2_ n3_ n4_ ⊢
 have HO427 := n0_
 have BK416 := n1_
 have BK417 := n2_
 have BK429 := n3_
 have HB := n4_
 clear n0_ n1_ n2_ n3_ n4_
 have n0_ := Aside0.mk (Kd.R_drew HO427.out)
 have n1_ := Aside0.mk (blk_drew BK416.out)
 have n2_ := Aside0.mk (blk_drew BK417.out)
 have n3_ := Aside0.mk (blk_drew BK429.out)
 have n4_ := Aside0.mk (below_drew1 HB.out)
 clear HO427
 clear BK416
 clear BK417
 clear BK429
 clear HB
 have HO427 := n0_
 have BK416 := n1_
 have BK417 := n2_
 have BK429 := n3_
 have HB := n4_
 clear n0_ n1_ n2_ n3_ n4_
 refine start_ (n := 11) (S := fun w' => w'.cell? ⟨gb416, 0, none⟩ = some (.int .i64 a0_0) ∧ w'.cell? ⟨gb416, 1, none⟩ = some (.int .i64 a0_1) ∧ w'.cell? ⟨gb416, 2, none⟩ = some (.int .i64 a0_2) ∧ w'.cell? ⟨gb417, 0, none⟩ = some (.int .i64 a1_0) ∧ w'.cell? ⟨gb417, 1, none⟩ = some (.int .i64 a1_1) ∧ w'.cell? ⟨gb417, 2, none⟩ = some (.int .i64 a1_2)) (ds := []) #[false, false, false, false, false, false, false, false, false, false, false] (by kernel_rfl) rfl rfl ⟨(blk_cell BK416.out 0).trans rfl, (blk_cell BK416.out 1).trans rfl, (blk_cell BK416.out 2).trans rfl, (blk_cell BK417.out 0).trans rfl, (blk_cell BK417.out 1).trans rfl, (blk_cell BK417.out 2).trans rfl⟩ (fun hHeld => ?_); refine with_tabW laws_FnExactJacobiSum.tab2 laws_FnExactJacobiSum.bits2 (fun HT_ HW_ => ?_)
 generalize w21.drew = w22 at HO427 BK416 BK417 BK429 HB hHeld ⊢
 refine take_ (i := 0) (N := some 22) (v := ?_) (a' := ?_) #[true, false, false, false, false, false, false, false, false, false, false] rfl rfl (take_ofW HT_.out HW_.out (by kernel_rfl)) (fun _ _ _ h => h) (Or.inl ⟨by rfl, ?_⟩) hHeld ?_ ?_
 rotate_left
 ·rintro w' ⟨s0, s1, s2, s3, s4, s5⟩
  go_simp
  with_reducible rfl
 rotate_left
 ·simp only [Act.put, List.setIfInBounds_toArray, List.set_cons_zero, List.set_cons_succ, i64_w, i32_w]
  rfl
 refine take_ (i := 2) (N := some 24) (v := ?_) (a' := ?_) #[true, false, true, false, false, false, false, false, false, false, false] rfl rfl (take_ofW HT_.out HW_.out (by kernel_rfl)) (fun _ _ _ h => h) (Or.inl ⟨by rfl, ?_⟩) hHeld ?_ ?_
 rotate_left
 ·rintro w' ⟨s0, s1, s2, s3, s4, s5⟩
  go_simp
  with_reducible rfl
 rotate_left
 ·simp only [Act.put, List.setIfInBounds_toArray, List.set_cons_zero, List.set_cons_succ, i64_w, i32_w]
  rfl
 refine join_ (σ := Value × Nat) 2 #[true, true, true, true, true, true, true, true, true, false, false] (fun s_ => [(23, .agg #[.int .i64 t430, .int .i64 t431, .int .i64 t432]), (25, .agg #[.int .i64 t433, .int .i64 t434, .int .i64 t435]), (26, .tuple #[.agg #[.int .i64 t436, s_.1], .int .i64 t440]), (7, .pointer (some ⟨s_.2, 0, none⟩)), (21, .tuple #[.agg #[.int .i64 t436, s_.1], .int .i64 t440]), (27, .agg #[.int .i64 t436, s_.1]), (28, .int .i64 t440)]) (fun s_ w' => (w'.cell? ⟨gb416, 0, none⟩ = some (.int .i64 a0_0) ∧ w'.cell? ⟨gb416, 1, none⟩ = some (.int .i64 a0_1) ∧ w'.cell? ⟨gb416, 2, none⟩ = some (.int .i64 a0_2) ∧ w'.cell? ⟨gb417, 0, none⟩ = some (.int .i64 a1_0) ∧ w'.cell? ⟨gb417, 1, none⟩ = some (.int .i64 a1_1) ∧ w'.cell? ⟨gb417, 2, none⟩ = some (.int .i64 a1_2)) ∧ (Kd.R (Kd.int .i64) 2 w' w.heap.size (fun k_ => some k_ ≠ (s_.1 : Value).ownBlock) (.slice Ao19 t425.length co19) t425) ∧ (Kd.R (Kd.int .i64) 2 w' w.heap.size (fun k_ => some k_ ≠ (.slice Ao19 t425.length co19 : Value).ownBlock) s_.1 t437) ∧ (w'.heap[gb416]? = some (.cells #[.int .i64 a0_0, .int .i64 a0_1, .int .i64 a0_2] 32 (0, 0))) ∧ (w'.heap[gb417]? = some (.cells #[.int .i64 a1_0, .int .i64 a1_1, .int .i64 a1_2] 32 (0, 0))) ∧ (w'.heap[gb429]? = some (.cells #[.int .i64 t424, .slice Ao19 t425.length co19] 34 (0, 0))) ∧ (w'.heap[s_.2]? = some (.cells #[.int .i64 0, .slice none 0 0] 34 (0, 0))) ∧ (w.heap.size ≤ s_.2) ∧ (w.heap.size ≤ s_.2) ∧ (gb416 ≠ s_.2) ∧ (s_.2 ≠ gb416) ∧ (gb417 ≠ s_.2) ∧ (s_.2 ≠ gb417) ∧ (gb429 ≠ s_.2) ∧ (s_.2 ≠ gb429) ∧ (Below w.heap.size w w')) ?_ ?_
 rotate_left
 ·intro hCont
  refine two_ (i := 1) (j := 8) (Ni := some 23) (Nj := some 7) #[true, true, true, false, false, false, false, false, false, false, false] #[true, false, true, false, false, false, false, false, true, false, false] rfl rfl rfl rfl (two_of HT_.out (by kernel_rfl)) (by decide) (by decide) (fun K hK => ?_) (fun K hK => ?_)
  ·skip
   refine goes_ Try.func18 (by kernel_rfl) rfl #[.agg #[.int .i64 a0_0, .int .i64 a0_1, .int .i64 a0_2]] (by rfl) rfl rfl qB57 ?_
   with_reducible refine (laws_toCharacter.calls a0_0 a0_1 a0_2 t430 t431 t432 _ A6.out).mono ?_
   rintro e w23 ⟨rfl, hb⟩
   refine ⟨_, rfl, ?_⟩
   have n0_ := Aside0.mk (Kd.R_below qB111 hb)
   have n1_ := Aside0.mk (blk_below (g := gb416) (o := .cells #[.int .i64 a0_0, .int .i64 a0_1, .int .i64 a0_2] 32 (0, 0)) qB90 hb)
   have n2_ := Aside0.mk (blk_below (g := gb417) (o := .cells #[.int .i64 a1_0, .int .i64 a1_1, .int .i64 a1_2] 32 (0, 0)) qB91 hb)
   have n3_ := Aside0.mk (blk_below (g := gb429) (o := .cells #[.int .i64 t424, .slice Ao19 t425.length co19] 34 (0, 0)) qB92 hb)
   have n4_ := Aside0.mk (below_step qB22 hb)
   clear HO427
   clear BK416
   clear BK417
   clear BK429
   clear HB
   have HO427 := n0_
   have BK416 := n1_
   have BK417 := n2_
   have BK429 := n3_
   have HB := n4_
   clear n0_ n1_ n2_ n3_ n4_
   (try clear hb)
   (try clear hb2)
   (try clear hk)
   (try clear hi)
   refine hK.out _ _ ⟨(blk_cell BK416.out 0).trans rfl, (blk_cell BK416.out 1).trans rfl, (blk_cell BK416.out 2).trans rfl, (blk_cell BK417.out 0).trans rfl, (blk_cell BK417.out 1).trans rfl, (blk_cell BK417.out 2).trans rfl⟩ (fun hHeld => ?_)
   clear hK K
   refine norm_ (a' := ?_) ?_ ?_
   rotate_left
   ·show Act.put _ (some 23) _ = _
    simp only [Act.put, List.setIfInBounds_toArray, List.set_cons_zero, List.set_cons_succ, i64_w, i32_w]
    rfl
   refine two_ (i := 3) (j := 8) (Ni := some 25) (Nj := some 7) #[true, true, true, true, false, false, false, false, false, false, false] #[true, true, true, false, false, false, false, false, true, false, false] rfl rfl rfl rfl (two_of HT_.out (by kernel_rfl)) (by decide) (by decide) (fun K hK => ?_) (fun K hK => ?_)
   ·skip
    refine goes_ Try.func18 (by kernel_rfl) rfl #[.agg #[.int .i64 a1_0, .int .i64 a1_1, .int .i64 a1_2]] (by rfl) rfl rfl qB57 ?_
    with_reducible refine (laws_toCharacter.calls a1_0 a1_1 a1_2 t433 t434 t435 _ A7.out).mono ?_
    rintro e w24 ⟨rfl, hb⟩
    refine ⟨_, rfl, ?_⟩
    have n0_ := Aside0.mk (Kd.R_below qB111 hb)
    have n1_ := Aside0.mk (blk_below (g := gb416) (o := .cells #[.int .i64 a0_0, .int .i64 a0_1, .int .i64 a0_2] 32 (0, 0)) qB90 hb)
    have n2_ := Aside0.mk (blk_below (g := gb417) (o := .cells #[.int .i64 a1_0, .int .i64 a1_1, .int .i64 a1_2] 32 (0, 0)) qB91 hb)
    have n3_ := Aside0.mk (blk_below (g := gb429) (o := .cells #[.int .i64 t424, .slice Ao19 t425.length co19] 34 (0, 0)) qB92 hb)
    have n4_ := Aside0.mk (below_step qB22 hb)
    clear HO427
    clear BK416
    clear BK417
    clear BK429
    clear HB
    have HO427 := n0_
    have BK416 := n1_
    have BK417 := n2_
    have BK429 := n3_
    have HB := n4_
    clear n0_ n1_ n2_ n3_ n4_
    (try clear hb)
    (try clear hb2)
    (try clear hk)
    (try clear hi)
    refine hK.out _ _ ⟨(blk_cell BK416.out 0).trans rfl, (blk_cell BK416.out 1).trans rfl, (blk_cell BK416.out 2).trans rfl, (blk_cell BK417.out 0).trans rfl, (blk_cell BK417.out 1).trans rfl, (blk_cell BK417.out 2).trans rfl⟩ (fun hHeld => ?_)
    clear hK K
    refine norm_ (a' := ?_) ?_ ?_
    rotate_left
    ·show Act.put _ (some 25) _ = _
     simp only [Act.put, List.setIfInBounds_toArray, List.set_cons_zero, List.set_cons_succ, i64_w, i32_w]
     rfl
    refine two_ (i := 4) (j := 8) (Ni := some 26) (Nj := some 7) #[true, true, true, true, true, false, false, false, false, false, false] #[true, true, true, true, false, false, false, false, true, false, false] rfl rfl rfl rfl (two_of HT_.out (by kernel_rfl)) (by decide) (by decide) (fun K hK => ?_) (fun K hK => ?_)
    ·skip
     refine goes_ Try.func24 (by kernel_rfl) rfl #[.agg #[.int .i64 t430, .int .i64 t431, .int .i64 t432], .agg #[.int .i64 t433, .int .i64 t434, .int .i64 t435]] (by rfl) rfl rfl qB57 ?_
     with_reducible refine (impl_JacobiSum.calls k t430 t431 t432 t433 t434 t435 t436 t437 t440 _ A8.out).mono ?_
     rintro e w25 ⟨v438, rfl, ho0, hb⟩
     refine ⟨_, rfl, ?_⟩
     have n0_ := Aside0.mk (Kd.R_elder' qB111 (Kd.R_base ho0) hb)
     have n1_ := Aside0.mk (Kd.R_lower (Kd.R_new' ho0 (Kd.R_lt qB111)) (below_size qB22))
     have n2_ := Aside0.mk (blk_below (g := gb416) (o := .cells #[.int .i64 a0_0, .int .i64 a0_1, .int .i64 a0_2] 32 (0, 0)) qB90 hb)
     have n3_ := Aside0.mk (blk_below (g := gb417) (o := .cells #[.int .i64 a1_0, .int .i64 a1_1, .int .i64 a1_2] 32 (0, 0)) qB91 hb)
     have n4_ := Aside0.mk (blk_below (g := gb429) (o := .cells #[.int .i64 t424, .slice Ao19 t425.length co19] 34 (0, 0)) qB92 hb)
     have n5_ := Aside0.mk (below_step qB22 hb)
     clear HO427
     clear BK416
     clear BK417
     clear BK429
     clear HB
     have HO427 := n0_
     have HO439 := n1_
     have BK416 := n2_
     have BK417 := n3_
     have BK429 := n4_
     have HB := n5_
     clear n0_ n1_ n2_ n3_ n4_ n5_
     (try clear hb)
     (try clear hb2)
     (try clear hk)
     (try clear hi)
     (try clear ho0)
     refine hK.out _ _ ⟨(blk_cell BK416.out 0).trans rfl, (blk_cell BK416.out 1).trans rfl, (blk_cell BK416.out 2).trans rfl, (blk_cell BK417.out 0).trans rfl, (blk_cell BK417.out 1).trans rfl, (blk_cell BK417.out 2).trans rfl⟩ (fun hHeld => ?_)
     clear hK K
     refine norm_ (a' := ?_) ?_ ?_
     rotate_left
     ·show Act.put _ (some 26) _ = _
      simp only [Act.put, List.setIfInBounds_toArray, List.set_cons_zero, List.set_cons_succ, i64_w, i32_w]
      rfl
     refine pure_ (i := 5) (N := some 21) (v := ?_) (a' := ?_) #[true, true, true, true, true, true, false, false, false, false, false] rfl rfl (any_of HT_.out (by kernel_rfl)) (fun _ _ _ h => h) (Or.inl ⟨by rfl, ?_⟩) ?_ ?_
     rotate_left
     ·intro w'
      go_simp
      with_reducible rfl
     rotate_left
     ·simp only [Act.put, List.setIfInBounds_toArray, List.set_cons_zero, List.set_cons_succ, i64_w, i32_w]
      rfl
     refine pure_ (i := 6) (N := some 27) (v := ?_) (a' := ?_) #[true, true, true, true, true, true, true, false, false, false, false] rfl rfl (any_of HT_.out (by kernel_rfl)) (fun _ _ _ h => h) (Or.inl ⟨by rfl, ?_⟩) ?_ ?_
     rotate_left
     ·intro w'
      go_simp
      with_reducible rfl
     rotate_left
     ·simp only [Act.put, List.setIfInBounds_toArray, List.set_cons_zero, List.set_cons_succ, i64_w, i32_w]
      rfl
     refine pure_ (i := 7) (N := some 28) (v := ?_) (a' := ?_) #[true, true, true, true, true, true, true, true, false, false, false] rfl rfl (any_of HT_.out (by kernel_rfl)) (fun _ _ _ h => h) (Or.inl ⟨by rfl, ?_⟩) ?_ ?_
     rotate_left
     ·intro w'
      go_simp
      with_reducible rfl
     rotate_left
     ·simp only [Act.put, List.setIfInBounds_toArray, List.set_cons_zero, List.set_cons_succ, i64_w, i32_w]
      rfl
     refine one_ (i := 8) (N := some 7) #[true, true, true, true, true, true, true, true, true, false, false] rfl rfl (one_of HT_.out (by kernel_rfl)) (by decide) (fun K hK => ?_)
     refine box_step ?hg (N := 7) ?hd (cs := #[.int .i64 0, .slice none 0 0]) (t := 34) ?hr ?_; (case hd => rfl); (case hg => rfl); (case hr => first | (go_simp; done) | (go_simp; rfl))
     intro gb441 hg w26 hbox hb
     have n0_ := Aside0.mk (Kd.R_below qB111 hb)
     have n1_ := Aside0.mk (Kd.R_below (by (with_reducible repeat (first | apply Kd.R_alloc | apply Kd.R_drewN | apply Kd.R_drew)); exact HO439.out) hb)
     have n2_ := Aside0.mk (blk_below (g := gb416) (o := .cells #[.int .i64 a0_0, .int .i64 a0_1, .int .i64 a0_2] 32 (0, 0)) qB90 hb)
     have n3_ := Aside0.mk (blk_below (g := gb417) (o := .cells #[.int .i64 a1_0, .int .i64 a1_1, .int .i64 a1_2] 32 (0, 0)) qB91 hb)
     have n4_ := Aside0.mk (blk_below (g := gb429) (o := .cells #[.int .i64 t424, .slice Ao19 t425.length co19] 34 (0, 0)) qB92 hb)
     have n5_ := Aside0.mk (below_step qB22 hb)
     have n6_ := Aside0.mk (hbox)
     have n7_ := Aside0.mk ((by rw [hg]; exact (below_size qB22) : w.heap.size ≤ gb441))
     have n8_ := Aside0.mk ((by rw [hg]; exact (below_size qB22) : w.heap.size ≤ gb441))
     have n9_ := Aside0.mk ((by rw [hg]; exact Nat.ne_of_lt (blk_lt (g := gb416) (o := .cells #[.int .i64 a0_0, .int .i64 a0_1, .int .i64 a0_2] 32 (0, 0)) qB90) : gb416 ≠ gb441))
     have n10_ := Aside0.mk ((by rw [hg]; exact Nat.ne_of_gt (blk_lt (g := gb416) (o := .cells #[.int .i64 a0_0, .int .i64 a0_1, .int .i64 a0_2] 32 (0, 0)) qB90) : gb441 ≠ gb416))
     have n11_ := Aside0.mk ((by rw [hg]; exact Nat.ne_of_lt (blk_lt (g := gb417) (o := .cells #[.int .i64 a1_0, .int .i64 a1_1, .int .i64 a1_2] 32 (0, 0)) qB91) : gb417 ≠ gb441))
     have n12_ := Aside0.mk ((by rw [hg]; exact Nat.ne_of_gt (blk_lt (g := gb417) (o := .cells #[.int .i64 a1_0, .int .i64 a1_1, .int .i64 a1_2] 32 (0, 0)) qB91) : gb441 ≠ gb417))
     have n13_ := Aside0.mk ((by rw [hg]; exact Nat.ne_of_lt (blk_lt (g := gb429) (o := .cells #[.int .i64 t424, .slice Ao19 t425.length co19] 34 (0, 0)) qB92) : gb429 ≠ gb441))
     have n14_ := Aside0.mk ((by rw [hg]; exact Nat.ne_of_gt (blk_lt (g := gb429) (o := .cells #[.int .i64 t424, .slice Ao19 t425.length co19] 34 (0, 0)) qB92) : gb441 ≠ gb429))
     clear HO427
     clear HO439
     clear BK416
     clear BK417
     clear BK429
     clear HB
     have HO427 := n0_
     have HO439 := n1_
     have BK416 := n2_
     have BK417 := n3_
     have BK429 := n4_
     have HB := n5_
     have BK441 := n6_
     have GW441 := n7_
     have GE441 := n8_
     have NB416_441 := n9_
     have NB441_416 := n10_
     have NB417_441 := n11_
     have NB441_417 := n12_
     have NB429_441 := n13_
     have NB441_429 := n14_
     clear n0_ n1_ n2_ n3_ n4_ n5_ n6_ n7_ n8_ n9_ n10_ n11_ n12_ n13_ n14_
     clear hb hbox hg
     refine hK.out _ _ ⟨(blk_cell BK416.out 0).trans rfl, (blk_cell BK416.out 1).trans rfl, (blk_cell BK416.out 2).trans rfl, (blk_cell BK417.out 0).trans rfl, (blk_cell BK417.out 1).trans rfl, (blk_cell BK417.out 2).trans rfl⟩ (fun hHeld => ?_)
     clear hK K
     refine norm_ (a' := ?_) ?_ ?_
     rotate_left
     ·show Act.put _ (some 7) _ = _
      simp only [Act.put, List.setIfInBounds_toArray, List.set_cons_zero, List.set_cons_succ, i64_w, i32_w]
      rfl
     exact norm_ qB117 (hCont (v438, gb441) _ ⟨hHeld, qB58, qB59, qB90, qB91, qB92, qB93, GW441.out, GE441.out, NB416_441.out, NB441_416.out, NB417_441.out, NB441_417.out, NB429_441.out, NB441_429.out, qB18⟩)
    ·skip
     refine box_step ?hg (N := 7) ?hd (cs := #[.int .i64 0, .slice none 0 0]) (t := 34) ?hr ?_; (case hd => rfl); (case hg => rfl); (case hr => first | (go_simp; done) | (go_simp; rfl))
     intro gb441 hg w25 hbox hb
     have n0_ := Aside0.mk (Kd.R_below qB111 hb)
     have n1_ := Aside0.mk (blk_below (g := gb416) (o := .cells #[.int .i64 a0_0, .int .i64 a0_1, .int .i64 a0_2] 32 (0, 0)) qB90 hb)
     have n2_ := Aside0.mk (blk_below (g := gb417) (o := .cells #[.int .i64 a1_0, .int .i64 a1_1, .int .i64 a1_2] 32 (0, 0)) qB91 hb)
     have n3_ := Aside0.mk (blk_below (g := gb429) (o := .cells #[.int .i64 t424, .slice Ao19 t425.length co19] 34 (0, 0)) qB92 hb)
     have n4_ := Aside0.mk (below_step qB22 hb)
     have n5_ := Aside0.mk (hbox)
     have n6_ := Aside0.mk ((by rw [hg]; exact (below_size qB22) : w.heap.size ≤ gb441))
     have n7_ := Aside0.mk ((by rw [hg]; exact (below_size qB22) : w.heap.size ≤ gb441))
     have n8_ := Aside0.mk ((by rw [hg]; exact Nat.ne_of_lt (blk_lt (g := gb416) (o := .cells #[.int .i64 a0_0, .int .i64 a0_1, .int .i64 a0_2] 32 (0, 0)) qB90) : gb416 ≠ gb441))
     have n9_ := Aside0.mk ((by rw [hg]; exact Nat.ne_of_gt (blk_lt (g := gb416) (o := .cells #[.int .i64 a0_0, .int .i64 a0_1, .int .i64 a0_2] 32 (0, 0)) qB90) : gb441 ≠ gb416))
     have n10_ := Aside0.mk ((by rw [hg]; exact Nat.ne_of_lt (blk_lt (g := gb417) (o := .cells #[.int .i64 a1_0, .int .i64 a1_1, .int .i64 a1_2] 32 (0, 0)) qB91) : gb417 ≠ gb441))
     have n11_ := Aside0.mk ((by rw [hg]; exact Nat.ne_of_gt (blk_lt (g := gb417) (o := .cells #[.int .i64 a1_0, .int .i64 a1_1, .int .i64 a1_2] 32 (0, 0)) qB91) : gb441 ≠ gb417))
     have n12_ := Aside0.mk ((by rw [hg]; exact Nat.ne_of_lt (blk_lt (g := gb429) (o := .cells #[.int .i64 t424, .slice Ao19 t425.length co19] 34 (0, 0)) qB92) : gb429 ≠ gb441))
     have n13_ := Aside0.mk ((by rw [hg]; exact Nat.ne_of_gt (blk_lt (g := gb429) (o := .cells #[.int .i64 t424, .slice Ao19 t425.length co19] 34 (0, 0)) qB92) : gb441 ≠ gb429))
     clear HO427
     clear BK416
     clear BK417
     clear BK429
     clear HB
     have HO427 := n0_
     have BK416 := n1_
     have BK417 := n2_
     have BK429 := n3_
     have HB := n4_
     have BK441 := n5_
     have GW441 := n6_
     have GE441 := n7_
     have NB416_441 := n8_
     have NB441_416 := n9_
     have NB417_441 := n10_
     have NB441_417 := n11_
     have NB429_441 := n12_
     have NB441_429 := n13_
     clear n0_ n1_ n2_ n3_ n4_ n5_ n6_ n7_ n8_ n9_ n10_ n11_ n12_ n13_
     clear hb hbox hg
     refine hK.out _ _ ⟨(blk_cell BK416.out 0).trans rfl, (blk_cell BK416.out 1).trans rfl, (blk_cell BK416.out 2).trans rfl, (blk_cell BK417.out 0).trans rfl, (blk_cell BK417.out 1).trans rfl, (blk_cell BK417.out 2).trans rfl⟩ (fun hHeld => ?_)
     clear hK K
     refine norm_ (a' := ?_) ?_ ?_
     rotate_left
     ·show Act.put _ (some 7) _ = _
      simp only [Act.put, List.setIfInBounds_toArray, List.set_cons_zero, List.set_cons_succ, i64_w, i32_w]
      rfl
     refine one_ (i := 4) (N := some 26) #[true, true, true, true, true, false, false, false, true, false, false] rfl rfl (one_of HT_.out (by kernel_rfl)) (by decide) (fun K hK => ?_)
     refine goes_ Try.func24 (by kernel_rfl) rfl #[.agg #[.int .i64 t430, .int .i64 t431, .int .i64 t432], .agg #[.int .i64 t433, .int .i64 t434, .int .i64 t435]] (by rfl) rfl rfl qB57 ?_
     with_reducible refine (impl_JacobiSum.calls k t430 t431 t432 t433 t434 t435 t436 t437 t440 _ A8.out).mono ?_
     rintro e w26 ⟨v438, rfl, ho0, hb⟩
     refine ⟨_, rfl, ?_⟩
     have n0_ := Aside0.mk (Kd.R_elder' qB111 (Kd.R_base ho0) hb)
     have n1_ := Aside0.mk (Kd.R_lower (Kd.R_new' ho0 (Kd.R_lt qB111)) (below_size qB18))
     have n2_ := Aside0.mk (blk_below (g := gb416) (o := .cells #[.int .i64 a0_0, .int .i64 a0_1, .int .i64 a0_2] 32 (0, 0)) qB90 hb)
     have n3_ := Aside0.mk (blk_below (g := gb417) (o := .cells #[.int .i64 a1_0, .int .i64 a1_1, .int .i64 a1_2] 32 (0, 0)) qB91 hb)
     have n4_ := Aside0.mk (blk_below (g := gb429) (o := .cells #[.int .i64 t424, .slice Ao19 t425.length co19] 34 (0, 0)) qB92 hb)
     have n5_ := Aside0.mk (blk_below (g := gb441) (o := .cells #[.int .i64 0, .slice none 0 0] 34 (0, 0)) qB93 hb)
     have n6_ := Aside0.mk (below_step qB18 hb)
     clear HO427
     clear BK416
     clear BK417
     clear BK429
     clear BK441
     clear HB
     have HO427 := n0_
     have HO439 := n1_
     have BK416 := n2_
     have BK417 := n3_
     have BK429 := n4_
     have BK441 := n5_
     have HB := n6_
     clear n0_ n1_ n2_ n3_ n4_ n5_ n6_
     (try clear hb)
     (try clear hb2)
     (try clear hk)
     (try clear hi)
     (try clear ho0)
     refine hK.out _ _ ⟨(blk_cell BK416.out 0).trans rfl, (blk_cell BK416.out 1).trans rfl, (blk_cell BK416.out 2).trans rfl, (blk_cell BK417.out 0).trans rfl, (blk_cell BK417.out 1).trans rfl, (blk_cell BK417.out 2).trans rfl⟩ (fun hHeld => ?_)
     clear hK K
     refine norm_ (a' := ?_) ?_ ?_
     rotate_left
     ·show Act.put _ (some 26) _ = _
      simp only [Act.put, List.setIfInBounds_toArray, List.set_cons_zero, List.set_cons_succ, i64_w, i32_w]
      rfl
     refine pure_ (i := 5) (N := some 21) (v := ?_) (a' := ?_) #[true, true, true, true, true, true, false, false, true, false, false] rfl rfl (any_of HT_.out (by kernel_rfl)) (fun _ _ _ h => h) (Or.inl ⟨by rfl, ?_⟩) ?_ ?_
     rotate_left
     ·intro w'
      go_simp
      with_reducible rfl
     rotate_left
     ·simp only [Act.put, List.setIfInBounds_toArray, List.set_cons_zero, List.set_cons_succ, i64_w, i32_w]
      rfl
     refine pure_ (i := 6) (N := some 27) (v := ?_) (a' := ?_) #[true, true, true, true, true, true, true, false, true, false, false] rfl rfl (any_of HT_.out (by kernel_rfl)) (fun _ _ _ h => h) (Or.inl ⟨by rfl, ?_⟩) ?_ ?_
     rotate_left
     ·intro w'
      go_simp
      with_reducible rfl
     rotate_left
     ·simp only [Act.put, List.setIfInBounds_toArray, List.set_cons_zero, List.set_cons_succ, i64_w, i32_w]
      rfl
     refine pure_ (i := 7) (N := some 28) (v := ?_) (a' := ?_) #[true, true, true, true, true, true, true, true, true, false, false] rfl rfl (any_of HT_.out (by kernel_rfl)) (fun _ _ _ h => h) (Or.inl ⟨by rfl, ?_⟩) ?_ ?_
     rotate_left
     ·intro w'
      go_simp
      with_reducible rfl
     rotate_left
     ·simp only [Act.put, List.setIfInBounds_toArray, List.set_cons_zero, List.set_cons_succ, i64_w, i32_w]
      rfl
     exact norm_ qB117 (hCont (v438, gb441) _ ⟨hHeld, qB58, qB59, qB90, qB91, qB92, qB93, GW441.out, GE441.out, NB416_441.out, NB441_416.out, NB417_441.out, NB441_417.out, NB429_441.out, NB441_429.out, qB18⟩)
   ·skip
    refine box_step ?hg (N := 7) ?hd (cs := #[.int .i64 0, .slice none 0 0]) (t := 34) ?hr ?_; (case hd => rfl); (case hg => rfl); (case hr => first | (go_simp; done) | (go_simp; rfl))
    intro gb441 hg w24 hbox hb
    have n0_ := Aside0.mk (Kd.R_below qB111 hb)
    have n1_ := Aside0.mk (blk_below (g := gb416) (o := .cells #[.int .i64 a0_0, .int .i64 a0_1, .int .i64 a0_2] 32 (0, 0)) qB90 hb)
    have n2_ := Aside0.mk (blk_below (g := gb417) (o := .cells #[.int .i64 a1_0, .int .i64 a1_1, .int .i64 a1_2] 32 (0, 0)) qB91 hb)
    have n3_ := Aside0.mk (blk_below (g := gb429) (o := .cells #[.int .i64 t424, .slice Ao19 t425.length co19] 34 (0, 0)) qB92 hb)
    have n4_ := Aside0.mk (below_step qB22 hb)
    have n5_ := Aside0.mk (hbox)
    have n6_ := Aside0.mk ((by rw [hg]; exact (below_size qB22) : w.heap.size ≤ gb441))
    have n7_ := Aside0.mk ((by rw [hg]; exact (below_size qB22) : w.heap.size ≤ gb441))
    have n8_ := Aside0.mk ((by rw [hg]; exact Nat.ne_of_lt (blk_lt (g := gb416) (o := .cells #[.int .i64 a0_0, .int .i64 a0_1, .int .i64 a0_2] 32 (0, 0)) qB90) : gb416 ≠ gb441))
    have n9_ := Aside0.mk ((by rw [hg]; exact Nat.ne_of_gt (blk_lt (g := gb416) (o := .cells #[.int .i64 a0_0, .int .i64 a0_1, .int .i64 a0_2] 32 (0, 0)) qB90) : gb441 ≠ gb416))
    have n10_ := Aside0.mk ((by rw [hg]; exact Nat.ne_of_lt (blk_lt (g := gb417) (o := .cells #[.int .i64 a1_0, .int .i64 a1_1, .int .i64 a1_2] 32 (0, 0)) qB91) : gb417 ≠ gb441))
    have n11_ := Aside0.mk ((by rw [hg]; exact Nat.ne_of_gt (blk_lt (g := gb417) (o := .cells #[.int .i64 a1_0, .int .i64 a1_1, .int .i64 a1_2] 32 (0, 0)) qB91) : gb441 ≠ gb417))
    have n12_ := Aside0.mk ((by rw [hg]; exact Nat.ne_of_lt (blk_lt (g := gb429) (o := .cells #[.int .i64 t424, .slice Ao19 t425.length co19] 34 (0, 0)) qB92) : gb429 ≠ gb441))
    have n13_ := Aside0.mk ((by rw [hg]; exact Nat.ne_of_gt (blk_lt (g := gb429) (o := .cells #[.int .i64 t424, .slice Ao19 t425.length co19] 34 (0, 0)) qB92) : gb441 ≠ gb429))
    clear HO427
    clear BK416
    clear BK417
    clear BK429
    clear HB
    have HO427 := n0_
    have BK416 := n1_
    have BK417 := n2_
    have BK429 := n3_
    have HB := n4_
    have BK441 := n5_
    have GW441 := n6_
    have GE441 := n7_
    have NB416_441 := n8_
    have NB441_416 := n9_
    have NB417_441 := n10_
    have NB441_417 := n11_
    have NB429_441 := n12_
    have NB441_429 := n13_
    clear n0_ n1_ n2_ n3_ n4_ n5_ n6_ n7_ n8_ n9_ n10_ n11_ n12_ n13_
    clear hb hbox hg
    refine hK.out _ _ ⟨(blk_cell BK416.out 0).trans rfl, (blk_cell BK416.out 1).trans rfl, (blk_cell BK416.out 2).trans rfl, (blk_cell BK417.out 0).trans rfl, (blk_cell BK417.out 1).trans rfl, (blk_cell BK417.out 2).trans rfl⟩ (fun hHeld => ?_)
    clear hK K
    refine norm_ (a' := ?_) ?_ ?_
    rotate_left
    ·show Act.put _ (some 7) _ = _
     simp only [Act.put, List.setIfInBounds_toArray, List.set_cons_zero, List.set_cons_succ, i64_w, i32_w]
     rfl
    refine one_ (i := 3) (N := some 25) #[true, true, true, true, false, false, false, false, true, false, false] rfl rfl (one_of HT_.out (by kernel_rfl)) (by decide) (fun K hK => ?_)
    refine goes_ Try.func18 (by kernel_rfl) rfl #[.agg #[.int .i64 a1_0, .int .i64 a1_1, .int .i64 a1_2]] (by rfl) rfl rfl qB57 ?_
    with_reducible refine (laws_toCharacter.calls a1_0 a1_1 a1_2 t433 t434 t435 _ A7.out).mono ?_
    rintro e w25 ⟨rfl, hb⟩
    refine ⟨_, rfl, ?_⟩
    have n0_ := Aside0.mk (Kd.R_below qB111 hb)
    have n1_ := Aside0.mk (blk_below (g := gb416) (o := .cells #[.int .i64 a0_0, .int .i64 a0_1, .int .i64 a0_2] 32 (0, 0)) qB90 hb)
    have n2_ := Aside0.mk (blk_below (g := gb417) (o := .cells #[.int .i64 a1_0, .int .i64 a1_1, .int .i64 a1_2] 32 (0, 0)) qB91 hb)
    have n3_ := Aside0.mk (blk_below (g := gb429) (o := .cells #[.int .i64 t424, .slice Ao19 t425.length co19] 34 (0, 0)) qB92 hb)
    have n4_ := Aside0.mk (blk_below (g := gb441) (o := .cells #[.int .i64 0, .slice none 0 0] 34 (0, 0)) qB93 hb)
    have n5_ := Aside0.mk (below_step qB18 hb)
    clear HO427
    clear BK416
    clear BK417
    clear BK429
    clear BK441
    clear HB
    have HO427 := n0_
    have BK416 := n1_
    have BK417 := n2_
    have BK429 := n3_
    have BK441 := n4_
    have HB := n5_
    clear n0_ n1_ n2_ n3_ n4_ n5_
    (try clear hb)
    (try clear hb2)
    (try clear hk)
    (try clear hi)
    refine hK.out _ _ ⟨(blk_cell BK416.out 0).trans rfl, (blk_cell BK416.out 1).trans rfl, (blk_cell BK416.out 2).trans rfl, (blk_cell BK417.out 0).trans rfl, (blk_cell BK417.out 1).trans rfl, (blk_cell BK417.out 2).trans rfl⟩ (fun hHeld => ?_)
    clear hK K
    refine norm_ (a' := ?_) ?_ ?_
    rotate_left
    ·show Act.put _ (some 25) _ = _
     simp only [Act.put, List.setIfInBounds_toArray, List.set_cons_zero, List.set_cons_succ, i64_w, i32_w]
     rfl
    refine one_ (i := 4) (N := some 26) #[true, true, true, true, true, false, false, false, true, false, false] rfl rfl (one_of HT_.out (by kernel_rfl)) (by decide) (fun K hK => ?_)
    refine goes_ Try.func24 (by kernel_rfl) rfl #[.agg #[.int .i64 t430, .int .i64 t431, .int .i64 t432], .agg #[.int .i64 t433, .int .i64 t434, .int .i64 t435]] (by rfl) rfl rfl qB57 ?_
    with_reducible refine (impl_JacobiSum.calls k t430 t431 t432 t433 t434 t435 t436 t437 t440 _ A8.out).mono ?_
    rintro e w26 ⟨v438, rfl, ho0, hb⟩
    refine ⟨_, rfl, ?_⟩
    have n0_ := Aside0.mk (Kd.R_elder' qB111 (Kd.R_base ho0) hb)
    have n1_ := Aside0.mk (Kd.R_lower (Kd.R_new' ho0 (Kd.R_lt qB111)) (below_size qB18))
    have n2_ := Aside0.mk (blk_below (g := gb416) (o := .cells #[.int .i64 a0_0, .int .i64 a0_1, .int .i64 a0_2] 32 (0, 0)) qB90 hb)
    have n3_ := Aside0.mk (blk_below (g := gb417) (o := .cells #[.int .i64 a1_0, .int .i64 a1_1, .int .i64 a1_2] 32 (0, 0)) qB91 hb)
    have n4_ := Aside0.mk (blk_below (g := gb429) (o := .cells #[.int .i64 t424, .slice Ao19 t425.length co19] 34 (0, 0)) qB92 hb)
    have n5_ := Aside0.mk (blk_below (g := gb441) (o := .cells #[.int .i64 0, .slice none 0 0] 34 (0, 0)) qB93 hb)
    have n6_ := Aside0.mk (below_step qB18 hb)
    clear HO427
    clear BK416
    clear BK417
    clear BK429
    clear BK441
    clear HB
    have HO427 := n0_
    have HO439 := n1_
    have BK416 := n2_
    have BK417 := n3_
    have BK429 := n4_
    have BK441 := n5_
    have HB := n6_
    clear n0_ n1_ n2_ n3_ n4_ n5_ n6_
    (try clear hb)
    (try clear hb2)
    (try clear hk)
    (try clear hi)
    (try clear ho0)
    refine hK.out _ _ ⟨(blk_cell BK416.out 0).trans rfl, (blk_cell BK416.out 1).trans rfl, (blk_cell BK416.out 2).trans rfl, (blk_cell BK417.out 0).trans rfl, (blk_cell BK417.out 1).trans rfl, (blk_cell BK417.out 2).trans rfl⟩ (fun hHeld => ?_)
    clear hK K
    refine norm_ (a' := ?_) ?_ ?_
    rotate_left
    ·show Act.put _ (some 26) _ = _
     simp only [Act.put, List.setIfInBounds_toArray, List.set_cons_zero, List.set_cons_succ, i64_w, i32_w]
     rfl
    refine pure_ (i := 5) (N := some 21) (v := ?_) (a' := ?_) #[true, true, true, true, true, true, false, false, true, false, false] rfl rfl (any_of HT_.out (by kernel_rfl)) (fun _ _ _ h => h) (Or.inl ⟨by rfl, ?_⟩) ?_ ?_
    rotate_left
    ·intro w'
     go_simp
     with_reducible rfl
    rotate_left
    ·simp only [Act.put, List.setIfInBounds_toArray, List.set_cons_zero, List.set_cons_succ, i64_w, i32_w]
     rfl
    refine pure_ (i := 6) (N := some 27) (v := ?_) (a' := ?_) #[true, true, true, true, true, true, true, false, true, false, false] rfl rfl (any_of HT_.out (by kernel_rfl)) (fun _ _ _ h => h) (Or.inl ⟨by rfl, ?_⟩) ?_ ?_
    rotate_left
    ·intro w'
     go_simp
     with_reducible rfl
    rotate_left
    ·simp only [Act.put, List.setIfInBounds_toArray, List.set_cons_zero, List.set_cons_succ, i64_w, i32_w]
     rfl
    refine pure_ (i := 7) (N := some 28) (v := ?_) (a' := ?_) #[true, true, true, true, true, true, true, true, true, false, false] rfl rfl (any_of HT_.out (by kernel_rfl)) (fun _ _ _ h => h) (Or.inl ⟨by rfl, ?_⟩) ?_ ?_
    rotate_left
    ·intro w'
     go_simp
     with_reducible rfl
    rotate_left
    ·simp only [Act.put, List.setIfInBounds_toArray, List.set_cons_zero, List.set_cons_succ, i64_w, i32_w]
     rfl
    exact norm_ qB117 (hCont (v438, gb441) _ ⟨hHeld, qB58, qB59, qB90, qB91, qB92, qB93, GW441.out, GE441.out, NB416_441.out, NB441_416.out, NB417_441.out, NB441_417.out, NB429_441.out, NB441_429.out, qB18⟩)
  ·skip
   refine box_step ?hg (N := 7) ?hd (cs := #[.int .i64 0, .slice none 0 0]) (t := 34) ?hr ?_; (case hd => rfl); (case hg => rfl); (case hr => first | (go_simp; done) | (go_simp; rfl))
   intro gb441 hg w23 hbox hb
   have n0_ := Aside0.mk (Kd.R_below qB111 hb)
   have n1_ := Aside0.mk (blk_below (g := gb416) (o := .cells #[.int .i64 a0_0, .int .i64 a0_1, .int .i64 a0_2] 32 (0, 0)) qB90 hb)
   have n2_ := Aside0.mk (blk_below (g := gb417) (o := .cells #[.int .i64 a1_0, .int .i64 a1_1, .int .i64 a1_2] 32 (0, 0)) qB91 hb)
   have n3_ := Aside0.mk (blk_below (g := gb429) (o := .cells #[.int .i64 t424, .slice Ao19 t425.length co19] 34 (0, 0)) qB92 hb)
   have n4_ := Aside0.mk (below_step qB22 hb)
   have n5_ := Aside0.mk (hbox)
   have n6_ := Aside0.mk ((by rw [hg]; exact (below_size qB22) : w.heap.size ≤ gb441))
   have n7_ := Aside0.mk ((by rw [hg]; exact (below_size qB22) : w.heap.size ≤ gb441))
   have n8_ := Aside0.mk ((by rw [hg]; exact Nat.ne_of_lt (blk_lt (g := gb416) (o := .cells #[.int .i64 a0_0, .int .i64 a0_1, .int .i64 a0_2] 32 (0, 0)) qB90) : gb416 ≠ gb441))
   have n9_ := Aside0.mk ((by rw [hg]; exact Nat.ne_of_gt (blk_lt (g := gb416) (o := .cells #[.int .i64 a0_0, .int .i64 a0_1, .int .i64 a0_2] 32 (0, 0)) qB90) : gb441 ≠ gb416))
   have n10_ := Aside0.mk ((by rw [hg]; exact Nat.ne_of_lt (blk_lt (g := gb417) (o := .cells #[.int .i64 a1_0, .int .i64 a1_1, .int .i64 a1_2] 32 (0, 0)) qB91) : gb417 ≠ gb441))
   have n11_ := Aside0.mk ((by rw [hg]; exact Nat.ne_of_gt (blk_lt (g := gb417) (o := .cells #[.int .i64 a1_0, .int .i64 a1_1, .int .i64 a1_2] 32 (0, 0)) qB91) : gb441 ≠ gb417))
   have n12_ := Aside0.mk ((by rw [hg]; exact Nat.ne_of_lt (blk_lt (g := gb429) (o := .cells #[.int .i64 t424, .slice Ao19 t425.length co19] 34 (0, 0)) qB92) : gb429 ≠ gb441))
   have n13_ := Aside0.mk ((by rw [hg]; exact Nat.ne_of_gt (blk_lt (g := gb429) (o := .cells #[.int .i64 t424, .slice Ao19 t425.length co19] 34 (0, 0)) qB92) : gb441 ≠ gb429))
   clear HO427
   clear BK416
   clear BK417
   clear BK429
   clear HB
   have HO427 := n0_
   have BK416 := n1_
   have BK417 := n2_
   have BK429 := n3_
   have HB := n4_
   have BK441 := n5_
   have GW441 := n6_
   have GE441 := n7_
   have NB416_441 := n8_
   have NB441_416 := n9_
   have NB417_441 := n10_
   have NB441_417 := n11_
   have NB429_441 := n12_
   have NB441_429 := n13_
   clear n0_ n1_ n2_ n3_ n4_ n5_ n6_ n7_ n8_ n9_ n10_ n11_ n12_ n13_
   clear hb hbox hg
   refine hK.out _ _ ⟨(blk_cell BK416.out 0).trans rfl, (blk_cell BK416.out 1).trans rfl, (blk_cell BK416.out 2).trans rfl, (blk_cell BK417.out 0).trans rfl, (blk_cell BK417.out 1).trans rfl, (blk_cell BK417.out 2).trans rfl⟩ (fun hHeld => ?_)
   clear hK K
   refine norm_ (a' := ?_) ?_ ?_
   rotate_left
   ·show Act.put _ (some 7) _ = _
    simp only [Act.put, List.setIfInBounds_toArray, List.set_cons_zero, List.set_cons_succ, i64_w, i32_w]
    rfl
   refine one_ (i := 1) (N := some 23) #[true, true, true, false, false, false, false, false, true, false, false] rfl rfl (one_of HT_.out (by kernel_rfl)) (by decide) (fun K hK => ?_)
   refine goes_ Try.func18 (by kernel_rfl) rfl #[.agg #[.int .i64 a0_0, .int .i64 a0_1, .int .i64 a0_2]] (by rfl) rfl rfl qB57 ?_
   with_reducible refine (laws_toCharacter.calls a0_0 a0_1 a0_2 t430 t431 t432 _ A6.out).mono ?_
   rintro e w24 ⟨rfl, hb⟩
   refine ⟨_, rfl, ?_⟩
   have n0_ := Aside0.mk (Kd.R_below qB111 hb)
   have n1_ := Aside0.mk (blk_below (g := gb416) (o := .cells #[.int .i64 a0_0, .int .i64 a0_1, .int .i64 a0_2] 32 (0, 0)) qB90 hb)
   have n2_ := Aside0.mk (blk_below (g := gb417) (o := .cells #[.int .i64 a1_0, .int .i64 a1_1, .int .i64 a1_2] 32 (0, 0)) qB91 hb)
   have n3_ := Aside0.mk (blk_below (g := gb429) (o := .cells #[.int .i64 t424, .slice Ao19 t425.length co19] 34 (0, 0)) qB92 hb)
   have n4_ := Aside0.mk (blk_below (g := gb441) (o := .cells #[.int .i64 0, .slice none 0 0] 34 (0, 0)) qB93 hb)
   have n5_ := Aside0.mk (below_step qB18 hb)
   clear HO427
   clear BK416
   clear BK417
   clear BK429
   clear BK441
   clear HB
   have HO427 := n0_
   have BK416 := n1_
   have BK417 := n2_
   have BK429 := n3_
   have BK441 := n4_
   have HB := n5_
   clear n0_ n1_ n2_ n3_ n4_ n5_
   (try clear hb)
   (try clear hb2)
   (try clear hk)
   (try clear hi)
   refine hK.out _ _ ⟨(blk_cell BK416.out 0).trans rfl, (blk_cell BK416.out 1).trans rfl, (blk_cell BK416.out 2).trans rfl, (blk_cell BK417.out 0).trans rfl, (blk_cell BK417.out 1).trans rfl, (blk_cell BK417.out 2).trans rfl⟩ (fun hHeld => ?_)
   clear hK K
   refine norm_ (a' := ?_) ?_ ?_
   rotate_left
   ·show Act.put _ (some 23) _ = _
    simp only [Act.put, List.setIfInBounds_toArray, List.set_cons_zero, List.set_cons_succ, i64_w, i32_w]
    rfl
   refine one_ (i := 3) (N := some 25) #[true, true, true, true, false, false, false, false, true, false, false] rfl rfl (one_of HT_.out (by kernel_rfl)) (by decide) (fun K hK => ?_)
   refine goes_ Try.func18 (by kernel_rfl) rfl #[.agg #[.int .i64 a1_0, .int .i64 a1_1, .int .i64 a1_2]] (by rfl) rfl rfl qB57 ?_
   with_reducible refine (laws_toCharacter.calls a1_0 a1_1 a1_2 t433 t434 t435 _ A7.out).mono ?_
   rintro e w25 ⟨rfl, hb⟩
   refine ⟨_, rfl, ?_⟩
   have n0_ := Aside0.mk (Kd.R_below qB111 hb)
   have n1_ := Aside0.mk (blk_below (g := gb416) (o := .cells #[.int .i64 a0_0, .int .i64 a0_1, .int .i64 a0_2] 32 (0, 0)) qB90 hb)
   have n2_ := Aside0.mk (blk_below (g := gb417) (o := .cells #[.int .i64 a1_0, .int .i64 a1_1, .int .i64 a1_2] 32 (0, 0)) qB91 hb)
   have n3_ := Aside0.mk (blk_below (g := gb429) (o := .cells #[.int .i64 t424, .slice Ao19 t425.length co19] 34 (0, 0)) qB92 hb)
   have n4_ := Aside0.mk (blk_below (g := gb441) (o := .cells #[.int .i64 0, .slice none 0 0] 34 (0, 0)) qB93 hb)
   have n5_ := Aside0.mk (below_step qB18 hb)
   clear HO427
   clear BK416
   clear BK417
   clear BK429
   clear BK441
   clear HB
   have HO427 := n0_
   have BK416 := n1_
   have BK417 := n2_
   have BK429 := n3_
   have BK441 := n4_
   have HB := n5_
   clear n0_ n1_ n2_ n3_ n4_ n5_
   (try clear hb)
   (try clear hb2)
   (try clear hk)
   (try clear hi)
   refine hK.out _ _ ⟨(blk_cell BK416.out 0).trans rfl, (blk_cell BK416.out 1).trans rfl, (blk_cell BK416.out 2).trans rfl, (blk_cell BK417.out 0).trans rfl, (blk_cell BK417.out 1).trans rfl, (blk_cell BK417.out 2).trans rfl⟩ (fun hHeld => ?_)
   clear hK K
   refine norm_ (a' := ?_) ?_ ?_
   rotate_left
   ·show Act.put _ (some 25) _ = _
    simp only [Act.put, List.setIfInBounds_toArray, List.set_cons_zero, List.set_cons_succ, i64_w, i32_w]
    rfl
   refine one_ (i := 4) (N := some 26) #[true, true, true, true, true, false, false, false, true, false, false] rfl rfl (one_of HT_.out (by kernel_rfl)) (by decide) (fun K hK => ?_)
   refine goes_ Try.func24 (by kernel_rfl) rfl #[.agg #[.int .i64 t430, .int .i64 t431, .int .i64 t432], .agg #[.int .i64 t433, .int .i64 t434, .int .i64 t435]] (by rfl) rfl rfl qB57 ?_
   with_reducible refine (impl_JacobiSum.calls k t430 t431 t432 t433 t434 t435 t436 t437 t440 _ A8.out).mono ?_
   rintro e w26 ⟨v438, rfl, ho0, hb⟩
   refine ⟨_, rfl, ?_⟩
   have n0_ := Aside0.mk (Kd.R_elder' qB111 (Kd.R_base ho0) hb)
   have n1_ := Aside0.mk (Kd.R_lower (Kd.R_new' ho0 (Kd.R_lt qB111)) (below_size qB18))
   have n2_ := Aside0.mk (blk_below (g := gb416) (o := .cells #[.int .i64 a0_0, .int .i64 a0_1, .int .i64 a0_2] 32 (0, 0)) qB90 hb)
   have n3_ := Aside0.mk (blk_below (g := gb417) (o := .cells #[.int .i64 a1_0, .int .i64 a1_1, .int .i64 a1_2] 32 (0, 0)) qB91 hb)
   have n4_ := Aside0.mk (blk_below (g := gb429) (o := .cells #[.int .i64 t424, .slice Ao19 t425.length co19] 34 (0, 0)) qB92 hb)
   have n5_ := Aside0.mk (blk_below (g := gb441) (o := .cells #[.int .i64 0, .slice none 0 0] 34 (0, 0)) qB93 hb)
   have n6_ := Aside0.mk (below_step qB18 hb)
   clear HO427
   clear BK416
   clear BK417
   clear BK429
   clear BK441
   clear HB
   have HO427 := n0_
   have HO439 := n1_
   have BK416 := n2_
   have BK417 := n3_
   have BK429 := n4_
   have BK441 := n5_
   have HB := n6_
   clear n0_ n1_ n2_ n3_ n4_ n5_ n6_
   (try clear hb)
   (try clear hb2)
   (try clear hk)
   (try clear hi)
   (try clear ho0)
   refine hK.out _ _ ⟨(blk_cell BK416.out 0).trans rfl, (blk_cell BK416.out 1).trans rfl, (blk_cell BK416.out 2).trans rfl, (blk_cell BK417.out 0).trans rfl, (blk_cell BK417.out 1).trans rfl, (blk_cell BK417.out 2).trans rfl⟩ (fun hHeld => ?_)
   clear hK K
   refine norm_ (a' := ?_) ?_ ?_
   rotate_left
   ·show Act.put _ (some 26) _ = _
    simp only [Act.put, List.setIfInBounds_toArray, List.set_cons_zero, List.set_cons_succ, i64_w, i32_w]
    rfl
   refine pure_ (i := 5) (N := some 21) (v := ?_) (a' := ?_) #[true, true, true, true, true, true, false, false, true, false, false] rfl rfl (any_of HT_.out (by kernel_rfl)) (fun _ _ _ h => h) (Or.inl ⟨by rfl, ?_⟩) ?_ ?_
   rotate_left
   ·intro w'
    go_simp
    with_reducible rfl
   rotate_left
   ·simp only [Act.put, List.setIfInBounds_toArray, List.set_cons_zero, List.set_cons_succ, i64_w, i32_w]
    rfl
   refine pure_ (i := 6) (N := some 27) (v := ?_) (a' := ?_) #[true, true, true, true, true, true, true, false, true, false, false] rfl rfl (any_of HT_.out (by kernel_rfl)) (fun _ _ _ h => h) (Or.inl ⟨by rfl, ?_⟩) ?_ ?_
   rotate_left
   ·intro w'
    go_simp
    with_reducible rfl
   rotate_left
   ·simp only [Act.put, List.setIfInBounds_toArray, List.set_cons_zero, List.set_cons_succ, i64_w, i32_w]
    rfl
   refine pure_ (i := 7) (N := some 28) (v := ?_) (a' := ?_) #[true, true, true, true, true, true, true, true, true, false, false] rfl rfl (any_of HT_.out (by kernel_rfl)) (fun _ _ _ h => h) (Or.inl ⟨by rfl, ?_⟩) ?_ ?_
   rotate_left
   ·intro w'
    go_simp
    with_reducible rfl
   rotate_left
   ·simp only [Act.put, List.setIfInBounds_toArray, List.set_cons_zero, List.set_cons_succ, i64_w, i32_w]
    rfl
   exact norm_ qB117 (hCont (v438, gb441) _ ⟨hHeld, qB58, qB59, qB90, qB91, qB92, qB93, GW441.out, GE441.out, NB416_441.out, NB441_416.out, NB417_441.out, NB441_417.out, NB429_441.out, NB441_429.out, qB18⟩)
 rintro ⟨v438, gb441⟩ w27 ⟨hS_, h0_, h1_, h2_, h3_, h4_, h5_, h6_, h7_, h8_, h9_, h10_, h11_, h12_, h13_, h14_⟩
 have n0_ : Aside0 (Kd.R (Kd.int .i64) 2 w27 w.heap.size (fun k_ => some k_ ≠ (v438 : Value).ownBlock) (.slice Ao19 t425.length co19) t425) := ⟨h0_⟩
 have n1_ : Aside0 (Kd.R (Kd.int .i64) 2 w27 w.heap.size (fun k_ => some k_ ≠ (.slice Ao19 t425.length co19 : Value).ownBlock) v438 t437) := ⟨h1_⟩
 have n2_ : Aside0 (w27.heap[gb416]? = some (.cells #[.int .i64 a0_0, .int .i64 a0_1, .int .i64 a0_2] 32 (0, 0))) := ⟨h2_⟩
 have n3_ : Aside0 (w27.heap[gb417]? = some (.cells #[.int .i64 a1_0, .int .i64 a1_1, .int .i64 a1_2] 32 (0, 0))) := ⟨h3_⟩
 have n4_ : Aside0 (w27.heap[gb429]? = some (.cells #[.int .i64 t424, .slice Ao19 t425.length co19] 34 (0, 0))) := ⟨h4_⟩
 have n5_ : Aside0 (w27.heap[gb441]? = some (.cells #[.int .i64 0, .slice none 0 0] 34 (0, 0))) := ⟨h5_⟩
 have n6_ : Aside0 (w.heap.size ≤ gb441) := ⟨h6_⟩
 have n7_ : Aside0 (w.heap.size ≤ gb441) := ⟨h7_⟩
 have n8_ : Aside0 (gb416 ≠ gb441) := ⟨h8_⟩
 have n9_ : Aside0 (gb441 ≠ gb416) := ⟨h9_⟩
 have n10_ : Aside0 (gb417 ≠ gb441) := ⟨h10_⟩
 have n11_ : Aside0 (gb441 ≠ gb417) := ⟨h11_⟩
 have n12_ : Aside0 (gb429 ≠ gb441) := ⟨h12_⟩
 have n13_ : Aside0 (gb441 ≠ gb429) := ⟨h13_⟩
 have n14_ : Aside0 (Below w.heap.size w w27) := ⟨h14_⟩
 clear HO427
 clear BK416
 clear BK417
 clear BK429
 clear HB
 clear h0_ h1_ h2_ h3_ h4_ h5_ h6_ h7_ h8_ h9_ h10_ h11_ h12_ h13_ h14_
 have HO427 := n0_
 have HO439 := n1_
 have BK416 := n2_
 have BK417 := n3_
 have BK429 := n4_
 have BK441 := n5_
 have GW441 := n6_
 have GE441 := n7_
 have NB416_441 := n8_
 have NB441_416 := n9_
 have NB417_441 := n10_
 have NB441_417 := n11_
 have NB429_441 := n12_
 have NB441_429 := n13_
 have HB := n14_
 clear n0_ n1_ n2_ n3_ n4_ n5_ n6_ n7_ n8_ n9_ n10_ n11_ n12_ n13_ n14_
 have hHeld : w27.cell? ⟨gb416, 0, none⟩ = some (.int .i64 a0_0) ∧ w27.cell? ⟨gb416, 1, none⟩ = some (.int .i64 a0_1) ∧ w27.cell? ⟨gb416, 2, none⟩ = some (.int .i64 a0_2) ∧ w27.cell? ⟨gb417, 0, none⟩ = some (.int .i64 a1_0) ∧ w27.cell? ⟨gb417, 1, none⟩ = some (.int .i64 a1_1) ∧ w27.cell? ⟨gb417, 2, none⟩ = some (.int .i64 a1_2) := hS_
 obtain ⟨Ao29, co29, eo29⟩ := Kd.R_slice HO439.out
 (first | subst eo29 | (injection eo29 with f1_ f2_ f3_; have f4_ := f1_.symm; have f5_ := f3_.symm; clear f1_ f2_ f3_; subst f4_; subst f5_))
 refine norm_ (a' := ?_) ?_ ?_
 rotate_left
 ·simp only [putAll, Act.put, List.setIfInBounds_toArray, List.set_cons_zero, List.set_cons_succ]
  rfl
 refine one_ (i := 9) (N := none) #[true, true, true, true, true, true, true, true, true, true, false] rfl rfl (one_of HT_.out (by kernel_rfl)) (by decide) (fun K hK => ?_)
 have hs28 : w27.cell? ⟨gb441, 0, none⟩ = some (.int .i64 0) := (blk_cell BK441.out 0).trans rfl
 have hfs28 := blk_frozen BK441.out 0
 have hns28_0 := NB416_441.out
 have hns28_1 := NB417_441.out
 have hns28_2 := NB429_441.out
 have hms28_0 := NB441_416.out
 have hms28_1 := NB441_417.out
 have hms28_2 := NB441_429.out
 have hs30 : w27.cell? ⟨gb441, 1, none⟩ = some (.slice none 0 0) := (blk_cell BK441.out 1).trans rfl
 have hfs30 := blk_frozen BK441.out 1
 have hns30_0 := NB416_441.out
 have hns30_1 := NB417_441.out
 have hns30_2 := NB429_441.out
 have hms30_0 := NB441_416.out
 have hms30_1 := NB441_417.out
 have hms30_2 := NB441_429.out
 refine skip_ (w1 := ?_) (by rfl) rfl ?_ ?_
 rotate_left
 ·go_simp
  rfl
 refine hK.out _ _ ⟨((cell_far (p := ⟨gb441, _, none⟩) NB416_441.out _).trans (((cell_far (p := ⟨gb441, _, none⟩) NB416_441.out _).trans (hHeld.1)))), ((cell_far (p := ⟨gb441, _, none⟩) NB416_441.out _).trans (((cell_far (p := ⟨gb441, _, none⟩) NB416_441.out _).trans (hHeld.2.1)))), ((cell_far (p := ⟨gb441, _, none⟩) NB416_441.out _).trans (((cell_far (p := ⟨gb441, _, none⟩) NB416_441.out _).trans (hHeld.2.2.1)))), ((cell_far (p := ⟨gb441, _, none⟩) NB417_441.out _).trans (((cell_far (p := ⟨gb441, _, none⟩) NB417_441.out _).trans (hHeld.2.2.2.1)))), ((cell_far (p := ⟨gb441, _, none⟩) NB417_441.out _).trans (((cell_far (p := ⟨gb441, _, none⟩) NB417_441.out _).trans (hHeld.2.2.2.2.1)))), ((cell_far (p := ⟨gb441, _, none⟩) NB417_441.out _).trans (((cell_far (p := ⟨gb441, _, none⟩) NB417_441.out _).trans (hHeld.2.2.2.2.2))))⟩ (fun hHeld => ?_)
 clear hK K
 refine pure_ (i := 10) (N := some 8) (v := ?_) (a' := ?_) #[true, true, true, true, true, true, true, true, true, true, true] rfl rfl (any_of HT_.out (by kernel_rfl)) (fun _ _ _ h => h) (Or.inl ⟨by rfl, ?_⟩) ?_ ?_
 rotate_left
 ·intro w'
  go_simp
  with_reducible rfl
 rotate_left
 ·simp only [Act.put, List.setIfInBounds_toArray, List.set_cons_zero, List.set_cons_succ, i64_w, i32_w]
  rfl
 refine done_ (done_of HT_.out (by kernel_rfl)) ?_
 go_upto_region 3 with (fail)
 go_cut [37] (fun v37 wc => ∃ (kq : Nat) (x37_8 : Bool), v37 = .bool x37_8 ∧ Aside0 (laws_FnExactJacobiSum.j0 kq t428 x37_8 a0_0 a0_1 a0_2 a1_0 a1_1 a1_2 t424 t425 t436 t437 = some r) ∧ Aside0 (kq ≤ k) ∧ Aside0 (Kd.R (Kd.int .i64) 2 wc w.heap.size (fun k_ => some k_ ≠ ((.slice Ao29 t437.length co29) : Value).ownBlock) (.slice Ao19 t425.length co19) t425) ∧ Aside0 (Kd.R (Kd.int .i64) 2 wc w.heap.size (fun k_ => some k_ ≠ ((.slice Ao19 t425.length co19) : Value).ownBlock) (.slice Ao29 t437.length co29) t437) ∧ Aside0 (wc.heap[gb416]? = some (.cells #[.int .i64 a0_0, .int .i64 a0_1, .int .i64 a0_2] 32 (0, 0))) ∧ Aside0 (wc.heap[gb417]? = some (.cells #[.int .i64 a1_0, .int .i64 a1_1, .int .i64 a1_2] 32 (0, 0))) ∧ Aside0 (wc.heap[gb429]? = some (.cells #[.int .i64 t424, (.slice Ao19 t425.length co19)] 34 (0, 0))) ∧ Aside0 (wc.heap[gb441]? = some (.cells #[.int .i64 t436, (.slice Ao29 t437.length co29)] 34 (0, 0))) ∧ Aside0 (Below w.heap.size w wc))
 case first =>
  have H := HC9.out
  clear HC9
  replace H := Option.bind_eq_some_iff.mp H
  obtain ⟨t442, A310, H⟩ := H
  replace H : (if t442 = true then (laws_FnExactJacobiSum.j0 k t428 (t440 != t428) a0_0 a0_1 a0_2 a1_0 a1_1 a1_2 t424 t425 t436 t437) else (laws_FnExactJacobiSum.j0 k t428 true a0_0 a0_1 a0_2 a1_0 a1_1 a1_2 t424 t425 t436 t437)) = some r := H
  have A31 := Aside0.mk A310
  clear A310
  by_cases c32 : t442 = true
  ·subst c32
   have H1 : (laws_FnExactJacobiSum.j0 k t428 (t440 != t428) a0_0 a0_1 a0_2 a1_0 a1_1 a1_2 t424 t425 t436 t437) = some r := by rw [if_pos rfl] at H; exact H
   clear H
   have H := H1
   clear H1
   have H' := Aside0.mk H
   clear H
   have hnb33 := NB441_416.out
   have hnc33 := NB416_441.out
   have hnb34 := NB441_417.out
   have hnc34 := NB417_441.out
   have hnb35 := NB441_429.out
   have hnc35 := NB429_441.out
   have hcz36_0 : w27.cell? ⟨gb441, 0, none⟩ = some (.int .i64 0) := (blk_cell BK441.out 0).trans rfl
   have hcz36_1 : w27.cell? ⟨gb441, 1, none⟩ = some (.slice none 0 0) := (blk_cell BK441.out 1).trans rfl
   have hfz36_0 := blk_frozen BK441.out 0
   have hfz36_1 := blk_frozen BK441.out 1
   have hnb37 := NB429_416.out
   have hnc37 := NB416_429.out
   have hnb38 := NB429_417.out
   have hnc38 := NB417_429.out
   have hcz39_0 : w27.cell? ⟨gb429, 0, none⟩ = some (.int .i64 t424) := (blk_cell BK429.out 0).trans rfl
   have hcz39_1 : w27.cell? ⟨gb429, 1, none⟩ = some (.slice Ao19 t425.length co19) := (blk_cell BK429.out 1).trans rfl
   have hfz39_0 := blk_frozen BK429.out 0
   have hfz39_1 := blk_frozen BK429.out 1
   go_wp2_with (first | ((with_reducible refine gate_callee (f := 20) rfl ?_); refine goesL_ (some 31) rfl rfl Try.func20 (by kernel_rfl) rfl #[.agg #[.int .i64 t436, .slice Ao29 t437.length co29], .agg #[.int .i64 t424, .slice Ao19 t425.length co19]] rfl qB57 ?_; (with_reducible refine (laws_eqCyclo.calls k t436 _ _ t437 t424 _ _ t425 true _ ?side1 ?side2 ?side3 ?side4 A31.out).mono ?_); (case side1 => refine (Kd.R_reads' (e := 2) (base := w.heap.size) (ok := fun k_ => some k_ ≠ (.slice Ao19 t425.length co19 : Value).ownBlock) (n := t437.length) (c := co29) ?_).2.2; exact qB14); (case side2 => exact (Kd.R_reads' HO439.out).2.1); (case side3 => refine (Kd.R_reads' (e := 2) (base := w.heap.size) (ok := fun k_ => some k_ ≠ (.slice Ao29 t437.length co29 : Value).ownBlock) (n := t425.length) (c := co19) ?_).2.2; exact qB15); (case side4 => exact (Kd.R_reads' HO427.out).2.1); rintro e w40 ⟨rfl, hb⟩; refine ⟨_, rfl, ?_⟩; have n0_ := Aside0.mk (Kd.R_below qB15 hb); have n1_ := Aside0.mk (Kd.R_below qB14 hb); have n2_ := Aside0.mk (blk_below (g := gb416) (o := .cells #[.int .i64 a0_0, .int .i64 a0_1, .int .i64 a0_2] 32 (0, 0)) qB5 hb); have n3_ := Aside0.mk (blk_below (g := gb417) (o := .cells #[.int .i64 a1_0, .int .i64 a1_1, .int .i64 a1_2] 32 (0, 0)) qB6 hb); have n4_ := Aside0.mk (blk_below (g := gb429) (o := .cells #[.int .i64 t424, .slice Ao19 t425.length co19] 34 (0, 0)) qB7 hb); have n5_ := Aside0.mk (blk_below (g := gb441) (o := .cells #[.int .i64 t436, .slice Ao29 t437.length co29] 34 (0, 0)) qB3 hb); have n6_ := Aside0.mk (below_step qB18 hb); clear HO427; clear HO439; clear BK416; clear BK417; clear BK429; clear BK441; clear HB; have HO427 := n0_; have HO439 := n1_; have BK416 := n2_; have BK417 := n3_; have BK429 := n4_; have BK441 := n5_; have HB := n6_; clear n0_ n1_ n2_ n3_ n4_ n5_ n6_; (try clear hb); (try clear hb2); (try clear hk); (try clear hi)))
   go_meet
   case rel => exact ⟨_, ((t440 != t428)), qB122, H', ⟨by first | omega | exact Nat.le_refl _⟩, ⟨by (with_reducible repeat (first | apply Kd.R_alloc | apply Kd.R_drewN | apply Kd.R_drew)); exact HO427.out⟩, ⟨by (with_reducible repeat (first | apply Kd.R_alloc | apply Kd.R_drewN | apply Kd.R_drew)); exact HO439.out⟩, ⟨by (with_reducible repeat (first | refine blk_drewN ?_ _ | refine blk_drew ?_ | refine blk_alloc ?_ _)); exact BK416.out⟩, ⟨by (with_reducible repeat (first | refine blk_drewN ?_ _ | refine blk_drew ?_ | refine blk_alloc ?_ _)); exact BK417.out⟩, ⟨by (with_reducible repeat (first | refine blk_drewN ?_ _ | refine blk_drew ?_ | refine blk_alloc ?_ _)); exact BK429.out⟩, ⟨by (with_reducible repeat (first | refine blk_drewN ?_ _ | refine blk_drew ?_ | refine blk_alloc ?_ _)); exact BK441.out⟩, ⟨by repeat (first | (with_reducible first | exact HB.out | apply below_alloc | apply pw_below_drewN | apply below_drew1 | refine below_set ?_ GE416.out | refine below_set ?_ GE417.out | refine below_set ?_ GE429.out | refine below_set ?_ GE441.out) | exact HB.out)⟩⟩
  ·replace c32 := Bool.eq_false_iff.mpr c32
   subst c32
   have H1 : (laws_FnExactJacobiSum.j0 k t428 true a0_0 a0_1 a0_2 a1_0 a1_1 a1_2 t424 t425 t436 t437) = some r := by rw [if_neg (show ¬ (false = true) by decide)] at H; exact H
   clear H
   have H := H1
   clear H1
   have H' := Aside0.mk H
   clear H
   have hnb41 := NB441_416.out
   have hnc41 := NB416_441.out
   have hnb42 := NB441_417.out
   have hnc42 := NB417_441.out
   have hnb43 := NB441_429.out
   have hnc43 := NB429_441.out
   have hcz44_0 : w27.cell? ⟨gb441, 0, none⟩ = some (.int .i64 0) := (blk_cell BK441.out 0).trans rfl
   have hcz44_1 : w27.cell? ⟨gb441, 1, none⟩ = some (.slice none 0 0) := (blk_cell BK441.out 1).trans rfl
   have hfz44_0 := blk_frozen BK441.out 0
   have hfz44_1 := blk_frozen BK441.out 1
   have hnb45 := NB429_416.out
   have hnc45 := NB416_429.out
   have hnb46 := NB429_417.out
   have hnc46 := NB417_429.out
   have hcz47_0 : w27.cell? ⟨gb429, 0, none⟩ = some (.int .i64 t424) := (blk_cell BK429.out 0).trans rfl
   have hcz47_1 : w27.cell? ⟨gb429, 1, none⟩ = some (.slice Ao19 t425.length co19) := (blk_cell BK429.out 1).trans rfl
   have hfz47_0 := blk_frozen BK429.out 0
   have hfz47_1 := blk_frozen BK429.out 1
   go_wp2_with (first | ((with_reducible refine gate_callee (f := 20) rfl ?_); refine goesL_ (some 31) rfl rfl Try.func20 (by kernel_rfl) rfl #[.agg #[.int .i64 t436, .slice Ao29 t437.length co29], .agg #[.int .i64 t424, .slice Ao19 t425.length co19]] rfl qB57 ?_; (with_reducible refine (laws_eqCyclo.calls k t436 _ _ t437 t424 _ _ t425 false _ ?side1 ?side2 ?side3 ?side4 A31.out).mono ?_); (case side1 => refine (Kd.R_reads' (e := 2) (base := w.heap.size) (ok := fun k_ => some k_ ≠ (.slice Ao19 t425.length co19 : Value).ownBlock) (n := t437.length) (c := co29) ?_).2.2; exact qB14); (case side2 => exact (Kd.R_reads' HO439.out).2.1); (case side3 => refine (Kd.R_reads' (e := 2) (base := w.heap.size) (ok := fun k_ => some k_ ≠ (.slice Ao29 t437.length co29 : Value).ownBlock) (n := t425.length) (c := co19) ?_).2.2; exact qB15); (case side4 => exact (Kd.R_reads' HO427.out).2.1); rintro e w48 ⟨rfl, hb⟩; refine ⟨_, rfl, ?_⟩; have n0_ := Aside0.mk (Kd.R_below qB15 hb); have n1_ := Aside0.mk (Kd.R_below qB14 hb); have n2_ := Aside0.mk (blk_below (g := gb416) (o := .cells #[.int .i64 a0_0, .int .i64 a0_1, .int .i64 a0_2] 32 (0, 0)) qB5 hb); have n3_ := Aside0.mk (blk_below (g := gb417) (o := .cells #[.int .i64 a1_0, .int .i64 a1_1, .int .i64 a1_2] 32 (0, 0)) qB6 hb); have n4_ := Aside0.mk (blk_below (g := gb429) (o := .cells #[.int .i64 t424, .slice Ao19 t425.length co19] 34 (0, 0)) qB7 hb); have n5_ := Aside0.mk (blk_below (g := gb441) (o := .cells #[.int .i64 t436, .slice Ao29 t437.length co29] 34 (0, 0)) qB3 hb); have n6_ := Aside0.mk (below_step qB18 hb); clear HO427; clear HO439; clear BK416; clear BK417; clear BK429; clear BK441; clear HB; have HO427 := n0_; have HO439 := n1_; have BK416 := n2_; have BK417 := n3_; have BK429 := n4_; have BK441 := n5_; have HB := n6_; clear n0_ n1_ n2_ n3_ n4_ n5_ n6_; (try clear hb); (try clear hb2); (try clear hk); (try clear hi)))
   go_meet
   case rel => exact ⟨_, (true), qB122, H', ⟨by first | omega | exact Nat.le_refl _⟩, ⟨by (with_reducible repeat (first | apply Kd.R_alloc | apply Kd.R_drewN | apply Kd.R_drew)); exact HO427.out⟩, ⟨by (with_reducible repeat (first | apply Kd.R_alloc | apply Kd.R_drewN | apply Kd.R_drew)); exact HO439.out⟩, ⟨by (with_reducible repeat (first | refine blk_drewN ?_ _ | refine blk_drew ?_ | refine blk_alloc ?_ _)); exact BK416.out⟩, ⟨by (with_reducible repeat (first | refine blk_drewN ?_ _ | refine blk_drew ?_ | refine blk_alloc ?_ _)); exact BK417.out⟩, ⟨by (with_reducible repeat (first | refine blk_drewN ?_ _ | refine blk_drew ?_ | refine blk_alloc ?_ _)); exact BK429.out⟩, ⟨by (with_reducible repeat (first | refine blk_drewN ?_ _ | refine blk_drew ?_ | refine blk_alloc ?_ _)); exact BK441.out⟩, ⟨by repeat (first | (with_reducible first | exact HB.out | apply below_alloc | apply pw_below_drewN | apply below_drew1 | refine below_set ?_ GE416.out | refine below_set ?_ GE417.out | refine below_set ?_ GE429.out | refine below_set ?_ GE441.out) | exact HB.out)⟩⟩
 case rest =>
  clear HC9
  try clear c1
  try clear c2
  try clear p2
  try clear c3
  try clear c4
  try clear c18
  try clear c20
  try clear c24
  try clear c32
  try clear c33
  try clear c34
  try clear c35
  try clear c37
  try clear c38
  try clear c41
  try clear c42
  try clear c43
  try clear c45
  try clear c46
  try clear hcz36_0
  try clear hcz36_1
  try clear hcz39_0
  try clear hcz39_1
  try clear hcz44_0
  try clear hcz44_1
  try clear hcz47_0
  try clear hcz47_1
  try clear hfz36_0
  try clear hfz36_1
  try clear hfz39_0
  try clear hfz39_1
  try clear hfz44_0
  try clear hfz44_1
  try clear hfz47_0
  try clear hfz47_1
  obtain ⟨kq, x37_8, rfl, HA, HJ8, HO_430001, HO_442001, BK416, BK417, BK429, BK441, HB⟩ := hcut
  cases kq with
  | zero => exact absurd HA.out (by simp [laws_FnExactJacobiSum.j0])
  | succ kj8 =>
   have H := HA.out
   clear HA
   simp only [laws_FnExactJacobiSum.j0] at H
   by_cases c49 : x37_8 = true
   ·subst c49
    have H1 : (some false) = some r := by rw [if_pos rfl] at H; exact H
    clear H
    have H := H1
    clear H1
    obtain rfl := Option.some.inj H
    go_wp2
    go_ret
    exact ⟨by first | rfl | (simp [errW_none, errW_some] <;> rfl) | (simp [*, errW_none, errW_some] <;> rfl), by repeat (first | (with_reducible first | exact HB.out | apply below_alloc | apply pw_below_drewN | apply below_drew1 | refine below_set ?_ GE416.out | refine below_set ?_ GE417.out | refine below_set ?_ GE429.out | refine below_set ?_ GE441.out) | exact HB.out)⟩
   ·replace c49 := Bool.eq_false_iff.mpr c49
    subst c49
    have H1 : ((laws_markCyclo.f kj8 t436 t437 1).bind fun bt443 => ((laws_heldCyclo.f kj8 t436 bt443.2 1).bind fun t445 => (if t445 < 0 then (some false) else (if t445 = bt443.1 then ((laws_toCharacter.f a0_0 a0_1 a0_2).bind fun bt446 => ((laws_toCharacter.f a1_0 a1_1 a1_2).bind fun bt449 => ((impl_JacobiSum.f kj8 bt446.1 bt446.2.1 bt446.2.2 bt449.1 bt449.2.1 bt449.2.2).bind fun bt452 => ((laws_eqCyclo.f kj8 bt452.1 bt452.2.1 t424 t425).bind fun t458 => (if t458 = true then (laws_FnExactJacobiSum.j1 kj8 bt443.1 (bt452.2.2 != t428) t436 bt443.2) else (laws_FnExactJacobiSum.j1 kj8 bt443.1 true t436 bt443.2)))))) else (some false))))) = some r := by rw [if_neg (show ¬ (false = true) by decide)] at H; exact H
    clear H
    have H := H1
    clear H1
    replace H := Option.bind_eq_some_iff.mp H
    obtain ⟨⟨t443, t444⟩, A500, H⟩ := H
    replace H : ((laws_heldCyclo.f kj8 t436 t444 1).bind fun t445 => (if t445 < 0 then (some false) else (if t445 = t443 then ((laws_toCharacter.f a0_0 a0_1 a0_2).bind fun bt446 => ((laws_toCharacter.f a1_0 a1_1 a1_2).bind fun bt449 => ((impl_JacobiSum.f kj8 bt446.1 bt446.2.1 bt446.2.2 bt449.1 bt449.2.1 bt449.2.2).bind fun bt452 => ((laws_eqCyclo.f kj8 bt452.1 bt452.2.1 t424 t425).bind fun t458 => (if t458 = true then (laws_FnExactJacobiSum.j1 kj8 t443 (bt452.2.2 != t428) t436 t444) else (laws_FnExactJacobiSum.j1 kj8 t443 true t436 t444)))))) else (some false)))) = some r := H
    have A50 := Aside0.mk A500
    clear A500
    replace H := Option.bind_eq_some_iff.mp H
    obtain ⟨t445, A510, H⟩ := H
    replace H : (if t445 < 0 then (some false) else (if t445 = t443 then ((laws_toCharacter.f a0_0 a0_1 a0_2).bind fun bt446 => ((laws_toCharacter.f a1_0 a1_1 a1_2).bind fun bt449 => ((impl_JacobiSum.f kj8 bt446.1 bt446.2.1 bt446.2.2 bt449.1 bt449.2.1 bt449.2.2).bind fun bt452 => ((laws_eqCyclo.f kj8 bt452.1 bt452.2.1 t424 t425).bind fun t458 => (if t458 = true then (laws_FnExactJacobiSum.j1 kj8 t443 (bt452.2.2 != t428) t436 t444) else (laws_FnExactJacobiSum.j1 kj8 t443 true t436 t444)))))) else (some false))) = some r := H
    have A51 := Aside0.mk A510
    clear A510
    by_cases c52 : t445 < 0
    ·rw [if_pos c52] at H
     have c52b0 : decide (t445 < 0) = true := decide_eq_true c52
     clear c52
     obtain rfl := Option.some.inj H
     have hnb53 := NB441_416.out
     have hnc53 := NB416_441.out
     have hnb54 := NB441_417.out
     have hnc54 := NB417_441.out
     have hnb55 := NB441_429.out
     have hnc55 := NB429_441.out
     have hcz56_0 : wc.cell? ⟨gb441, 0, none⟩ = some (.int .i64 t436) := (blk_cell BK441.out 0).trans rfl
     have hcz56_1 : wc.cell? ⟨gb441, 1, none⟩ = some (.slice Ao29 t437.length co29) := (blk_cell BK441.out 1).trans rfl
     have hfz56_0 := blk_frozen BK441.out 0
     have hfz56_1 := blk_frozen BK441.out 1
     go_wp2_with (first | ((with_reducible refine gate_callee (f := 21) rfl ?_); refine goesL_ (some 40) rfl rfl Try.func21 (by kernel_rfl) rfl #[.agg #[.int .i64 t436, .slice Ao29 t437.length co29], .int .i64 1] rfl qB57 ?_; (with_reducible refine (laws_markCyclo.calls kj8 t436 (fun k_ => some k_ = (.slice Ao29 t437.length co29 : Value).ownBlock) (.slice Ao29 t437.length co29) t437 1 t443 t444 w _ ?side1 ?side2 A50.out).mono ?_); (case side1 => repeat (first | (with_reducible first | exact HB.out | apply below_alloc | apply pw_below_drewN | apply below_drew1 | refine below_set ?_ GE416.out | refine below_set ?_ GE417.out | refine below_set ?_ GE429.out | refine below_set ?_ GE441.out) | exact HB.out)); (case side2 => exact Kd.R_tight rfl HO_442001.out); rintro e w57 ⟨rfl, hy0, hb, hkp⟩; refine ⟨_, rfl, ?_⟩; have n0_ := Aside0.mk (Kd.R_mono (ok' := fun k_ => some k_ ≠ (.slice Ao29 t437.length co29 : Value).ownBlock) (Kd.R_keptB (HO_430001.out) hkp (fun k_ hk_ hs_ => (hk_) hs_)) (fun k_ hk_ => hk_.1)); have n1_ := Aside0.mk (Kd.R_reok rfl hy0 (fun k_ e_ => HO_442001.out.1 k_ e_)); have n2_ := Aside0.mk (blk_kept qB90 hkp (fun hs_ => (fun e_ => (Kd.R_ne HO_442001.out BK416.out (by decide)) e_) hs_)); have n3_ := Aside0.mk (blk_kept qB91 hkp (fun hs_ => (fun e_ => (Kd.R_ne HO_442001.out BK417.out (by decide)) e_) hs_)); have n4_ := Aside0.mk (blk_kept qB92 hkp (fun hs_ => (fun e_ => (Kd.R_ne HO_442001.out BK429.out (by decide)) e_) hs_)); have n5_ := Aside0.mk (blk_kept qB93 hkp (fun hs_ => (fun e_ => (Kd.R_ne HO_442001.out BK441.out (by decide)) e_) hs_)); have n6_ := Aside0.mk (hb); clear HO_430001; clear HO_442001; clear BK416; clear BK417; clear BK429; clear BK441; clear HB; have HO_430001 := n0_; have HO_442001 := n1_; have BK416 := n2_; have BK417 := n3_; have BK429 := n4_; have BK441 := n5_; have HB := n6_; clear n0_ n1_ n2_ n3_ n4_ n5_ n6_; (try clear hb); (try clear hkp); (try clear hy0); have hcz58_0 : w57.cell? ⟨gb441, 0, none⟩ = some (.int .i64 t436) := (blk_cell BK441.out 0).trans rfl; have hcz58_1 : w57.cell? ⟨gb441, 1, none⟩ = some (.slice Ao29 t437.length co29) := (blk_cell BK441.out 1).trans rfl; have hfz58_0 := blk_frozen BK441.out 0; have hfz58_1 := blk_frozen BK441.out 1) | ((with_reducible refine gate_callee (f := 22) rfl ?_); refine goesL_ (some 43) rfl rfl Try.func22 (by kernel_rfl) rfl #[.agg #[.int .i64 t436, .slice Ao29 t444.length co29], .int .i64 1] rfl qB23 ?_; (with_reducible refine (laws_heldCyclo.calls kj8 t436 _ _ t444 1 t445 _ ?side1 ?side2 A51.out).mono ?_); (case side1 => repeat (first | exact (Kd.R_reads' HO_442001.out).2.2 | (with_reducible refine Kd.C_alloc ?_ _) | (with_reducible refine Kd.C_drewN ?_ _) | (with_reducible refine Kd.C_drew ?_))); (case side2 => rw [show t444.length = t437.length from (Kd.R_reads' HO_442001.out).1.symm]; exact (Kd.R_reads' HO_442001.out).2.1); rintro e w59 ⟨rfl, hb⟩; refine ⟨_, rfl, ?_⟩; have n0_ := Aside0.mk (Kd.R_below qB97 hb); have n1_ := Aside0.mk (Kd.R_below qB98 hb); have n2_ := Aside0.mk (blk_below (g := gb416) (o := .cells #[.int .i64 a0_0, .int .i64 a0_1, .int .i64 a0_2] 32 (0, 0)) qB90 hb); have n3_ := Aside0.mk (blk_below (g := gb417) (o := .cells #[.int .i64 a1_0, .int .i64 a1_1, .int .i64 a1_2] 32 (0, 0)) qB91 hb); have n4_ := Aside0.mk (blk_below (g := gb429) (o := .cells #[.int .i64 t424, .slice Ao19 t425.length co19] 34 (0, 0)) qB92 hb); have n5_ := Aside0.mk (blk_below (g := gb441) (o := .cells #[.int .i64 t436, .slice Ao29 t437.length co29] 34 (0, 0)) qB93 hb); have n6_ := Aside0.mk (below_step qB18 hb); clear HO_430001; clear HO_442001; clear BK416; clear BK417; clear BK429; clear BK441; clear HB; have HO_430001 := n0_; have HO_442001 := n1_; have BK416 := n2_; have BK417 := n3_; have BK429 := n4_; have BK441 := n5_; have HB := n6_; clear n0_ n1_ n2_ n3_ n4_ n5_ n6_; (try clear hb); (try clear hb2); (try clear hk); (try clear hi)))
     go_ret
     exact ⟨by first | rfl | (simp [errW_none, errW_some] <;> rfl) | (simp [*, errW_none, errW_some] <;> rfl), by repeat (first | (with_reducible first | exact HB.out | apply below_alloc | apply pw_below_drewN | apply below_drew1 | refine below_set ?_ GE416.out | refine below_set ?_ GE417.out | refine below_set ?_ GE429.out | refine below_set ?_ GE441.out) | exact HB.out)⟩
    ·rw [if_neg c52] at H
     have c52b0 : decide (t445 < 0) = false := decide_eq_false c52
     clear c52
     by_cases c60 : t445 = t443
     ·rw [if_pos c60] at H
      have c60b0 : (t445 == t443) = true := beq_iff_eq.mpr c60
      have c60b1 : (t445 != t443) = false := bne_eq_false_iff_eq.mpr c60
      clear c60
      replace H := Option.bind_eq_some_iff.mp H
      obtain ⟨⟨t446, t447, t448⟩, A610, H⟩ := H
      replace H : ((laws_toCharacter.f a1_0 a1_1 a1_2).bind fun bt449 => ((impl_JacobiSum.f kj8 t446 t447 t448 bt449.1 bt449.2.1 bt449.2.2).bind fun bt452 => ((laws_eqCyclo.f kj8 bt452.1 bt452.2.1 t424 t425).bind fun t458 => (if t458 = true then (laws_FnExactJacobiSum.j1 kj8 t443 (bt452.2.2 != t428) t436 t444) else (laws_FnExactJacobiSum.j1 kj8 t443 true t436 t444))))) = some r := H
      have A61 := Aside0.mk A610
      clear A610
      replace H := Option.bind_eq_some_iff.mp H
      obtain ⟨⟨t449, t450, t451⟩, A620, H⟩ := H
      replace H : ((impl_JacobiSum.f kj8 t446 t447 t448 t449 t450 t451).bind fun bt452 => ((laws_eqCyclo.f kj8 bt452.1 bt452.2.1 t424 t425).bind fun t458 => (if t458 = true then (laws_FnExactJacobiSum.j1 kj8 t443 (bt452.2.2 != t428) t436 t444) else (laws_FnExactJacobiSum.j1 kj8 t443 true t436 t444)))) = some r := H
      have A62 := Aside0.mk A620
      clear A620
      replace H := Option.bind_eq_some_iff.mp H
      obtain ⟨⟨t452, t453, t456⟩, A630, H⟩ := H
      replace H : ((laws_eqCyclo.f kj8 t452 t453 t424 t425).bind fun t458 => (if t458 = true then (laws_FnExactJacobiSum.j1 kj8 t443 (t456 != t428) t436 t444) else (laws_FnExactJacobiSum.j1 kj8 t443 true t436 t444))) = some r := H
      have A63 := Aside0.mk A630
      clear A630
      have HC64 := Aside0.mk H
      clear H
      have hnb65 := NB441_416.out
      have hnc65 := NB416_441.out
      have hnb66 := NB441_417.out
      have hnc66 := NB417_441.out
      have hnb67 := NB441_429.out
      have hnc67 := NB429_441.out
      have hcz68_0 : wc.cell? ⟨gb441, 0, none⟩ = some (.int .i64 t436) := (blk_cell BK441.out 0).trans rfl
      have hcz68_1 : wc.cell? ⟨gb441, 1, none⟩ = some (.slice Ao29 t437.length co29) := (blk_cell BK441.out 1).trans rfl
      have hfz68_0 := blk_frozen BK441.out 0
      have hfz68_1 := blk_frozen BK441.out 1
      try go_wp2_with (first | ((with_reducible refine gate_callee (f := 21) rfl ?_); refine goesL_ (some 40) rfl rfl Try.func21 (by kernel_rfl) rfl #[.agg #[.int .i64 t436, .slice Ao29 t437.length co29], .int .i64 1] rfl qB57 ?_; (with_reducible refine (laws_markCyclo.calls kj8 t436 (fun k_ => some k_ = (.slice Ao29 t437.length co29 : Value).ownBlock) (.slice Ao29 t437.length co29) t437 1 t443 t444 w _ ?side1 ?side2 A50.out).mono ?_); (case side1 => repeat (first | (with_reducible first | exact HB.out | apply below_alloc | apply pw_below_drewN | apply below_drew1 | refine below_set ?_ GE416.out | refine below_set ?_ GE417.out | refine below_set ?_ GE429.out | refine below_set ?_ GE441.out) | exact HB.out)); (case side2 => exact Kd.R_tight rfl HO_442001.out); rintro e w69 ⟨rfl, hy0, hb, hkp⟩; refine ⟨_, rfl, ?_⟩; have n0_ := Aside0.mk (Kd.R_mono (ok' := fun k_ => some k_ ≠ (.slice Ao29 t437.length co29 : Value).ownBlock) (Kd.R_keptB (HO_430001.out) hkp (fun k_ hk_ hs_ => (hk_) hs_)) (fun k_ hk_ => hk_.1)); have n1_ := Aside0.mk (Kd.R_reok rfl hy0 (fun k_ e_ => HO_442001.out.1 k_ e_)); have n2_ := Aside0.mk (blk_kept qB90 hkp (fun hs_ => (fun e_ => (Kd.R_ne HO_442001.out BK416.out (by decide)) e_) hs_)); have n3_ := Aside0.mk (blk_kept qB91 hkp (fun hs_ => (fun e_ => (Kd.R_ne HO_442001.out BK417.out (by decide)) e_) hs_)); have n4_ := Aside0.mk (blk_kept qB92 hkp (fun hs_ => (fun e_ => (Kd.R_ne HO_442001.out BK429.out (by decide)) e_) hs_)); have n5_ := Aside0.mk (blk_kept qB93 hkp (fun hs_ => (fun e_ => (Kd.R_ne HO_442001.out BK441.out (by decide)) e_) hs_)); have n6_ := Aside0.mk (hb); clear HO_430001; clear HO_442001; clear BK416; clear BK417; clear BK429; clear BK441; clear HB; have HO_430001 := n0_; have HO_442001 := n1_; have BK416 := n2_; have BK417 := n3_; have BK429 := n4_; have BK441 := n5_; have HB := n6_; clear n0_ n1_ n2_ n3_ n4_ n5_ n6_; (try clear hb); (try clear hkp); (try clear hy0); have hcz70_0 : w69.cell? ⟨gb441, 0, none⟩ = some (.int .i64 t436) := (blk_cell BK441.out 0).trans rfl; have hcz70_1 : w69.cell? ⟨gb441, 1, none⟩ = some (.slice Ao29 t437.length co29) := (blk_cell BK441.out 1).trans rfl; have hfz70_0 := blk_frozen BK441.out 0; have hfz70_1 := blk_frozen BK441.out 1) | ((with_reducible refine gate_callee (f := 22) rfl ?_); refine goesL_ (some 43) rfl rfl Try.func22 (by kernel_rfl) rfl #[.agg #[.int .i64 t436, .slice Ao29 t444.length co29], .int .i64 1] rfl qB23 ?_; (with_reducible refine (laws_heldCyclo.calls kj8 t436 _ _ t444 1 t445 _ ?side1 ?side2 A51.out).mono ?_); (case side1 => repeat (first | exact (Kd.R_reads' HO_442001.out).2.2 | (with_reducible refine Kd.C_alloc ?_ _) | (with_reducible refine Kd.C_drewN ?_ _) | (with_reducible refine Kd.C_drew ?_))); (case side2 => rw [show t444.length = t437.length from (Kd.R_reads' HO_442001.out).1.symm]; exact (Kd.R_reads' HO_442001.out).2.1); rintro e w71 ⟨rfl, hb⟩; refine ⟨_, rfl, ?_⟩; have n0_ := Aside0.mk (Kd.R_below qB97 hb); have n1_ := Aside0.mk (Kd.R_below qB98 hb); have n2_ := Aside0.mk (blk_below (g := gb416) (o := .cells #[.int .i64 a0_0, .int .i64 a0_1, .int .i64 a0_2] 32 (0, 0)) qB90 hb); have n3_ := Aside0.mk (blk_below (g := gb417) (o := .cells #[.int .i64 a1_0, .int .i64 a1_1, .int .i64 a1_2] 32 (0, 0)) qB91 hb); have n4_ := Aside0.mk (blk_below (g := gb429) (o := .cells #[.int .i64 t424, .slice Ao19 t425.length co19] 34 (0, 0)) qB92 hb); have n5_ := Aside0.mk (blk_below (g := gb441) (o := .cells #[.int .i64 t436, .slice Ao29 t437.length co29] 34 (0, 0)) qB93 hb); have n6_ := Aside0.mk (below_step qB18 hb); clear HO_430001; clear HO_442001; clear BK416; clear BK417; clear BK429; clear BK441; clear HB; have HO_430001 := n0_; have HO_442001 := n1_; have BK416 := n2_; have BK417 := n3_; have BK429 := n4_; have BK441 := n5_; have HB := n6_; clear n0_ n1_ n2_ n3_ n4_ n5_ n6_; (try clear hb); (try clear hb2); (try clear hk); (try clear hi)))
      have n0_ := Aside0.mk (Kd.R_drew HO_430001.out)
      have n1_ := Aside0.mk (Kd.R_drew HO_442001.out)
      have n2_ := Aside0.mk (blk_drew BK416.out)
      have n3_ := Aside0.mk (blk_drew BK417.out)
      have n4_ := Aside0.mk (blk_drew BK429.out)
      have n5_ := Aside0.mk (blk_drew BK441.out)
      have n6_ := Aside0.mk (below_drew1 HB.out)
      clear HO_430001
      clear HO_442001
      clear BK416
      clear BK417
      clear BK429
      clear BK441
      clear HB
      have HO_430001 := n0_
      have HO_442001 := n1_
      have BK416 := n2_
      have BK417 := n3_
      have BK429 := n4_
      have BK441 := n5_
      have HB := n6_
      clear n0_ n1_ n2_ n3_ n4_ n5_ n6_
      refine start_ (n := 11) (S := fun w' => w'.cell? ⟨gb416, 0, none⟩ = some (.int .i64 a0_0) ∧ w'.cell? ⟨gb416, 1, none⟩ = some (.int .i64 a0_1) ∧ w'.cell? ⟨gb416, 2, none⟩ = some (.int .i64 a0_2) ∧ w'.cell? ⟨gb417, 0, none⟩ = some (.int .i64 a1_0) ∧ w'.cell? ⟨gb417, 1, none⟩ = some (.int .i64 a1_1) ∧ w'.cell? ⟨gb417, 2, none⟩ = some (.int .i64 a1_2)) (ds := []) #[false, false, false, false, false, false, false, false, false, false, false] (by kernel_rfl) rfl rfl ⟨(blk_cell BK416.out 0).trans rfl, (blk_cell BK416.out 1).trans rfl, (blk_cell BK416.out 2).trans rfl, (blk_cell BK417.out 0).trans rfl, (blk_cell BK417.out 1).trans rfl, (blk_cell BK417.out 2).trans rfl⟩ (fun hHeld => ?_); refine with_tabW laws_FnExactJacobiSum.tab13 laws_FnExactJacobiSum.bits13 (fun HT_ HW_ => ?_)
      generalize w71.drew = w72 at HO_430001 HO_442001 BK416 BK417 BK429 BK441 HB hHeld ⊢
      refine take_ (i := 0) (N := some 50) (v := ?_) (a' := ?_) #[true, false, false, false, false, false, false, false, false, false, false] rfl rfl (take_ofW HT_.out HW_.out (by kernel_rfl)) (fun _ _ _ h => h) (Or.inl ⟨by rfl, ?_⟩) hHeld ?_ ?_
      rotate_left
      ·rintro w' ⟨s0, s1, s2, s3, s4, s5⟩
       go_simp
       with_reducible rfl
      rotate_left
      ·simp only [Act.put, List.setIfInBounds_toArray, List.set_cons_zero, List.set_cons_succ, i64_w, i32_w]
       rfl
      refine take_ (i := 2) (N := some 52) (v := ?_) (a' := ?_) #[true, false, true, false, false, false, false, false, false, false, false] rfl rfl (take_ofW HT_.out HW_.out (by kernel_rfl)) (fun _ _ _ h => h) (Or.inl ⟨by rfl, ?_⟩) hHeld ?_ ?_
      rotate_left
      ·rintro w' ⟨s0, s1, s2, s3, s4, s5⟩
       go_simp
       with_reducible rfl
      rotate_left
      ·simp only [Act.put, List.setIfInBounds_toArray, List.set_cons_zero, List.set_cons_succ, i64_w, i32_w]
       rfl
      refine join_ (σ := Value × Nat) 2 #[true, true, true, true, true, true, true, true, true, false, false] (fun s_ => [(51, .agg #[.int .i64 t446, .int .i64 t447, .int .i64 t448]), (53, .agg #[.int .i64 t449, .int .i64 t450, .int .i64 t451]), (54, .tuple #[.agg #[.int .i64 t452, s_.1], .int .i64 t456]), (11, .pointer (some ⟨s_.2, 0, none⟩)), (49, .tuple #[.agg #[.int .i64 t452, s_.1], .int .i64 t456]), (55, .agg #[.int .i64 t452, s_.1]), (56, .int .i64 t456)]) (fun s_ w' => (w'.cell? ⟨gb416, 0, none⟩ = some (.int .i64 a0_0) ∧ w'.cell? ⟨gb416, 1, none⟩ = some (.int .i64 a0_1) ∧ w'.cell? ⟨gb416, 2, none⟩ = some (.int .i64 a0_2) ∧ w'.cell? ⟨gb417, 0, none⟩ = some (.int .i64 a1_0) ∧ w'.cell? ⟨gb417, 1, none⟩ = some (.int .i64 a1_1) ∧ w'.cell? ⟨gb417, 2, none⟩ = some (.int .i64 a1_2)) ∧ (Kd.R (Kd.int .i64) 2 w' w.heap.size (fun k_ => some k_ ≠ (.slice Ao19 t425.length co19 : Value).ownBlock ∧ some k_ ≠ (.slice Ao29 t437.length co29 : Value).ownBlock) s_.1 t453) ∧ (Kd.R (Kd.int .i64) 2 w' w.heap.size (fun k_ => some k_ ≠ (s_.1 : Value).ownBlock ∧ some k_ ≠ (.slice Ao29 t437.length co29 : Value).ownBlock) (.slice Ao19 t425.length co19) t425) ∧ (Kd.R (Kd.int .i64) 2 w' w.heap.size (fun k_ => some k_ ≠ (s_.1 : Value).ownBlock ∧ some k_ ≠ (.slice Ao19 t425.length co19 : Value).ownBlock) (.slice Ao29 t437.length co29) t444) ∧ (w'.heap[gb416]? = some (.cells #[.int .i64 a0_0, .int .i64 a0_1, .int .i64 a0_2] 32 (0, 0))) ∧ (w'.heap[gb417]? = some (.cells #[.int .i64 a1_0, .int .i64 a1_1, .int .i64 a1_2] 32 (0, 0))) ∧ (w'.heap[gb429]? = some (.cells #[.int .i64 t424, .slice Ao19 t425.length co19] 34 (0, 0))) ∧ (w'.heap[gb441]? = some (.cells #[.int .i64 t436, .slice Ao29 t437.length co29] 34 (0, 0))) ∧ (w'.heap[s_.2]? = some (.cells #[.int .i64 0, .slice none 0 0] 34 (0, 0))) ∧ (w.heap.size ≤ s_.2) ∧ (w.heap.size ≤ s_.2) ∧ (gb416 ≠ s_.2) ∧ (s_.2 ≠ gb416) ∧ (gb417 ≠ s_.2) ∧ (s_.2 ≠ gb417) ∧ (gb429 ≠ s_.2) ∧ (s_.2 ≠ gb429) ∧ (gb441 ≠ s_.2) ∧ (s_.2 ≠ gb441) ∧ (Below w.heap.size w w')) ?_ ?_
      rotate_left
      ·intro hCont
       refine two_ (i := 1) (j := 8) (Ni := some 51) (Nj := some 11) #[true, true, true, false, false, false, false, false, false, false, false] #[true, false, true, false, false, false, false, false, true, false, false] rfl rfl rfl rfl (two_of HT_.out (by kernel_rfl)) (by decide) (by decide) (fun K hK => ?_) (fun K hK => ?_)
       ·skip
        refine goes_ Try.func18 (by kernel_rfl) rfl #[.agg #[.int .i64 a0_0, .int .i64 a0_1, .int .i64 a0_2]] (by rfl) rfl rfl qB57 ?_
        with_reducible refine (laws_toCharacter.calls a0_0 a0_1 a0_2 t446 t447 t448 _ A61.out).mono ?_
        rintro e w73 ⟨rfl, hb⟩
        refine ⟨_, rfl, ?_⟩
        have n0_ := Aside0.mk (Kd.R_below qB97 hb)
        have n1_ := Aside0.mk (Kd.R_below qB98 hb)
        have n2_ := Aside0.mk (blk_below (g := gb416) (o := .cells #[.int .i64 a0_0, .int .i64 a0_1, .int .i64 a0_2] 32 (0, 0)) qB90 hb)
        have n3_ := Aside0.mk (blk_below (g := gb417) (o := .cells #[.int .i64 a1_0, .int .i64 a1_1, .int .i64 a1_2] 32 (0, 0)) qB91 hb)
        have n4_ := Aside0.mk (blk_below (g := gb429) (o := .cells #[.int .i64 t424, .slice Ao19 t425.length co19] 34 (0, 0)) qB92 hb)
        have n5_ := Aside0.mk (blk_below (g := gb441) (o := .cells #[.int .i64 t436, .slice Ao29 t437.length co29] 34 (0, 0)) qB93 hb)
        have n6_ := Aside0.mk (below_step qB18 hb)
        clear HO_430001
        clear HO_442001
        clear BK416
        clear BK417
        clear BK429
        clear BK441
        clear HB
        have HO_430001 := n0_
        have HO_442001 := n1_
        have BK416 := n2_
        have BK417 := n3_
        have BK429 := n4_
        have BK441 := n5_
        have HB := n6_
        clear n0_ n1_ n2_ n3_ n4_ n5_ n6_
        (try clear hb)
        (try clear hb2)
        (try clear hk)
        (try clear hi)
        refine hK.out _ _ ⟨(blk_cell BK416.out 0).trans rfl, (blk_cell BK416.out 1).trans rfl, (blk_cell BK416.out 2).trans rfl, (blk_cell BK417.out 0).trans rfl, (blk_cell BK417.out 1).trans rfl, (blk_cell BK417.out 2).trans rfl⟩ (fun hHeld => ?_)
        clear hK K
        refine norm_ (a' := ?_) ?_ ?_
        rotate_left
        ·show Act.put _ (some 51) _ = _
         simp only [Act.put, List.setIfInBounds_toArray, List.set_cons_zero, List.set_cons_succ, i64_w, i32_w]
         rfl
        refine two_ (i := 3) (j := 8) (Ni := some 53) (Nj := some 11) #[true, true, true, true, false, false, false, false, false, false, false] #[true, true, true, false, false, false, false, false, true, false, false] rfl rfl rfl rfl (two_of HT_.out (by kernel_rfl)) (by decide) (by decide) (fun K hK => ?_) (fun K hK => ?_)
        ·skip
         refine goes_ Try.func18 (by kernel_rfl) rfl #[.agg #[.int .i64 a1_0, .int .i64 a1_1, .int .i64 a1_2]] (by rfl) rfl rfl qB57 ?_
         with_reducible refine (laws_toCharacter.calls a1_0 a1_1 a1_2 t449 t450 t451 _ A62.out).mono ?_
         rintro e w74 ⟨rfl, hb⟩
         refine ⟨_, rfl, ?_⟩
         have n0_ := Aside0.mk (Kd.R_below qB97 hb)
         have n1_ := Aside0.mk (Kd.R_below qB98 hb)
         have n2_ := Aside0.mk (blk_below (g := gb416) (o := .cells #[.int .i64 a0_0, .int .i64 a0_1, .int .i64 a0_2] 32 (0, 0)) qB90 hb)
         have n3_ := Aside0.mk (blk_below (g := gb417) (o := .cells #[.int .i64 a1_0, .int .i64 a1_1, .int .i64 a1_2] 32 (0, 0)) qB91 hb)
         have n4_ := Aside0.mk (blk_below (g := gb429) (o := .cells #[.int .i64 t424, .slice Ao19 t425.length co19] 34 (0, 0)) qB92 hb)
         have n5_ := Aside0.mk (blk_below (g := gb441) (o := .cells #[.int .i64 t436, .slice Ao29 t437.length co29] 34 (0, 0)) qB93 hb)
         have n6_ := Aside0.mk (below_step qB18 hb)
         clear HO_430001
         clear HO_442001
         clear BK416
         clear BK417
         clear BK429
         clear BK441
         clear HB
         have HO_430001 := n0_
         have HO_442001 := n1_
         have BK416 := n2_
         have BK417 := n3_
         have BK429 := n4_
         have BK441 := n5_
         have HB := n6_
         clear n0_ n1_ n2_ n3_ n4_ n5_ n6_
         (try clear hb)
         (try clear hb2)
         (try clear hk)
         (try clear hi)
         refine hK.out _ _ ⟨(blk_cell BK416.out 0).trans rfl, (blk_cell BK416.out 1).trans rfl, (blk_cell BK416.out 2).trans rfl, (blk_cell BK417.out 0).trans rfl, (blk_cell BK417.out 1).trans rfl, (blk_cell BK417.out 2).trans rfl⟩ (fun hHeld => ?_)
         clear hK K
         refine norm_ (a' := ?_) ?_ ?_
         rotate_left
         ·show Act.put _ (some 53) _ = _
          simp only [Act.put, List.setIfInBounds_toArray, List.set_cons_zero, List.set_cons_succ, i64_w, i32_w]
          rfl
         refine two_ (i := 4) (j := 8) (Ni := some 54) (Nj := some 11) #[true, true, true, true, true, false, false, false, false, false, false] #[true, true, true, true, false, false, false, false, true, false, false] rfl rfl rfl rfl (two_of HT_.out (by kernel_rfl)) (by decide) (by decide) (fun K hK => ?_) (fun K hK => ?_)
         ·skip
          refine goes_ Try.func24 (by kernel_rfl) rfl #[.agg #[.int .i64 t446, .int .i64 t447, .int .i64 t448], .agg #[.int .i64 t449, .int .i64 t450, .int .i64 t451]] (by rfl) rfl rfl qB57 ?_
          with_reducible refine (impl_JacobiSum.calls kj8 t446 t447 t448 t449 t450 t451 t452 t453 t456 _ A63.out).mono ?_
          rintro e w75 ⟨v454, rfl, ho0, hb⟩
          refine ⟨_, rfl, ?_⟩
          have n0_ := Aside0.mk (Kd.R_elder' qB97 (Kd.R_base ho0) hb)
          have n1_ := Aside0.mk (Kd.R_elder' qB98 (Kd.R_base ho0) hb)
          have n2_ := Aside0.mk (Kd.R_lower (Kd.R_new' (Kd.R_new' ho0 (Kd.R_lt qB97)) (Kd.R_lt qB98)) (below_size qB18))
          have n3_ := Aside0.mk (blk_below (g := gb416) (o := .cells #[.int .i64 a0_0, .int .i64 a0_1, .int .i64 a0_2] 32 (0, 0)) qB90 hb)
          have n4_ := Aside0.mk (blk_below (g := gb417) (o := .cells #[.int .i64 a1_0, .int .i64 a1_1, .int .i64 a1_2] 32 (0, 0)) qB91 hb)
          have n5_ := Aside0.mk (blk_below (g := gb429) (o := .cells #[.int .i64 t424, .slice Ao19 t425.length co19] 34 (0, 0)) qB92 hb)
          have n6_ := Aside0.mk (blk_below (g := gb441) (o := .cells #[.int .i64 t436, .slice Ao29 t437.length co29] 34 (0, 0)) qB93 hb)
          have n7_ := Aside0.mk (below_step qB18 hb)
          clear HO_430001
          clear HO_442001
          clear BK416
          clear BK417
          clear BK429
          clear BK441
          clear HB
          have HO_430001 := n0_
          have HO_442001 := n1_
          have HO455 := n2_
          have BK416 := n3_
          have BK417 := n4_
          have BK429 := n5_
          have BK441 := n6_
          have HB := n7_
          clear n0_ n1_ n2_ n3_ n4_ n5_ n6_ n7_
          (try clear hb)
          (try clear hb2)
          (try clear hk)
          (try clear hi)
          (try clear ho0)
          refine hK.out _ _ ⟨(blk_cell BK416.out 0).trans rfl, (blk_cell BK416.out 1).trans rfl, (blk_cell BK416.out 2).trans rfl, (blk_cell BK417.out 0).trans rfl, (blk_cell BK417.out 1).trans rfl, (blk_cell BK417.out 2).trans rfl⟩ (fun hHeld => ?_)
          clear hK K
          refine norm_ (a' := ?_) ?_ ?_
          rotate_left
          ·show Act.put _ (some 54) _ = _
           simp only [Act.put, List.setIfInBounds_toArray, List.set_cons_zero, List.set_cons_succ, i64_w, i32_w]
           rfl
          refine pure_ (i := 5) (N := some 49) (v := ?_) (a' := ?_) #[true, true, true, true, true, true, false, false, false, false, false] rfl rfl (any_of HT_.out (by kernel_rfl)) (fun _ _ _ h => h) (Or.inl ⟨by rfl, ?_⟩) ?_ ?_
          rotate_left
          ·intro w'
           go_simp
           with_reducible rfl
          rotate_left
          ·simp only [Act.put, List.setIfInBounds_toArray, List.set_cons_zero, List.set_cons_succ, i64_w, i32_w]
           rfl
          refine pure_ (i := 6) (N := some 55) (v := ?_) (a' := ?_) #[true, true, true, true, true, true, true, false, false, false, false] rfl rfl (any_of HT_.out (by kernel_rfl)) (fun _ _ _ h => h) (Or.inl ⟨by rfl, ?_⟩) ?_ ?_
          rotate_left
          ·intro w'
           go_simp
           with_reducible rfl
          rotate_left
          ·simp only [Act.put, List.setIfInBounds_toArray, List.set_cons_zero, List.set_cons_succ, i64_w, i32_w]
           rfl
          refine pure_ (i := 7) (N := some 56) (v := ?_) (a' := ?_) #[true, true, true, true, true, true, true, true, false, false, false] rfl rfl (any_of HT_.out (by kernel_rfl)) (fun _ _ _ h => h) (Or.inl ⟨by rfl, ?_⟩) ?_ ?_
          rotate_left
          ·intro w'
           go_simp
           with_reducible rfl
          rotate_left
          ·simp only [Act.put, List.setIfInBounds_toArray, List.set_cons_zero, List.set_cons_succ, i64_w, i32_w]
           rfl
          refine one_ (i := 8) (N := some 11) #[true, true, true, true, true, true, true, true, true, false, false] rfl rfl (one_of HT_.out (by kernel_rfl)) (by decide) (fun K hK => ?_)
          refine box_step ?hg (N := 11) ?hd (cs := #[.int .i64 0, .slice none 0 0]) (t := 34) ?hr ?_; (case hd => rfl); (case hg => rfl); (case hr => first | (go_simp; done) | (go_simp; rfl))
          intro gb457 hg w76 hbox hb
          have n0_ := Aside0.mk (Kd.R_below qB97 hb)
          have n1_ := Aside0.mk (Kd.R_below qB98 hb)
          have n2_ := Aside0.mk (Kd.R_below (by (with_reducible repeat (first | apply Kd.R_alloc | apply Kd.R_drewN | apply Kd.R_drew)); exact HO455.out) hb)
          have n3_ := Aside0.mk (blk_below (g := gb416) (o := .cells #[.int .i64 a0_0, .int .i64 a0_1, .int .i64 a0_2] 32 (0, 0)) qB90 hb)
          have n4_ := Aside0.mk (blk_below (g := gb417) (o := .cells #[.int .i64 a1_0, .int .i64 a1_1, .int .i64 a1_2] 32 (0, 0)) qB91 hb)
          have n5_ := Aside0.mk (blk_below (g := gb429) (o := .cells #[.int .i64 t424, .slice Ao19 t425.length co19] 34 (0, 0)) qB92 hb)
          have n6_ := Aside0.mk (blk_below (g := gb441) (o := .cells #[.int .i64 t436, .slice Ao29 t437.length co29] 34 (0, 0)) qB93 hb)
          have n7_ := Aside0.mk (below_step qB18 hb)
          have n8_ := Aside0.mk (hbox)
          have n9_ := Aside0.mk ((by rw [hg]; exact (below_size qB18) : w.heap.size ≤ gb457))
          have n10_ := Aside0.mk ((by rw [hg]; exact (below_size qB18) : w.heap.size ≤ gb457))
          have n11_ := Aside0.mk ((by rw [hg]; exact Nat.ne_of_lt (blk_lt (g := gb416) (o := .cells #[.int .i64 a0_0, .int .i64 a0_1, .int .i64 a0_2] 32 (0, 0)) qB90) : gb416 ≠ gb457))
          have n12_ := Aside0.mk ((by rw [hg]; exact Nat.ne_of_gt (blk_lt (g := gb416) (o := .cells #[.int .i64 a0_0, .int .i64 a0_1, .int .i64 a0_2] 32 (0, 0)) qB90) : gb457 ≠ gb416))
          have n13_ := Aside0.mk ((by rw [hg]; exact Nat.ne_of_lt (blk_lt (g := gb417) (o := .cells #[.int .i64 a1_0, .int .i64 a1_1, .int .i64 a1_2] 32 (0, 0)) qB91) : gb417 ≠ gb457))
          have n14_ := Aside0.mk ((by rw [hg]; exact Nat.ne_of_gt (blk_lt (g := gb417) (o := .cells #[.int .i64 a1_0, .int .i64 a1_1, .int .i64 a1_2] 32 (0, 0)) qB91) : gb457 ≠ gb417))
          have n15_ := Aside0.mk ((by rw [hg]; exact Nat.ne_of_lt (blk_lt (g := gb429) (o := .cells #[.int .i64 t424, .slice Ao19 t425.length co19] 34 (0, 0)) qB92) : gb429 ≠ gb457))
          have n16_ := Aside0.mk ((by rw [hg]; exact Nat.ne_of_gt (blk_lt (g := gb429) (o := .cells #[.int .i64 t424, .slice Ao19 t425.length co19] 34 (0, 0)) qB92) : gb457 ≠ gb429))
          have n17_ := Aside0.mk ((by rw [hg]; exact Nat.ne_of_lt (blk_lt (g := gb441) (o := .cells #[.int .i64 t436, .slice Ao29 t437.length co29] 34 (0, 0)) qB93) : gb441 ≠ gb457))
          have n18_ := Aside0.mk ((by rw [hg]; exact Nat.ne_of_gt (blk_lt (g := gb441) (o := .cells #[.int .i64 t436, .slice Ao29 t437.length co29] 34 (0, 0)) qB93) : gb457 ≠ gb441))
          clear HO_430001
          clear HO_442001
          clear HO455
          clear BK416
          clear BK417
          clear BK429
          clear BK441
          clear HB
          have HO_430001 := n0_
          have HO_442001 := n1_
          have HO455 := n2_
          have BK416 := n3_
          have BK417 := n4_
          have BK429 := n5_
          have BK441 := n6_
          have HB := n7_
          have BK457 := n8_
          have GW457 := n9_
          have GE457 := n10_
          have NB416_457 := n11_
          have NB457_416 := n12_
          have NB417_457 := n13_
          have NB457_417 := n14_
          have NB429_457 := n15_
          have NB457_429 := n16_
          have NB441_457 := n17_
          have NB457_441 := n18_
          clear n0_ n1_ n2_ n3_ n4_ n5_ n6_ n7_ n8_ n9_ n10_ n11_ n12_ n13_ n14_ n15_ n16_ n17_ n18_
          clear hb hbox hg
          refine hK.out _ _ ⟨(blk_cell BK416.out 0).trans rfl, (blk_cell BK416.out 1).trans rfl, (blk_cell BK416.out 2).trans rfl, (blk_cell BK417.out 0).trans rfl, (blk_cell BK417.out 1).trans rfl, (blk_cell BK417.out 2).trans rfl⟩ (fun hHeld => ?_)
          clear hK K
          refine norm_ (a' := ?_) ?_ ?_
          rotate_left
          ·show Act.put _ (some 11) _ = _
           simp only [Act.put, List.setIfInBounds_toArray, List.set_cons_zero, List.set_cons_succ, i64_w, i32_w]
           rfl
          exact norm_ qB117 (hCont (v454, gb457) _ ⟨hHeld, qB56, qB53, qB54, qB90, qB91, qB92, qB93, qB94, GW457.out, GE457.out, NB416_457.out, NB457_416.out, NB417_457.out, NB457_417.out, NB429_457.out, NB457_429.out, NB441_457.out, NB457_441.out, qB17⟩)
         ·skip
          refine box_step ?hg (N := 11) ?hd (cs := #[.int .i64 0, .slice none 0 0]) (t := 34) ?hr ?_; (case hd => rfl); (case hg => rfl); (case hr => first | (go_simp; done) | (go_simp; rfl))
          intro gb457 hg w75 hbox hb
          have n0_ := Aside0.mk (Kd.R_below qB97 hb)
          have n1_ := Aside0.mk (Kd.R_below qB98 hb)
          have n2_ := Aside0.mk (blk_below (g := gb416) (o := .cells #[.int .i64 a0_0, .int .i64 a0_1, .int .i64 a0_2] 32 (0, 0)) qB90 hb)
          have n3_ := Aside0.mk (blk_below (g := gb417) (o := .cells #[.int .i64 a1_0, .int .i64 a1_1, .int .i64 a1_2] 32 (0, 0)) qB91 hb)
          have n4_ := Aside0.mk (blk_below (g := gb429) (o := .cells #[.int .i64 t424, .slice Ao19 t425.length co19] 34 (0, 0)) qB92 hb)
          have n5_ := Aside0.mk (blk_below (g := gb441) (o := .cells #[.int .i64 t436, .slice Ao29 t437.length co29] 34 (0, 0)) qB93 hb)
          have n6_ := Aside0.mk (below_step qB18 hb)
          have n7_ := Aside0.mk (hbox)
          have n8_ := Aside0.mk ((by rw [hg]; exact (below_size qB18) : w.heap.size ≤ gb457))
          have n9_ := Aside0.mk ((by rw [hg]; exact (below_size qB18) : w.heap.size ≤ gb457))
          have n10_ := Aside0.mk ((by rw [hg]; exact Nat.ne_of_lt (blk_lt (g := gb416) (o := .cells #[.int .i64 a0_0, .int .i64 a0_1, .int .i64 a0_2] 32 (0, 0)) qB90) : gb416 ≠ gb457))
          have n11_ := Aside0.mk ((by rw [hg]; exact Nat.ne_of_gt (blk_lt (g := gb416) (o := .cells #[.int .i64 a0_0, .int .i64 a0_1, .int .i64 a0_2] 32 (0, 0)) qB90) : gb457 ≠ gb416))
          have n12_ := Aside0.mk ((by rw [hg]; exact Nat.ne_of_lt (blk_lt (g := gb417) (o := .cells #[.int .i64 a1_0, .int .i64 a1_1, .int .i64 a1_2] 32 (0, 0)) qB91) : gb417 ≠ gb457))
          have n13_ := Aside0.mk ((by rw [hg]; exact Nat.ne_of_gt (blk_lt (g := gb417) (o := .cells #[.int .i64 a1_0, .int .i64 a1_1, .int .i64 a1_2] 32 (0, 0)) qB91) : gb457 ≠ gb417))
          have n14_ := Aside0.mk ((by rw [hg]; exact Nat.ne_of_lt (blk_lt (g := gb429) (o := .cells #[.int .i64 t424, .slice Ao19 t425.length co19] 34 (0, 0)) qB92) : gb429 ≠ gb457))
          have n15_ := Aside0.mk ((by rw [hg]; exact Nat.ne_of_gt (blk_lt (g := gb429) (o := .cells #[.int .i64 t424, .slice Ao19 t425.length co19] 34 (0, 0)) qB92) : gb457 ≠ gb429))
          have n16_ := Aside0.mk ((by rw [hg]; exact Nat.ne_of_lt (blk_lt (g := gb441) (o := .cells #[.int .i64 t436, .slice Ao29 t437.length co29] 34 (0, 0)) qB93) : gb441 ≠ gb457))
          have n17_ := Aside0.mk ((by rw [hg]; exact Nat.ne_of_gt (blk_lt (g := gb441) (o := .cells #[.int .i64 t436, .slice Ao29 t437.length co29] 34 (0, 0)) qB93) : gb457 ≠ gb441))
          clear HO_430001
          clear HO_442001
          clear BK416
          clear BK417
          clear BK429
          clear BK441
          clear HB
          have HO_430001 := n0_
          have HO_442001 := n1_
          have BK416 := n2_
          have BK417 := n3_
          have BK429 := n4_
          have BK441 := n5_
          have HB := n6_
          have BK457 := n7_
          have GW457 := n8_
          have GE457 := n9_
          have NB416_457 := n10_
          have NB457_416 := n11_
          have NB417_457 := n12_
          have NB457_417 := n13_
          have NB429_457 := n14_
          have NB457_429 := n15_
          have NB441_457 := n16_
          have NB457_441 := n17_
          clear n0_ n1_ n2_ n3_ n4_ n5_ n6_ n7_ n8_ n9_ n10_ n11_ n12_ n13_ n14_ n15_ n16_ n17_
          clear hb hbox hg
          refine hK.out _ _ ⟨(blk_cell BK416.out 0).trans rfl, (blk_cell BK416.out 1).trans rfl, (blk_cell BK416.out 2).trans rfl, (blk_cell BK417.out 0).trans rfl, (blk_cell BK417.out 1).trans rfl, (blk_cell BK417.out 2).trans rfl⟩ (fun hHeld => ?_)
          clear hK K
          refine norm_ (a' := ?_) ?_ ?_
          rotate_left
          ·show Act.put _ (some 11) _ = _
           simp only [Act.put, List.setIfInBounds_toArray, List.set_cons_zero, List.set_cons_succ, i64_w, i32_w]
           rfl
          refine one_ (i := 4) (N := some 54) #[true, true, true, true, true, false, false, false, true, false, false] rfl rfl (one_of HT_.out (by kernel_rfl)) (by decide) (fun K hK => ?_)
          refine goes_ Try.func24 (by kernel_rfl) rfl #[.agg #[.int .i64 t446, .int .i64 t447, .int .i64 t448], .agg #[.int .i64 t449, .int .i64 t450, .int .i64 t451]] (by rfl) rfl rfl qB57 ?_
          with_reducible refine (impl_JacobiSum.calls kj8 t446 t447 t448 t449 t450 t451 t452 t453 t456 _ A63.out).mono ?_
          rintro e w76 ⟨v454, rfl, ho0, hb⟩
          refine ⟨_, rfl, ?_⟩
          have n0_ := Aside0.mk (Kd.R_elder' qB97 (Kd.R_base ho0) hb)
          have n1_ := Aside0.mk (Kd.R_elder' qB98 (Kd.R_base ho0) hb)
          have n2_ := Aside0.mk (Kd.R_lower (Kd.R_new' (Kd.R_new' ho0 (Kd.R_lt qB97)) (Kd.R_lt qB98)) (below_size qB17))
          have n3_ := Aside0.mk (blk_below (g := gb416) (o := .cells #[.int .i64 a0_0, .int .i64 a0_1, .int .i64 a0_2] 32 (0, 0)) qB90 hb)
          have n4_ := Aside0.mk (blk_below (g := gb417) (o := .cells #[.int .i64 a1_0, .int .i64 a1_1, .int .i64 a1_2] 32 (0, 0)) qB91 hb)
          have n5_ := Aside0.mk (blk_below (g := gb429) (o := .cells #[.int .i64 t424, .slice Ao19 t425.length co19] 34 (0, 0)) qB92 hb)
          have n6_ := Aside0.mk (blk_below (g := gb441) (o := .cells #[.int .i64 t436, .slice Ao29 t437.length co29] 34 (0, 0)) qB93 hb)
          have n7_ := Aside0.mk (blk_below (g := gb457) (o := .cells #[.int .i64 0, .slice none 0 0] 34 (0, 0)) qB94 hb)
          have n8_ := Aside0.mk (below_step qB17 hb)
          clear HO_430001
          clear HO_442001
          clear BK416
          clear BK417
          clear BK429
          clear BK441
          clear BK457
          clear HB
          have HO_430001 := n0_
          have HO_442001 := n1_
          have HO455 := n2_
          have BK416 := n3_
          have BK417 := n4_
          have BK429 := n5_
          have BK441 := n6_
          have BK457 := n7_
          have HB := n8_
          clear n0_ n1_ n2_ n3_ n4_ n5_ n6_ n7_ n8_
          (try clear hb)
          (try clear hb2)
          (try clear hk)
          (try clear hi)
          (try clear ho0)
          refine hK.out _ _ ⟨(blk_cell BK416.out 0).trans rfl, (blk_cell BK416.out 1).trans rfl, (blk_cell BK416.out 2).trans rfl, (blk_cell BK417.out 0).trans rfl, (blk_cell BK417.out 1).trans rfl, (blk_cell BK417.out 2).trans rfl⟩ (fun hHeld => ?_)
          clear hK K
          refine norm_ (a' := ?_) ?_ ?_
          rotate_left
          ·show Act.put _ (some 54) _ = _
           simp only [Act.put, List.setIfInBounds_toArray, List.set_cons_zero, List.set_cons_succ, i64_w, i32_w]
           rfl
          refine pure_ (i := 5) (N := some 49) (v := ?_) (a' := ?_) #[true, true, true, true, true, true, false, false, true, false, false] rfl rfl (any_of HT_.out (by kernel_rfl)) (fun _ _ _ h => h) (Or.inl ⟨by rfl, ?_⟩) ?_ ?_
          rotate_left
          ·intro w'
           go_simp
           with_reducible rfl
          rotate_left
          ·simp only [Act.put, List.setIfInBounds_toArray, List.set_cons_zero, List.set_cons_succ, i64_w, i32_w]
           rfl
          refine pure_ (i := 6) (N := some 55) (v := ?_) (a' := ?_) #[true, true, true, true, true, true, true, false, true, false, false] rfl rfl (any_of HT_.out (by kernel_rfl)) (fun _ _ _ h => h) (Or.inl ⟨by rfl, ?_⟩) ?_ ?_
          rotate_left
          ·intro w'
           go_simp
           with_reducible rfl
          rotate_left
          ·simp only [Act.put, List.setIfInBounds_toArray, List.set_cons_zero, List.set_cons_succ, i64_w, i32_w]
           rfl
          refine pure_ (i := 7) (N := some 56) (v := ?_) (a' := ?_) #[true, true, true, true, true, true, true, true, true, false, false] rfl rfl (any_of HT_.out (by kernel_rfl)) (fun _ _ _ h => h) (Or.inl ⟨by rfl, ?_⟩) ?_ ?_
          rotate_left
          ·intro w'
           go_simp
           with_reducible rfl
          rotate_left
          ·simp only [Act.put, List.setIfInBounds_toArray, List.set_cons_zero, List.set_cons_succ, i64_w, i32_w]
           rfl
          exact norm_ qB117 (hCont (v454, gb457) _ ⟨hHeld, qB56, qB53, qB54, qB90, qB91, qB92, qB93, qB94, GW457.out, GE457.out, NB416_457.out, NB457_416.out, NB417_457.out, NB457_417.out, NB429_457.out, NB457_429.out, NB441_457.out, NB457_441.out, qB17⟩)
        ·skip
         refine box_step ?hg (N := 11) ?hd (cs := #[.int .i64 0, .slice none 0 0]) (t := 34) ?hr ?_; (case hd => rfl); (case hg => rfl); (case hr => first | (go_simp; done) | (go_simp; rfl))
         intro gb457 hg w74 hbox hb
         have n0_ := Aside0.mk (Kd.R_below qB97 hb)
         have n1_ := Aside0.mk (Kd.R_below qB98 hb)
         have n2_ := Aside0.mk (blk_below (g := gb416) (o := .cells #[.int .i64 a0_0, .int .i64 a0_1, .int .i64 a0_2] 32 (0, 0)) qB90 hb)
         have n3_ := Aside0.mk (blk_below (g := gb417) (o := .cells #[.int .i64 a1_0, .int .i64 a1_1, .int .i64 a1_2] 32 (0, 0)) qB91 hb)
         have n4_ := Aside0.mk (blk_below (g := gb429) (o := .cells #[.int .i64 t424, .slice Ao19 t425.length co19] 34 (0, 0)) qB92 hb)
         have n5_ := Aside0.mk (blk_below (g := gb441) (o := .cells #[.int .i64 t436, .slice Ao29 t437.length co29] 34 (0, 0)) qB93 hb)
         have n6_ := Aside0.mk (below_step qB18 hb)
         have n7_ := Aside0.mk (hbox)
         have n8_ := Aside0.mk ((by rw [hg]; exact (below_size qB18) : w.heap.size ≤ gb457))
         have n9_ := Aside0.mk ((by rw [hg]; exact (below_size qB18) : w.heap.size ≤ gb457))
         have n10_ := Aside0.mk ((by rw [hg]; exact Nat.ne_of_lt (blk_lt (g := gb416) (o := .cells #[.int .i64 a0_0, .int .i64 a0_1, .int .i64 a0_2] 32 (0, 0)) qB90) : gb416 ≠ gb457))
         have n11_ := Aside0.mk ((by rw [hg]; exact Nat.ne_of_gt (blk_lt (g := gb416) (o := .cells #[.int .i64 a0_0, .int .i64 a0_1, .int .i64 a0_2] 32 (0, 0)) qB90) : gb457 ≠ gb416))
         have n12_ := Aside0.mk ((by rw [hg]; exact Nat.ne_of_lt (blk_lt (g := gb417) (o := .cells #[.int .i64 a1_0, .int .i64 a1_1, .int .i64 a1_2] 32 (0, 0)) qB91) : gb417 ≠ gb457))
         have n13_ := Aside0.mk ((by rw [hg]; exact Nat.ne_of_gt (blk_lt (g := gb417) (o := .cells #[.int .i64 a1_0, .int .i64 a1_1, .int .i64 a1_2] 32 (0, 0)) qB91) : gb457 ≠ gb417))
         have n14_ := Aside0.mk ((by rw [hg]; exact Nat.ne_of_lt (blk_lt (g := gb429) (o := .cells #[.int .i64 t424, .slice Ao19 t425.length co19] 34 (0, 0)) qB92) : gb429 ≠ gb457))
         have n15_ := Aside0.mk ((by rw [hg]; exact Nat.ne_of_gt (blk_lt (g := gb429) (o := .cells #[.int .i64 t424, .slice Ao19 t425.length co19] 34 (0, 0)) qB92) : gb457 ≠ gb429))
         have n16_ := Aside0.mk ((by rw [hg]; exact Nat.ne_of_lt (blk_lt (g := gb441) (o := .cells #[.int .i64 t436, .slice Ao29 t437.length co29] 34 (0, 0)) qB93) : gb441 ≠ gb457))
         have n17_ := Aside0.mk ((by rw [hg]; exact Nat.ne_of_gt (blk_lt (g := gb441) (o := .cells #[.int .i64 t436, .slice Ao29 t437.length co29] 34 (0, 0)) qB93) : gb457 ≠ gb441))
         clear HO_430001
         clear HO_442001
         clear BK416
         clear BK417
         clear BK429
         clear BK441
         clear HB
         have HO_430001 := n0_
         have HO_442001 := n1_
         have BK416 := n2_
         have BK417 := n3_
         have BK429 := n4_
         have BK441 := n5_
         have HB := n6_
         have BK457 := n7_
         have GW457 := n8_
         have GE457 := n9_
         have NB416_457 := n10_
         have NB457_416 := n11_
         have NB417_457 := n12_
         have NB457_417 := n13_
         have NB429_457 := n14_
         have NB457_429 := n15_
         have NB441_457 := n16_
         have NB457_441 := n17_
         clear n0_ n1_ n2_ n3_ n4_ n5_ n6_ n7_ n8_ n9_ n10_ n11_ n12_ n13_ n14_ n15_ n16_ n17_
         clear hb hbox hg
         refine hK.out _ _ ⟨(blk_cell BK416.out 0).trans rfl, (blk_cell BK416.out 1).trans rfl, (blk_cell BK416.out 2).trans rfl, (blk_cell BK417.out 0).trans rfl, (blk_cell BK417.out 1).trans rfl, (blk_cell BK417.out 2).trans rfl⟩ (fun hHeld => ?_)
         clear hK K
         refine norm_ (a' := ?_) ?_ ?_
         rotate_left
         ·show Act.put _ (some 11) _ = _
          simp only [Act.put, List.setIfInBounds_toArray, List.set_cons_zero, List.set_cons_succ, i64_w, i32_w]
          rfl
         refine one_ (i := 3) (N := some 53) #[true, true, true, true, false, false, false, false, true, false, false] rfl rfl (one_of HT_.out (by kernel_rfl)) (by decide) (fun K hK => ?_)
         refine goes_ Try.func18 (by kernel_rfl) rfl #[.agg #[.int .i64 a1_0, .int .i64 a1_1, .int .i64 a1_2]] (by rfl) rfl rfl qB57 ?_
         with_reducible refine (laws_toCharacter.calls a1_0 a1_1 a1_2 t449 t450 t451 _ A62.out).mono ?_
         rintro e w75 ⟨rfl, hb⟩
         refine ⟨_, rfl, ?_⟩
         have n0_ := Aside0.mk (Kd.R_below qB97 hb)
         have n1_ := Aside0.mk (Kd.R_below qB98 hb)
         have n2_ := Aside0.mk (blk_below (g := gb416) (o := .cells #[.int .i64 a0_0, .int .i64 a0_1, .int .i64 a0_2] 32 (0, 0)) qB90 hb)
         have n3_ := Aside0.mk (blk_below (g := gb417) (o := .cells #[.int .i64 a1_0, .int .i64 a1_1, .int .i64 a1_2] 32 (0, 0)) qB91 hb)
         have n4_ := Aside0.mk (blk_below (g := gb429) (o := .cells #[.int .i64 t424, .slice Ao19 t425.length co19] 34 (0, 0)) qB92 hb)
         have n5_ := Aside0.mk (blk_below (g := gb441) (o := .cells #[.int .i64 t436, .slice Ao29 t437.length co29] 34 (0, 0)) qB93 hb)
         have n6_ := Aside0.mk (blk_below (g := gb457) (o := .cells #[.int .i64 0, .slice none 0 0] 34 (0, 0)) qB94 hb)
         have n7_ := Aside0.mk (below_step qB17 hb)
         clear HO_430001
         clear HO_442001
         clear BK416
         clear BK417
         clear BK429
         clear BK441
         clear BK457
         clear HB
         have HO_430001 := n0_
         have HO_442001 := n1_
         have BK416 := n2_
         have BK417 := n3_
         have BK429 := n4_
         have BK441 := n5_
         have BK457 := n6_
         have HB := n7_
         clear n0_ n1_ n2_ n3_ n4_ n5_ n6_ n7_
         (try clear hb)
         (try clear hb2)
         (try clear hk)
         (try clear hi)
         refine hK.out _ _ ⟨(blk_cell BK416.out 0).trans rfl, (blk_cell BK416.out 1).trans rfl, (blk_cell BK416.out 2).trans rfl, (blk_cell BK417.out 0).trans rfl, (blk_cell BK417.out 1).trans rfl, (blk_cell BK417.out 2).trans rfl⟩ (fun hHeld => ?_)
         clear hK K
         refine norm_ (a' := ?_) ?_ ?_
         rotate_left
         ·show Act.put _ (some 53) _ = _
          simp only [Act.put, List.setIfInBounds_toArray, List.set_cons_zero, List.set_cons_succ, i64_w, i32_w]
          rfl
         refine one_ (i := 4) (N := some 54) #[true, true, true, true, true, false, false, false, true, false, false] rfl rfl (one_of HT_.out (by kernel_rfl)) (by decide) (fun K hK => ?_)
         refine goes_ Try.func24 (by kernel_rfl) rfl #[.agg #[.int .i64 t446, .int .i64 t447, .int .i64 t448], .agg #[.int .i64 t449, .int .i64 t450, .int .i64 t451]] (by rfl) rfl rfl qB57 ?_
         with_reducible refine (impl_JacobiSum.calls kj8 t446 t447 t448 t449 t450 t451 t452 t453 t456 _ A63.out).mono ?_
         rintro e w76 ⟨v454, rfl, ho0, hb⟩
         refine ⟨_, rfl, ?_⟩
         have n0_ := Aside0.mk (Kd.R_elder' qB97 (Kd.R_base ho0) hb)
         have n1_ := Aside0.mk (Kd.R_elder' qB98 (Kd.R_base ho0) hb)
         have n2_ := Aside0.mk (Kd.R_lower (Kd.R_new' (Kd.R_new' ho0 (Kd.R_lt qB97)) (Kd.R_lt qB98)) (below_size qB17))
         have n3_ := Aside0.mk (blk_below (g := gb416) (o := .cells #[.int .i64 a0_0, .int .i64 a0_1, .int .i64 a0_2] 32 (0, 0)) qB90 hb)
         have n4_ := Aside0.mk (blk_below (g := gb417) (o := .cells #[.int .i64 a1_0, .int .i64 a1_1, .int .i64 a1_2] 32 (0, 0)) qB91 hb)
         have n5_ := Aside0.mk (blk_below (g := gb429) (o := .cells #[.int .i64 t424, .slice Ao19 t425.length co19] 34 (0, 0)) qB92 hb)
         have n6_ := Aside0.mk (blk_below (g := gb441) (o := .cells #[.int .i64 t436, .slice Ao29 t437.length co29] 34 (0, 0)) qB93 hb)
         have n7_ := Aside0.mk (blk_below (g := gb457) (o := .cells #[.int .i64 0, .slice none 0 0] 34 (0, 0)) qB94 hb)
         have n8_ := Aside0.mk (below_step qB17 hb)
         clear HO_430001
         clear HO_442001
         clear BK416
         clear BK417
         clear BK429
         clear BK441
         clear BK457
         clear HB
         have HO_430001 := n0_
         have HO_442001 := n1_
         have HO455 := n2_
         have BK416 := n3_
         have BK417 := n4_
         have BK429 := n5_
         have BK441 := n6_
         have BK457 := n7_
         have HB := n8_
         clear n0_ n1_ n2_ n3_ n4_ n5_ n6_ n7_ n8_
         (try clear hb)
         (try clear hb2)
         (try clear hk)
         (try clear hi)
         (try clear ho0)
         refine hK.out _ _ ⟨(blk_cell BK416.out 0).trans rfl, (blk_cell BK416.out 1).trans rfl, (blk_cell BK416.out 2).trans rfl, (blk_cell BK417.out 0).trans rfl, (blk_cell BK417.out 1).trans rfl, (blk_cell BK417.out 2).trans rfl⟩ (fun hHeld => ?_)
         clear hK K
         refine norm_ (a' := ?_) ?_ ?_
         rotate_left
         ·show Act.put _ (some 54) _ = _
          simp only [Act.put, List.setIfInBounds_toArray, List.set_cons_zero, List.set_cons_succ, i64_w, i32_w]
          rfl
         refine pure_ (i := 5) (N := some 49) (v := ?_) (a' := ?_) #[true, true, true, true, true, true, false, false, true, false, false] rfl rfl (any_of HT_.out (by kernel_rfl)) (fun _ _ _ h => h) (Or.inl ⟨by rfl, ?_⟩) ?_ ?_
         rotate_left
         ·intro w'
          go_simp
          with_reducible rfl
         rotate_left
         ·simp only [Act.put, List.setIfInBounds_toArray, List.set_cons_zero, List.set_cons_succ, i64_w, i32_w]
          rfl
         refine pure_ (i := 6) (N := some 55) (v := ?_) (a' := ?_) #[true, true, true, true, true, true, true, false, true, false, false] rfl rfl (any_of HT_.out (by kernel_rfl)) (fun _ _ _ h => h) (Or.inl ⟨by rfl, ?_⟩) ?_ ?_
         rotate_left
         ·intro w'
          go_simp
          with_reducible rfl
         rotate_left
         ·simp only [Act.put, List.setIfInBounds_toArray, List.set_cons_zero, List.set_cons_succ, i64_w, i32_w]
          rfl
         refine pure_ (i := 7) (N := some 56) (v := ?_) (a' := ?_) #[true, true, true, true, true, true, true, true, true, false, false] rfl rfl (any_of HT_.out (by kernel_rfl)) (fun _ _ _ h => h) (Or.inl ⟨by rfl, ?_⟩) ?_ ?_
         rotate_left
         ·intro w'
          go_simp
          with_reducible rfl
         rotate_left
         ·simp only [Act.put, List.setIfInBounds_toArray, List.set_cons_zero, List.set_cons_succ, i64_w, i32_w]
          rfl
         exact norm_ qB117 (hCont (v454, gb457) _ ⟨hHeld, qB56, qB53, qB54, qB90, qB91, qB92, qB93, qB94, GW457.out, GE457.out, NB416_457.out, NB457_416.out, NB417_457.out, NB457_417.out, NB429_457.out, NB457_429.out, NB441_457.out, NB457_441.out, qB17⟩)
       ·skip
        refine box_step ?hg (N := 11) ?hd (cs := #[.int .i64 0, .slice none 0 0]) (t := 34) ?hr ?_; (case hd => rfl); (case hg => rfl); (case hr => first | (go_simp; done) | (go_simp; rfl))
        intro gb457 hg w73 hbox hb
        have n0_ := Aside0.mk (Kd.R_below qB97 hb)
        have n1_ := Aside0.mk (Kd.R_below qB98 hb)
        have n2_ := Aside0.mk (blk_below (g := gb416) (o := .cells #[.int .i64 a0_0, .int .i64 a0_1, .int .i64 a0_2] 32 (0, 0)) qB90 hb)
        have n3_ := Aside0.mk (blk_below (g := gb417) (o := .cells #[.int .i64 a1_0, .int .i64 a1_1, .int .i64 a1_2] 32 (0, 0)) qB91 hb)
        have n4_ := Aside0.mk (blk_below (g := gb429) (o := .cells #[.int .i64 t424, .slice Ao19 t425.length co19] 34 (0, 0)) qB92 hb)
        have n5_ := Aside0.mk (blk_below (g := gb441) (o := .cells #[.int .i64 t436, .slice Ao29 t437.length co29] 34 (0, 0)) qB93 hb)
        have n6_ := Aside0.mk (below_step qB18 hb)
        have n7_ := Aside0.mk (hbox)
        have n8_ := Aside0.mk ((by rw [hg]; exact (below_size qB18) : w.heap.size ≤ gb457))
        have n9_ := Aside0.mk ((by rw [hg]; exact (below_size qB18) : w.heap.size ≤ gb457))
        have n10_ := Aside0.mk ((by rw [hg]; exact Nat.ne_of_lt (blk_lt (g := gb416) (o := .cells #[.int .i64 a0_0, .int .i64 a0_1, .int .i64 a0_2] 32 (0, 0)) qB90) : gb416 ≠ gb457))
        have n11_ := Aside0.mk ((by rw [hg]; exact Nat.ne_of_gt (blk_lt (g := gb416) (o := .cells #[.int .i64 a0_0, .int .i64 a0_1, .int .i64 a0_2] 32 (0, 0)) qB90) : gb457 ≠ gb416))
        have n12_ := Aside0.mk ((by rw [hg]; exact Nat.ne_of_lt (blk_lt (g := gb417) (o := .cells #[.int .i64 a1_0, .int .i64 a1_1, .int .i64 a1_2] 32 (0, 0)) qB91) : gb417 ≠ gb457))
        have n13_ := Aside0.mk ((by rw [hg]; exact Nat.ne_of_gt (blk_lt (g := gb417) (o := .cells #[.int .i64 a1_0, .int .i64 a1_1, .int .i64 a1_2] 32 (0, 0)) qB91) : gb457 ≠ gb417))
        have n14_ := Aside0.mk ((by rw [hg]; exact Nat.ne_of_lt (blk_lt (g := gb429) (o := .cells #[.int .i64 t424, .slice Ao19 t425.length co19] 34 (0, 0)) qB92) : gb429 ≠ gb457))
        have n15_ := Aside0.mk ((by rw [hg]; exact Nat.ne_of_gt (blk_lt (g := gb429) (o := .cells #[.int .i64 t424, .slice Ao19 t425.length co19] 34 (0, 0)) qB92) : gb457 ≠ gb429))
        have n16_ := Aside0.mk ((by rw [hg]; exact Nat.ne_of_lt (blk_lt (g := gb441) (o := .cells #[.int .i64 t436, .slice Ao29 t437.length co29] 34 (0, 0)) qB93) : gb441 ≠ gb457))
        have n17_ := Aside0.mk ((by rw [hg]; exact Nat.ne_of_gt (blk_lt (g := gb441) (o := .cells #[.int .i64 t436, .slice Ao29 t437.length co29] 34 (0, 0)) qB93) : gb457 ≠ gb441))
        clear HO_430001
        clear HO_442001
        clear BK416
        clear BK417
        clear BK429
        clear BK441
        clear HB
        have HO_430001 := n0_
        have HO_442001 := n1_
        have BK416 := n2_
        have BK417 := n3_
        have BK429 := n4_
        have BK441 := n5_
        have HB := n6_
        have BK457 := n7_
        have GW457 := n8_
        have GE457 := n9_
        have NB416_457 := n10_
        have NB457_416 := n11_
        have NB417_457 := n12_
        have NB457_417 := n13_
        have NB429_457 := n14_
        have NB457_429 := n15_
        have NB441_457 := n16_
        have NB457_441 := n17_
        clear n0_ n1_ n2_ n3_ n4_ n5_ n6_ n7_ n8_ n9_ n10_ n11_ n12_ n13_ n14_ n15_ n16_ n17_
        clear hb hbox hg
        refine hK.out _ _ ⟨(blk_cell BK416.out 0).trans rfl, (blk_cell BK416.out 1).trans rfl, (blk_cell BK416.out 2).trans rfl, (blk_cell BK417.out 0).trans rfl, (blk_cell BK417.out 1).trans rfl, (blk_cell BK417.out 2).trans rfl⟩ (fun hHeld => ?_)
        clear hK K
        refine norm_ (a' := ?_) ?_ ?_
        rotate_left
        ·show Act.put _ (some 11) _ = _
         simp only [Act.put, List.setIfInBounds_toArray, List.set_cons_zero, List.set_cons_succ, i64_w, i32_w]
         rfl
        refine one_ (i := 1) (N := some 51) #[true, true, true, false, false, false, false, false, true, false, false] rfl rfl (one_of HT_.out (by kernel_rfl)) (by decide) (fun K hK => ?_)
        refine goes_ Try.func18 (by kernel_rfl) rfl #[.agg #[.int .i64 a0_0, .int .i64 a0_1, .int .i64 a0_2]] (by rfl) rfl rfl qB57 ?_
        with_reducible refine (laws_toCharacter.calls a0_0 a0_1 a0_2 t446 t447 t448 _ A61.out).mono ?_
        rintro e w74 ⟨rfl, hb⟩
        refine ⟨_, rfl, ?_⟩
        have n0_ := Aside0.mk (Kd.R_below qB97 hb)
        have n1_ := Aside0.mk (Kd.R_below qB98 hb)
        have n2_ := Aside0.mk (blk_below (g := gb416) (o := .cells #[.int .i64 a0_0, .int .i64 a0_1, .int .i64 a0_2] 32 (0, 0)) qB90 hb)
        have n3_ := Aside0.mk (blk_below (g := gb417) (o := .cells #[.int .i64 a1_0, .int .i64 a1_1, .int .i64 a1_2] 32 (0, 0)) qB91 hb)
        have n4_ := Aside0.mk (blk_below (g := gb429) (o := .cells #[.int .i64 t424, .slice Ao19 t425.length co19] 34 (0, 0)) qB92 hb)
        have n5_ := Aside0.mk (blk_below (g := gb441) (o := .cells #[.int .i64 t436, .slice Ao29 t437.length co29] 34 (0, 0)) qB93 hb)
        have n6_ := Aside0.mk (blk_below (g := gb457) (o := .cells #[.int .i64 0, .slice none 0 0] 34 (0, 0)) qB94 hb)
        have n7_ := Aside0.mk (below_step qB17 hb)
        clear HO_430001
        clear HO_442001
        clear BK416
        clear BK417
        clear BK429
        clear BK441
        clear BK457
        clear HB
        have HO_430001 := n0_
        have HO_442001 := n1_
        have BK416 := n2_
        have BK417 := n3_
        have BK429 := n4_
        have BK441 := n5_
        have BK457 := n6_
        have HB := n7_
        clear n0_ n1_ n2_ n3_ n4_ n5_ n6_ n7_
        (try clear hb)
        (try clear hb2)
        (try clear hk)
        (try clear hi)
        refine hK.out _ _ ⟨(blk_cell BK416.out 0).trans rfl, (blk_cell BK416.out 1).trans rfl, (blk_cell BK416.out 2).trans rfl, (blk_cell BK417.out 0).trans rfl, (blk_cell BK417.out 1).trans rfl, (blk_cell BK417.out 2).trans rfl⟩ (fun hHeld => ?_)
        clear hK K
        refine norm_ (a' := ?_) ?_ ?_
        rotate_left
        ·show Act.put _ (some 51) _ = _
         simp only [Act.put, List.setIfInBounds_toArray, List.set_cons_zero, List.set_cons_succ, i64_w, i32_w]
         rfl
        refine one_ (i := 3) (N := some 53) #[true, true, true, true, false, false, false, false, true, false, false] rfl rfl (one_of HT_.out (by kernel_rfl)) (by decide) (fun K hK => ?_)
        refine goes_ Try.func18 (by kernel_rfl) rfl #[.agg #[.int .i64 a1_0, .int .i64 a1_1, .int .i64 a1_2]] (by rfl) rfl rfl qB57 ?_
        with_reducible refine (laws_toCharacter.calls a1_0 a1_1 a1_2 t449 t450 t451 _ A62.out).mono ?_
        rintro e w75 ⟨rfl, hb⟩
        refine ⟨_, rfl, ?_⟩
        have n0_ := Aside0.mk (Kd.R_below qB97 hb)
        have n1_ := Aside0.mk (Kd.R_below qB98 hb)
        have n2_ := Aside0.mk (blk_below (g := gb416) (o := .cells #[.int .i64 a0_0, .int .i64 a0_1, .int .i64 a0_2] 32 (0, 0)) qB90 hb)
        have n3_ := Aside0.mk (blk_below (g := gb417) (o := .cells #[.int .i64 a1_0, .int .i64 a1_1, .int .i64 a1_2] 32 (0, 0)) qB91 hb)
        have n4_ := Aside0.mk (blk_below (g := gb429) (o := .cells #[.int .i64 t424, .slice Ao19 t425.length co19] 34 (0, 0)) qB92 hb)
        have n5_ := Aside0.mk (blk_below (g := gb441) (o := .cells #[.int .i64 t436, .slice Ao29 t437.length co29] 34 (0, 0)) qB93 hb)
        have n6_ := Aside0.mk (blk_below (g := gb457) (o := .cells #[.int .i64 0, .slice none 0 0] 34 (0, 0)) qB94 hb)
        have n7_ := Aside0.mk (below_step qB17 hb)
        clear HO_430001
        clear HO_442001
        clear BK416
        clear BK417
        clear BK429
        clear BK441
        clear BK457
        clear HB
        have HO_430001 := n0_
        have HO_442001 := n1_
        have BK416 := n2_
        have BK417 := n3_
        have BK429 := n4_
        have BK441 := n5_
        have BK457 := n6_
        have HB := n7_
        clear n0_ n1_ n2_ n3_ n4_ n5_ n6_ n7_
        (try clear hb)
        (try clear hb2)
        (try clear hk)
        (try clear hi)
        refine hK.out _ _ ⟨(blk_cell BK416.out 0).trans rfl, (blk_cell BK416.out 1).trans rfl, (blk_cell BK416.out 2).trans rfl, (blk_cell BK417.out 0).trans rfl, (blk_cell BK417.out 1).trans rfl, (blk_cell BK417.out 2).trans rfl⟩ (fun hHeld => ?_)
        clear hK K
        refine norm_ (a' := ?_) ?_ ?_
        rotate_left
        ·show Act.put _ (some 53) _ = _
         simp only [Act.put, List.setIfInBounds_toArray, List.set_cons_zero, List.set_cons_succ, i64_w, i32_w]
         rfl
        refine one_ (i := 4) (N := some 54) #[true, true, true, true, true, false, false, false, true, false, false] rfl rfl (one_of HT_.out (by kernel_rfl)) (by decide) (fun K hK => ?_)
        refine goes_ Try.func24 (by kernel_rfl) rfl #[.agg #[.int .i64 t446, .int .i64 t447, .int .i64 t448], .agg #[.int .i64 t449, .int .i64 t450, .int .i64 t451]] (by rfl) rfl rfl qB57 ?_
        with_reducible refine (impl_JacobiSum.calls kj8 t446 t447 t448 t449 t450 t451 t452 t453 t456 _ A63.out).mono ?_
        rintro e w76 ⟨v454, rfl, ho0, hb⟩
        refine ⟨_, rfl, ?_⟩
        have n0_ := Aside0.mk (Kd.R_elder' qB97 (Kd.R_base ho0) hb)
        have n1_ := Aside0.mk (Kd.R_elder' qB98 (Kd.R_base ho0) hb)
        have n2_ := Aside0.mk (Kd.R_lower (Kd.R_new' (Kd.R_new' ho0 (Kd.R_lt qB97)) (Kd.R_lt qB98)) (below_size qB17))
        have n3_ := Aside0.mk (blk_below (g := gb416) (o := .cells #[.int .i64 a0_0, .int .i64 a0_1, .int .i64 a0_2] 32 (0, 0)) qB90 hb)
        have n4_ := Aside0.mk (blk_below (g := gb417) (o := .cells #[.int .i64 a1_0, .int .i64 a1_1, .int .i64 a1_2] 32 (0, 0)) qB91 hb)
        have n5_ := Aside0.mk (blk_below (g := gb429) (o := .cells #[.int .i64 t424, .slice Ao19 t425.length co19] 34 (0, 0)) qB92 hb)
        have n6_ := Aside0.mk (blk_below (g := gb441) (o := .cells #[.int .i64 t436, .slice Ao29 t437.length co29] 34 (0, 0)) qB93 hb)
        have n7_ := Aside0.mk (blk_below (g := gb457) (o := .cells #[.int .i64 0, .slice none 0 0] 34 (0, 0)) qB94 hb)
        have n8_ := Aside0.mk (below_step qB17 hb)
        clear HO_430001
        clear HO_442001
        clear BK416
        clear BK417
        clear BK429
        clear BK441
        clear BK457
        clear HB
        have HO_430001 := n0_
        have HO_442001 := n1_
        have HO455 := n2_
        have BK416 := n3_
        have BK417 := n4_
        have BK429 := n5_
        have BK441 := n6_
        have BK457 := n7_
        have HB := n8_
        clear n0_ n1_ n2_ n3_ n4_ n5_ n6_ n7_ n8_
        (try clear hb)
        (try clear hb2)
        (try clear hk)
        (try clear hi)
        (try clear ho0)
        refine hK.out _ _ ⟨(blk_cell BK416.out 0).trans rfl, (blk_cell BK416.out 1).trans rfl, (blk_cell BK416.out 2).trans rfl, (blk_cell BK417.out 0).trans rfl, (blk_cell BK417.out 1).trans rfl, (blk_cell BK417.out 2).trans rfl⟩ (fun hHeld => ?_)
        clear hK K
        refine norm_ (a' := ?_) ?_ ?_
        rotate_left
        ·show Act.put _ (some 54) _ = _
         simp only [Act.put, List.setIfInBounds_toArray, List.set_cons_zero, List.set_cons_succ, i64_w, i32_w]
         rfl
        refine pure_ (i := 5) (N := some 49) (v := ?_) (a' := ?_) #[true, true, true, true, true, true, false, false, true, false, false] rfl rfl (any_of HT_.out (by kernel_rfl)) (fun _ _ _ h => h) (Or.inl ⟨by rfl, ?_⟩) ?_ ?_
        rotate_left
        ·intro w'
         go_simp
         with_reducible rfl
        rotate_left
        ·simp only [Act.put, List.setIfInBounds_toArray, List.set_cons_zero, List.set_cons_succ, i64_w, i32_w]
         rfl
        refine pure_ (i := 6) (N := some 55) (v := ?_) (a' := ?_) #[true, true, true, true, true, true, true, false, true, false, false] rfl rfl (any_of HT_.out (by kernel_rfl)) (fun _ _ _ h => h) (Or.inl ⟨by rfl, ?_⟩) ?_ ?_
        rotate_left
        ·intro w'
         go_simp
         with_reducible rfl
        rotate_left
        ·simp only [Act.put, List.setIfInBounds_toArray, List.set_cons_zero, List.set_cons_succ, i64_w, i32_w]
         rfl
        refine pure_ (i := 7) (N := some 56) (v := ?_) (a' := ?_) #[true, true, true, true, true, true, true, true, true, false, false] rfl rfl (any_of HT_.out (by kernel_rfl)) (fun _ _ _ h => h) (Or.inl ⟨by rfl, ?_⟩) ?_ ?_
        rotate_left
        ·intro w'
         go_simp
         with_reducible rfl
        rotate_left
        ·simp only [Act.put, List.setIfInBounds_toArray, List.set_cons_zero, List.set_cons_succ, i64_w, i32_w]
         rfl
        exact norm_ qB117 (hCont (v454, gb457) _ ⟨hHeld, qB56, qB53, qB54, qB90, qB91, qB92, qB93, qB94, GW457.out, GE457.out, NB416_457.out, NB457_416.out, NB417_457.out, NB457_417.out, NB429_457.out, NB457_429.out, NB441_457.out, NB457_441.out, qB17⟩)
      rintro ⟨v454, gb457⟩ w77 ⟨hS_, h0_, h1_, h2_, h3_, h4_, h5_, h6_, h7_, h8_, h9_, h10_, h11_, h12_, h13_, h14_, h15_, h16_, h17_, h18_⟩
      have n0_ : Aside0 (Kd.R (Kd.int .i64) 2 w77 w.heap.size (fun k_ => some k_ ≠ (.slice Ao19 t425.length co19 : Value).ownBlock ∧ some k_ ≠ (.slice Ao29 t437.length co29 : Value).ownBlock) v454 t453) := ⟨h0_⟩
      have n1_ : Aside0 (Kd.R (Kd.int .i64) 2 w77 w.heap.size (fun k_ => some k_ ≠ (v454 : Value).ownBlock ∧ some k_ ≠ (.slice Ao29 t437.length co29 : Value).ownBlock) (.slice Ao19 t425.length co19) t425) := ⟨h1_⟩
      have n2_ : Aside0 (Kd.R (Kd.int .i64) 2 w77 w.heap.size (fun k_ => some k_ ≠ (v454 : Value).ownBlock ∧ some k_ ≠ (.slice Ao19 t425.length co19 : Value).ownBlock) (.slice Ao29 t437.length co29) t444) := ⟨h2_⟩
      have n3_ : Aside0 (w77.heap[gb416]? = some (.cells #[.int .i64 a0_0, .int .i64 a0_1, .int .i64 a0_2] 32 (0, 0))) := ⟨h3_⟩
      have n4_ : Aside0 (w77.heap[gb417]? = some (.cells #[.int .i64 a1_0, .int .i64 a1_1, .int .i64 a1_2] 32 (0, 0))) := ⟨h4_⟩
      have n5_ : Aside0 (w77.heap[gb429]? = some (.cells #[.int .i64 t424, .slice Ao19 t425.length co19] 34 (0, 0))) := ⟨h5_⟩
      have n6_ : Aside0 (w77.heap[gb441]? = some (.cells #[.int .i64 t436, .slice Ao29 t437.length co29] 34 (0, 0))) := ⟨h6_⟩
      have n7_ : Aside0 (w77.heap[gb457]? = some (.cells #[.int .i64 0, .slice none 0 0] 34 (0, 0))) := ⟨h7_⟩
      have n8_ : Aside0 (w.heap.size ≤ gb457) := ⟨h8_⟩
      have n9_ : Aside0 (w.heap.size ≤ gb457) := ⟨h9_⟩
      have n10_ : Aside0 (gb416 ≠ gb457) := ⟨h10_⟩
      have n11_ : Aside0 (gb457 ≠ gb416) := ⟨h11_⟩
      have n12_ : Aside0 (gb417 ≠ gb457) := ⟨h12_⟩
      have n13_ : Aside0 (gb457 ≠ gb417) := ⟨h13_⟩
      have n14_ : Aside0 (gb429 ≠ gb457) := ⟨h14_⟩
      have n15_ : Aside0 (gb457 ≠ gb429) := ⟨h15_⟩
      have n16_ : Aside0 (gb441 ≠ gb457) := ⟨h16_⟩
      have n17_ : Aside0 (gb457 ≠ gb441) := ⟨h17_⟩
      have n18_ : Aside0 (Below w.heap.size w w77) := ⟨h18_⟩
      clear HO_430001
      clear HO_442001
      clear BK416
      clear BK417
      clear BK429
      clear BK441
      clear HB
      clear h0_ h1_ h2_ h3_ h4_ h5_ h6_ h7_ h8_ h9_ h10_ h11_ h12_ h13_ h14_ h15_ h16_ h17_ h18_
      have HO455 := n0_
      have HO_430001 := n1_
      have HO_442001 := n2_
      have BK416 := n3_
      have BK417 := n4_
      have BK429 := n5_
      have BK441 := n6_
      have BK457 := n7_
      have GW457 := n8_
      have GE457 := n9_
      have NB416_457 := n10_
      have NB457_416 := n11_
      have NB417_457 := n12_
      have NB457_417 := n13_
      have NB429_457 := n14_
      have NB457_429 := n15_
      have NB441_457 := n16_
      have NB457_441 := n17_
      have HB := n18_
      clear n0_ n1_ n2_ n3_ n4_ n5_ n6_ n7_ n8_ n9_ n10_ n11_ n12_ n13_ n14_ n15_ n16_ n17_ n18_
      have hHeld : w77.cell? ⟨gb416, 0, none⟩ = some (.int .i64 a0_0) ∧ w77.cell? ⟨gb416, 1, none⟩ = some (.int .i64 a0_1) ∧ w77.cell? ⟨gb416, 2, none⟩ = some (.int .i64 a0_2) ∧ w77.cell? ⟨gb417, 0, none⟩ = some (.int .i64 a1_0) ∧ w77.cell? ⟨gb417, 1, none⟩ = some (.int .i64 a1_1) ∧ w77.cell? ⟨gb417, 2, none⟩ = some (.int .i64 a1_2) := hS_
      obtain ⟨Ao79, co79, eo79⟩ := Kd.R_slice HO455.out
      (first | subst eo79 | (injection eo79 with f1_ f2_ f3_; have f4_ := f1_.symm; have f5_ := f3_.symm; clear f1_ f2_ f3_; subst f4_; subst f5_))
      refine norm_ (a' := ?_) ?_ ?_
      rotate_left
      ·simp only [putAll, Act.put, List.setIfInBounds_toArray, List.set_cons_zero, List.set_cons_succ]
       rfl
      refine one_ (i := 9) (N := none) #[true, true, true, true, true, true, true, true, true, true, false] rfl rfl (one_of HT_.out (by kernel_rfl)) (by decide) (fun K hK => ?_)
      have hs78 : w77.cell? ⟨gb457, 0, none⟩ = some (.int .i64 0) := (blk_cell BK457.out 0).trans rfl
      have hfs78 := blk_frozen BK457.out 0
      have hns78_0 := NB416_457.out
      have hns78_1 := NB417_457.out
      have hns78_2 := NB429_457.out
      have hns78_3 := NB441_457.out
      have hms78_0 := NB457_416.out
      have hms78_1 := NB457_417.out
      have hms78_2 := NB457_429.out
      have hms78_3 := NB457_441.out
      have hs80 : w77.cell? ⟨gb457, 1, none⟩ = some (.slice none 0 0) := (blk_cell BK457.out 1).trans rfl
      have hfs80 := blk_frozen BK457.out 1
      have hns80_0 := NB416_457.out
      have hns80_1 := NB417_457.out
      have hns80_2 := NB429_457.out
      have hns80_3 := NB441_457.out
      have hms80_0 := NB457_416.out
      have hms80_1 := NB457_417.out
      have hms80_2 := NB457_429.out
      have hms80_3 := NB457_441.out
      refine skip_ (w1 := ?_) (by rfl) rfl ?_ ?_
      rotate_left
      ·go_simp
       rfl
      refine hK.out _ _ ⟨((cell_far (p := ⟨gb457, _, none⟩) NB416_457.out _).trans (((cell_far (p := ⟨gb457, _, none⟩) NB416_457.out _).trans (hHeld.1)))), ((cell_far (p := ⟨gb457, _, none⟩) NB416_457.out _).trans (((cell_far (p := ⟨gb457, _, none⟩) NB416_457.out _).trans (hHeld.2.1)))), ((cell_far (p := ⟨gb457, _, none⟩) NB416_457.out _).trans (((cell_far (p := ⟨gb457, _, none⟩) NB416_457.out _).trans (hHeld.2.2.1)))), ((cell_far (p := ⟨gb457, _, none⟩) NB417_457.out _).trans (((cell_far (p := ⟨gb457, _, none⟩) NB417_457.out _).trans (hHeld.2.2.2.1)))), ((cell_far (p := ⟨gb457, _, none⟩) NB417_457.out _).trans (((cell_far (p := ⟨gb457, _, none⟩) NB417_457.out _).trans (hHeld.2.2.2.2.1)))), ((cell_far (p := ⟨gb457, _, none⟩) NB417_457.out _).trans (((cell_far (p := ⟨gb457, _, none⟩) NB417_457.out _).trans (hHeld.2.2.2.2.2))))⟩ (fun hHeld => ?_)
      clear hK K
      refine pure_ (i := 10) (N := some 12) (v := ?_) (a' := ?_) #[true, true, true, true, true, true, true, true, true, true, true] rfl rfl (any_of HT_.out (by kernel_rfl)) (fun _ _ _ h => h) (Or.inl ⟨by rfl, ?_⟩) ?_ ?_
      rotate_left
      ·intro w'
       go_simp
       with_reducible rfl
      rotate_left
      ·simp only [Act.put, List.setIfInBounds_toArray, List.set_cons_zero, List.set_cons_succ, i64_w, i32_w]
       rfl
      refine done_ (done_of HT_.out (by kernel_rfl)) ?_
      go_upto_region 14 with (fail)
      go_cut [65] (fun v65 wc => ∃ (kq : Nat) (x65_63 : Bool), v65 = .bool x65_63 ∧ Aside0 (laws_FnExactJacobiSum.j1 kq t443 x65_63 t436 t444 = some r) ∧ Aside0 (kq ≤ kj8) ∧ Aside0 (Kd.R (Kd.int .i64) 2 wc w.heap.size (fun k_ => some k_ ≠ ((.slice Ao29 t437.length co29) : Value).ownBlock ∧ some k_ ≠ ((.slice Ao79 t453.length co79) : Value).ownBlock) (.slice Ao19 t425.length co19) t425) ∧ Aside0 (Kd.R (Kd.int .i64) 2 wc w.heap.size (fun k_ => some k_ ≠ ((.slice Ao19 t425.length co19) : Value).ownBlock ∧ some k_ ≠ ((.slice Ao79 t453.length co79) : Value).ownBlock) (.slice Ao29 t437.length co29) t444) ∧ Aside0 (Kd.R (Kd.int .i64) 2 wc w.heap.size (fun k_ => some k_ ≠ ((.slice Ao19 t425.length co19) : Value).ownBlock ∧ some k_ ≠ ((.slice Ao29 t437.length co29) : Value).ownBlock) (.slice Ao79 t453.length co79) t453) ∧ Aside0 (wc.heap[gb416]? = some (.cells #[.int .i64 a0_0, .int .i64 a0_1, .int .i64 a0_2] 32 (0, 0))) ∧ Aside0 (wc.heap[gb417]? = some (.cells #[.int .i64 a1_0, .int .i64 a1_1, .int .i64 a1_2] 32 (0, 0))) ∧ Aside0 (wc.heap[gb429]? = some (.cells #[.int .i64 t424, (.slice Ao19 t425.length co19)] 34 (0, 0))) ∧ Aside0 (wc.heap[gb441]? = some (.cells #[.int .i64 t436, (.slice Ao29 t437.length co29)] 34 (0, 0))) ∧ Aside0 (wc.heap[gb457]? = some (.cells #[.int .i64 t452, (.slice Ao79 t453.length co79)] 34 (0, 0))) ∧ Aside0 (Below w.heap.size w wc))
      case first =>
       have H := HC64.out
       clear HC64
       replace H := Option.bind_eq_some_iff.mp H
       obtain ⟨t458, A810, H⟩ := H
       replace H : (if t458 = true then (laws_FnExactJacobiSum.j1 kj8 t443 (t456 != t428) t436 t444) else (laws_FnExactJacobiSum.j1 kj8 t443 true t436 t444)) = some r := H
       have A81 := Aside0.mk A810
       clear A810
       by_cases c82 : t458 = true
       ·subst c82
        have H1 : (laws_FnExactJacobiSum.j1 kj8 t443 (t456 != t428) t436 t444) = some r := by rw [if_pos rfl] at H; exact H
        clear H
        have H := H1
        clear H1
        have H' := Aside0.mk H
        clear H
        have hnb83 := NB457_416.out
        have hnc83 := NB416_457.out
        have hnb84 := NB457_417.out
        have hnc84 := NB417_457.out
        have hnb85 := NB457_429.out
        have hnc85 := NB429_457.out
        have hnb86 := NB457_441.out
        have hnc86 := NB441_457.out
        have hcz87_0 : w77.cell? ⟨gb457, 0, none⟩ = some (.int .i64 0) := (blk_cell BK457.out 0).trans rfl
        have hcz87_1 : w77.cell? ⟨gb457, 1, none⟩ = some (.slice none 0 0) := (blk_cell BK457.out 1).trans rfl
        have hfz87_0 := blk_frozen BK457.out 0
        have hfz87_1 := blk_frozen BK457.out 1
        have hnb88 := NB429_416.out
        have hnc88 := NB416_429.out
        have hnb89 := NB429_417.out
        have hnc89 := NB417_429.out
        have hnb90 := NB429_441.out
        have hnc90 := NB441_429.out
        have hcz91_0 : w77.cell? ⟨gb429, 0, none⟩ = some (.int .i64 t424) := (blk_cell BK429.out 0).trans rfl
        have hcz91_1 : w77.cell? ⟨gb429, 1, none⟩ = some (.slice Ao19 t425.length co19) := (blk_cell BK429.out 1).trans rfl
        have hfz91_0 := blk_frozen BK429.out 0
        have hfz91_1 := blk_frozen BK429.out 1
        go_wp2_with (first | ((with_reducible refine gate_callee (f := 20) rfl ?_); refine goesL_ (some 59) rfl rfl Try.func20 (by kernel_rfl) rfl #[.agg #[.int .i64 t452, .slice Ao79 t453.length co79], .agg #[.int .i64 t424, .slice Ao19 t425.length co19]] rfl qB57 ?_; (with_reducible refine (laws_eqCyclo.calls kj8 t452 _ _ t453 t424 _ _ t425 true _ ?side1 ?side2 ?side3 ?side4 A81.out).mono ?_); (case side1 => refine (Kd.R_reads' (e := 2) (base := w.heap.size) (ok := fun k_ => (some k_ ≠ (.slice Ao19 t425.length co19 : Value).ownBlock ∧ some k_ ≠ (.slice Ao29 t437.length co29 : Value).ownBlock)) (n := t453.length) (c := co79) ?_).2.2; exact qB16); (case side2 => exact (Kd.R_reads' HO455.out).2.1); (case side3 => refine (Kd.R_reads' (e := 2) (base := w.heap.size) (ok := fun k_ => (some k_ ≠ (.slice Ao79 t453.length co79 : Value).ownBlock ∧ some k_ ≠ (.slice Ao29 t437.length co29 : Value).ownBlock)) (n := t425.length) (c := co19) ?_).2.2; exact qB12); (case side4 => exact (Kd.R_reads' HO_430001.out).2.1); rintro e w92 ⟨rfl, hb⟩; refine ⟨_, rfl, ?_⟩; have n0_ := Aside0.mk (Kd.R_below qB12 hb); have n1_ := Aside0.mk (Kd.R_below qB13 hb); have n2_ := Aside0.mk (Kd.R_below qB16 hb); have n3_ := Aside0.mk (blk_below (g := gb416) (o := .cells #[.int .i64 a0_0, .int .i64 a0_1, .int .i64 a0_2] 32 (0, 0)) qB8 hb); have n4_ := Aside0.mk (blk_below (g := gb417) (o := .cells #[.int .i64 a1_0, .int .i64 a1_1, .int .i64 a1_2] 32 (0, 0)) qB9 hb); have n5_ := Aside0.mk (blk_below (g := gb429) (o := .cells #[.int .i64 t424, .slice Ao19 t425.length co19] 34 (0, 0)) qB10 hb); have n6_ := Aside0.mk (blk_below (g := gb441) (o := .cells #[.int .i64 t436, .slice Ao29 t437.length co29] 34 (0, 0)) qB11 hb); have n7_ := Aside0.mk (blk_below (g := gb457) (o := .cells #[.int .i64 t452, .slice Ao79 t453.length co79] 34 (0, 0)) qB4 hb); have n8_ := Aside0.mk (below_step qB17 hb); clear HO_430001; clear HO_442001; clear HO455; clear BK416; clear BK417; clear BK429; clear BK441; clear BK457; clear HB; have HO_430001 := n0_; have HO_442001 := n1_; have HO455 := n2_; have BK416 := n3_; have BK417 := n4_; have BK429 := n5_; have BK441 := n6_; have BK457 := n7_; have HB := n8_; clear n0_ n1_ n2_ n3_ n4_ n5_ n6_ n7_ n8_; (try clear hb); (try clear hb2); (try clear hk); (try clear hi)))
        go_meet
        case rel => exact ⟨_, ((t456 != t428)), qB122, H', ⟨by have := HJ8.out; first | omega | exact Nat.le_refl _⟩, ⟨by (with_reducible repeat (first | apply Kd.R_alloc | apply Kd.R_drewN | apply Kd.R_drew)); exact Kd.R_mono HO_430001.out (fun _ hk => ⟨hk.2, hk.1⟩)⟩, ⟨by (with_reducible repeat (first | apply Kd.R_alloc | apply Kd.R_drewN | apply Kd.R_drew)); exact Kd.R_mono HO_442001.out (fun _ hk => ⟨hk.2, hk.1⟩)⟩, ⟨by (with_reducible repeat (first | apply Kd.R_alloc | apply Kd.R_drewN | apply Kd.R_drew)); exact HO455.out⟩, ⟨by (with_reducible repeat (first | refine blk_drewN ?_ _ | refine blk_drew ?_ | refine blk_alloc ?_ _)); exact BK416.out⟩, ⟨by (with_reducible repeat (first | refine blk_drewN ?_ _ | refine blk_drew ?_ | refine blk_alloc ?_ _)); exact BK417.out⟩, ⟨by (with_reducible repeat (first | refine blk_drewN ?_ _ | refine blk_drew ?_ | refine blk_alloc ?_ _)); exact BK429.out⟩, ⟨by (with_reducible repeat (first | refine blk_drewN ?_ _ | refine blk_drew ?_ | refine blk_alloc ?_ _)); exact BK441.out⟩, ⟨by (with_reducible repeat (first | refine blk_drewN ?_ _ | refine blk_drew ?_ | refine blk_alloc ?_ _)); exact BK457.out⟩, ⟨by repeat (first | (with_reducible first | exact HB.out | apply below_alloc | apply pw_below_drewN | apply below_drew1 | refine below_set ?_ GE416.out | refine below_set ?_ GE417.out | refine below_set ?_ GE429.out | refine below_set ?_ GE441.out | refine below_set ?_ GE457.out) | exact HB.out)⟩⟩
       ·replace c82 := Bool.eq_false_iff.mpr c82
        subst c82
        have H1 : (laws_FnExactJacobiSum.j1 kj8 t443 true t436 t444) = some r := by rw [if_neg (show ¬ (false = true) by decide)] at H; exact H
        clear H
        have H := H1
        clear H1
        have H' := Aside0.mk H
        clear H
        have hnb93 := NB457_416.out
        have hnc93 := NB416_457.out
        have hnb94 := NB457_417.out
        have hnc94 := NB417_457.out
        have hnb95 := NB457_429.out
        have hnc95 := NB429_457.out
        have hnb96 := NB457_441.out
        have hnc96 := NB441_457.out
        have hcz97_0 : w77.cell? ⟨gb457, 0, none⟩ = some (.int .i64 0) := (blk_cell BK457.out 0).trans rfl
        have hcz97_1 : w77.cell? ⟨gb457, 1, none⟩ = some (.slice none 0 0) := (blk_cell BK457.out 1).trans rfl
        have hfz97_0 := blk_frozen BK457.out 0
        have hfz97_1 := blk_frozen BK457.out 1
        have hnb98 := NB429_416.out
        have hnc98 := NB416_429.out
        have hnb99 := NB429_417.out
        have hnc99 := NB417_429.out
        have hnb100 := NB429_441.out
        have hnc100 := NB441_429.out
        have hcz101_0 : w77.cell? ⟨gb429, 0, none⟩ = some (.int .i64 t424) := (blk_cell BK429.out 0).trans rfl
        have hcz101_1 : w77.cell? ⟨gb429, 1, none⟩ = some (.slice Ao19 t425.length co19) := (blk_cell BK429.out 1).trans rfl
        have hfz101_0 := blk_frozen BK429.out 0
        have hfz101_1 := blk_frozen BK429.out 1
        go_wp2_with (first | ((with_reducible refine gate_callee (f := 20) rfl ?_); refine goesL_ (some 59) rfl rfl Try.func20 (by kernel_rfl) rfl #[.agg #[.int .i64 t452, .slice Ao79 t453.length co79], .agg #[.int .i64 t424, .slice Ao19 t425.length co19]] rfl qB57 ?_; (with_reducible refine (laws_eqCyclo.calls kj8 t452 _ _ t453 t424 _ _ t425 false _ ?side1 ?side2 ?side3 ?side4 A81.out).mono ?_); (case side1 => refine (Kd.R_reads' (e := 2) (base := w.heap.size) (ok := fun k_ => (some k_ ≠ (.slice Ao19 t425.length co19 : Value).ownBlock ∧ some k_ ≠ (.slice Ao29 t437.length co29 : Value).ownBlock)) (n := t453.length) (c := co79) ?_).2.2; exact qB16); (case side2 => exact (Kd.R_reads' HO455.out).2.1); (case side3 => refine (Kd.R_reads' (e := 2) (base := w.heap.size) (ok := fun k_ => (some k_ ≠ (.slice Ao79 t453.length co79 : Value).ownBlock ∧ some k_ ≠ (.slice Ao29 t437.length co29 : Value).ownBlock)) (n := t425.length) (c := co19) ?_).2.2; exact qB12); (case side4 => exact (Kd.R_reads' HO_430001.out).2.1); rintro e w102 ⟨rfl, hb⟩; refine ⟨_, rfl, ?_⟩; have n0_ := Aside0.mk (Kd.R_below qB12 hb); have n1_ := Aside0.mk (Kd.R_below qB13 hb); have n2_ := Aside0.mk (Kd.R_below qB16 hb); have n3_ := Aside0.mk (blk_below (g := gb416) (o := .cells #[.int .i64 a0_0, .int .i64 a0_1, .int .i64 a0_2] 32 (0, 0)) qB8 hb); have n4_ := Aside0.mk (blk_below (g := gb417) (o := .cells #[.int .i64 a1_0, .int .i64 a1_1, .int .i64 a1_2] 32 (0, 0)) qB9 hb); have n5_ := Aside0.mk (blk_below (g := gb429) (o := .cells #[.int .i64 t424, .slice Ao19 t425.length co19] 34 (0, 0)) qB10 hb); have n6_ := Aside0.mk (blk_below (g := gb441) (o := .cells #[.int .i64 t436, .slice Ao29 t437.length co29] 34 (0, 0)) qB11 hb); have n7_ := Aside0.mk (blk_below (g := gb457) (o := .cells #[.int .i64 t452, .slice Ao79 t453.length co79] 34 (0, 0)) qB4 hb); have n8_ := Aside0.mk (below_step qB17 hb); clear HO_430001; clear HO_442001; clear HO455; clear BK416; clear BK417; clear BK429; clear BK441; clear BK457; clear HB; have HO_430001 := n0_; have HO_442001 := n1_; have HO455 := n2_; have BK416 := n3_; have BK417 := n4_; have BK429 := n5_; have BK441 := n6_; have BK457 := n7_; have HB := n8_; clear n0_ n1_ n2_ n3_ n4_ n5_ n6_ n7_ n8_; (try clear hb); (try clear hb2); (try clear hk); (try clear hi)))
        go_meet
        case rel => exact ⟨_, (true), qB122, H', ⟨by have := HJ8.out; first | omega | exact Nat.le_refl _⟩, ⟨by (with_reducible repeat (first | apply Kd.R_alloc | apply Kd.R_drewN | apply Kd.R_drew)); exact Kd.R_mono HO_430001.out (fun _ hk => ⟨hk.2, hk.1⟩)⟩, ⟨by (with_reducible repeat (first | apply Kd.R_alloc | apply Kd.R_drewN | apply Kd.R_drew)); exact Kd.R_mono HO_442001.out (fun _ hk => ⟨hk.2, hk.1⟩)⟩, ⟨by (with_reducible repeat (first | apply Kd.R_alloc | apply Kd.R_drewN | apply Kd.R_drew)); exact HO455.out⟩, ⟨by (with_reducible repeat (first | refine blk_drewN ?_ _ | refine blk_drew ?_ | refine blk_alloc ?_ _)); exact BK416.out⟩, ⟨by (with_reducible repeat (first | refine blk_drewN ?_ _ | refine blk_drew ?_ | refine blk_alloc ?_ _)); exact BK417.out⟩, ⟨by (with_reducible repeat (first | refine blk_drewN ?_ _ | refine blk_drew ?_ | refine blk_alloc ?_ _)); exact BK429.out⟩, ⟨by (with_reducible repeat (first | refine blk_drewN ?_ _ | refine blk_drew ?_ | refine blk_alloc ?_ _)); exact BK441.out⟩, ⟨by (with_reducible repeat (first | refine blk_drewN ?_ _ | refine blk_drew ?_ | refine blk_alloc ?_ _)); exact BK457.out⟩, ⟨by repeat (first | (with_reducible first | exact HB.out | apply below_alloc | apply pw_below_drewN | apply below_drew1 | refine below_set ?_ GE416.out | refine below_set ?_ GE417.out | refine below_set ?_ GE429.out | refine below_set ?_ GE441.out | refine below_set ?_ GE457.out) | exact HB.out)⟩⟩
      case rest =>
       clear HC64
       try clear c1
       try clear c2
       try clear p2
       try clear c8
       try clear c9
       try clear c10
       try clear c18
       try clear c20
       try clear c24
       try clear c82
       try clear c83
       try clear c84
       try clear c85
       try clear c86
       try clear c88
       try clear c89
       try clear c90
       try clear c93
       try clear c94
       try clear c95
       try clear c96
       try clear c98
       try clear c99
       try clear c100
       try clear hcz101_0
       try clear hcz101_1
       try clear hcz87_0
       try clear hcz87_1
       try clear hcz91_0
       try clear hcz91_1
       try clear hcz97_0
       try clear hcz97_1
       try clear hfz101_0
       try clear hfz101_1
       try clear hfz87_0
       try clear hfz87_1
       try clear hfz91_0
       try clear hfz91_1
       try clear hfz97_0
       try clear hfz97_1
       obtain ⟨kq, x65_63, rfl, HA, HJ63, HO_430001, HO_442001, HO_458001, BK416, BK417, BK429, BK441, BK457, HB⟩ := hcut
       have hl442001_63 := (Kd.R_reads' HO_442001.out).1
       rw [hl442001_63] at HO_442001
       (try simp only [hl442001_63])
       (try simp only [hl442001_63] at BK416)
       (try simp only [hl442001_63] at BK417)
       (try simp only [hl442001_63] at BK429)
       (try simp only [hl442001_63] at BK441)
       (try simp only [hl442001_63] at BK457)
       (try simp only [hl442001_63] at HO_430001)
       (try simp only [hl442001_63] at HO_458001)
       cases kq with
       | zero => exact absurd HA.out (by simp [laws_FnExactJacobiSum.j1])
       | succ kj63 =>
        have H := HA.out
        clear HA
        simp only [laws_FnExactJacobiSum.j1] at H
        by_cases c103 : x65_63 = true
        ·subst c103
         have H1 : (some false) = some r := by rw [if_pos rfl] at H; exact H
         clear H
         have H := H1
         clear H1
         obtain rfl := Option.some.inj H
         go_wp2
         go_ret
         exact ⟨by first | rfl | (simp [errW_none, errW_some] <;> rfl) | (simp [*, errW_none, errW_some] <;> rfl), by repeat (first | (with_reducible first | exact HB.out | apply below_alloc | apply pw_below_drewN | apply below_drew1 | refine below_set ?_ GE416.out | refine below_set ?_ GE417.out | refine below_set ?_ GE429.out | refine below_set ?_ GE441.out | refine below_set ?_ GE457.out) | exact HB.out)⟩
        ·replace c103 := Bool.eq_false_iff.mpr c103
         subst c103
         have H1 : ((laws_heldCyclo.f kj63 t436 t444 1).bind fun t459 => (if t459 < 0 then (some false) else (if t459 = t443 then (some true) else (some false)))) = some r := by rw [if_neg (show ¬ (false = true) by decide)] at H; exact H
         clear H
         have H := H1
         clear H1
         replace H := Option.bind_eq_some_iff.mp H
         obtain ⟨t459, A1040, H⟩ := H
         replace H : (if t459 < 0 then (some false) else (if t459 = t443 then (some true) else (some false))) = some r := H
         have A104 := Aside0.mk A1040
         clear A1040
         by_cases c105 : t459 < 0
         ·rw [if_pos c105] at H
          have c105b0 : decide (t459 < 0) = true := decide_eq_true c105
          clear c105
          obtain rfl := Option.some.inj H
          have hnb106 := NB441_416.out
          have hnc106 := NB416_441.out
          have hnb107 := NB441_417.out
          have hnc107 := NB417_441.out
          have hnb108 := NB441_429.out
          have hnc108 := NB429_441.out
          have hnb109 := NB441_457.out
          have hnc109 := NB457_441.out
          have hcz110_0 : wc.cell? ⟨gb441, 0, none⟩ = some (.int .i64 t436) := (blk_cell BK441.out 0).trans rfl
          have hcz110_1 : wc.cell? ⟨gb441, 1, none⟩ = some (.slice Ao29 t444.length co29) := (blk_cell BK441.out 1).trans rfl
          have hfz110_0 := blk_frozen BK441.out 0
          have hfz110_1 := blk_frozen BK441.out 1
          go_wp2_with (first | ((with_reducible refine gate_callee (f := 22) rfl ?_); refine goesL_ (some 68) rfl rfl Try.func22 (by kernel_rfl) rfl #[.agg #[.int .i64 t436, .slice Ao29 t444.length co29], .int .i64 1] rfl qB57 ?_; (with_reducible refine (laws_heldCyclo.calls kj63 t436 _ _ t444 1 t459 _ ?side1 ?side2 A104.out).mono ?_); (case side1 => repeat (first | exact (Kd.R_reads' HO_442001.out).2.2 | (with_reducible refine Kd.C_alloc ?_ _) | (with_reducible refine Kd.C_drewN ?_ _) | (with_reducible refine Kd.C_drew ?_))); (case side2 => exact (Kd.R_reads' HO_442001.out).2.1); rintro e w111 ⟨rfl, hb⟩; refine ⟨_, rfl, ?_⟩; have n0_ := Aside0.mk (Kd.R_below qB97 hb); have n1_ := Aside0.mk (Kd.R_below qB98 hb); have n2_ := Aside0.mk (Kd.R_below qB99 hb); have n3_ := Aside0.mk (blk_below (g := gb416) (o := .cells #[.int .i64 a0_0, .int .i64 a0_1, .int .i64 a0_2] 32 (0, 0)) qB90 hb); have n4_ := Aside0.mk (blk_below (g := gb417) (o := .cells #[.int .i64 a1_0, .int .i64 a1_1, .int .i64 a1_2] 32 (0, 0)) qB91 hb); have n5_ := Aside0.mk (blk_below (g := gb429) (o := .cells #[.int .i64 t424, .slice Ao19 t425.length co19] 34 (0, 0)) qB92 hb); have n6_ := Aside0.mk (blk_below (g := gb441) (o := .cells #[.int .i64 t436, .slice Ao29 t444.length co29] 34 (0, 0)) qB93 hb); have n7_ := Aside0.mk (blk_below (g := gb457) (o := .cells #[.int .i64 t452, .slice Ao79 t453.length co79] 34 (0, 0)) qB94 hb); have n8_ := Aside0.mk (below_step qB17 hb); clear HO_430001; clear HO_442001; clear HO_458001; clear BK416; clear BK417; clear BK429; clear BK441; clear BK457; clear HB; have HO_430001 := n0_; have HO_442001 := n1_; have HO_458001 := n2_; have BK416 := n3_; have BK417 := n4_; have BK429 := n5_; have BK441 := n6_; have BK457 := n7_; have HB := n8_; clear n0_ n1_ n2_ n3_ n4_ n5_ n6_ n7_ n8_; (try clear hb); (try clear hb2); (try clear hk); (try clear hi)))
          go_ret
          exact ⟨by first | rfl | (simp [errW_none, errW_some] <;> rfl) | (simp [*, errW_none, errW_some] <;> rfl), by repeat (first | (with_reducible first | exact HB.out | apply below_alloc | apply pw_below_drewN | apply below_drew1 | refine below_set ?_ GE416.out | refine below_set ?_ GE417.out | refine below_set ?_ GE429.out | refine below_set ?_ GE441.out | refine below_set ?_ GE457.out) | exact HB.out)⟩
         ·rw [if_neg c105] at H
          have c105b0 : decide (t459 < 0) = false := decide_eq_false c105
          clear c105
          by_cases c112 : t459 = t443
          ·rw [if_pos c112] at H
           have c112b0 : (t459 == t443) = true := beq_iff_eq.mpr c112
           have c112b1 : (t459 != t443) = false := bne_eq_false_iff_eq.mpr c112
           clear c112
           obtain rfl := Option.some.inj H
           have hnb113 := NB441_416.out
           have hnc113 := NB416_441.out
           have hnb114 := NB441_417.out
           have hnc114 := NB417_441.out
           have hnb115 := NB441_429.out
           have hnc115 := NB429_441.out
           have hnb116 := NB441_457.out
           have hnc116 := NB457_441.out
           have hcz117_0 : wc.cell? ⟨gb441, 0, none⟩ = some (.int .i64 t436) := (blk_cell BK441.out 0).trans rfl
           have hcz117_1 : wc.cell? ⟨gb441, 1, none⟩ = some (.slice Ao29 t444.length co29) := (blk_cell BK441.out 1).trans rfl
           have hfz117_0 := blk_frozen BK441.out 0
           have hfz117_1 := blk_frozen BK441.out 1
           go_wp2_with (first | ((with_reducible refine gate_callee (f := 22) rfl ?_); refine goesL_ (some 68) rfl rfl Try.func22 (by kernel_rfl) rfl #[.agg #[.int .i64 t436, .slice Ao29 t444.length co29], .int .i64 1] rfl qB57 ?_; (with_reducible refine (laws_heldCyclo.calls kj63 t436 _ _ t444 1 t459 _ ?side1 ?side2 A104.out).mono ?_); (case side1 => repeat (first | exact (Kd.R_reads' HO_442001.out).2.2 | (with_reducible refine Kd.C_alloc ?_ _) | (with_reducible refine Kd.C_drewN ?_ _) | (with_reducible refine Kd.C_drew ?_))); (case side2 => exact (Kd.R_reads' HO_442001.out).2.1); rintro e w118 ⟨rfl, hb⟩; refine ⟨_, rfl, ?_⟩; have n0_ := Aside0.mk (Kd.R_below qB97 hb); have n1_ := Aside0.mk (Kd.R_below qB98 hb); have n2_ := Aside0.mk (Kd.R_below qB99 hb); have n3_ := Aside0.mk (blk_below (g := gb416) (o := .cells #[.int .i64 a0_0, .int .i64 a0_1, .int .i64 a0_2] 32 (0, 0)) qB90 hb); have n4_ := Aside0.mk (blk_below (g := gb417) (o := .cells #[.int .i64 a1_0, .int .i64 a1_1, .int .i64 a1_2] 32 (0, 0)) qB91 hb); have n5_ := Aside0.mk (blk_below (g := gb429) (o := .cells #[.int .i64 t424, .slice Ao19 t425.length co19] 34 (0, 0)) qB92 hb); have n6_ := Aside0.mk (blk_below (g := gb441) (o := .cells #[.int .i64 t436, .slice Ao29 t444.length co29] 34 (0, 0)) qB93 hb); have n7_ := Aside0.mk (blk_below (g := gb457) (o := .cells #[.int .i64 t452, .slice Ao79 t453.length co79] 34 (0, 0)) qB94 hb); have n8_ := Aside0.mk (below_step qB17 hb); clear HO_430001; clear HO_442001; clear HO_458001; clear BK416; clear BK417; clear BK429; clear BK441; clear BK457; clear HB; have HO_430001 := n0_; have HO_442001 := n1_; have HO_458001 := n2_; have BK416 := n3_; have BK417 := n4_; have BK429 := n5_; have BK441 := n6_; have BK457 := n7_; have HB := n8_; clear n0_ n1_ n2_ n3_ n4_ n5_ n6_ n7_ n8_; (try clear hb); (try clear hb2); (try clear hk); (try clear hi)))
           go_ret
           exact ⟨by first | rfl | (simp [errW_none, errW_some] <;> rfl) | (simp [*, errW_none, errW_some] <;> rfl), by repeat (first | (with_reducible first | exact HB.out | apply below_alloc | apply pw_below_drewN | apply below_drew1 | refine below_set ?_ GE416.out | refine below_set ?_ GE417.out | refine below_set ?_ GE429.out | refine below_set ?_ GE441.out | refine below_set ?_ GE457.out) | exact HB.out)⟩
          ·rw [if_neg c112] at H
           have c112b0 : (t459 == t443) = false := beq_eq_false_iff_ne.mpr c112
           have c112b1 : (t459 != t443) = true := bne_iff_ne.mpr c112
           obtain rfl := Option.some.inj H
           have hnb119 := NB441_416.out
           have hnc119 := NB416_441.out
           have hnb120 := NB441_417.out
           have hnc120 := NB417_441.out
           have hnb121 := NB441_429.out
           have hnc121 := NB429_441.out
           have hnb122 := NB441_457.out
           have hnc122 := NB457_441.out
           have hcz123_0 : wc.cell? ⟨gb441, 0, none⟩ = some (.int .i64 t436) := (blk_cell BK441.out 0).trans rfl
           have hcz123_1 : wc.cell? ⟨gb441, 1, none⟩ = some (.slice Ao29 t444.length co29) := (blk_cell BK441.out 1).trans rfl
           have hfz123_0 := blk_frozen BK441.out 0
           have hfz123_1 := blk_frozen BK441.out 1
           go_wp2_with (first | ((with_reducible refine gate_callee (f := 22) rfl ?_); refine goesL_ (some 68) rfl rfl Try.func22 (by kernel_rfl) rfl #[.agg #[.int .i64 t436, .slice Ao29 t444.length co29], .int .i64 1] rfl qB57 ?_; (with_reducible refine (laws_heldCyclo.calls kj63 t436 _ _ t444 1 t459 _ ?side1 ?side2 A104.out).mono ?_); (case side1 => repeat (first | exact (Kd.R_reads' HO_442001.out).2.2 | (with_reducible refine Kd.C_alloc ?_ _) | (with_reducible refine Kd.C_drewN ?_ _) | (with_reducible refine Kd.C_drew ?_))); (case side2 => exact (Kd.R_reads' HO_442001.out).2.1); rintro e w124 ⟨rfl, hb⟩; refine ⟨_, rfl, ?_⟩; have n0_ := Aside0.mk (Kd.R_below qB97 hb); have n1_ := Aside0.mk (Kd.R_below qB98 hb); have n2_ := Aside0.mk (Kd.R_below qB99 hb); have n3_ := Aside0.mk (blk_below (g := gb416) (o := .cells #[.int .i64 a0_0, .int .i64 a0_1, .int .i64 a0_2] 32 (0, 0)) qB90 hb); have n4_ := Aside0.mk (blk_below (g := gb417) (o := .cells #[.int .i64 a1_0, .int .i64 a1_1, .int .i64 a1_2] 32 (0, 0)) qB91 hb); have n5_ := Aside0.mk (blk_below (g := gb429) (o := .cells #[.int .i64 t424, .slice Ao19 t425.length co19] 34 (0, 0)) qB92 hb); have n6_ := Aside0.mk (blk_below (g := gb441) (o := .cells #[.int .i64 t436, .slice Ao29 t444.length co29] 34 (0, 0)) qB93 hb); have n7_ := Aside0.mk (blk_below (g := gb457) (o := .cells #[.int .i64 t452, .slice Ao79 t453.length co79] 34 (0, 0)) qB94 hb); have n8_ := Aside0.mk (below_step qB17 hb); clear HO_430001; clear HO_442001; clear HO_458001; clear BK416; clear BK417; clear BK429; clear BK441; clear BK457; clear HB; have HO_430001 := n0_; have HO_442001 := n1_; have HO_458001 := n2_; have BK416 := n3_; have BK417 := n4_; have BK429 := n5_; have BK441 := n6_; have BK457 := n7_; have HB := n8_; clear n0_ n1_ n2_ n3_ n4_ n5_ n6_ n7_ n8_; (try clear hb); (try clear hb2); (try clear hk); (try clear hi)))
           go_ret
           exact ⟨by first | rfl | (simp [errW_none, errW_some] <;> rfl) | (simp [*, errW_none, errW_some] <;> rfl), by repeat (first | (with_reducible first | exact HB.out | apply below_alloc | apply pw_below_drewN | apply below_drew1 | refine below_set ?_ GE416.out | refine below_set ?_ GE417.out | refine below_set ?_ GE429.out | refine below_set ?_ GE441.out | refine below_set ?_ GE457.out) | exact HB.out)⟩
     ·rw [if_neg c60] at H
      have c60b0 : (t445 == t443) = false := beq_eq_false_iff_ne.mpr c60
      have c60b1 : (t445 != t443) = true := bne_iff_ne.mpr c60
      obtain rfl := Option.some.inj H
      have hnb125 := NB441_416.out
      have hnc125 := NB416_441.out
      have hnb126 := NB441_417.out
      have hnc126 := NB417_441.out
      have hnb127 := NB441_429.out
      have hnc127 := NB429_441.out
      have hcz128_0 : wc.cell? ⟨gb441, 0, none⟩ = some (.int .i64 t436) := (blk_cell BK441.out 0).trans rfl
      have hcz128_1 : wc.cell? ⟨gb441, 1, none⟩ = some (.slice Ao29 t437.length co29) := (blk_cell BK441.out 1).trans rfl
      have hfz128_0 := blk_frozen BK441.out 0
      have hfz128_1 := blk_frozen BK441.out 1
      go_wp2_with (first | ((with_reducible refine gate_callee (f := 21) rfl ?_); refine goesL_ (some 40) rfl rfl Try.func21 (by kernel_rfl) rfl #[.agg #[.int .i64 t436, .slice Ao29 t437.length co29], .int .i64 1] rfl qB57 ?_; (with_reducible refine (laws_markCyclo.calls kj8 t436 (fun k_ => some k_ = (.slice Ao29 t437.length co29 : Value).ownBlock) (.slice Ao29 t437.length co29) t437 1 t443 t444 w _ ?side1 ?side2 A50.out).mono ?_); (case side1 => repeat (first | (with_reducible first | exact HB.out | apply below_alloc | apply pw_below_drewN | apply below_drew1 | refine below_set ?_ GE416.out | refine below_set ?_ GE417.out | refine below_set ?_ GE429.out | refine below_set ?_ GE441.out) | exact HB.out)); (case side2 => exact Kd.R_tight rfl HO_442001.out); rintro e w129 ⟨rfl, hy0, hb, hkp⟩; refine ⟨_, rfl, ?_⟩; have n0_ := Aside0.mk (Kd.R_mono (ok' := fun k_ => some k_ ≠ (.slice Ao29 t437.length co29 : Value).ownBlock) (Kd.R_keptB (HO_430001.out) hkp (fun k_ hk_ hs_ => (hk_) hs_)) (fun k_ hk_ => hk_.1)); have n1_ := Aside0.mk (Kd.R_reok rfl hy0 (fun k_ e_ => HO_442001.out.1 k_ e_)); have n2_ := Aside0.mk (blk_kept qB90 hkp (fun hs_ => (fun e_ => (Kd.R_ne HO_442001.out BK416.out (by decide)) e_) hs_)); have n3_ := Aside0.mk (blk_kept qB91 hkp (fun hs_ => (fun e_ => (Kd.R_ne HO_442001.out BK417.out (by decide)) e_) hs_)); have n4_ := Aside0.mk (blk_kept qB92 hkp (fun hs_ => (fun e_ => (Kd.R_ne HO_442001.out BK429.out (by decide)) e_) hs_)); have n5_ := Aside0.mk (blk_kept qB93 hkp (fun hs_ => (fun e_ => (Kd.R_ne HO_442001.out BK441.out (by decide)) e_) hs_)); have n6_ := Aside0.mk (hb); clear HO_430001; clear HO_442001; clear BK416; clear BK417; clear BK429; clear BK441; clear HB; have HO_430001 := n0_; have HO_442001 := n1_; have BK416 := n2_; have BK417 := n3_; have BK429 := n4_; have BK441 := n5_; have HB := n6_; clear n0_ n1_ n2_ n3_ n4_ n5_ n6_; (try clear hb); (try clear hkp); (try clear hy0); have hcz130_0 : w129.cell? ⟨gb441, 0, none⟩ = some (.int .i64 t436) := (blk_cell BK441.out 0).trans rfl; have hcz130_1 : w129.cell? ⟨gb441, 1, none⟩ = some (.slice Ao29 t437.length co29) := (blk_cell BK441.out 1).trans rfl; have hfz130_0 := blk_frozen BK441.out 0; have hfz130_1 := blk_frozen BK441.out 1) | ((with_reducible refine gate_callee (f := 22) rfl ?_); refine goesL_ (some 43) rfl rfl Try.func22 (by kernel_rfl) rfl #[.agg #[.int .i64 t436, .slice Ao29 t444.length co29], .int .i64 1] rfl qB23 ?_; (with_reducible refine (laws_heldCyclo.calls kj8 t436 _ _ t444 1 t445 _ ?side1 ?side2 A51.out).mono ?_); (case side1 => repeat (first | exact (Kd.R_reads' HO_442001.out).2.2 | (with_reducible refine Kd.C_alloc ?_ _) | (with_reducible refine Kd.C_drewN ?_ _) | (with_reducible refine Kd.C_drew ?_))); (case side2 => rw [show t444.length = t437.length from (Kd.R_reads' HO_442001.out).1.symm]; exact (Kd.R_reads' HO_442001.out).2.1); rintro e w131 ⟨rfl, hb⟩; refine ⟨_, rfl, ?_⟩; have n0_ := Aside0.mk (Kd.R_below qB97 hb); have n1_ := Aside0.mk (Kd.R_below qB98 hb); have n2_ := Aside0.mk (blk_below (g := gb416) (o := .cells #[.int .i64 a0_0, .int .i64 a0_1, .int .i64 a0_2] 32 (0, 0)) qB90 hb); have n3_ := Aside0.mk (blk_below (g := gb417) (o := .cells #[.int .i64 a1_0, .int .i64 a1_1, .int .i64 a1_2] 32 (0, 0)) qB91 hb); have n4_ := Aside0.mk (blk_below (g := gb429) (o := .cells #[.int .i64 t424, .slice Ao19 t425.length co19] 34 (0, 0)) qB92 hb); have n5_ := Aside0.mk (blk_below (g := gb441) (o := .cells #[.int .i64 t436, .slice Ao29 t437.length co29] 34 (0, 0)) qB93 hb); have n6_ := Aside0.mk (below_step qB18 hb); clear HO_430001; clear HO_442001; clear BK416; clear BK417; clear BK429; clear BK441; clear HB; have HO_430001 := n0_; have HO_442001 := n1_; have BK416 := n2_; have BK417 := n3_; have BK429 := n4_; have BK441 := n5_; have HB := n6_; clear n0_ n1_ n2_ n3_ n4_ n5_ n6_; (try clear hb); (try clear hb2); (try clear hk); (try clear hi)))
      go_ret
      exact ⟨by first | rfl | (simp [errW_none, errW_some] <;> rfl) | (simp [*, errW_none, errW_some] <;> rfl), by repeat (first | (with_reducible first | exact HB.out | apply below_alloc | apply pw_below_drewN | apply below_drew1 | refine below_set ?_ GE416.out | refine below_set ?_ GE417.out | refine below_set ?_ GE429.out | refine below_set ?_ GE441.out) | exact HB.out)⟩

/-- THE ONE PURE STATEMENT of laws_FnExactJacobiSum. -/
def laws_FnExactJacobiSum.Pure : Prop := ∀ (a0_0 : Int) (a0_1 : Int) (a0_2 : Int) (a1_0 : Int) (a1_1 : Int) (a1_2 : Int), (Lit.int .i64 a0_0).wf = true → (Lit.int .i64 a0_1).wf = true → (Lit.int .i64 a0_2).wf = true → (Lit.int .i64 a1_0).wf = true → (Lit.int .i64 a1_1).wf = true → (Lit.int .i64 a1_2).wf = true → ∃ k, laws_FnExactJacobiSum.f k a0_0 a0_1 a0_2 a1_0 a1_1 a1_2 = some true
theorem laws_FnExactJacobiSum.walk (P : laws_FnExactJacobiSum.Pure) (a0_0 : Int) (a0_1 : Int) (a0_2 : Int) (a1_0 : Int) (a1_1 : Int) (a1_2 : Int) (w : World) (w0_0 : (Lit.int .i64 a0_0).wf = true) (w0_1 : (Lit.int .i64 a0_1).wf = true) (w0_2 : (Lit.int .i64 a0_2).wf = true) (w1_0 : (Lit.int .i64 a1_0).wf = true) (w1_1 : (Lit.int .i64 a1_1).wf = true) (w1_2 : (Lit.int .i64 a1_2).wf = true) :
  Calls Try.prog 6 #[.agg #[.int .i64 a0_0, .int .i64 a0_1, .int .i64 a0_2], .agg #[.int .i64 a1_0, .int .i64 a1_1, .int .i64 a1_2]] w fun e w' => e = .returned (.bool true) ∧ Below w.heap.size w w' := by
 obtain ⟨k, h⟩ := P a0_0 a0_1 a0_2 a1_0 a1_1 a1_2 w0_0 w0_1 w0_2 w1_0 w1_1 w1_2
 refine (laws_FnExactJacobiSum.calls k a0_0 a0_1 a0_2 a1_0 a1_1 a1_2 true w  h).mono ?_
 rintro e w' ⟨rfl, hd⟩
 exact ⟨rfl, hd⟩

end Go.Proofs.Ythdpdiahkphklaa.PFnExactJacobiSum
