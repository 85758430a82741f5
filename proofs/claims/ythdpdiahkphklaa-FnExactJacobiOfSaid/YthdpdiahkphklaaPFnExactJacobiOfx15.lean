/- The functions that the law reaches, as plain functions, each with the proof that the program comes to it; no condition. Written by a program of this session (wip/mp.py) over the printing of the kit; what is marked HAND is told by hand. -/
import Derived.Test.YthdpdiahkphklaaPFnExactJacobiOfx0
import Derived.Test.YthdpdiahkphklaaPFnExactJacobiOfx1
import Derived.Test.YthdpdiahkphklaaPFnExactJacobiOfx8
import Derived.Test.YthdpdiahkphklaaPFnExactJacobiOfx14
namespace Go.Proofs.Ythdpdiahkphklaa.PFnExactJacobiOf
open Go.RowKit Go.Proofs.YthdpdiahkphklaaW.PrintWords Go.Proofs.YthdpdiahkphklaaW.PrintLast Go.Proofs.YthdpdiahkphklaaW.PrintMore
attribute [local go_sem] max2_int min2_int max_two min_two max_three min_three max_four min_four   -- for this text's walks alone
set_option linter.unusedVariables false
set_option linter.unusedSimpArgs false

/-! ### laws_FnExactJacobiOf: function 9 -/
mutual
def laws_FnExactJacobiOf.j0 : Nat → List (S32) → Int → List (S37) → Int → Bool → Int → List Int → Int → List Int → Option (Bool)
 | 0, _, _, _, _, _, _, _, _, _ => none
 | k + 1, x0, x5, x6, x8, x40, x421000, x421001, x430000, x430001 => if x40 = true then (some false) else ((laws_toCharacterS.f k x0).bind fun t431 => ((laws_eqCharacterS.f k x6 t431).bind fun t434 => (if t434 = true then ((laws_markCharacterS.f k x6 1).bind fun bt435 => (if bt435.1 < 0 then (laws_FnExactJacobiOf.j1 k x0 x5 true x421000 x421001 x430000 x430001) else ((laws_eqCyclo.f k x430000 x430001 x421000 x421001).bind fun t437 => (if t437 = true then (laws_FnExactJacobiOf.j1 k x0 x5 (x8 != x5) x421000 x421001 x430000 x430001) else (laws_FnExactJacobiOf.j1 k x0 x5 true x421000 x421001 x430000 x430001))))) else (some false))))
def laws_FnExactJacobiOf.j1 : Nat → List (S32) → Int → Bool → Int → List Int → Int → List Int → Option (Bool)
 | 0, _, _, _, _, _, _, _ => none
 | k + 1, x0, x5, x61, x421000, x421001, x430000, x430001 => if x61 = true then (some false) else ((laws_markCyclo.f k x430000 x430001 1).bind fun bt438 => ((laws_heldCyclo.f k x430000 bt438.2 1).bind fun t440 => (if t440 < 0 then (some false) else (if t440 = bt438.1 then ((laws_toCharacterS.f k x0).bind fun t441 => ((impl_JacobiOf.f k t441).bind fun bt444 => ((laws_eqCyclo.f k bt444.1 bt444.2.1 x421000 x421001).bind fun t450 => (if t450 = true then (laws_FnExactJacobiOf.j2 k bt438.1 (bt444.2.2 != x5) x430000 bt438.2) else (laws_FnExactJacobiOf.j2 k bt438.1 true x430000 bt438.2))))) else (some false)))))
def laws_FnExactJacobiOf.j2 : Nat → Int → Bool → Int → List Int → Option (Bool)
 | 0, _, _, _, _ => none
 | k + 1, x10, x87, x430000, x430001 => if x87 = true then (some false) else ((laws_heldCyclo.f k x430000 x430001 1).bind fun t451 => (if t451 < 0 then (some false) else (if t451 = x10 then (some true) else (some false))))
end
def laws_FnExactJacobiOf.f (k : Nat) (l0 : List (S32)) : Option (Bool) := (laws_szCharacterS.f l0 1048576).bind fun t411 => (if t411 < 0 then (some true) else ((laws_toCharacterS.f k l0).bind fun t412 => ((spec_JacobiOf.f k t412).bind fun bt415 => ((laws_toCharacterS.f k l0).bind fun t421 => ((impl_JacobiOf.f k t421).bind fun bt424 => ((laws_eqCyclo.f k bt424.1 bt424.2.1 bt415.1 bt415.2.1).bind fun t430 => (if t430 = true then (laws_FnExactJacobiOf.j0 k l0 bt415.2.2 t421 bt424.2.2 (bt424.2.2 != bt415.2.2) bt415.1 bt415.2.1 bt424.1 bt424.2.1) else (laws_FnExactJacobiOf.j0 k l0 bt415.2.2 t421 bt424.2.2 true bt415.1 bt415.2.1 bt424.1 bt424.2.1))))))))
theorem laws_FnExactJacobiOf.mono_l : ∀ k, (∀ y0 y1 y2 y3 y4 y5 y6 y7 y8, LeO (laws_FnExactJacobiOf.j0 k y0 y1 y2 y3 y4 y5 y6 y7 y8) (laws_FnExactJacobiOf.j0 (k + 1) y0 y1 y2 y3 y4 y5 y6 y7 y8)) ∧ (∀ y0 y1 y2 y3 y4 y5 y6, LeO (laws_FnExactJacobiOf.j1 k y0 y1 y2 y3 y4 y5 y6) (laws_FnExactJacobiOf.j1 (k + 1) y0 y1 y2 y3 y4 y5 y6)) ∧ (∀ y0 y1 y2 y3, LeO (laws_FnExactJacobiOf.j2 k y0 y1 y2 y3) (laws_FnExactJacobiOf.j2 (k + 1) y0 y1 y2 y3))
 | 0 => ⟨fun _ _ _ _ _ _ _ _ _ r h => by simp [laws_FnExactJacobiOf.j0] at h, fun _ _ _ _ _ _ _ r h => by simp [laws_FnExactJacobiOf.j1] at h, fun _ _ _ _ r h => by simp [laws_FnExactJacobiOf.j2] at h⟩
 | k + 1 => by
  obtain ⟨ih0, ih1, ih2⟩ := laws_FnExactJacobiOf.mono_l k
  refine ⟨?_, ?_, ?_⟩
  ·intro y0 y1 y2 y3 y4 y5 y6 y7 y8
   unfold laws_FnExactJacobiOf.j0
   repeat' first
   | (with_reducible exact ih0 _ _ _ _ _ _ _ _ _)
   | (with_reducible exact ih1 _ _ _ _ _ _ _)
   | (with_reducible exact ih2 _ _ _ _)
   | (with_reducible exact impl_JacobiOf.mono _ _)
   | (with_reducible exact laws_eqCharacterS.mono _ _ _)
   | (with_reducible exact laws_eqCyclo.mono _ _ _ _ _)
   | (with_reducible exact laws_heldCyclo.mono _ _ _ _)
   | (with_reducible exact laws_markCharacterS.mono _ _ _)
   | (with_reducible exact laws_markCyclo.mono _ _ _ _)
   | (with_reducible exact laws_toCharacterS.mono _ _)
   | (with_reducible exact spec_JacobiOf.mono _ _)
   | (with_reducible exact LeO.refl _)
   | (with_reducible exact LeO.none _)
   | (with_reducible refine LeO.ite ?_ ?_)
   | (with_reducible refine LeO.bind ?_ (fun _ => ?_))
   | exact ih0 _ _ _ _ _ _ _ _ _
   | exact ih1 _ _ _ _ _ _ _
   | exact ih2 _ _ _ _
   | exact impl_JacobiOf.mono _ _
   | exact laws_eqCharacterS.mono _ _ _
   | exact laws_eqCyclo.mono _ _ _ _ _
   | exact laws_heldCyclo.mono _ _ _ _
   | exact laws_markCharacterS.mono _ _ _
   | exact laws_markCyclo.mono _ _ _ _
   | exact laws_toCharacterS.mono _ _
   | exact spec_JacobiOf.mono _ _
   | exact LeO.none _
   | refine LeO.ite ?_ ?_
   | refine LeO.bind ?_ (fun _ => ?_)
  ·intro y0 y1 y2 y3 y4 y5 y6
   unfold laws_FnExactJacobiOf.j1
   repeat' first
   | (with_reducible exact ih0 _ _ _ _ _ _ _ _ _)
   | (with_reducible exact ih1 _ _ _ _ _ _ _)
   | (with_reducible exact ih2 _ _ _ _)
   | (with_reducible exact impl_JacobiOf.mono _ _)
   | (with_reducible exact laws_eqCharacterS.mono _ _ _)
   | (with_reducible exact laws_eqCyclo.mono _ _ _ _ _)
   | (with_reducible exact laws_heldCyclo.mono _ _ _ _)
   | (with_reducible exact laws_markCharacterS.mono _ _ _)
   | (with_reducible exact laws_markCyclo.mono _ _ _ _)
   | (with_reducible exact laws_toCharacterS.mono _ _)
   | (with_reducible exact spec_JacobiOf.mono _ _)
   | (with_reducible exact LeO.refl _)
   | (with_reducible exact LeO.none _)
   | (with_reducible refine LeO.ite ?_ ?_)
   | (with_reducible refine LeO.bind ?_ (fun _ => ?_))
   | exact ih0 _ _ _ _ _ _ _ _ _
   | exact ih1 _ _ _ _ _ _ _
   | exact ih2 _ _ _ _
   | exact impl_JacobiOf.mono _ _
   | exact laws_eqCharacterS.mono _ _ _
   | exact laws_eqCyclo.mono _ _ _ _ _
   | exact laws_heldCyclo.mono _ _ _ _
   | exact laws_markCharacterS.mono _ _ _
   | exact laws_markCyclo.mono _ _ _ _
   | exact laws_toCharacterS.mono _ _
   | exact spec_JacobiOf.mono _ _
   | exact LeO.none _
   | refine LeO.ite ?_ ?_
   | refine LeO.bind ?_ (fun _ => ?_)
  ·intro y0 y1 y2 y3
   unfold laws_FnExactJacobiOf.j2
   repeat' first
   | (with_reducible exact ih0 _ _ _ _ _ _ _ _ _)
   | (with_reducible exact ih1 _ _ _ _ _ _ _)
   | (with_reducible exact ih2 _ _ _ _)
   | (with_reducible exact impl_JacobiOf.mono _ _)
   | (with_reducible exact laws_eqCharacterS.mono _ _ _)
   | (with_reducible exact laws_eqCyclo.mono _ _ _ _ _)
   | (with_reducible exact laws_heldCyclo.mono _ _ _ _)
   | (with_reducible exact laws_markCharacterS.mono _ _ _)
   | (with_reducible exact laws_markCyclo.mono _ _ _ _)
   | (with_reducible exact laws_toCharacterS.mono _ _)
   | (with_reducible exact spec_JacobiOf.mono _ _)
   | (with_reducible exact LeO.refl _)
   | (with_reducible exact LeO.none _)
   | (with_reducible refine LeO.ite ?_ ?_)
   | (with_reducible refine LeO.bind ?_ (fun _ => ?_))
   | exact ih0 _ _ _ _ _ _ _ _ _
   | exact ih1 _ _ _ _ _ _ _
   | exact ih2 _ _ _ _
   | exact impl_JacobiOf.mono _ _
   | exact laws_eqCharacterS.mono _ _ _
   | exact laws_eqCyclo.mono _ _ _ _ _
   | exact laws_heldCyclo.mono _ _ _ _
   | exact laws_markCharacterS.mono _ _ _
   | exact laws_markCyclo.mono _ _ _ _
   | exact laws_toCharacterS.mono _ _
   | exact spec_JacobiOf.mono _ _
   | exact LeO.none _
   | refine LeO.ite ?_ ?_
   | refine LeO.bind ?_ (fun _ => ?_)
theorem laws_FnExactJacobiOf.mono : ∀ a0 k, LeO (laws_FnExactJacobiOf.f k a0) (laws_FnExactJacobiOf.f (k + 1) a0) := by
 intro a0 k
 obtain ⟨ih0, ih1, ih2⟩ := laws_FnExactJacobiOf.mono_l k
 unfold laws_FnExactJacobiOf.f
 repeat' first
   | (with_reducible exact ih0 _ _ _ _ _ _ _ _ _)
   | (with_reducible exact ih1 _ _ _ _ _ _ _)
   | (with_reducible exact ih2 _ _ _ _)
   | (with_reducible exact impl_JacobiOf.mono _ _)
   | (with_reducible exact laws_eqCharacterS.mono _ _ _)
   | (with_reducible exact laws_eqCyclo.mono _ _ _ _ _)
   | (with_reducible exact laws_heldCyclo.mono _ _ _ _)
   | (with_reducible exact laws_markCharacterS.mono _ _ _)
   | (with_reducible exact laws_markCyclo.mono _ _ _ _)
   | (with_reducible exact laws_toCharacterS.mono _ _)
   | (with_reducible exact spec_JacobiOf.mono _ _)
   | (with_reducible exact LeO.refl _)
   | (with_reducible exact LeO.none _)
   | (with_reducible refine LeO.ite ?_ ?_)
   | (with_reducible refine LeO.bind ?_ (fun _ => ?_))
   | exact ih0 _ _ _ _ _ _ _ _ _
   | exact ih1 _ _ _ _ _ _ _
   | exact ih2 _ _ _ _
   | exact impl_JacobiOf.mono _ _
   | exact laws_eqCharacterS.mono _ _ _
   | exact laws_eqCyclo.mono _ _ _ _ _
   | exact laws_heldCyclo.mono _ _ _ _
   | exact laws_markCharacterS.mono _ _ _
   | exact laws_markCyclo.mono _ _ _ _
   | exact laws_toCharacterS.mono _ _
   | exact spec_JacobiOf.mono _ _
   | exact LeO.none _
   | refine LeO.ite ?_ ?_
   | refine LeO.bind ?_ (fun _ => ?_)
set_option maxHeartbeats 8000000 in
set_option maxRecDepth 100000 in
theorem laws_FnExactJacobiOf.calls (k : Nat) (A0 : Option Addr) (c0 : Nat) (l0 : List (S32)) (r : Bool) (w : World) (hr0 : Kd.C k32 w A0 l0.length l0) (hc0 : l0.length ≤ c0) (h : laws_FnExactJacobiOf.f k l0 = some r) :
  Calls Try.prog 9 #[.slice A0 l0.length c0] w fun e w' => e = .returned (.bool r) ∧ Below w.heap.size w w' := by
 have hu34 := Try.underlying34
 have HR0 := Aside0.mk hr0
 have HC0 := Aside0.mk hc0
 clear hr0 hc0
 have HB := Aside0.mk (Below.refl w.heap.size w)
 have H : ((laws_szCharacterS.f l0 1048576).bind fun t411 => (if t411 < 0 then (some true) else ((laws_toCharacterS.f k l0).bind fun t412 => ((spec_JacobiOf.f k t412).bind fun bt415 => ((laws_toCharacterS.f k l0).bind fun t421 => ((impl_JacobiOf.f k t421).bind fun bt424 => ((laws_eqCyclo.f k bt424.1 bt424.2.1 bt415.1 bt415.2.1).bind fun t430 => (if t430 = true then (laws_FnExactJacobiOf.j0 k l0 bt415.2.2 t421 bt424.2.2 (bt424.2.2 != bt415.2.2) bt415.1 bt415.2.1 bt424.1 bt424.2.1) else (laws_FnExactJacobiOf.j0 k l0 bt415.2.2 t421 bt424.2.2 true bt415.1 bt415.2.1 bt424.1 bt424.2.1))))))))) = some r := h
 clear h
 replace H := Option.bind_eq_some_iff.mp H
 obtain ⟨t411, A20, H⟩ := H
 replace H : (if t411 < 0 then (some true) else ((laws_toCharacterS.f k l0).bind fun t412 => ((spec_JacobiOf.f k t412).bind fun bt415 => ((laws_toCharacterS.f k l0).bind fun t421 => ((impl_JacobiOf.f k t421).bind fun bt424 => ((laws_eqCyclo.f k bt424.1 bt424.2.1 bt415.1 bt415.2.1).bind fun t430 => (if t430 = true then (laws_FnExactJacobiOf.j0 k l0 bt415.2.2 t421 bt424.2.2 (bt424.2.2 != bt415.2.2) bt415.1 bt415.2.1 bt424.1 bt424.2.1) else (laws_FnExactJacobiOf.j0 k l0 bt415.2.2 t421 bt424.2.2 true bt415.1 bt415.2.1 bt424.1 bt424.2.1)))))))) = some r := H
 have A2 := Aside0.mk A20
 clear A20
 by_cases c3 : t411 < 0
 ·rw [if_pos c3] at H
  have c3b0 : decide (t411 < 0) = true := decide_eq_true c3
  clear c3
  obtain rfl := Option.some.inj H
  go_enter Try.func9, Try.ntmps9
  go_wp2_with (first | ((with_reducible refine gate_callee (f := 33) rfl ?_); refine goesL_ (some 16) rfl rfl Try.func33 (by kernel_rfl) rfl #[.slice A0 l0.length c0, .int .i64 1048576] rfl qB43 ?_; (with_reducible refine (laws_szCharacterS.calls _ _ l0 1048576 t411 _ ?side1 ?side2 A2.out).mono ?_); (case side1 => repeat (first | exact HR0.out | (with_reducible refine Kd.C_alloc ?_ _) | (with_reducible refine Kd.C_drewN ?_ _) | (with_reducible refine Kd.C_drew ?_))); (case side2 => exact HC0.out); rintro e w' ⟨rfl, ⟨nd, rfl⟩⟩; refine ⟨_, rfl, ?_⟩))
  go_ret
  exact ⟨by first | rfl | (simp [errW_none, errW_some] <;> rfl) | (simp [*, errW_none, errW_some] <;> rfl), by repeat (first | (with_reducible first | exact HB.out | apply below_alloc | apply pw_below_drewN | apply below_drew1) | exact HB.out)⟩
 ·rw [if_neg c3] at H
  have c3b0 : decide (t411 < 0) = false := decide_eq_false c3
  clear c3
  replace H := Option.bind_eq_some_iff.mp H
  obtain ⟨t412, A40, H⟩ := H
  replace H : ((spec_JacobiOf.f k t412).bind fun bt415 => ((laws_toCharacterS.f k l0).bind fun t421 => ((impl_JacobiOf.f k t421).bind fun bt424 => ((laws_eqCyclo.f k bt424.1 bt424.2.1 bt415.1 bt415.2.1).bind fun t430 => (if t430 = true then (laws_FnExactJacobiOf.j0 k l0 bt415.2.2 t421 bt424.2.2 (bt424.2.2 != bt415.2.2) bt415.1 bt415.2.1 bt424.1 bt424.2.1) else (laws_FnExactJacobiOf.j0 k l0 bt415.2.2 t421 bt424.2.2 true bt415.1 bt415.2.1 bt424.1 bt424.2.1)))))) = some r := H
  have A4 := Aside0.mk A40
  clear A40
  replace H := Option.bind_eq_some_iff.mp H
  obtain ⟨⟨t415, t416, t419⟩, A50, H⟩ := H
  replace H : ((laws_toCharacterS.f k l0).bind fun t421 => ((impl_JacobiOf.f k t421).bind fun bt424 => ((laws_eqCyclo.f k bt424.1 bt424.2.1 t415 t416).bind fun t430 => (if t430 = true then (laws_FnExactJacobiOf.j0 k l0 t419 t421 bt424.2.2 (bt424.2.2 != t419) t415 t416 bt424.1 bt424.2.1) else (laws_FnExactJacobiOf.j0 k l0 t419 t421 bt424.2.2 true t415 t416 bt424.1 bt424.2.1))))) = some r := H
  have A5 := Aside0.mk A50
  clear A50
  replace H := Option.bind_eq_some_iff.mp H
  obtain ⟨t421, A60, H⟩ := H
  replace H : ((impl_JacobiOf.f k t421).bind fun bt424 => ((laws_eqCyclo.f k bt424.1 bt424.2.1 t415 t416).bind fun t430 => (if t430 = true then (laws_FnExactJacobiOf.j0 k l0 t419 t421 bt424.2.2 (bt424.2.2 != t419) t415 t416 bt424.1 bt424.2.1) else (laws_FnExactJacobiOf.j0 k l0 t419 t421 bt424.2.2 true t415 t416 bt424.1 bt424.2.1)))) = some r := H
  have A6 := Aside0.mk A60
  clear A60
  replace H := Option.bind_eq_some_iff.mp H
  obtain ⟨⟨t424, t425, t428⟩, A70, H⟩ := H
  replace H : ((laws_eqCyclo.f k t424 t425 t415 t416).bind fun t430 => (if t430 = true then (laws_FnExactJacobiOf.j0 k l0 t419 t421 t428 (t428 != t419) t415 t416 t424 t425) else (laws_FnExactJacobiOf.j0 k l0 t419 t421 t428 true t415 t416 t424 t425))) = some r := H
  have A7 := Aside0.mk A70
  clear A70
  have HC8 := Aside0.mk H
  clear H
  go_enter Try.func9, Try.ntmps9
  go_upto_region 8 with (first | ((with_reducible refine gate_callee (f := 33) rfl ?_); refine goesL_ (some 16) rfl rfl Try.func33 (by kernel_rfl) rfl #[.slice A0 l0.length c0, .int .i64 1048576] rfl qB43 ?_; (with_reducible refine (laws_szCharacterS.calls _ _ l0 1048576 t411 _ ?side1 ?side2 A2.out).mono ?_); (case side1 => repeat (first | exact HR0.out | (with_reducible refine Kd.C_alloc ?_ _) | (with_reducible refine Kd.C_drewN ?_ _) | (with_reducible refine Kd.C_drew ?_))); (case side2 => exact HC0.out); rintro e w' ⟨rfl, ⟨nd, rfl⟩⟩; refine ⟨_, rfl, ?_⟩) | ((with_reducible refine gate_callee (f := 35) rfl ?_); refine goesL_ (some 21) rfl rfl Try.func35 (by kernel_rfl) rfl #[.slice A0 l0.length c0] rfl qB43 ?_; (with_reducible refine (laws_toCharacterS.calls k _ _ l0 t412 _ ?side1 ?side2 A4.out).mono ?_); (case side1 => repeat (first | exact HR0.out | (with_reducible refine Kd.C_alloc ?_ _) | (with_reducible refine Kd.C_drewN ?_ _) | (with_reducible refine Kd.C_drew ?_))); (case side2 => exact HC0.out); rintro e w9 ⟨v413, rfl, ho0, hb⟩; refine ⟨_, rfl, ?_⟩; have n0_ := Aside0.mk (Kd.R_lower ho0 (below_size qB44)); have n1_ := Aside0.mk (below_step qB44 hb); clear HB; have HO414 := n0_; have HB := n1_; clear n0_ n1_; (try clear hb); (try clear hb2); (try clear hk); (try clear hi); (try clear ho0); obtain ⟨Ao10, co10, eo10⟩ := Kd.R_slice HO414.out; subst eo10) | ((with_reducible refine gate_callee (f := 34) rfl ?_); refine goesL_ (some 22) rfl rfl Try.func34 (by kernel_rfl) rfl #[.slice Ao10 t412.length co10] rfl qB43 ?_; (with_reducible refine (spec_JacobiOf.calls k _ _ t412 t415 t416 t419 _ ?side1 ?side2 A5.out).mono ?_); (case side1 => repeat (first | exact (Kd.R_reads' HO414.out).2.2 | (with_reducible refine Kd.C_alloc ?_ _) | (with_reducible refine Kd.C_drewN ?_ _) | (with_reducible refine Kd.C_drew ?_))); (case side2 => exact (Kd.R_reads' HO414.out).2.1); rintro e w11 ⟨v417, rfl, ho0, hb⟩; refine ⟨_, rfl, ?_⟩; have n0_ := Aside0.mk (Kd.R_below qB84 hb); have n1_ := Aside0.mk (Kd.R_lower ho0 (below_size qB44)); have n2_ := Aside0.mk (below_step qB44 hb); clear HO414; clear HB; have HO414 := n0_; have HO418 := n1_; have HB := n2_; clear n0_ n1_ n2_; (try clear hb); (try clear hb2); (try clear hk); (try clear hi); (try clear ho0)) | ((with_reducible refine gate_dst (N := 4) rfl ?_); refine box_event ?hg (N := 4) ?hd (cs := #[.int .i64 0, .slice none 0 0]) (t := 34) ?hr ?_; (case hd => rfl); (case hg => rfl); (case hr => first | (go_simp; done) | (go_simp; rfl)); intro gb420 hg w12 hbox hb; have n0_ := Aside0.mk (Kd.R_below qB84 hb); have n1_ := Aside0.mk (Kd.R_below qB85 hb); have n2_ := Aside0.mk (below_step qB44 hb); have n3_ := Aside0.mk (hbox); have n4_ := Aside0.mk ((by rw [hg]; exact (below_size qB44) : w.heap.size ≤ gb420)); have n5_ := Aside0.mk ((by rw [hg]; exact (below_size qB44) : w.heap.size ≤ gb420)); clear HO414; clear HO418; clear HB; have HO414 := n0_; have HO418 := n1_; have HB := n2_; have BK420 := n3_; have GW420 := n4_; have GE420 := n5_; clear n0_ n1_ n2_ n3_ n4_ n5_; clear hb hbox hg; have hcz13_0 : w12.cell? ⟨gb420, 0, none⟩ = some (.int .i64 0) := (blk_cell BK420.out 0).trans rfl; have hcz13_1 : w12.cell? ⟨gb420, 1, none⟩ = some (.slice none 0 0) := (blk_cell BK420.out 1).trans rfl; have hfz13_0 := blk_frozen BK420.out 0; have hfz13_1 := blk_frozen BK420.out 1; obtain ⟨Ao14, co14, eo14⟩ := Kd.R_slice HO418.out; subst eo14) | ((with_reducible refine gate_callee (f := 35) rfl ?_); refine goesL_ (some 26) rfl rfl Try.func35 (by kernel_rfl) rfl #[.slice A0 l0.length c0] rfl qB43 ?_; (with_reducible refine (laws_toCharacterS.calls k _ _ l0 t421 _ ?side1 ?side2 A6.out).mono ?_); (case side1 => exact Kd.C_below HR0.out qB38); (case side2 => exact HC0.out); rintro e w15 ⟨v422, rfl, ho0, hb⟩; refine ⟨_, rfl, ?_⟩; have n0_ := Aside0.mk (Kd.R_elder' qB10 (Kd.R_base ho0) hb); have n1_ := Aside0.mk (Kd.R_below (by (with_reducible repeat (first | apply Kd.R_alloc | apply Kd.R_drewN | apply Kd.R_drew)); exact (Kd.R_mono (Kd.R_far (p := ⟨gb420, 1, none⟩) (Kd.R_far (p := ⟨gb420, 0, none⟩) (Kd.R_types HO418.out BK420.out (by decide)) (fun _ hk => hk.2) (.int .i64 t415)) (fun _ hk => hk.2) (.slice Ao14 t416.length co14)) (fun _ h_ => h_.1))) hb); have n2_ := Aside0.mk (Kd.R_lower (Kd.R_new' ho0 (Kd.R_lt qB10)) (below_size qB38)); have n3_ := Aside0.mk (blk_below (g := gb420) (o := .cells #[.int .i64 t415, .slice Ao14 t416.length co14] 34 (0, 0)) (by (with_reducible repeat (first | refine blk_drewN ?_ _ | refine blk_drew ?_ | refine blk_alloc ?_ _)); refine blk_put (cs := #[.int .i64 t415, .slice none 0 0]) ?_ 1 _ rfl; (with_reducible repeat (first | refine blk_drewN ?_ _ | refine blk_drew ?_ | refine blk_alloc ?_ _)); refine blk_put (cs := #[.int .i64 0, .slice none 0 0]) ?_ 0 _ rfl; (with_reducible repeat (first | refine blk_drewN ?_ _ | refine blk_drew ?_ | refine blk_alloc ?_ _)); exact BK420.out) hb); have n4_ := Aside0.mk (below_step qB38 hb); clear HO414; clear HO418; clear BK420; clear HB; have HO414 := n0_; have HO418 := n1_; have HO423 := n2_; have BK420 := n3_; have HB := n4_; clear n0_ n1_ n2_ n3_ n4_; (try clear hb); (try clear hb2); (try clear hk); (try clear hi); (try clear ho0); obtain ⟨Ao16, co16, eo16⟩ := Kd.R_slice HO423.out; subst eo16) | ((with_reducible refine gate_callee (f := 36) rfl ?_); refine goesL_ (some 29) rfl rfl Try.func36 (by kernel_rfl) rfl #[.slice Ao16 t421.length co16] rfl qB43 ?_; (with_reducible refine (impl_JacobiOf.calls k _ _ t421 t424 t425 t428 _ ?side1 ?side2 A7.out).mono ?_); (case side1 => repeat (first | exact (Kd.R_reads' HO423.out).2.2 | (with_reducible refine Kd.C_alloc ?_ _) | (with_reducible refine Kd.C_drewN ?_ _) | (with_reducible refine Kd.C_drew ?_))); (case side2 => exact (Kd.R_reads' HO423.out).2.1); rintro e w17 ⟨v426, rfl, ho0, hb⟩; refine ⟨_, rfl, ?_⟩; have n0_ := Aside0.mk (Kd.R_below qB84 hb); have n1_ := Aside0.mk (Kd.R_elder' qB85 (Kd.R_base ho0) hb); have n2_ := Aside0.mk (Kd.R_below qB86 hb); have n3_ := Aside0.mk (Kd.R_lower (Kd.R_new' ho0 (Kd.R_lt qB85)) (below_size qB38)); have n4_ := Aside0.mk (blk_below (g := gb420) (o := .cells #[.int .i64 t415, .slice Ao14 t416.length co14] 34 (0, 0)) qB65 hb); have n5_ := Aside0.mk (below_step qB38 hb); clear HO414; clear HO418; clear HO423; clear BK420; clear HB; have HO414 := n0_; have HO418 := n1_; have HO423 := n2_; have HO427 := n3_; have BK420 := n4_; have HB := n5_; clear n0_ n1_ n2_ n3_ n4_ n5_; (try clear hb); (try clear hb2); (try clear hk); (try clear hi); (try clear ho0)) | ((with_reducible refine gate_dst (N := 7) rfl ?_); refine box_event ?hg (N := 7) ?hd (cs := #[.int .i64 0, .slice none 0 0]) (t := 34) ?hr ?_; (case hd => rfl); (case hg => rfl); (case hr => first | (go_simp; done) | (go_simp; rfl)); intro gb429 hg w18 hbox hb; have n0_ := Aside0.mk (Kd.R_below qB84 hb); have n1_ := Aside0.mk (Kd.R_below qB85 hb); have n2_ := Aside0.mk (Kd.R_below qB86 hb); have n3_ := Aside0.mk (Kd.R_below (by (with_reducible repeat (first | apply Kd.R_alloc | apply Kd.R_drewN | apply Kd.R_drew)); exact HO427.out) hb); have n4_ := Aside0.mk (blk_below (g := gb420) (o := .cells #[.int .i64 t415, .slice Ao14 t416.length co14] 34 (0, 0)) qB65 hb); have n5_ := Aside0.mk (below_step qB38 hb); have n6_ := Aside0.mk (hbox); have n7_ := Aside0.mk ((by rw [hg]; exact (below_size qB38) : w.heap.size ≤ gb429)); have n8_ := Aside0.mk ((by rw [hg]; exact (below_size qB38) : w.heap.size ≤ gb429)); have n9_ := Aside0.mk ((by rw [hg]; exact Nat.ne_of_lt (blk_lt (g := gb420) (o := .cells #[.int .i64 t415, .slice Ao14 t416.length co14] 34 (0, 0)) qB65) : gb420 ≠ gb429)); have n10_ := Aside0.mk ((by rw [hg]; exact Nat.ne_of_gt (blk_lt (g := gb420) (o := .cells #[.int .i64 t415, .slice Ao14 t416.length co14] 34 (0, 0)) qB65) : gb429 ≠ gb420)); clear HO414; clear HO418; clear HO423; clear HO427; clear BK420; clear HB; have HO414 := n0_; have HO418 := n1_; have HO423 := n2_; have HO427 := n3_; have BK420 := n4_; have HB := n5_; have BK429 := n6_; have GW429 := n7_; have GE429 := n8_; have NB420_429 := n9_; have NB429_420 := n10_; clear n0_ n1_ n2_ n3_ n4_ n5_ n6_ n7_ n8_ n9_ n10_; clear hb hbox hg; have hnb19 := NB429_420.out; have hnc19 := NB420_429.out; have hcz20_0 : w18.cell? ⟨gb429, 0, none⟩ = some (.int .i64 0) := (blk_cell BK429.out 0).trans rfl; have hcz20_1 : w18.cell? ⟨gb429, 1, none⟩ = some (.slice none 0 0) := (blk_cell BK429.out 1).trans rfl; have hfz20_0 := blk_frozen BK429.out 0; have hfz20_1 := blk_frozen BK429.out 1; obtain ⟨Ao21, co21, eo21⟩ := Kd.R_slice HO427.out; subst eo21))
  (try simp only [Act.put, List.setIfInBounds_toArray, List.set_cons_zero, List.set_cons_succ])
  go_cut [40] (fun v40 wc => ∃ (kq : Nat) (x40_7 : Bool), v40 = .bool x40_7 ∧ Aside0 (laws_FnExactJacobiOf.j0 kq l0 t419 t421 t428 x40_7 t415 t416 t424 t425 = some r) ∧ Aside0 (kq ≤ k) ∧ Aside0 (Kd.R k37 37 wc w.heap.size (fun _ => True) (.slice Ao16 t421.length co16) t421) ∧ Aside0 (Kd.R (Kd.int .i64) 2 wc w.heap.size (fun k_ => some k_ ≠ ((.slice Ao21 t425.length co21) : Value).ownBlock) (.slice Ao14 t416.length co14) t416) ∧ Aside0 (Kd.R (Kd.int .i64) 2 wc w.heap.size (fun k_ => some k_ ≠ ((.slice Ao14 t416.length co14) : Value).ownBlock) (.slice Ao21 t425.length co21) t425) ∧ Aside0 (wc.heap[gb420]? = some (.cells #[.int .i64 t415, (.slice Ao14 t416.length co14)] 34 (0, 0))) ∧ Aside0 (wc.heap[gb429]? = some (.cells #[.int .i64 t424, (.slice Ao21 t425.length co21)] 34 (0, 0))) ∧ Aside0 (Below w.heap.size w wc))
  case first =>
   have H := HC8.out
   clear HC8
   replace H := Option.bind_eq_some_iff.mp H
   obtain ⟨t430, A220, H⟩ := H
   replace H : (if t430 = true then (laws_FnExactJacobiOf.j0 k l0 t419 t421 t428 (t428 != t419) t415 t416 t424 t425) else (laws_FnExactJacobiOf.j0 k l0 t419 t421 t428 true t415 t416 t424 t425)) = some r := H
   have A22 := Aside0.mk A220
   clear A220
   by_cases c23 : t430 = true
   ·subst c23
    have H1 : (laws_FnExactJacobiOf.j0 k l0 t419 t421 t428 (t428 != t419) t415 t416 t424 t425) = some r := by rw [if_pos rfl] at H; exact H
    clear H
    have H := H1
    clear H1
    have H' := Aside0.mk H
    clear H
    have hnb24 := NB429_420.out
    have hnc24 := NB420_429.out
    have hcz25_0 : w18.cell? ⟨gb429, 0, none⟩ = some (.int .i64 0) := (blk_cell BK429.out 0).trans rfl
    have hcz25_1 : w18.cell? ⟨gb429, 1, none⟩ = some (.slice none 0 0) := (blk_cell BK429.out 1).trans rfl
    have hfz25_0 := blk_frozen BK429.out 0
    have hfz25_1 := blk_frozen BK429.out 1
    have hcz26_0 : w18.cell? ⟨gb420, 0, none⟩ = some (.int .i64 t415) := (blk_cell BK420.out 0).trans rfl
    have hcz26_1 : w18.cell? ⟨gb420, 1, none⟩ = some (.slice Ao14 t416.length co14) := (blk_cell BK420.out 1).trans rfl
    have hfz26_0 := blk_frozen BK420.out 0
    have hfz26_1 := blk_frozen BK420.out 1
    go_wp2_with (first | ((with_reducible refine gate_callee (f := 20) rfl ?_); refine goesL_ (some 34) rfl rfl Try.func20 (by kernel_rfl) rfl #[.agg #[.int .i64 t424, .slice Ao21 t425.length co21], .agg #[.int .i64 t415, .slice Ao14 t416.length co14]] rfl qB43 ?_; (with_reducible refine (laws_eqCyclo.calls k t424 _ _ t425 t415 _ _ t416 true _ ?side1 ?side2 ?side3 ?side4 A22.out).mono ?_); (case side1 => refine (Kd.R_reads' (e := 2) (base := w.heap.size) (ok := fun k_ => (True ∧ some k_ ≠ (.slice Ao14 t416.length co14 : Value).ownBlock)) (n := t425.length) (c := co21) ?_).2.2; exact qB11); (case side2 => exact (Kd.R_reads' HO427.out).2.1); (case side3 => refine (Kd.R_reads' (e := 2) (base := w.heap.size) (ok := fun k_ => (True ∧ some k_ ≠ (.slice Ao21 t425.length co21 : Value).ownBlock)) (n := t416.length) (c := co14) ?_).2.2; exact qB12); (case side4 => exact (Kd.R_reads' HO418.out).2.1); rintro e w27 ⟨rfl, hb⟩; refine ⟨_, rfl, ?_⟩; have n0_ := Aside0.mk (Kd.R_below qB13 hb); have n1_ := Aside0.mk (Kd.R_below qB12 hb); have n2_ := Aside0.mk (Kd.R_below qB14 hb); have n3_ := Aside0.mk (Kd.R_below qB11 hb); have n4_ := Aside0.mk (blk_below (g := gb420) (o := .cells #[.int .i64 t415, .slice Ao14 t416.length co14] 34 (0, 0)) qB5 hb); have n5_ := Aside0.mk (blk_below (g := gb429) (o := .cells #[.int .i64 t424, .slice Ao21 t425.length co21] 34 (0, 0)) qB3 hb); have n6_ := Aside0.mk (below_step qB20 hb); clear HO414; clear HO418; clear HO423; clear HO427; clear BK420; clear BK429; clear HB; have HO414 := n0_; have HO418 := n1_; have HO423 := n2_; have HO427 := n3_; have BK420 := n4_; have BK429 := n5_; have HB := n6_; clear n0_ n1_ n2_ n3_ n4_ n5_ n6_; (try clear hb); (try clear hb2); (try clear hk); (try clear hi)))
    go_meet
    case rel => exact ⟨_, ((t428 != t419)), qB99, H', ⟨by first | omega | exact Nat.le_refl _⟩, ⟨by (with_reducible repeat (first | apply Kd.R_alloc | apply Kd.R_drewN | apply Kd.R_drew)); exact Kd.R_mono HO423.out (fun _ hk => trivial)⟩, ⟨by (with_reducible repeat (first | apply Kd.R_alloc | apply Kd.R_drewN | apply Kd.R_drew)); exact Kd.R_mono HO418.out (fun _ hk => hk.2)⟩, ⟨by (with_reducible repeat (first | apply Kd.R_alloc | apply Kd.R_drewN | apply Kd.R_drew)); exact Kd.R_mono HO427.out (fun _ hk => hk.2)⟩, ⟨by (with_reducible repeat (first | refine blk_drewN ?_ _ | refine blk_drew ?_ | refine blk_alloc ?_ _)); exact BK420.out⟩, ⟨by (with_reducible repeat (first | refine blk_drewN ?_ _ | refine blk_drew ?_ | refine blk_alloc ?_ _)); exact BK429.out⟩, ⟨by repeat (first | (with_reducible first | exact HB.out | apply below_alloc | apply pw_below_drewN | apply below_drew1 | refine below_set ?_ GE420.out | refine below_set ?_ GE429.out) | exact HB.out)⟩⟩
   ·replace c23 := Bool.eq_false_iff.mpr c23
    subst c23
    have H1 : (laws_FnExactJacobiOf.j0 k l0 t419 t421 t428 true t415 t416 t424 t425) = some r := by rw [if_neg (show ¬ (false = true) by decide)] at H; exact H
    clear H
    have H := H1
    clear H1
    have H' := Aside0.mk H
    clear H
    have hnb28 := NB429_420.out
    have hnc28 := NB420_429.out
    have hcz29_0 : w18.cell? ⟨gb429, 0, none⟩ = some (.int .i64 0) := (blk_cell BK429.out 0).trans rfl
    have hcz29_1 : w18.cell? ⟨gb429, 1, none⟩ = some (.slice none 0 0) := (blk_cell BK429.out 1).trans rfl
    have hfz29_0 := blk_frozen BK429.out 0
    have hfz29_1 := blk_frozen BK429.out 1
    have hcz30_0 : w18.cell? ⟨gb420, 0, none⟩ = some (.int .i64 t415) := (blk_cell BK420.out 0).trans rfl
    have hcz30_1 : w18.cell? ⟨gb420, 1, none⟩ = some (.slice Ao14 t416.length co14) := (blk_cell BK420.out 1).trans rfl
    have hfz30_0 := blk_frozen BK420.out 0
    have hfz30_1 := blk_frozen BK420.out 1
    go_wp2_with (first | ((with_reducible refine gate_callee (f := 20) rfl ?_); refine goesL_ (some 34) rfl rfl Try.func20 (by kernel_rfl) rfl #[.agg #[.int .i64 t424, .slice Ao21 t425.length co21], .agg #[.int .i64 t415, .slice Ao14 t416.length co14]] rfl qB43 ?_; (with_reducible refine (laws_eqCyclo.calls k t424 _ _ t425 t415 _ _ t416 false _ ?side1 ?side2 ?side3 ?side4 A22.out).mono ?_); (case side1 => refine (Kd.R_reads' (e := 2) (base := w.heap.size) (ok := fun k_ => (True ∧ some k_ ≠ (.slice Ao14 t416.length co14 : Value).ownBlock)) (n := t425.length) (c := co21) ?_).2.2; exact qB11); (case side2 => exact (Kd.R_reads' HO427.out).2.1); (case side3 => refine (Kd.R_reads' (e := 2) (base := w.heap.size) (ok := fun k_ => (True ∧ some k_ ≠ (.slice Ao21 t425.length co21 : Value).ownBlock)) (n := t416.length) (c := co14) ?_).2.2; exact qB12); (case side4 => exact (Kd.R_reads' HO418.out).2.1); rintro e w31 ⟨rfl, hb⟩; refine ⟨_, rfl, ?_⟩; have n0_ := Aside0.mk (Kd.R_below qB13 hb); have n1_ := Aside0.mk (Kd.R_below qB12 hb); have n2_ := Aside0.mk (Kd.R_below qB14 hb); have n3_ := Aside0.mk (Kd.R_below qB11 hb); have n4_ := Aside0.mk (blk_below (g := gb420) (o := .cells #[.int .i64 t415, .slice Ao14 t416.length co14] 34 (0, 0)) qB5 hb); have n5_ := Aside0.mk (blk_below (g := gb429) (o := .cells #[.int .i64 t424, .slice Ao21 t425.length co21] 34 (0, 0)) qB3 hb); have n6_ := Aside0.mk (below_step qB20 hb); clear HO414; clear HO418; clear HO423; clear HO427; clear BK420; clear BK429; clear HB; have HO414 := n0_; have HO418 := n1_; have HO423 := n2_; have HO427 := n3_; have BK420 := n4_; have BK429 := n5_; have HB := n6_; clear n0_ n1_ n2_ n3_ n4_ n5_ n6_; (try clear hb); (try clear hb2); (try clear hk); (try clear hi)))
    go_meet
    case rel => exact ⟨_, (true), qB99, H', ⟨by first | omega | exact Nat.le_refl _⟩, ⟨by (with_reducible repeat (first | apply Kd.R_alloc | apply Kd.R_drewN | apply Kd.R_drew)); exact Kd.R_mono HO423.out (fun _ hk => trivial)⟩, ⟨by (with_reducible repeat (first | apply Kd.R_alloc | apply Kd.R_drewN | apply Kd.R_drew)); exact Kd.R_mono HO418.out (fun _ hk => hk.2)⟩, ⟨by (with_reducible repeat (first | apply Kd.R_alloc | apply Kd.R_drewN | apply Kd.R_drew)); exact Kd.R_mono HO427.out (fun _ hk => hk.2)⟩, ⟨by (with_reducible repeat (first | refine blk_drewN ?_ _ | refine blk_drew ?_ | refine blk_alloc ?_ _)); exact BK420.out⟩, ⟨by (with_reducible repeat (first | refine blk_drewN ?_ _ | refine blk_drew ?_ | refine blk_alloc ?_ _)); exact BK429.out⟩, ⟨by repeat (first | (with_reducible first | exact HB.out | apply below_alloc | apply pw_below_drewN | apply below_drew1 | refine below_set ?_ GE420.out | refine below_set ?_ GE429.out) | exact HB.out)⟩⟩
  case rest =>
   clear HC8
   try clear c1
   try clear c2
   try clear p2
   try clear c3
   try clear c3b0
   try clear c9
   try clear c19
   try clear c20
   try clear c23
   try clear c24
   try clear c28
   try clear hcz13_0
   try clear hcz13_1
   try clear hcz20_0
   try clear hcz20_1
   try clear hcz25_0
   try clear hcz25_1
   try clear hcz26_0
   try clear hcz26_1
   try clear hcz29_0
   try clear hcz29_1
   try clear hcz30_0
   try clear hcz30_1
   try clear hfz13_0
   try clear hfz13_1
   try clear hfz20_0
   try clear hfz20_1
   try clear hfz25_0
   try clear hfz25_1
   try clear hfz26_0
   try clear hfz26_1
   try clear hfz29_0
   try clear hfz29_1
   try clear hfz30_0
   try clear hfz30_1
   obtain ⟨kq, x40_7, rfl, HA, HJ7, HO_6, HO_421001, HO_430001, BK420, BK429, HB⟩ := hcut
   cases kq with
   | zero => exact absurd HA.out (by simp [laws_FnExactJacobiOf.j0])
   | succ kj7 =>
    have H := HA.out
    clear HA
    simp only [laws_FnExactJacobiOf.j0] at H
    by_cases c32 : x40_7 = true
    ·subst c32
     have H1 : (some false) = some r := by rw [if_pos rfl] at H; exact H
     clear H
     have H := H1
     clear H1
     obtain rfl := Option.some.inj H
     go_wp2
     go_ret
     exact ⟨by first | rfl | (simp [errW_none, errW_some] <;> rfl) | (simp [*, errW_none, errW_some] <;> rfl), by repeat (first | (with_reducible first | exact HB.out | apply below_alloc | apply pw_below_drewN | apply below_drew1 | refine below_set ?_ GE420.out | refine below_set ?_ GE429.out) | exact HB.out)⟩
    ·replace c32 := Bool.eq_false_iff.mpr c32
     subst c32
     have H1 : ((laws_toCharacterS.f kj7 l0).bind fun t431 => ((laws_eqCharacterS.f kj7 t421 t431).bind fun t434 => (if t434 = true then ((laws_markCharacterS.f kj7 t421 1).bind fun bt435 => (if bt435.1 < 0 then (laws_FnExactJacobiOf.j1 kj7 l0 t419 true t415 t416 t424 t425) else ((laws_eqCyclo.f kj7 t424 t425 t415 t416).bind fun t437 => (if t437 = true then (laws_FnExactJacobiOf.j1 kj7 l0 t419 (t428 != t419) t415 t416 t424 t425) else (laws_FnExactJacobiOf.j1 kj7 l0 t419 true t415 t416 t424 t425))))) else (some false)))) = some r := by rw [if_neg (show ¬ (false = true) by decide)] at H; exact H
     clear H
     have H := H1
     clear H1
     replace H := Option.bind_eq_some_iff.mp H
     obtain ⟨t431, A330, H⟩ := H
     replace H : ((laws_eqCharacterS.f kj7 t421 t431).bind fun t434 => (if t434 = true then ((laws_markCharacterS.f kj7 t421 1).bind fun bt435 => (if bt435.1 < 0 then (laws_FnExactJacobiOf.j1 kj7 l0 t419 true t415 t416 t424 t425) else ((laws_eqCyclo.f kj7 t424 t425 t415 t416).bind fun t437 => (if t437 = true then (laws_FnExactJacobiOf.j1 kj7 l0 t419 (t428 != t419) t415 t416 t424 t425) else (laws_FnExactJacobiOf.j1 kj7 l0 t419 true t415 t416 t424 t425))))) else (some false))) = some r := H
     have A33 := Aside0.mk A330
     clear A330
     replace H := Option.bind_eq_some_iff.mp H
     obtain ⟨t434, A340, H⟩ := H
     replace H : (if t434 = true then ((laws_markCharacterS.f kj7 t421 1).bind fun bt435 => (if bt435.1 < 0 then (laws_FnExactJacobiOf.j1 kj7 l0 t419 true t415 t416 t424 t425) else ((laws_eqCyclo.f kj7 t424 t425 t415 t416).bind fun t437 => (if t437 = true then (laws_FnExactJacobiOf.j1 kj7 l0 t419 (t428 != t419) t415 t416 t424 t425) else (laws_FnExactJacobiOf.j1 kj7 l0 t419 true t415 t416 t424 t425))))) else (some false)) = some r := H
     have A34 := Aside0.mk A340
     clear A340
     by_cases c35 : t434 = true
     ·subst c35
      have H1 : ((laws_markCharacterS.f kj7 t421 1).bind fun bt435 => (if bt435.1 < 0 then (laws_FnExactJacobiOf.j1 kj7 l0 t419 true t415 t416 t424 t425) else ((laws_eqCyclo.f kj7 t424 t425 t415 t416).bind fun t437 => (if t437 = true then (laws_FnExactJacobiOf.j1 kj7 l0 t419 (t428 != t419) t415 t416 t424 t425) else (laws_FnExactJacobiOf.j1 kj7 l0 t419 true t415 t416 t424 t425))))) = some r := by rw [if_pos rfl] at H; exact H
      clear H
      have H := H1
      clear H1
      replace H := Option.bind_eq_some_iff.mp H
      obtain ⟨⟨t435, t436⟩, A360, H⟩ := H
      replace H : (if t435 < 0 then (laws_FnExactJacobiOf.j1 kj7 l0 t419 true t415 t416 t424 t425) else ((laws_eqCyclo.f kj7 t424 t425 t415 t416).bind fun t437 => (if t437 = true then (laws_FnExactJacobiOf.j1 kj7 l0 t419 (t428 != t419) t415 t416 t424 t425) else (laws_FnExactJacobiOf.j1 kj7 l0 t419 true t415 t416 t424 t425)))) = some r := H
      have A36 := Aside0.mk A360
      clear A360
      have HC37 := Aside0.mk H
      clear H
      go_upto_region 14 with (first | ((with_reducible refine gate_callee (f := 35) rfl ?_); refine goesL_ (some 43) rfl rfl Try.func35 (by kernel_rfl) rfl #[.slice A0 l0.length c0] rfl qB43 ?_; (with_reducible refine (laws_toCharacterS.calls kj7 _ _ l0 t431 _ ?side1 ?side2 A33.out).mono ?_); (case side1 => repeat (first | exact (Kd.C_below HR0.out HB.out) | (with_reducible refine Kd.C_alloc ?_ _) | (with_reducible refine Kd.C_drewN ?_ _) | (with_reducible refine Kd.C_drew ?_))); (case side2 => exact HC0.out); rintro e w38 ⟨v432, rfl, ho0, hb⟩; refine ⟨_, rfl, ?_⟩; have n0_ := Aside0.mk (Kd.R_elder' qB91 (Kd.R_base ho0) hb); have n1_ := Aside0.mk (Kd.R_below qB70 hb); have n2_ := Aside0.mk (Kd.R_below qB71 hb); have n3_ := Aside0.mk (Kd.R_lower (Kd.R_new' ho0 (Kd.R_lt qB91)) (below_size qB20)); have n4_ := Aside0.mk (blk_below (g := gb420) (o := .cells #[.int .i64 t415, .slice Ao14 t416.length co14] 34 (0, 0)) qB65 hb); have n5_ := Aside0.mk (blk_below (g := gb429) (o := .cells #[.int .i64 t424, .slice Ao21 t425.length co21] 34 (0, 0)) qB66 hb); have n6_ := Aside0.mk (below_step qB20 hb); clear HO_6; clear HO_421001; clear HO_430001; clear BK420; clear BK429; clear HB; have HO_6 := n0_; have HO_421001 := n1_; have HO_430001 := n2_; have HO433 := n3_; have BK420 := n4_; have BK429 := n5_; have HB := n6_; clear n0_ n1_ n2_ n3_ n4_ n5_ n6_; (try clear hb); (try clear hb2); (try clear hk); (try clear hi); (try clear ho0); obtain ⟨Ao39, co39, eo39⟩ := Kd.R_slice HO433.out; subst eo39) | ((with_reducible refine gate_callee (f := 37) rfl ?_); refine goesL_ (some 44) rfl rfl Try.func37 (by kernel_rfl) rfl #[.slice Ao16 t421.length co16, .slice Ao39 t431.length co39] rfl qB43 ?_; (with_reducible refine (laws_eqCharacterS.calls kj7 _ _ t421 _ _ t431 true _ ?side1 ?side2 ?side3 ?side4 A34.out).mono ?_); (case side1 => repeat (first | exact (Kd.R_reads' HO_6.out).2.2 | (with_reducible refine Kd.C_alloc ?_ _) | (with_reducible refine Kd.C_drewN ?_ _) | (with_reducible refine Kd.C_drew ?_))); (case side2 => exact (Kd.R_reads' HO_6.out).2.1); (case side3 => repeat (first | exact (Kd.R_reads' HO433.out).2.2 | (with_reducible refine Kd.C_alloc ?_ _) | (with_reducible refine Kd.C_drewN ?_ _) | (with_reducible refine Kd.C_drew ?_))); (case side4 => exact (Kd.R_reads' HO433.out).2.1); rintro e w40 ⟨rfl, hb⟩; refine ⟨_, rfl, ?_⟩; have n0_ := Aside0.mk (Kd.R_below qB91 hb); have n1_ := Aside0.mk (Kd.R_below qB70 hb); have n2_ := Aside0.mk (Kd.R_below qB71 hb); have n3_ := Aside0.mk (Kd.R_below qB87 hb); have n4_ := Aside0.mk (blk_below (g := gb420) (o := .cells #[.int .i64 t415, .slice Ao14 t416.length co14] 34 (0, 0)) qB65 hb); have n5_ := Aside0.mk (blk_below (g := gb429) (o := .cells #[.int .i64 t424, .slice Ao21 t425.length co21] 34 (0, 0)) qB66 hb); have n6_ := Aside0.mk (below_step qB20 hb); clear HO_6; clear HO_421001; clear HO_430001; clear HO433; clear BK420; clear BK429; clear HB; have HO_6 := n0_; have HO_421001 := n1_; have HO_430001 := n2_; have HO433 := n3_; have BK420 := n4_; have BK429 := n5_; have HB := n6_; clear n0_ n1_ n2_ n3_ n4_ n5_ n6_; (try clear hb); (try clear hb2); (try clear hk); (try clear hi)) | ((with_reducible refine gate_callee (f := 38) rfl ?_); refine goesL_ (some 48) rfl rfl Try.func38 (by kernel_rfl) rfl #[.slice Ao16 t421.length co16, .int .i64 1] rfl qB43 ?_; (with_reducible refine (laws_markCharacterS.calls kj7 (fun k_ => some k_ = (.slice Ao16 t421.length co16 : Value).ownBlock) (.slice Ao16 t421.length co16) t421 1 t435 t436 w _ ?side1 ?side2 A36.out).mono ?_); (case side1 => repeat (first | (with_reducible first | exact HB.out | apply below_alloc | apply pw_below_drewN | apply below_drew1 | refine below_set ?_ GE420.out | refine below_set ?_ GE429.out) | exact HB.out)); (case side2 => exact Kd.R_tight rfl HO_6.out); rintro e w41 ⟨rfl, hy0, hb, hkp⟩; refine ⟨_, rfl, ?_⟩; have n0_ := Aside0.mk (Kd.R_reok rfl hy0 (fun k_ e_ => HO_6.out.1 k_ e_)); have n1_ := Aside0.mk (Kd.R_mono (ok' := fun k_ => some k_ ≠ (.slice Ao21 t425.length co21 : Value).ownBlock) (Kd.R_keptB ((Kd.R_apart' HO_421001.out (Kd.R_typed HO_6.out) (by decide))) hkp (fun k_ hk_ hs_ => (hk_.2) hs_)) (fun k_ hk_ => hk_.1.1)); have n2_ := Aside0.mk (Kd.R_mono (ok' := fun k_ => some k_ ≠ (.slice Ao14 t416.length co14 : Value).ownBlock) (Kd.R_keptB ((Kd.R_apart' HO_430001.out (Kd.R_typed HO_6.out) (by decide))) hkp (fun k_ hk_ hs_ => (hk_.2) hs_)) (fun k_ hk_ => hk_.1.1)); have n3_ := Aside0.mk (blk_kept qB65 hkp (fun hs_ => (fun e_ => (Kd.R_ne HO_6.out BK420.out (by decide)) e_) hs_)); have n4_ := Aside0.mk (blk_kept qB66 hkp (fun hs_ => (fun e_ => (Kd.R_ne HO_6.out BK429.out (by decide)) e_) hs_)); have n5_ := Aside0.mk (Kd.R_mono (ok' := fun k_ => some k_ ≠ (.slice Ao16 t421.length co16 : Value).ownBlock) (Kd.R_keptB (HO433.out) hkp (fun k_ hk_ hs_ => (hk_.2) hs_)) (fun k_ hk_ => hk_.1.2)); have n6_ := Aside0.mk (hb); clear HO_6; clear HO_421001; clear HO_430001; clear BK420; clear BK429; clear HO433; clear HB; have HO_6 := n0_; have HO_421001 := n1_; have HO_430001 := n2_; have BK420 := n3_; have BK429 := n4_; have HO433 := n5_; have HB := n6_; clear n0_ n1_ n2_ n3_ n4_ n5_ n6_; (try clear hb); (try clear hkp); (try clear hy0)))
      (try simp only [Act.put, List.setIfInBounds_toArray, List.set_cons_zero, List.set_cons_succ])
      go_cut [61] (fun v61 wc => ∃ (kq : Nat) (x61_36 : Bool), v61 = .bool x61_36 ∧ Aside0 (laws_FnExactJacobiOf.j1 kq l0 t419 x61_36 t415 t416 t424 t425 = some r) ∧ Aside0 (kq ≤ kj7) ∧ Aside0 (Kd.R (Kd.int .i64) 2 wc w.heap.size (fun k_ => some k_ ≠ ((.slice Ao21 t425.length co21) : Value).ownBlock) (.slice Ao14 t416.length co14) t416) ∧ Aside0 (Kd.R (Kd.int .i64) 2 wc w.heap.size (fun k_ => some k_ ≠ ((.slice Ao14 t416.length co14) : Value).ownBlock) (.slice Ao21 t425.length co21) t425) ∧ Aside0 (wc.heap[gb420]? = some (.cells #[.int .i64 t415, (.slice Ao14 t416.length co14)] 34 (0, 0))) ∧ Aside0 (wc.heap[gb429]? = some (.cells #[.int .i64 t424, (.slice Ao21 t425.length co21)] 34 (0, 0))) ∧ Aside0 (Below w.heap.size w wc))
      case first =>
       have H := HC37.out
       clear HC37
       by_cases c42 : t435 < 0
       ·rw [if_pos c42] at H
        have c42b0 : decide (t435 < 0) = true := decide_eq_true c42
        clear c42
        (first | rw [c42b0] | (simp only [i64_w, i32_w]; rw [c42b0]) | skip)
        have H' := Aside0.mk H
        clear H
        go_wp2
        go_meet
        case rel => exact ⟨_, (true), qB99, H', ⟨by have := HJ7.out; first | omega | exact Nat.le_refl _⟩, ⟨by (with_reducible repeat (first | apply Kd.R_alloc | apply Kd.R_drewN | apply Kd.R_drew)); exact HO_421001.out⟩, ⟨by (with_reducible repeat (first | apply Kd.R_alloc | apply Kd.R_drewN | apply Kd.R_drew)); exact HO_430001.out⟩, ⟨by (with_reducible repeat (first | refine blk_drewN ?_ _ | refine blk_drew ?_ | refine blk_alloc ?_ _)); exact BK420.out⟩, ⟨by (with_reducible repeat (first | refine blk_drewN ?_ _ | refine blk_drew ?_ | refine blk_alloc ?_ _)); exact BK429.out⟩, ⟨by repeat (first | (with_reducible first | exact HB.out | apply below_alloc | apply pw_below_drewN | apply below_drew1 | refine below_set ?_ GE420.out | refine below_set ?_ GE429.out) | exact HB.out)⟩⟩
       ·rw [if_neg c42] at H
        have c42b0 : decide (t435 < 0) = false := decide_eq_false c42
        clear c42
        (first | rw [c42b0] | (simp only [i64_w, i32_w]; rw [c42b0]) | skip)
        replace H := Option.bind_eq_some_iff.mp H
        obtain ⟨t437, A430, H⟩ := H
        replace H : (if t437 = true then (laws_FnExactJacobiOf.j1 kj7 l0 t419 (t428 != t419) t415 t416 t424 t425) else (laws_FnExactJacobiOf.j1 kj7 l0 t419 true t415 t416 t424 t425)) = some r := H
        have A43 := Aside0.mk A430
        clear A430
        by_cases c44 : t437 = true
        ·subst c44
         have H1 : (laws_FnExactJacobiOf.j1 kj7 l0 t419 (t428 != t419) t415 t416 t424 t425) = some r := by rw [if_pos rfl] at H; exact H
         clear H
         have H := H1
         clear H1
         have H' := Aside0.mk H
         clear H
         have hnb45 := NB429_420.out
         have hnc45 := NB420_429.out
         have hcz46_0 : w41.cell? ⟨gb429, 0, none⟩ = some (.int .i64 t424) := (blk_cell BK429.out 0).trans rfl
         have hcz46_1 : w41.cell? ⟨gb429, 1, none⟩ = some (.slice Ao21 t425.length co21) := (blk_cell BK429.out 1).trans rfl
         have hfz46_0 := blk_frozen BK429.out 0
         have hfz46_1 := blk_frozen BK429.out 1
         have hcz47_0 : w41.cell? ⟨gb420, 0, none⟩ = some (.int .i64 t415) := (blk_cell BK420.out 0).trans rfl
         have hcz47_1 : w41.cell? ⟨gb420, 1, none⟩ = some (.slice Ao14 t416.length co14) := (blk_cell BK420.out 1).trans rfl
         have hfz47_0 := blk_frozen BK420.out 0
         have hfz47_1 := blk_frozen BK420.out 1
         go_wp2_with (first | (go_at_call 20; (with_reducible refine (laws_eqCyclo.calls kj7 t424 _ _ t425 t415 _ _ t416 true _ ?side1 ?side2 ?side3 ?side4 A43.out).mono ?_); (case side1 => repeat (first | exact (Kd.R_reads' HO_430001.out).2.2 | (with_reducible refine Kd.C_alloc ?_ _) | (with_reducible refine Kd.C_drewN ?_ _) | (with_reducible refine Kd.C_drew ?_))); (case side2 => exact (Kd.R_reads' HO_430001.out).2.1); (case side3 => repeat (first | exact (Kd.R_reads' HO_421001.out).2.2 | (with_reducible refine Kd.C_alloc ?_ _) | (with_reducible refine Kd.C_drewN ?_ _) | (with_reducible refine Kd.C_drew ?_))); (case side4 => exact (Kd.R_reads' HO_421001.out).2.1); rintro e w48 ⟨rfl, hb⟩; have n0_ := Aside0.mk (Kd.R_below qB91 hb); have n1_ := Aside0.mk (Kd.R_below qB70 hb); have n2_ := Aside0.mk (Kd.R_below qB71 hb); have n3_ := Aside0.mk (Kd.R_below qB87 hb); have n4_ := Aside0.mk (blk_below (g := gb420) (o := .cells #[.int .i64 t415, .slice Ao14 t416.length co14] 34 (0, 0)) qB65 hb); have n5_ := Aside0.mk (blk_below (g := gb429) (o := .cells #[.int .i64 t424, .slice Ao21 t425.length co21] 34 (0, 0)) qB66 hb); have n6_ := Aside0.mk (below_step qB20 hb); clear HO_6; clear HO_421001; clear HO_430001; clear HO433; clear BK420; clear BK429; clear HB; have HO_6 := n0_; have HO_421001 := n1_; have HO_430001 := n2_; have HO433 := n3_; have BK420 := n4_; have BK429 := n5_; have HB := n6_; clear n0_ n1_ n2_ n3_ n4_ n5_ n6_; (try clear hb); (try clear hb2); (try clear hk); (try clear hi)))
         go_meet
         case rel => exact ⟨_, ((t428 != t419)), qB99, H', ⟨by have := HJ7.out; first | omega | exact Nat.le_refl _⟩, ⟨by (with_reducible repeat (first | apply Kd.R_alloc | apply Kd.R_drewN | apply Kd.R_drew)); exact HO_421001.out⟩, ⟨by (with_reducible repeat (first | apply Kd.R_alloc | apply Kd.R_drewN | apply Kd.R_drew)); exact HO_430001.out⟩, ⟨by (with_reducible repeat (first | refine blk_drewN ?_ _ | refine blk_drew ?_ | refine blk_alloc ?_ _)); exact BK420.out⟩, ⟨by (with_reducible repeat (first | refine blk_drewN ?_ _ | refine blk_drew ?_ | refine blk_alloc ?_ _)); exact BK429.out⟩, ⟨by repeat (first | (with_reducible first | exact HB.out | apply below_alloc | apply pw_below_drewN | apply below_drew1 | refine below_set ?_ GE420.out | refine below_set ?_ GE429.out) | exact HB.out)⟩⟩
        ·replace c44 := Bool.eq_false_iff.mpr c44
         subst c44
         have H1 : (laws_FnExactJacobiOf.j1 kj7 l0 t419 true t415 t416 t424 t425) = some r := by rw [if_neg (show ¬ (false = true) by decide)] at H; exact H
         clear H
         have H := H1
         clear H1
         have H' := Aside0.mk H
         clear H
         have hnb49 := NB429_420.out
         have hnc49 := NB420_429.out
         have hcz50_0 : w41.cell? ⟨gb429, 0, none⟩ = some (.int .i64 t424) := (blk_cell BK429.out 0).trans rfl
         have hcz50_1 : w41.cell? ⟨gb429, 1, none⟩ = some (.slice Ao21 t425.length co21) := (blk_cell BK429.out 1).trans rfl
         have hfz50_0 := blk_frozen BK429.out 0
         have hfz50_1 := blk_frozen BK429.out 1
         have hcz51_0 : w41.cell? ⟨gb420, 0, none⟩ = some (.int .i64 t415) := (blk_cell BK420.out 0).trans rfl
         have hcz51_1 : w41.cell? ⟨gb420, 1, none⟩ = some (.slice Ao14 t416.length co14) := (blk_cell BK420.out 1).trans rfl
         have hfz51_0 := blk_frozen BK420.out 0
         have hfz51_1 := blk_frozen BK420.out 1
         go_wp2_with (first | (go_at_call 20; (with_reducible refine (laws_eqCyclo.calls kj7 t424 _ _ t425 t415 _ _ t416 false _ ?side1 ?side2 ?side3 ?side4 A43.out).mono ?_); (case side1 => repeat (first | exact (Kd.R_reads' HO_430001.out).2.2 | (with_reducible refine Kd.C_alloc ?_ _) | (with_reducible refine Kd.C_drewN ?_ _) | (with_reducible refine Kd.C_drew ?_))); (case side2 => exact (Kd.R_reads' HO_430001.out).2.1); (case side3 => repeat (first | exact (Kd.R_reads' HO_421001.out).2.2 | (with_reducible refine Kd.C_alloc ?_ _) | (with_reducible refine Kd.C_drewN ?_ _) | (with_reducible refine Kd.C_drew ?_))); (case side4 => exact (Kd.R_reads' HO_421001.out).2.1); rintro e w52 ⟨rfl, hb⟩; have n0_ := Aside0.mk (Kd.R_below qB91 hb); have n1_ := Aside0.mk (Kd.R_below qB70 hb); have n2_ := Aside0.mk (Kd.R_below qB71 hb); have n3_ := Aside0.mk (Kd.R_below qB87 hb); have n4_ := Aside0.mk (blk_below (g := gb420) (o := .cells #[.int .i64 t415, .slice Ao14 t416.length co14] 34 (0, 0)) qB65 hb); have n5_ := Aside0.mk (blk_below (g := gb429) (o := .cells #[.int .i64 t424, .slice Ao21 t425.length co21] 34 (0, 0)) qB66 hb); have n6_ := Aside0.mk (below_step qB20 hb); clear HO_6; clear HO_421001; clear HO_430001; clear HO433; clear BK420; clear BK429; clear HB; have HO_6 := n0_; have HO_421001 := n1_; have HO_430001 := n2_; have HO433 := n3_; have BK420 := n4_; have BK429 := n5_; have HB := n6_; clear n0_ n1_ n2_ n3_ n4_ n5_ n6_; (try clear hb); (try clear hb2); (try clear hk); (try clear hi)))
         go_meet
         case rel => exact ⟨_, (true), qB99, H', ⟨by have := HJ7.out; first | omega | exact Nat.le_refl _⟩, ⟨by (with_reducible repeat (first | apply Kd.R_alloc | apply Kd.R_drewN | apply Kd.R_drew)); exact HO_421001.out⟩, ⟨by (with_reducible repeat (first | apply Kd.R_alloc | apply Kd.R_drewN | apply Kd.R_drew)); exact HO_430001.out⟩, ⟨by (with_reducible repeat (first | refine blk_drewN ?_ _ | refine blk_drew ?_ | refine blk_alloc ?_ _)); exact BK420.out⟩, ⟨by (with_reducible repeat (first | refine blk_drewN ?_ _ | refine blk_drew ?_ | refine blk_alloc ?_ _)); exact BK429.out⟩, ⟨by repeat (first | (with_reducible first | exact HB.out | apply below_alloc | apply pw_below_drewN | apply below_drew1 | refine below_set ?_ GE420.out | refine below_set ?_ GE429.out) | exact HB.out)⟩⟩
      case rest =>
       clear HC37
       try clear c1
       try clear c2
       try clear p2
       try clear c3
       try clear c3b0
       try clear c4
       try clear c9
       try clear c19
       try clear c20
       try clear c23
       try clear c24
       try clear c28
       try clear c32
       try clear c33
       try clear c34
       try clear c35
       try clear c36
       try clear c37
       try clear c38
       try clear c42
       try clear c42b0
       try clear c44
       try clear c45
       try clear c49
       try clear hcz13_0
       try clear hcz13_1
       try clear hcz20_0
       try clear hcz20_1
       try clear hcz25_0
       try clear hcz25_1
       try clear hcz26_0
       try clear hcz26_1
       try clear hcz29_0
       try clear hcz29_1
       try clear hcz30_0
       try clear hcz30_1
       try clear hcz46_0
       try clear hcz46_1
       try clear hcz47_0
       try clear hcz47_1
       try clear hcz50_0
       try clear hcz50_1
       try clear hcz51_0
       try clear hcz51_1
       try clear hfz13_0
       try clear hfz13_1
       try clear hfz20_0
       try clear hfz20_1
       try clear hfz25_0
       try clear hfz25_1
       try clear hfz26_0
       try clear hfz26_1
       try clear hfz29_0
       try clear hfz29_1
       try clear hfz30_0
       try clear hfz30_1
       try clear hfz46_0
       try clear hfz46_1
       try clear hfz47_0
       try clear hfz47_1
       try clear hfz50_0
       try clear hfz50_1
       try clear hfz51_0
       try clear hfz51_1
       try clear p2
       obtain ⟨kq, x61_36, rfl, HA, HJ36, HO_421001, HO_430001, BK420, BK429, HB⟩ := hcut
       cases kq with
       | zero => exact absurd HA.out (by simp [laws_FnExactJacobiOf.j1])
       | succ kj36 =>
        have H := HA.out
        clear HA
        simp only [laws_FnExactJacobiOf.j1] at H
        by_cases c53 : x61_36 = true
        ·subst c53
         have H1 : (some false) = some r := by rw [if_pos rfl] at H; exact H
         clear H
         have H := H1
         clear H1
         obtain rfl := Option.some.inj H
         go_wp2
         go_ret
         exact ⟨by first | rfl | (simp [errW_none, errW_some] <;> rfl) | (simp [*, errW_none, errW_some] <;> rfl), by repeat (first | (with_reducible first | exact HB.out | apply below_alloc | apply pw_below_drewN | apply below_drew1 | refine below_set ?_ GE420.out | refine below_set ?_ GE429.out) | exact HB.out)⟩
        ·replace c53 := Bool.eq_false_iff.mpr c53
         subst c53
         have H1 : ((laws_markCyclo.f kj36 t424 t425 1).bind fun bt438 => ((laws_heldCyclo.f kj36 t424 bt438.2 1).bind fun t440 => (if t440 < 0 then (some false) else (if t440 = bt438.1 then ((laws_toCharacterS.f kj36 l0).bind fun t441 => ((impl_JacobiOf.f kj36 t441).bind fun bt444 => ((laws_eqCyclo.f kj36 bt444.1 bt444.2.1 t415 t416).bind fun t450 => (if t450 = true then (laws_FnExactJacobiOf.j2 kj36 bt438.1 (bt444.2.2 != t419) t424 bt438.2) else (laws_FnExactJacobiOf.j2 kj36 bt438.1 true t424 bt438.2))))) else (some false))))) = some r := by rw [if_neg (show ¬ (false = true) by decide)] at H; exact H
         clear H
         have H := H1
         clear H1
         replace H := Option.bind_eq_some_iff.mp H
         obtain ⟨⟨t438, t439⟩, A540, H⟩ := H
         replace H : ((laws_heldCyclo.f kj36 t424 t439 1).bind fun t440 => (if t440 < 0 then (some false) else (if t440 = t438 then ((laws_toCharacterS.f kj36 l0).bind fun t441 => ((impl_JacobiOf.f kj36 t441).bind fun bt444 => ((laws_eqCyclo.f kj36 bt444.1 bt444.2.1 t415 t416).bind fun t450 => (if t450 = true then (laws_FnExactJacobiOf.j2 kj36 t438 (bt444.2.2 != t419) t424 t439) else (laws_FnExactJacobiOf.j2 kj36 t438 true t424 t439))))) else (some false)))) = some r := H
         have A54 := Aside0.mk A540
         clear A540
         replace H := Option.bind_eq_some_iff.mp H
         obtain ⟨t440, A550, H⟩ := H
         replace H : (if t440 < 0 then (some false) else (if t440 = t438 then ((laws_toCharacterS.f kj36 l0).bind fun t441 => ((impl_JacobiOf.f kj36 t441).bind fun bt444 => ((laws_eqCyclo.f kj36 bt444.1 bt444.2.1 t415 t416).bind fun t450 => (if t450 = true then (laws_FnExactJacobiOf.j2 kj36 t438 (bt444.2.2 != t419) t424 t439) else (laws_FnExactJacobiOf.j2 kj36 t438 true t424 t439))))) else (some false))) = some r := H
         have A55 := Aside0.mk A550
         clear A550
         by_cases c56 : t440 < 0
         ·rw [if_pos c56] at H
          have c56b0 : decide (t440 < 0) = true := decide_eq_true c56
          clear c56
          obtain rfl := Option.some.inj H
          have hnb57 := NB429_420.out
          have hnc57 := NB420_429.out
          have hcz58_0 : wc.cell? ⟨gb429, 0, none⟩ = some (.int .i64 t424) := (blk_cell BK429.out 0).trans rfl
          have hcz58_1 : wc.cell? ⟨gb429, 1, none⟩ = some (.slice Ao21 t425.length co21) := (blk_cell BK429.out 1).trans rfl
          have hfz58_0 := blk_frozen BK429.out 0
          have hfz58_1 := blk_frozen BK429.out 1
          go_wp2_with (first | ((with_reducible refine gate_callee (f := 21) rfl ?_); refine goesL_ (some 64) rfl rfl Try.func21 (by kernel_rfl) rfl #[.agg #[.int .i64 t424, .slice Ao21 t425.length co21], .int .i64 1] rfl qB43 ?_; (with_reducible refine (laws_markCyclo.calls kj36 t424 (fun k_ => some k_ = (.slice Ao21 t425.length co21 : Value).ownBlock) (.slice Ao21 t425.length co21) t425 1 t438 t439 w _ ?side1 ?side2 A54.out).mono ?_); (case side1 => repeat (first | (with_reducible first | exact HB.out | apply below_alloc | apply pw_below_drewN | apply below_drew1 | refine below_set ?_ GE420.out | refine below_set ?_ GE429.out) | exact HB.out)); (case side2 => exact Kd.R_tight rfl HO_430001.out); rintro e w59 ⟨rfl, hy0, hb, hkp⟩; refine ⟨_, rfl, ?_⟩; have n0_ := Aside0.mk (Kd.R_mono (ok' := fun k_ => some k_ ≠ (.slice Ao21 t425.length co21 : Value).ownBlock) (Kd.R_keptB (HO_421001.out) hkp (fun k_ hk_ hs_ => (hk_) hs_)) (fun k_ hk_ => hk_.1)); have n1_ := Aside0.mk (Kd.R_reok rfl hy0 (fun k_ e_ => HO_430001.out.1 k_ e_)); have n2_ := Aside0.mk (blk_kept qB65 hkp (fun hs_ => (fun e_ => (Kd.R_ne HO_430001.out BK420.out (by decide)) e_) hs_)); have n3_ := Aside0.mk (blk_kept qB66 hkp (fun hs_ => (fun e_ => (Kd.R_ne HO_430001.out BK429.out (by decide)) e_) hs_)); have n4_ := Aside0.mk (hb); clear HO_421001; clear HO_430001; clear BK420; clear BK429; clear HB; have HO_421001 := n0_; have HO_430001 := n1_; have BK420 := n2_; have BK429 := n3_; have HB := n4_; clear n0_ n1_ n2_ n3_ n4_; (try clear hb); (try clear hkp); (try clear hy0); have hcz60_0 : w59.cell? ⟨gb429, 0, none⟩ = some (.int .i64 t424) := (blk_cell BK429.out 0).trans rfl; have hcz60_1 : w59.cell? ⟨gb429, 1, none⟩ = some (.slice Ao21 t425.length co21) := (blk_cell BK429.out 1).trans rfl; have hfz60_0 := blk_frozen BK429.out 0; have hfz60_1 := blk_frozen BK429.out 1) | ((with_reducible refine gate_callee (f := 22) rfl ?_); refine goesL_ (some 67) rfl rfl Try.func22 (by kernel_rfl) rfl #[.agg #[.int .i64 t424, .slice Ao21 t439.length co21], .int .i64 1] rfl qB18 ?_; (with_reducible refine (laws_heldCyclo.calls kj36 t424 _ _ t439 1 t440 _ ?side1 ?side2 A55.out).mono ?_); (case side1 => repeat (first | exact (Kd.R_reads' HO_430001.out).2.2 | (with_reducible refine Kd.C_alloc ?_ _) | (with_reducible refine Kd.C_drewN ?_ _) | (with_reducible refine Kd.C_drew ?_))); (case side2 => rw [show t439.length = t425.length from (Kd.R_reads' HO_430001.out).1.symm]; exact (Kd.R_reads' HO_430001.out).2.1); rintro e w61 ⟨rfl, hb⟩; refine ⟨_, rfl, ?_⟩; have n0_ := Aside0.mk (Kd.R_below qB70 hb); have n1_ := Aside0.mk (Kd.R_below qB71 hb); have n2_ := Aside0.mk (blk_below (g := gb420) (o := .cells #[.int .i64 t415, .slice Ao14 t416.length co14] 34 (0, 0)) qB65 hb); have n3_ := Aside0.mk (blk_below (g := gb429) (o := .cells #[.int .i64 t424, .slice Ao21 t425.length co21] 34 (0, 0)) qB66 hb); have n4_ := Aside0.mk (below_step qB20 hb); clear HO_421001; clear HO_430001; clear BK420; clear BK429; clear HB; have HO_421001 := n0_; have HO_430001 := n1_; have BK420 := n2_; have BK429 := n3_; have HB := n4_; clear n0_ n1_ n2_ n3_ n4_; (try clear hb); (try clear hb2); (try clear hk); (try clear hi)))
          go_ret
          exact ⟨by first | rfl | (simp [errW_none, errW_some] <;> rfl) | (simp [*, errW_none, errW_some] <;> rfl), by repeat (first | (with_reducible first | exact HB.out | apply below_alloc | apply pw_below_drewN | apply below_drew1 | refine below_set ?_ GE420.out | refine below_set ?_ GE429.out) | exact HB.out)⟩
         ·rw [if_neg c56] at H
          have c56b0 : decide (t440 < 0) = false := decide_eq_false c56
          clear c56
          by_cases c62 : t440 = t438
          ·rw [if_pos c62] at H
           have c62b0 : (t440 == t438) = true := beq_iff_eq.mpr c62
           have c62b1 : (t440 != t438) = false := bne_eq_false_iff_eq.mpr c62
           clear c62
           replace H := Option.bind_eq_some_iff.mp H
           obtain ⟨t441, A630, H⟩ := H
           replace H : ((impl_JacobiOf.f kj36 t441).bind fun bt444 => ((laws_eqCyclo.f kj36 bt444.1 bt444.2.1 t415 t416).bind fun t450 => (if t450 = true then (laws_FnExactJacobiOf.j2 kj36 t438 (bt444.2.2 != t419) t424 t439) else (laws_FnExactJacobiOf.j2 kj36 t438 true t424 t439)))) = some r := H
           have A63 := Aside0.mk A630
           clear A630
           replace H := Option.bind_eq_some_iff.mp H
           obtain ⟨⟨t444, t445, t448⟩, A640, H⟩ := H
           replace H : ((laws_eqCyclo.f kj36 t444 t445 t415 t416).bind fun t450 => (if t450 = true then (laws_FnExactJacobiOf.j2 kj36 t438 (t448 != t419) t424 t439) else (laws_FnExactJacobiOf.j2 kj36 t438 true t424 t439))) = some r := H
           have A64 := Aside0.mk A640
           clear A640
           have HC65 := Aside0.mk H
           clear H
           have hnb66 := NB429_420.out
           have hnc66 := NB420_429.out
           have hcz67_0 : wc.cell? ⟨gb429, 0, none⟩ = some (.int .i64 t424) := (blk_cell BK429.out 0).trans rfl
           have hcz67_1 : wc.cell? ⟨gb429, 1, none⟩ = some (.slice Ao21 t425.length co21) := (blk_cell BK429.out 1).trans rfl
           have hfz67_0 := blk_frozen BK429.out 0
           have hfz67_1 := blk_frozen BK429.out 1
           go_upto_region 25 with (first | ((with_reducible refine gate_callee (f := 21) rfl ?_); refine goesL_ (some 64) rfl rfl Try.func21 (by kernel_rfl) rfl #[.agg #[.int .i64 t424, .slice Ao21 t425.length co21], .int .i64 1] rfl qB43 ?_; (with_reducible refine (laws_markCyclo.calls kj36 t424 (fun k_ => some k_ = (.slice Ao21 t425.length co21 : Value).ownBlock) (.slice Ao21 t425.length co21) t425 1 t438 t439 w _ ?side1 ?side2 A54.out).mono ?_); (case side1 => repeat (first | (with_reducible first | exact HB.out | apply below_alloc | apply pw_below_drewN | apply below_drew1 | refine below_set ?_ GE420.out | refine below_set ?_ GE429.out) | exact HB.out)); (case side2 => exact Kd.R_tight rfl HO_430001.out); rintro e w68 ⟨rfl, hy0, hb, hkp⟩; refine ⟨_, rfl, ?_⟩; have n0_ := Aside0.mk (Kd.R_mono (ok' := fun k_ => some k_ ≠ (.slice Ao21 t425.length co21 : Value).ownBlock) (Kd.R_keptB (HO_421001.out) hkp (fun k_ hk_ hs_ => (hk_) hs_)) (fun k_ hk_ => hk_.1)); have n1_ := Aside0.mk (Kd.R_reok rfl hy0 (fun k_ e_ => HO_430001.out.1 k_ e_)); have n2_ := Aside0.mk (blk_kept qB65 hkp (fun hs_ => (fun e_ => (Kd.R_ne HO_430001.out BK420.out (by decide)) e_) hs_)); have n3_ := Aside0.mk (blk_kept qB66 hkp (fun hs_ => (fun e_ => (Kd.R_ne HO_430001.out BK429.out (by decide)) e_) hs_)); have n4_ := Aside0.mk (hb); clear HO_421001; clear HO_430001; clear BK420; clear BK429; clear HB; have HO_421001 := n0_; have HO_430001 := n1_; have BK420 := n2_; have BK429 := n3_; have HB := n4_; clear n0_ n1_ n2_ n3_ n4_; (try clear hb); (try clear hkp); (try clear hy0); have hcz69_0 : w68.cell? ⟨gb429, 0, none⟩ = some (.int .i64 t424) := (blk_cell BK429.out 0).trans rfl; have hcz69_1 : w68.cell? ⟨gb429, 1, none⟩ = some (.slice Ao21 t425.length co21) := (blk_cell BK429.out 1).trans rfl; have hfz69_0 := blk_frozen BK429.out 0; have hfz69_1 := blk_frozen BK429.out 1) | ((with_reducible refine gate_callee (f := 22) rfl ?_); refine goesL_ (some 67) rfl rfl Try.func22 (by kernel_rfl) rfl #[.agg #[.int .i64 t424, .slice Ao21 t439.length co21], .int .i64 1] rfl qB18 ?_; (with_reducible refine (laws_heldCyclo.calls kj36 t424 _ _ t439 1 t440 _ ?side1 ?side2 A55.out).mono ?_); (case side1 => repeat (first | exact (Kd.R_reads' HO_430001.out).2.2 | (with_reducible refine Kd.C_alloc ?_ _) | (with_reducible refine Kd.C_drewN ?_ _) | (with_reducible refine Kd.C_drew ?_))); (case side2 => rw [show t439.length = t425.length from (Kd.R_reads' HO_430001.out).1.symm]; exact (Kd.R_reads' HO_430001.out).2.1); rintro e w70 ⟨rfl, hb⟩; refine ⟨_, rfl, ?_⟩; have n0_ := Aside0.mk (Kd.R_below qB70 hb); have n1_ := Aside0.mk (Kd.R_below qB71 hb); have n2_ := Aside0.mk (blk_below (g := gb420) (o := .cells #[.int .i64 t415, .slice Ao14 t416.length co14] 34 (0, 0)) qB65 hb); have n3_ := Aside0.mk (blk_below (g := gb429) (o := .cells #[.int .i64 t424, .slice Ao21 t425.length co21] 34 (0, 0)) qB66 hb); have n4_ := Aside0.mk (below_step qB20 hb); clear HO_421001; clear HO_430001; clear BK420; clear BK429; clear HB; have HO_421001 := n0_; have HO_430001 := n1_; have BK420 := n2_; have BK429 := n3_; have HB := n4_; clear n0_ n1_ n2_ n3_ n4_; (try clear hb); (try clear hb2); (try clear hk); (try clear hi)) | ((with_reducible refine gate_callee (f := 35) rfl ?_); refine goesL_ (some 75) rfl rfl Try.func35 (by kernel_rfl) rfl #[.slice A0 l0.length c0] rfl qB43 ?_; (with_reducible refine (laws_toCharacterS.calls kj36 _ _ l0 t441 _ ?side1 ?side2 A63.out).mono ?_); (case side1 => repeat (first | exact (Kd.C_below HR0.out HB.out) | (with_reducible refine Kd.C_alloc ?_ _) | (with_reducible refine Kd.C_drewN ?_ _) | (with_reducible refine Kd.C_drew ?_))); (case side2 => exact HC0.out); rintro e w71 ⟨v442, rfl, ho0, hb⟩; refine ⟨_, rfl, ?_⟩; have n0_ := Aside0.mk (Kd.R_below qB70 hb); have n1_ := Aside0.mk (Kd.R_below qB71 hb); have n2_ := Aside0.mk (Kd.R_lower ho0 (below_size qB20)); have n3_ := Aside0.mk (blk_below (g := gb420) (o := .cells #[.int .i64 t415, .slice Ao14 t416.length co14] 34 (0, 0)) qB65 hb); have n4_ := Aside0.mk (blk_below (g := gb429) (o := .cells #[.int .i64 t424, .slice Ao21 t425.length co21] 34 (0, 0)) qB66 hb); have n5_ := Aside0.mk (below_step qB20 hb); clear HO_421001; clear HO_430001; clear BK420; clear BK429; clear HB; have HO_421001 := n0_; have HO_430001 := n1_; have HO443 := n2_; have BK420 := n3_; have BK429 := n4_; have HB := n5_; clear n0_ n1_ n2_ n3_ n4_ n5_; (try clear hb); (try clear hb2); (try clear hk); (try clear hi); (try clear ho0); obtain ⟨Ao72, co72, eo72⟩ := Kd.R_slice HO443.out; subst eo72) | ((with_reducible refine gate_callee (f := 36) rfl ?_); refine goesL_ (some 76) rfl rfl Try.func36 (by kernel_rfl) rfl #[.slice Ao72 t441.length co72] rfl qB43 ?_; (with_reducible refine (impl_JacobiOf.calls kj36 _ _ t441 t444 t445 t448 _ ?side1 ?side2 A64.out).mono ?_); (case side1 => repeat (first | exact (Kd.R_reads' HO443.out).2.2 | (with_reducible refine Kd.C_alloc ?_ _) | (with_reducible refine Kd.C_drewN ?_ _) | (with_reducible refine Kd.C_drew ?_))); (case side2 => exact (Kd.R_reads' HO443.out).2.1); rintro e w73 ⟨v446, rfl, ho0, hb⟩; refine ⟨_, rfl, ?_⟩; have n0_ := Aside0.mk (Kd.R_elder' qB70 (Kd.R_base ho0) hb); have n1_ := Aside0.mk (Kd.R_elder' qB71 (Kd.R_base ho0) hb); have n2_ := Aside0.mk (Kd.R_below qB88 hb); have n3_ := Aside0.mk (Kd.R_lower (Kd.R_new' (Kd.R_new' ho0 (Kd.R_lt qB70)) (Kd.R_lt qB71)) (below_size qB20)); have n4_ := Aside0.mk (blk_below (g := gb420) (o := .cells #[.int .i64 t415, .slice Ao14 t416.length co14] 34 (0, 0)) qB65 hb); have n5_ := Aside0.mk (blk_below (g := gb429) (o := .cells #[.int .i64 t424, .slice Ao21 t425.length co21] 34 (0, 0)) qB66 hb); have n6_ := Aside0.mk (below_step qB20 hb); clear HO_421001; clear HO_430001; clear HO443; clear BK420; clear BK429; clear HB; have HO_421001 := n0_; have HO_430001 := n1_; have HO443 := n2_; have HO447 := n3_; have BK420 := n4_; have BK429 := n5_; have HB := n6_; clear n0_ n1_ n2_ n3_ n4_ n5_ n6_; (try clear hb); (try clear hb2); (try clear hk); (try clear hi); (try clear ho0)) | ((with_reducible refine gate_dst (N := 12) rfl ?_); refine box_event ?hg (N := 12) ?hd (cs := #[.int .i64 0, .slice none 0 0]) (t := 34) ?hr ?_; (case hd => rfl); (case hg => rfl); (case hr => first | (go_simp; done) | (go_simp; rfl)); intro gb449 hg w74 hbox hb; have n0_ := Aside0.mk (Kd.R_below qB70 hb); have n1_ := Aside0.mk (Kd.R_below qB71 hb); have n2_ := Aside0.mk (Kd.R_below qB88 hb); have n3_ := Aside0.mk (Kd.R_below (by (with_reducible repeat (first | apply Kd.R_alloc | apply Kd.R_drewN | apply Kd.R_drew)); exact HO447.out) hb); have n4_ := Aside0.mk (blk_below (g := gb420) (o := .cells #[.int .i64 t415, .slice Ao14 t416.length co14] 34 (0, 0)) qB65 hb); have n5_ := Aside0.mk (blk_below (g := gb429) (o := .cells #[.int .i64 t424, .slice Ao21 t425.length co21] 34 (0, 0)) qB66 hb); have n6_ := Aside0.mk (below_step qB20 hb); have n7_ := Aside0.mk (hbox); have n8_ := Aside0.mk ((by rw [hg]; exact (below_size qB20) : w.heap.size ≤ gb449)); have n9_ := Aside0.mk ((by rw [hg]; exact (below_size qB20) : w.heap.size ≤ gb449)); have n10_ := Aside0.mk ((by rw [hg]; exact Nat.ne_of_lt (blk_lt (g := gb420) (o := .cells #[.int .i64 t415, .slice Ao14 t416.length co14] 34 (0, 0)) qB65) : gb420 ≠ gb449)); have n11_ := Aside0.mk ((by rw [hg]; exact Nat.ne_of_gt (blk_lt (g := gb420) (o := .cells #[.int .i64 t415, .slice Ao14 t416.length co14] 34 (0, 0)) qB65) : gb449 ≠ gb420)); have n12_ := Aside0.mk ((by rw [hg]; exact Nat.ne_of_lt (blk_lt (g := gb429) (o := .cells #[.int .i64 t424, .slice Ao21 t425.length co21] 34 (0, 0)) qB66) : gb429 ≠ gb449)); have n13_ := Aside0.mk ((by rw [hg]; exact Nat.ne_of_gt (blk_lt (g := gb429) (o := .cells #[.int .i64 t424, .slice Ao21 t425.length co21] 34 (0, 0)) qB66) : gb449 ≠ gb429)); clear HO_421001; clear HO_430001; clear HO443; clear HO447; clear BK420; clear BK429; clear HB; have HO_421001 := n0_; have HO_430001 := n1_; have HO443 := n2_; have HO447 := n3_; have BK420 := n4_; have BK429 := n5_; have HB := n6_; have BK449 := n7_; have GW449 := n8_; have GE449 := n9_; have NB420_449 := n10_; have NB449_420 := n11_; have NB429_449 := n12_; have NB449_429 := n13_; clear n0_ n1_ n2_ n3_ n4_ n5_ n6_ n7_ n8_ n9_ n10_ n11_ n12_ n13_; clear hb hbox hg; have hnb75 := NB449_420.out; have hnc75 := NB420_449.out; have hnb76 := NB449_429.out; have hnc76 := NB429_449.out; have hcz77_0 : w74.cell? ⟨gb449, 0, none⟩ = some (.int .i64 0) := (blk_cell BK449.out 0).trans rfl; have hcz77_1 : w74.cell? ⟨gb449, 1, none⟩ = some (.slice none 0 0) := (blk_cell BK449.out 1).trans rfl; have hfz77_0 := blk_frozen BK449.out 0; have hfz77_1 := blk_frozen BK449.out 1; obtain ⟨Ao78, co78, eo78⟩ := Kd.R_slice HO447.out; subst eo78))
           (try simp only [Act.put, List.setIfInBounds_toArray, List.set_cons_zero, List.set_cons_succ])
           go_cut [87] (fun v87 wc => ∃ (kq : Nat) (x87_64 : Bool), v87 = .bool x87_64 ∧ Aside0 (laws_FnExactJacobiOf.j2 kq t438 x87_64 t424 t439 = some r) ∧ Aside0 (kq ≤ kj36) ∧ Aside0 (Kd.R (Kd.int .i64) 2 wc w.heap.size (fun k_ => some k_ ≠ ((.slice Ao21 t425.length co21) : Value).ownBlock ∧ some k_ ≠ ((.slice Ao78 t445.length co78) : Value).ownBlock) (.slice Ao14 t416.length co14) t416) ∧ Aside0 (Kd.R (Kd.int .i64) 2 wc w.heap.size (fun k_ => some k_ ≠ ((.slice Ao14 t416.length co14) : Value).ownBlock ∧ some k_ ≠ ((.slice Ao78 t445.length co78) : Value).ownBlock) (.slice Ao21 t425.length co21) t439) ∧ Aside0 (Kd.R (Kd.int .i64) 2 wc w.heap.size (fun k_ => some k_ ≠ ((.slice Ao14 t416.length co14) : Value).ownBlock ∧ some k_ ≠ ((.slice Ao21 t425.length co21) : Value).ownBlock) (.slice Ao78 t445.length co78) t445) ∧ Aside0 (wc.heap[gb420]? = some (.cells #[.int .i64 t415, (.slice Ao14 t416.length co14)] 34 (0, 0))) ∧ Aside0 (wc.heap[gb429]? = some (.cells #[.int .i64 t424, (.slice Ao21 t425.length co21)] 34 (0, 0))) ∧ Aside0 (wc.heap[gb449]? = some (.cells #[.int .i64 t444, (.slice Ao78 t445.length co78)] 34 (0, 0))) ∧ Aside0 (Below w.heap.size w wc))
           case first =>
            have H := HC65.out
            clear HC65
            replace H := Option.bind_eq_some_iff.mp H
            obtain ⟨t450, A790, H⟩ := H
            replace H : (if t450 = true then (laws_FnExactJacobiOf.j2 kj36 t438 (t448 != t419) t424 t439) else (laws_FnExactJacobiOf.j2 kj36 t438 true t424 t439)) = some r := H
            have A79 := Aside0.mk A790
            clear A790
            by_cases c80 : t450 = true
            ·subst c80
             have H1 : (laws_FnExactJacobiOf.j2 kj36 t438 (t448 != t419) t424 t439) = some r := by rw [if_pos rfl] at H; exact H
             clear H
             have H := H1
             clear H1
             have H' := Aside0.mk H
             clear H
             have hnb81 := NB449_420.out
             have hnc81 := NB420_449.out
             have hnb82 := NB449_429.out
             have hnc82 := NB429_449.out
             have hcz83_0 : w74.cell? ⟨gb449, 0, none⟩ = some (.int .i64 0) := (blk_cell BK449.out 0).trans rfl
             have hcz83_1 : w74.cell? ⟨gb449, 1, none⟩ = some (.slice none 0 0) := (blk_cell BK449.out 1).trans rfl
             have hfz83_0 := blk_frozen BK449.out 0
             have hfz83_1 := blk_frozen BK449.out 1
             have hnb84 := NB420_429.out
             have hnc84 := NB429_420.out
             have hcz85_0 : w74.cell? ⟨gb420, 0, none⟩ = some (.int .i64 t415) := (blk_cell BK420.out 0).trans rfl
             have hcz85_1 : w74.cell? ⟨gb420, 1, none⟩ = some (.slice Ao14 t416.length co14) := (blk_cell BK420.out 1).trans rfl
             have hfz85_0 := blk_frozen BK420.out 0
             have hfz85_1 := blk_frozen BK420.out 1
             go_wp2_with (first | ((with_reducible refine gate_callee (f := 20) rfl ?_); refine goesL_ (some 81) rfl rfl Try.func20 (by kernel_rfl) rfl #[.agg #[.int .i64 t444, .slice Ao78 t445.length co78], .agg #[.int .i64 t415, .slice Ao14 t416.length co14]] rfl qB43 ?_; (with_reducible refine (laws_eqCyclo.calls kj36 t444 _ _ t445 t415 _ _ t416 true _ ?side1 ?side2 ?side3 ?side4 A79.out).mono ?_); (case side1 => refine (Kd.R_reads' (e := 2) (base := w.heap.size) (ok := fun k_ => ((True ∧ some k_ ≠ (.slice Ao14 t416.length co14 : Value).ownBlock) ∧ some k_ ≠ (.slice Ao21 t425.length co21 : Value).ownBlock)) (n := t445.length) (c := co78) ?_).2.2; exact qB15); (case side2 => exact (Kd.R_reads' HO447.out).2.1); (case side3 => refine (Kd.R_reads' (e := 2) (base := w.heap.size) (ok := fun k_ => (some k_ ≠ (.slice Ao21 t425.length co21 : Value).ownBlock ∧ some k_ ≠ (.slice Ao78 t445.length co78 : Value).ownBlock)) (n := t416.length) (c := co14) ?_).2.2; exact qB8); (case side4 => exact (Kd.R_reads' HO_421001.out).2.1); rintro e w86 ⟨rfl, hb⟩; refine ⟨_, rfl, ?_⟩; have n0_ := Aside0.mk (Kd.R_below qB8 hb); have n1_ := Aside0.mk (Kd.R_below qB9 hb); have n2_ := Aside0.mk (Kd.R_below qB16 hb); have n3_ := Aside0.mk (Kd.R_below qB15 hb); have n4_ := Aside0.mk (blk_below (g := gb420) (o := .cells #[.int .i64 t415, .slice Ao14 t416.length co14] 34 (0, 0)) qB6 hb); have n5_ := Aside0.mk (blk_below (g := gb429) (o := .cells #[.int .i64 t424, .slice Ao21 t425.length co21] 34 (0, 0)) qB7 hb); have n6_ := Aside0.mk (blk_below (g := gb449) (o := .cells #[.int .i64 t444, .slice Ao78 t445.length co78] 34 (0, 0)) qB4 hb); have n7_ := Aside0.mk (below_step qB17 hb); clear HO_421001; clear HO_430001; clear HO443; clear HO447; clear BK420; clear BK429; clear BK449; clear HB; have HO_421001 := n0_; have HO_430001 := n1_; have HO443 := n2_; have HO447 := n3_; have BK420 := n4_; have BK429 := n5_; have BK449 := n6_; have HB := n7_; clear n0_ n1_ n2_ n3_ n4_ n5_ n6_ n7_; (try clear hb); (try clear hb2); (try clear hk); (try clear hi)))
             go_meet
             case rel => exact ⟨_, ((t448 != t419)), qB99, H', ⟨by have := HJ7.out; have := HJ36.out; first | omega | exact Nat.le_refl _⟩, ⟨by (with_reducible repeat (first | apply Kd.R_alloc | apply Kd.R_drewN | apply Kd.R_drew)); exact HO_421001.out⟩, ⟨by (with_reducible repeat (first | apply Kd.R_alloc | apply Kd.R_drewN | apply Kd.R_drew)); exact HO_430001.out⟩, ⟨by (with_reducible repeat (first | apply Kd.R_alloc | apply Kd.R_drewN | apply Kd.R_drew)); exact Kd.R_mono HO447.out (fun _ hk => ⟨hk.1.2, hk.2⟩)⟩, ⟨by (with_reducible repeat (first | refine blk_drewN ?_ _ | refine blk_drew ?_ | refine blk_alloc ?_ _)); exact BK420.out⟩, ⟨by (with_reducible repeat (first | refine blk_drewN ?_ _ | refine blk_drew ?_ | refine blk_alloc ?_ _)); exact BK429.out⟩, ⟨by (with_reducible repeat (first | refine blk_drewN ?_ _ | refine blk_drew ?_ | refine blk_alloc ?_ _)); exact BK449.out⟩, ⟨by repeat (first | (with_reducible first | exact HB.out | apply below_alloc | apply pw_below_drewN | apply below_drew1 | refine below_set ?_ GE420.out | refine below_set ?_ GE429.out | refine below_set ?_ GE449.out) | exact HB.out)⟩⟩
            ·replace c80 := Bool.eq_false_iff.mpr c80
             subst c80
             have H1 : (laws_FnExactJacobiOf.j2 kj36 t438 true t424 t439) = some r := by rw [if_neg (show ¬ (false = true) by decide)] at H; exact H
             clear H
             have H := H1
             clear H1
             have H' := Aside0.mk H
             clear H
             have hnb87 := NB449_420.out
             have hnc87 := NB420_449.out
             have hnb88 := NB449_429.out
             have hnc88 := NB429_449.out
             have hcz89_0 : w74.cell? ⟨gb449, 0, none⟩ = some (.int .i64 0) := (blk_cell BK449.out 0).trans rfl
             have hcz89_1 : w74.cell? ⟨gb449, 1, none⟩ = some (.slice none 0 0) := (blk_cell BK449.out 1).trans rfl
             have hfz89_0 := blk_frozen BK449.out 0
             have hfz89_1 := blk_frozen BK449.out 1
             have hnb90 := NB420_429.out
             have hnc90 := NB429_420.out
             have hcz91_0 : w74.cell? ⟨gb420, 0, none⟩ = some (.int .i64 t415) := (blk_cell BK420.out 0).trans rfl
             have hcz91_1 : w74.cell? ⟨gb420, 1, none⟩ = some (.slice Ao14 t416.length co14) := (blk_cell BK420.out 1).trans rfl
             have hfz91_0 := blk_frozen BK420.out 0
             have hfz91_1 := blk_frozen BK420.out 1
             go_wp2_with (first | ((with_reducible refine gate_callee (f := 20) rfl ?_); refine goesL_ (some 81) rfl rfl Try.func20 (by kernel_rfl) rfl #[.agg #[.int .i64 t444, .slice Ao78 t445.length co78], .agg #[.int .i64 t415, .slice Ao14 t416.length co14]] rfl qB43 ?_; (with_reducible refine (laws_eqCyclo.calls kj36 t444 _ _ t445 t415 _ _ t416 false _ ?side1 ?side2 ?side3 ?side4 A79.out).mono ?_); (case side1 => refine (Kd.R_reads' (e := 2) (base := w.heap.size) (ok := fun k_ => ((True ∧ some k_ ≠ (.slice Ao14 t416.length co14 : Value).ownBlock) ∧ some k_ ≠ (.slice Ao21 t425.length co21 : Value).ownBlock)) (n := t445.length) (c := co78) ?_).2.2; exact qB15); (case side2 => exact (Kd.R_reads' HO447.out).2.1); (case side3 => refine (Kd.R_reads' (e := 2) (base := w.heap.size) (ok := fun k_ => (some k_ ≠ (.slice Ao21 t425.length co21 : Value).ownBlock ∧ some k_ ≠ (.slice Ao78 t445.length co78 : Value).ownBlock)) (n := t416.length) (c := co14) ?_).2.2; exact qB8); (case side4 => exact (Kd.R_reads' HO_421001.out).2.1); rintro e w92 ⟨rfl, hb⟩; refine ⟨_, rfl, ?_⟩; have n0_ := Aside0.mk (Kd.R_below qB8 hb); have n1_ := Aside0.mk (Kd.R_below qB9 hb); have n2_ := Aside0.mk (Kd.R_below qB16 hb); have n3_ := Aside0.mk (Kd.R_below qB15 hb); have n4_ := Aside0.mk (blk_below (g := gb420) (o := .cells #[.int .i64 t415, .slice Ao14 t416.length co14] 34 (0, 0)) qB6 hb); have n5_ := Aside0.mk (blk_below (g := gb429) (o := .cells #[.int .i64 t424, .slice Ao21 t425.length co21] 34 (0, 0)) qB7 hb); have n6_ := Aside0.mk (blk_below (g := gb449) (o := .cells #[.int .i64 t444, .slice Ao78 t445.length co78] 34 (0, 0)) qB4 hb); have n7_ := Aside0.mk (below_step qB17 hb); clear HO_421001; clear HO_430001; clear HO443; clear HO447; clear BK420; clear BK429; clear BK449; clear HB; have HO_421001 := n0_; have HO_430001 := n1_; have HO443 := n2_; have HO447 := n3_; have BK420 := n4_; have BK429 := n5_; have BK449 := n6_; have HB := n7_; clear n0_ n1_ n2_ n3_ n4_ n5_ n6_ n7_; (try clear hb); (try clear hb2); (try clear hk); (try clear hi)))
             go_meet
             case rel => exact ⟨_, (true), qB99, H', ⟨by have := HJ7.out; have := HJ36.out; first | omega | exact Nat.le_refl _⟩, ⟨by (with_reducible repeat (first | apply Kd.R_alloc | apply Kd.R_drewN | apply Kd.R_drew)); exact HO_421001.out⟩, ⟨by (with_reducible repeat (first | apply Kd.R_alloc | apply Kd.R_drewN | apply Kd.R_drew)); exact HO_430001.out⟩, ⟨by (with_reducible repeat (first | apply Kd.R_alloc | apply Kd.R_drewN | apply Kd.R_drew)); exact Kd.R_mono HO447.out (fun _ hk => ⟨hk.1.2, hk.2⟩)⟩, ⟨by (with_reducible repeat (first | refine blk_drewN ?_ _ | refine blk_drew ?_ | refine blk_alloc ?_ _)); exact BK420.out⟩, ⟨by (with_reducible repeat (first | refine blk_drewN ?_ _ | refine blk_drew ?_ | refine blk_alloc ?_ _)); exact BK429.out⟩, ⟨by (with_reducible repeat (first | refine blk_drewN ?_ _ | refine blk_drew ?_ | refine blk_alloc ?_ _)); exact BK449.out⟩, ⟨by repeat (first | (with_reducible first | exact HB.out | apply below_alloc | apply pw_below_drewN | apply below_drew1 | refine below_set ?_ GE420.out | refine below_set ?_ GE429.out | refine below_set ?_ GE449.out) | exact HB.out)⟩⟩
           case rest =>
            clear HC65
            try clear c1
            try clear c2
            try clear p2
            try clear c3
            try clear c3b0
            try clear c4
            try clear c5
            try clear c6
            try clear c7
            try clear c8
            try clear c9
            try clear c19
            try clear c20
            try clear c21
            try clear c22
            try clear c23
            try clear c24
            try clear c28
            try clear c32
            try clear c33
            try clear c34
            try clear c35
            try clear c36
            try clear c37
            try clear c38
            try clear c42
            try clear c42b0
            try clear c44
            try clear c45
            try clear c49
            try clear c53
            try clear c56
            try clear c56b0
            try clear c57
            try clear c62
            try clear c62b0
            try clear c62b1
            try clear c66
            try clear c75
            try clear c76
            try clear c80
            try clear c81
            try clear c82
            try clear c84
            try clear c87
            try clear c88
            try clear c90
            try clear hcz13_0
            try clear hcz13_1
            try clear hcz20_0
            try clear hcz20_1
            try clear hcz25_0
            try clear hcz25_1
            try clear hcz26_0
            try clear hcz26_1
            try clear hcz29_0
            try clear hcz29_1
            try clear hcz30_0
            try clear hcz30_1
            try clear hcz46_0
            try clear hcz46_1
            try clear hcz47_0
            try clear hcz47_1
            try clear hcz50_0
            try clear hcz50_1
            try clear hcz51_0
            try clear hcz51_1
            try clear hcz58_0
            try clear hcz58_1
            try clear hcz60_0
            try clear hcz60_1
            try clear hcz67_0
            try clear hcz67_1
            try clear hcz69_0
            try clear hcz69_1
            try clear hcz77_0
            try clear hcz77_1
            try clear hcz83_0
            try clear hcz83_1
            try clear hcz85_0
            try clear hcz85_1
            try clear hcz89_0
            try clear hcz89_1
            try clear hcz91_0
            try clear hcz91_1
            try clear hfz13_0
            try clear hfz13_1
            try clear hfz20_0
            try clear hfz20_1
            try clear hfz25_0
            try clear hfz25_1
            try clear hfz26_0
            try clear hfz26_1
            try clear hfz29_0
            try clear hfz29_1
            try clear hfz30_0
            try clear hfz30_1
            try clear hfz46_0
            try clear hfz46_1
            try clear hfz47_0
            try clear hfz47_1
            try clear hfz50_0
            try clear hfz50_1
            try clear hfz51_0
            try clear hfz51_1
            try clear hfz58_0
            try clear hfz58_1
            try clear hfz60_0
            try clear hfz60_1
            try clear hfz67_0
            try clear hfz67_1
            try clear hfz69_0
            try clear hfz69_1
            try clear hfz77_0
            try clear hfz77_1
            try clear hfz83_0
            try clear hfz83_1
            try clear hfz85_0
            try clear hfz85_1
            try clear hfz89_0
            try clear hfz89_1
            try clear hfz91_0
            try clear hfz91_1
            try clear p2
            obtain ⟨kq, x87_64, rfl, HA, HJ64, HO_421001, HO_430001, HO_450001, BK420, BK429, BK449, HB⟩ := hcut
            have hl430001_64 := (Kd.R_reads' HO_430001.out).1
            rw [hl430001_64] at HO_430001
            (try simp only [hl430001_64])
            (try simp only [hl430001_64] at BK420)
            (try simp only [hl430001_64] at BK429)
            (try simp only [hl430001_64] at BK449)
            (try simp only [hl430001_64] at HO_421001)
            (try simp only [hl430001_64] at HO_450001)
            cases kq with
            | zero => exact absurd HA.out (by simp [laws_FnExactJacobiOf.j2])
            | succ kj64 =>
             have H := HA.out
             clear HA
             simp only [laws_FnExactJacobiOf.j2] at H
             by_cases c93 : x87_64 = true
             ·subst c93
              have H1 : (some false) = some r := by rw [if_pos rfl] at H; exact H
              clear H
              have H := H1
              clear H1
              obtain rfl := Option.some.inj H
              go_wp2
              go_ret
              exact ⟨by first | rfl | (simp [errW_none, errW_some] <;> rfl) | (simp [*, errW_none, errW_some] <;> rfl), by repeat (first | (with_reducible first | exact HB.out | apply below_alloc | apply pw_below_drewN | apply below_drew1 | refine below_set ?_ GE420.out | refine below_set ?_ GE429.out | refine below_set ?_ GE449.out) | exact HB.out)⟩
             ·replace c93 := Bool.eq_false_iff.mpr c93
              subst c93
              have H1 : ((laws_heldCyclo.f kj64 t424 t439 1).bind fun t451 => (if t451 < 0 then (some false) else (if t451 = t438 then (some true) else (some false)))) = some r := by rw [if_neg (show ¬ (false = true) by decide)] at H; exact H
              clear H
              have H := H1
              clear H1
              replace H := Option.bind_eq_some_iff.mp H
              obtain ⟨t451, A940, H⟩ := H
              replace H : (if t451 < 0 then (some false) else (if t451 = t438 then (some true) else (some false))) = some r := H
              have A94 := Aside0.mk A940
              clear A940
              by_cases c95 : t451 < 0
              ·rw [if_pos c95] at H
               have c95b0 : decide (t451 < 0) = true := decide_eq_true c95
               clear c95
               obtain rfl := Option.some.inj H
               have hnb96 := NB429_420.out
               have hnc96 := NB420_429.out
               have hnb97 := NB429_449.out
               have hnc97 := NB449_429.out
               have hcz98_0 : wc.cell? ⟨gb429, 0, none⟩ = some (.int .i64 t424) := (blk_cell BK429.out 0).trans rfl
               have hcz98_1 : wc.cell? ⟨gb429, 1, none⟩ = some (.slice Ao21 t439.length co21) := (blk_cell BK429.out 1).trans rfl
               have hfz98_0 := blk_frozen BK429.out 0
               have hfz98_1 := blk_frozen BK429.out 1
               go_wp2_with (first | ((with_reducible refine gate_callee (f := 22) rfl ?_); refine goesL_ (some 90) rfl rfl Try.func22 (by kernel_rfl) rfl #[.agg #[.int .i64 t424, .slice Ao21 t439.length co21], .int .i64 1] rfl qB43 ?_; (with_reducible refine (laws_heldCyclo.calls kj64 t424 _ _ t439 1 t451 _ ?side1 ?side2 A94.out).mono ?_); (case side1 => repeat (first | exact (Kd.R_reads' HO_430001.out).2.2 | (with_reducible refine Kd.C_alloc ?_ _) | (with_reducible refine Kd.C_drewN ?_ _) | (with_reducible refine Kd.C_drew ?_))); (case side2 => exact (Kd.R_reads' HO_430001.out).2.1); rintro e w99 ⟨rfl, hb⟩; refine ⟨_, rfl, ?_⟩; have n0_ := Aside0.mk (Kd.R_below qB70 hb); have n1_ := Aside0.mk (Kd.R_below qB71 hb); have n2_ := Aside0.mk (Kd.R_below qB72 hb); have n3_ := Aside0.mk (blk_below (g := gb420) (o := .cells #[.int .i64 t415, .slice Ao14 t416.length co14] 34 (0, 0)) qB65 hb); have n4_ := Aside0.mk (blk_below (g := gb429) (o := .cells #[.int .i64 t424, .slice Ao21 t439.length co21] 34 (0, 0)) qB66 hb); have n5_ := Aside0.mk (blk_below (g := gb449) (o := .cells #[.int .i64 t444, .slice Ao78 t445.length co78] 34 (0, 0)) qB67 hb); have n6_ := Aside0.mk (below_step qB17 hb); clear HO_421001; clear HO_430001; clear HO_450001; clear BK420; clear BK429; clear BK449; clear HB; have HO_421001 := n0_; have HO_430001 := n1_; have HO_450001 := n2_; have BK420 := n3_; have BK429 := n4_; have BK449 := n5_; have HB := n6_; clear n0_ n1_ n2_ n3_ n4_ n5_ n6_; (try clear hb); (try clear hb2); (try clear hk); (try clear hi)))
               go_ret
               exact ⟨by first | rfl | (simp [errW_none, errW_some] <;> rfl) | (simp [*, errW_none, errW_some] <;> rfl), by repeat (first | (with_reducible first | exact HB.out | apply below_alloc | apply pw_below_drewN | apply below_drew1 | refine below_set ?_ GE420.out | refine below_set ?_ GE429.out | refine below_set ?_ GE449.out) | exact HB.out)⟩
              ·rw [if_neg c95] at H
               have c95b0 : decide (t451 < 0) = false := decide_eq_false c95
               clear c95
               by_cases c100 : t451 = t438
               ·rw [if_pos c100] at H
                have c100b0 : (t451 == t438) = true := beq_iff_eq.mpr c100
                have c100b1 : (t451 != t438) = false := bne_eq_false_iff_eq.mpr c100
                clear c100
                obtain rfl := Option.some.inj H
                have hnb101 := NB429_420.out
                have hnc101 := NB420_429.out
                have hnb102 := NB429_449.out
                have hnc102 := NB449_429.out
                have hcz103_0 : wc.cell? ⟨gb429, 0, none⟩ = some (.int .i64 t424) := (blk_cell BK429.out 0).trans rfl
                have hcz103_1 : wc.cell? ⟨gb429, 1, none⟩ = some (.slice Ao21 t439.length co21) := (blk_cell BK429.out 1).trans rfl
                have hfz103_0 := blk_frozen BK429.out 0
                have hfz103_1 := blk_frozen BK429.out 1
                go_wp2_with (first | ((with_reducible refine gate_callee (f := 22) rfl ?_); refine goesL_ (some 90) rfl rfl Try.func22 (by kernel_rfl) rfl #[.agg #[.int .i64 t424, .slice Ao21 t439.length co21], .int .i64 1] rfl qB43 ?_; (with_reducible refine (laws_heldCyclo.calls kj64 t424 _ _ t439 1 t451 _ ?side1 ?side2 A94.out).mono ?_); (case side1 => repeat (first | exact (Kd.R_reads' HO_430001.out).2.2 | (with_reducible refine Kd.C_alloc ?_ _) | (with_reducible refine Kd.C_drewN ?_ _) | (with_reducible refine Kd.C_drew ?_))); (case side2 => exact (Kd.R_reads' HO_430001.out).2.1); rintro e w104 ⟨rfl, hb⟩; refine ⟨_, rfl, ?_⟩; have n0_ := Aside0.mk (Kd.R_below qB70 hb); have n1_ := Aside0.mk (Kd.R_below qB71 hb); have n2_ := Aside0.mk (Kd.R_below qB72 hb); have n3_ := Aside0.mk (blk_below (g := gb420) (o := .cells #[.int .i64 t415, .slice Ao14 t416.length co14] 34 (0, 0)) qB65 hb); have n4_ := Aside0.mk (blk_below (g := gb429) (o := .cells #[.int .i64 t424, .slice Ao21 t439.length co21] 34 (0, 0)) qB66 hb); have n5_ := Aside0.mk (blk_below (g := gb449) (o := .cells #[.int .i64 t444, .slice Ao78 t445.length co78] 34 (0, 0)) qB67 hb); have n6_ := Aside0.mk (below_step qB17 hb); clear HO_421001; clear HO_430001; clear HO_450001; clear BK420; clear BK429; clear BK449; clear HB; have HO_421001 := n0_; have HO_430001 := n1_; have HO_450001 := n2_; have BK420 := n3_; have BK429 := n4_; have BK449 := n5_; have HB := n6_; clear n0_ n1_ n2_ n3_ n4_ n5_ n6_; (try clear hb); (try clear hb2); (try clear hk); (try clear hi)))
                go_ret
                exact ⟨by first | rfl | (simp [errW_none, errW_some] <;> rfl) | (simp [*, errW_none, errW_some] <;> rfl), by repeat (first | (with_reducible first | exact HB.out | apply below_alloc | apply pw_below_drewN | apply below_drew1 | refine below_set ?_ GE420.out | refine below_set ?_ GE429.out | refine below_set ?_ GE449.out) | exact HB.out)⟩
               ·rw [if_neg c100] at H
                have c100b0 : (t451 == t438) = false := beq_eq_false_iff_ne.mpr c100
                have c100b1 : (t451 != t438) = true := bne_iff_ne.mpr c100
                obtain rfl := Option.some.inj H
                have hnb105 := NB429_420.out
                have hnc105 := NB420_429.out
                have hnb106 := NB429_449.out
                have hnc106 := NB449_429.out
                have hcz107_0 : wc.cell? ⟨gb429, 0, none⟩ = some (.int .i64 t424) := (blk_cell BK429.out 0).trans rfl
                have hcz107_1 : wc.cell? ⟨gb429, 1, none⟩ = some (.slice Ao21 t439.length co21) := (blk_cell BK429.out 1).trans rfl
                have hfz107_0 := blk_frozen BK429.out 0
                have hfz107_1 := blk_frozen BK429.out 1
                go_wp2_with (first | ((with_reducible refine gate_callee (f := 22) rfl ?_); refine goesL_ (some 90) rfl rfl Try.func22 (by kernel_rfl) rfl #[.agg #[.int .i64 t424, .slice Ao21 t439.length co21], .int .i64 1] rfl qB43 ?_; (with_reducible refine (laws_heldCyclo.calls kj64 t424 _ _ t439 1 t451 _ ?side1 ?side2 A94.out).mono ?_); (case side1 => repeat (first | exact (Kd.R_reads' HO_430001.out).2.2 | (with_reducible refine Kd.C_alloc ?_ _) | (with_reducible refine Kd.C_drewN ?_ _) | (with_reducible refine Kd.C_drew ?_))); (case side2 => exact (Kd.R_reads' HO_430001.out).2.1); rintro e w108 ⟨rfl, hb⟩; refine ⟨_, rfl, ?_⟩; have n0_ := Aside0.mk (Kd.R_below qB70 hb); have n1_ := Aside0.mk (Kd.R_below qB71 hb); have n2_ := Aside0.mk (Kd.R_below qB72 hb); have n3_ := Aside0.mk (blk_below (g := gb420) (o := .cells #[.int .i64 t415, .slice Ao14 t416.length co14] 34 (0, 0)) qB65 hb); have n4_ := Aside0.mk (blk_below (g := gb429) (o := .cells #[.int .i64 t424, .slice Ao21 t439.length co21] 34 (0, 0)) qB66 hb); have n5_ := Aside0.mk (blk_below (g := gb449) (o := .cells #[.int .i64 t444, .slice Ao78 t445.length co78] 34 (0, 0)) qB67 hb); have n6_ := Aside0.mk (below_step qB17 hb); clear HO_421001; clear HO_430001; clear HO_450001; clear BK420; clear BK429; clear BK449; clear HB; have HO_421001 := n0_; have HO_430001 := n1_; have HO_450001 := n2_; have BK420 := n3_; have BK429 := n4_; have BK449 := n5_; have HB := n6_; clear n0_ n1_ n2_ n3_ n4_ n5_ n6_; (try clear hb); (try clear hb2); (try clear hk); (try clear hi)))
                go_ret
                exact ⟨by first | rfl | (simp [errW_none, errW_some] <;> rfl) | (simp [*, errW_none, errW_some] <;> rfl), by repeat (first | (with_reducible first | exact HB.out | apply below_alloc | apply pw_below_drewN | apply below_drew1 | refine below_set ?_ GE420.out | refine below_set ?_ GE429.out | refine below_set ?_ GE449.out) | exact HB.out)⟩
          ·rw [if_neg c62] at H
           have c62b0 : (t440 == t438) = false := beq_eq_false_iff_ne.mpr c62
           have c62b1 : (t440 != t438) = true := bne_iff_ne.mpr c62
           obtain rfl := Option.some.inj H
           have hnb109 := NB429_420.out
           have hnc109 := NB420_429.out
           have hcz110_0 : wc.cell? ⟨gb429, 0, none⟩ = some (.int .i64 t424) := (blk_cell BK429.out 0).trans rfl
           have hcz110_1 : wc.cell? ⟨gb429, 1, none⟩ = some (.slice Ao21 t425.length co21) := (blk_cell BK429.out 1).trans rfl
           have hfz110_0 := blk_frozen BK429.out 0
           have hfz110_1 := blk_frozen BK429.out 1
           go_wp2_with (first | ((with_reducible refine gate_callee (f := 21) rfl ?_); refine goesL_ (some 64) rfl rfl Try.func21 (by kernel_rfl) rfl #[.agg #[.int .i64 t424, .slice Ao21 t425.length co21], .int .i64 1] rfl qB43 ?_; (with_reducible refine (laws_markCyclo.calls kj36 t424 (fun k_ => some k_ = (.slice Ao21 t425.length co21 : Value).ownBlock) (.slice Ao21 t425.length co21) t425 1 t438 t439 w _ ?side1 ?side2 A54.out).mono ?_); (case side1 => repeat (first | (with_reducible first | exact HB.out | apply below_alloc | apply pw_below_drewN | apply below_drew1 | refine below_set ?_ GE420.out | refine below_set ?_ GE429.out) | exact HB.out)); (case side2 => exact Kd.R_tight rfl HO_430001.out); rintro e w111 ⟨rfl, hy0, hb, hkp⟩; refine ⟨_, rfl, ?_⟩; have n0_ := Aside0.mk (Kd.R_mono (ok' := fun k_ => some k_ ≠ (.slice Ao21 t425.length co21 : Value).ownBlock) (Kd.R_keptB (HO_421001.out) hkp (fun k_ hk_ hs_ => (hk_) hs_)) (fun k_ hk_ => hk_.1)); have n1_ := Aside0.mk (Kd.R_reok rfl hy0 (fun k_ e_ => HO_430001.out.1 k_ e_)); have n2_ := Aside0.mk (blk_kept qB65 hkp (fun hs_ => (fun e_ => (Kd.R_ne HO_430001.out BK420.out (by decide)) e_) hs_)); have n3_ := Aside0.mk (blk_kept qB66 hkp (fun hs_ => (fun e_ => (Kd.R_ne HO_430001.out BK429.out (by decide)) e_) hs_)); have n4_ := Aside0.mk (hb); clear HO_421001; clear HO_430001; clear BK420; clear BK429; clear HB; have HO_421001 := n0_; have HO_430001 := n1_; have BK420 := n2_; have BK429 := n3_; have HB := n4_; clear n0_ n1_ n2_ n3_ n4_; (try clear hb); (try clear hkp); (try clear hy0); have hcz112_0 : w111.cell? ⟨gb429, 0, none⟩ = some (.int .i64 t424) := (blk_cell BK429.out 0).trans rfl; have hcz112_1 : w111.cell? ⟨gb429, 1, none⟩ = some (.slice Ao21 t425.length co21) := (blk_cell BK429.out 1).trans rfl; have hfz112_0 := blk_frozen BK429.out 0; have hfz112_1 := blk_frozen BK429.out 1) | ((with_reducible refine gate_callee (f := 22) rfl ?_); refine goesL_ (some 67) rfl rfl Try.func22 (by kernel_rfl) rfl #[.agg #[.int .i64 t424, .slice Ao21 t439.length co21], .int .i64 1] rfl qB18 ?_; (with_reducible refine (laws_heldCyclo.calls kj36 t424 _ _ t439 1 t440 _ ?side1 ?side2 A55.out).mono ?_); (case side1 => repeat (first | exact (Kd.R_reads' HO_430001.out).2.2 | (with_reducible refine Kd.C_alloc ?_ _) | (with_reducible refine Kd.C_drewN ?_ _) | (with_reducible refine Kd.C_drew ?_))); (case side2 => rw [show t439.length = t425.length from (Kd.R_reads' HO_430001.out).1.symm]; exact (Kd.R_reads' HO_430001.out).2.1); rintro e w113 ⟨rfl, hb⟩; refine ⟨_, rfl, ?_⟩; have n0_ := Aside0.mk (Kd.R_below qB70 hb); have n1_ := Aside0.mk (Kd.R_below qB71 hb); have n2_ := Aside0.mk (blk_below (g := gb420) (o := .cells #[.int .i64 t415, .slice Ao14 t416.length co14] 34 (0, 0)) qB65 hb); have n3_ := Aside0.mk (blk_below (g := gb429) (o := .cells #[.int .i64 t424, .slice Ao21 t425.length co21] 34 (0, 0)) qB66 hb); have n4_ := Aside0.mk (below_step qB20 hb); clear HO_421001; clear HO_430001; clear BK420; clear BK429; clear HB; have HO_421001 := n0_; have HO_430001 := n1_; have BK420 := n2_; have BK429 := n3_; have HB := n4_; clear n0_ n1_ n2_ n3_ n4_; (try clear hb); (try clear hb2); (try clear hk); (try clear hi)))
           go_ret
           exact ⟨by first | rfl | (simp [errW_none, errW_some] <;> rfl) | (simp [*, errW_none, errW_some] <;> rfl), by repeat (first | (with_reducible first | exact HB.out | apply below_alloc | apply pw_below_drewN | apply below_drew1 | refine below_set ?_ GE420.out | refine below_set ?_ GE429.out) | exact HB.out)⟩
     ·replace c35 := Bool.eq_false_iff.mpr c35
      subst c35
      have H1 : (some false) = some r := by rw [if_neg (show ¬ (false = true) by decide)] at H; exact H
      clear H
      have H := H1
      clear H1
      obtain rfl := Option.some.inj H
      go_wp2_with (first | ((with_reducible refine gate_callee (f := 35) rfl ?_); refine goesL_ (some 43) rfl rfl Try.func35 (by kernel_rfl) rfl #[.slice A0 l0.length c0] rfl qB43 ?_; (with_reducible refine (laws_toCharacterS.calls kj7 _ _ l0 t431 _ ?side1 ?side2 A33.out).mono ?_); (case side1 => repeat (first | exact (Kd.C_below HR0.out HB.out) | (with_reducible refine Kd.C_alloc ?_ _) | (with_reducible refine Kd.C_drewN ?_ _) | (with_reducible refine Kd.C_drew ?_))); (case side2 => exact HC0.out); rintro e w114 ⟨v432, rfl, ho0, hb⟩; refine ⟨_, rfl, ?_⟩; have n0_ := Aside0.mk (Kd.R_elder' qB91 (Kd.R_base ho0) hb); have n1_ := Aside0.mk (Kd.R_below qB70 hb); have n2_ := Aside0.mk (Kd.R_below qB71 hb); have n3_ := Aside0.mk (Kd.R_lower (Kd.R_new' ho0 (Kd.R_lt qB91)) (below_size qB20)); have n4_ := Aside0.mk (blk_below (g := gb420) (o := .cells #[.int .i64 t415, .slice Ao14 t416.length co14] 34 (0, 0)) qB65 hb); have n5_ := Aside0.mk (blk_below (g := gb429) (o := .cells #[.int .i64 t424, .slice Ao21 t425.length co21] 34 (0, 0)) qB66 hb); have n6_ := Aside0.mk (below_step qB20 hb); clear HO_6; clear HO_421001; clear HO_430001; clear BK420; clear BK429; clear HB; have HO_6 := n0_; have HO_421001 := n1_; have HO_430001 := n2_; have HO433 := n3_; have BK420 := n4_; have BK429 := n5_; have HB := n6_; clear n0_ n1_ n2_ n3_ n4_ n5_ n6_; (try clear hb); (try clear hb2); (try clear hk); (try clear hi); (try clear ho0); obtain ⟨Ao115, co115, eo115⟩ := Kd.R_slice HO433.out; subst eo115) | ((with_reducible refine gate_callee (f := 37) rfl ?_); refine goesL_ (some 44) rfl rfl Try.func37 (by kernel_rfl) rfl #[.slice Ao16 t421.length co16, .slice Ao115 t431.length co115] rfl qB43 ?_; (with_reducible refine (laws_eqCharacterS.calls kj7 _ _ t421 _ _ t431 false _ ?side1 ?side2 ?side3 ?side4 A34.out).mono ?_); (case side1 => repeat (first | exact (Kd.R_reads' HO_6.out).2.2 | (with_reducible refine Kd.C_alloc ?_ _) | (with_reducible refine Kd.C_drewN ?_ _) | (with_reducible refine Kd.C_drew ?_))); (case side2 => exact (Kd.R_reads' HO_6.out).2.1); (case side3 => repeat (first | exact (Kd.R_reads' HO433.out).2.2 | (with_reducible refine Kd.C_alloc ?_ _) | (with_reducible refine Kd.C_drewN ?_ _) | (with_reducible refine Kd.C_drew ?_))); (case side4 => exact (Kd.R_reads' HO433.out).2.1); rintro e w116 ⟨rfl, hb⟩; refine ⟨_, rfl, ?_⟩; have n0_ := Aside0.mk (Kd.R_below qB91 hb); have n1_ := Aside0.mk (Kd.R_below qB70 hb); have n2_ := Aside0.mk (Kd.R_below qB71 hb); have n3_ := Aside0.mk (Kd.R_below qB87 hb); have n4_ := Aside0.mk (blk_below (g := gb420) (o := .cells #[.int .i64 t415, .slice Ao14 t416.length co14] 34 (0, 0)) qB65 hb); have n5_ := Aside0.mk (blk_below (g := gb429) (o := .cells #[.int .i64 t424, .slice Ao21 t425.length co21] 34 (0, 0)) qB66 hb); have n6_ := Aside0.mk (below_step qB20 hb); clear HO_6; clear HO_421001; clear HO_430001; clear HO433; clear BK420; clear BK429; clear HB; have HO_6 := n0_; have HO_421001 := n1_; have HO_430001 := n2_; have HO433 := n3_; have BK420 := n4_; have BK429 := n5_; have HB := n6_; clear n0_ n1_ n2_ n3_ n4_ n5_ n6_; (try clear hb); (try clear hb2); (try clear hk); (try clear hi)))
      go_ret
      exact ⟨by first | rfl | (simp [errW_none, errW_some] <;> rfl) | (simp [*, errW_none, errW_some] <;> rfl), by repeat (first | (with_reducible first | exact HB.out | apply below_alloc | apply pw_below_drewN | apply below_drew1 | refine below_set ?_ GE420.out | refine below_set ?_ GE429.out) | exact HB.out)⟩

/-- THE ONE PURE STATEMENT of laws_FnExactJacobiOf. -/
def laws_FnExactJacobiOf.Pure : Prop := ∀ (l0 : List (S32)), l0.length ≤ maxLen → (∀ x ∈ l0, (Lit.int .i64 x.f0).wf = true ∧ (Lit.int .i64 x.f1).wf = true ∧ (Lit.int .i64 x.f2).wf = true) → ∃ k, laws_FnExactJacobiOf.f k l0 = some true
theorem laws_FnExactJacobiOf.walk (P : laws_FnExactJacobiOf.Pure) (A0 : Option Addr) (c0 : Nat) (l0 : List S32) (w : World) (w0 : Kd.C k32 w A0 l0.length l0 ∧ l0.length ≤ c0 ∧ l0.length ≤ maxLen ∧ ∀ x ∈ l0, (Lit.int .i64 x.f0).wf = true ∧ (Lit.int .i64 x.f1).wf = true ∧ (Lit.int .i64 x.f2).wf = true) :
  Calls Try.prog 9 #[.slice A0 l0.length c0] w fun e w' => e = .returned (.bool true) ∧ Below w.heap.size w w' := by
 obtain ⟨k, h⟩ := P l0 w0.2.2.1 w0.2.2.2
 refine (laws_FnExactJacobiOf.calls k _ _ l0 true w w0.1 w0.2.1 h).mono ?_
 rintro e w' ⟨rfl, hd⟩
 exact ⟨rfl, hd⟩

end Go.Proofs.Ythdpdiahkphklaa.PFnExactJacobiOf
