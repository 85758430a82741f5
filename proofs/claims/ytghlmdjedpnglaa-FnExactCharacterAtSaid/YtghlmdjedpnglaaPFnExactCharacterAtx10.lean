/- The functions that the law reaches, as plain functions, each with the proof that the program comes to it; no condition. Written by a program of this session (wip/mp.py) over the printing of the kit; what is marked HAND is told by hand. -/
import Derived.Test.YtghlmdjedpnglaaPFnExactCharacterAtx0
import Derived.Test.YtghlmdjedpnglaaPFnExactCharacterAtx4
import Derived.Test.YtghlmdjedpnglaaPFnExactCharacterAtx8
import Derived.Test.YtghlmdjedpnglaaPFnExactCharacterAtx9
namespace Go.Proofs.Ytghlmdjedpnglaa.PFnExactCharacterAt
open Go.RowKit Go.Proofs.YtghlmdjedpnglaaW.PrintWords Go.Proofs.YtghlmdjedpnglaaW.PrintLast Go.Proofs.YtghlmdjedpnglaaW.PrintMore
attribute [local go_sem] max2_int min2_int max_two min_two max_three min_three max_four min_four   -- for this text's walks alone
set_option linter.unusedVariables false
set_option linter.unusedSimpArgs false

/-! ### laws_FnExactCharacterAt: function 10 -/
mutual
def laws_FnExactCharacterAt.j0 : Nat → Int → Int → Bool → Int → Int → Int → Int → List Int → Int → List Int → Option (Bool)
  | 0, _, _, _, _, _, _, _, _, _, _ => none
  | k + 1, x1, x6, x35, x328000, x328001, x328002, x337000, x337001, x346000, x346001 => if x35 = true then (some false) else ((laws_markCyclo.f k x346000 x346001 1).bind fun bt347 => ((laws_heldCyclo.f k x346000 bt347.2 1).bind fun t349 => (if t349 < 0 then (some false) else (if t349 = bt347.1 then ((laws_toCharacter.f x328000 x328001 x328002).bind fun bt350 => ((impl_CharacterAt.f k bt350.1 bt350.2.1 bt350.2.2 x1).bind fun bt353 => ((laws_eqCyclo.f k bt353.1 bt353.2.1 x337000 x337001).bind fun t359 => (if t359 = true then (laws_FnExactCharacterAt.j1 k bt347.1 (bt353.2.2 != x6) x346000 bt347.2) else (laws_FnExactCharacterAt.j1 k bt347.1 true x346000 bt347.2))))) else (some false)))))
def laws_FnExactCharacterAt.j1 : Nat → Int → Bool → Int → List Int → Option (Bool)
  | 0, _, _, _, _ => none
  | k + 1, x9, x62, x346000, x346001 => if x62 = true then (some false) else ((laws_heldCyclo.f k x346000 x346001 1).bind fun t360 => (if t360 < 0 then (some false) else (if t360 = x9 then (some true) else (some false))))
end
def laws_FnExactCharacterAt.f (k : Nat) (a0_0 : Int) (a0_1 : Int) (a0_2 : Int) (a1 : Int) : Option (Bool) := (laws_toCharacter.f a0_0 a0_1 a0_2).bind fun bt328 => ((spec_CharacterAt.f k bt328.1 bt328.2.1 bt328.2.2 a1).bind fun bt331 => ((laws_toCharacter.f a0_0 a0_1 a0_2).bind fun bt337 => ((impl_CharacterAt.f k bt337.1 bt337.2.1 bt337.2.2 a1).bind fun bt340 => ((laws_eqCyclo.f k bt340.1 bt340.2.1 bt331.1 bt331.2.1).bind fun t346 => (if t346 = true then (laws_FnExactCharacterAt.j0 k a1 bt331.2.2 (bt340.2.2 != bt331.2.2) a0_0 a0_1 a0_2 bt331.1 bt331.2.1 bt340.1 bt340.2.1) else (laws_FnExactCharacterAt.j0 k a1 bt331.2.2 true a0_0 a0_1 a0_2 bt331.1 bt331.2.1 bt340.1 bt340.2.1))))))
theorem laws_FnExactCharacterAt.mono_l : ∀ k, (∀ y0 y1 y2 y3 y4 y5 y6 y7 y8 y9, LeO (laws_FnExactCharacterAt.j0 k y0 y1 y2 y3 y4 y5 y6 y7 y8 y9) (laws_FnExactCharacterAt.j0 (k + 1) y0 y1 y2 y3 y4 y5 y6 y7 y8 y9)) ∧ (∀ y0 y1 y2 y3, LeO (laws_FnExactCharacterAt.j1 k y0 y1 y2 y3) (laws_FnExactCharacterAt.j1 (k + 1) y0 y1 y2 y3))
  | 0 => ⟨fun _ _ _ _ _ _ _ _ _ _ r h => by simp [laws_FnExactCharacterAt.j0] at h, fun _ _ _ _ r h => by simp [laws_FnExactCharacterAt.j1] at h⟩
  | k + 1 => by
    obtain ⟨ih0, ih1⟩ := laws_FnExactCharacterAt.mono_l k
    refine ⟨?_, ?_⟩
    · intro y0 y1 y2 y3 y4 y5 y6 y7 y8 y9
      unfold laws_FnExactCharacterAt.j0
      repeat' first
      | (with_reducible exact ih0 _ _ _ _ _ _ _ _ _ _)
      | (with_reducible exact ih1 _ _ _ _)
      | (with_reducible exact impl_CharacterAt.mono _ _ _ _ _)
      | (with_reducible exact laws_eqCyclo.mono _ _ _ _ _)
      | (with_reducible exact laws_heldCyclo.mono _ _ _ _)
      | (with_reducible exact laws_markCyclo.mono _ _ _ _)
      | (with_reducible exact spec_CharacterAt.mono _ _ _ _ _)
      | (with_reducible exact LeO.refl _)
      | (with_reducible exact LeO.none _)
      | (with_reducible refine LeO.ite ?_ ?_)
      | (with_reducible refine LeO.bind ?_ (fun _ => ?_))
      | exact ih0 _ _ _ _ _ _ _ _ _ _
      | exact ih1 _ _ _ _
      | exact impl_CharacterAt.mono _ _ _ _ _
      | exact laws_eqCyclo.mono _ _ _ _ _
      | exact laws_heldCyclo.mono _ _ _ _
      | exact laws_markCyclo.mono _ _ _ _
      | exact spec_CharacterAt.mono _ _ _ _ _
      | exact LeO.none _
      | refine LeO.ite ?_ ?_
      | refine LeO.bind ?_ (fun _ => ?_)
    · intro y0 y1 y2 y3
      unfold laws_FnExactCharacterAt.j1
      repeat' first
      | (with_reducible exact ih0 _ _ _ _ _ _ _ _ _ _)
      | (with_reducible exact ih1 _ _ _ _)
      | (with_reducible exact impl_CharacterAt.mono _ _ _ _ _)
      | (with_reducible exact laws_eqCyclo.mono _ _ _ _ _)
      | (with_reducible exact laws_heldCyclo.mono _ _ _ _)
      | (with_reducible exact laws_markCyclo.mono _ _ _ _)
      | (with_reducible exact spec_CharacterAt.mono _ _ _ _ _)
      | (with_reducible exact LeO.refl _)
      | (with_reducible exact LeO.none _)
      | (with_reducible refine LeO.ite ?_ ?_)
      | (with_reducible refine LeO.bind ?_ (fun _ => ?_))
      | exact ih0 _ _ _ _ _ _ _ _ _ _
      | exact ih1 _ _ _ _
      | exact impl_CharacterAt.mono _ _ _ _ _
      | exact laws_eqCyclo.mono _ _ _ _ _
      | exact laws_heldCyclo.mono _ _ _ _
      | exact laws_markCyclo.mono _ _ _ _
      | exact spec_CharacterAt.mono _ _ _ _ _
      | exact LeO.none _
      | refine LeO.ite ?_ ?_
      | refine LeO.bind ?_ (fun _ => ?_)
theorem laws_FnExactCharacterAt.mono : ∀ a0 a1 a2 a3 k, LeO (laws_FnExactCharacterAt.f k a0 a1 a2 a3) (laws_FnExactCharacterAt.f (k + 1) a0 a1 a2 a3) := by
  intro a0 a1 a2 a3 k
  obtain ⟨ih0, ih1⟩ := laws_FnExactCharacterAt.mono_l k
  unfold laws_FnExactCharacterAt.f
  repeat' first
      | (with_reducible exact ih0 _ _ _ _ _ _ _ _ _ _)
      | (with_reducible exact ih1 _ _ _ _)
      | (with_reducible exact impl_CharacterAt.mono _ _ _ _ _)
      | (with_reducible exact laws_eqCyclo.mono _ _ _ _ _)
      | (with_reducible exact laws_heldCyclo.mono _ _ _ _)
      | (with_reducible exact laws_markCyclo.mono _ _ _ _)
      | (with_reducible exact spec_CharacterAt.mono _ _ _ _ _)
      | (with_reducible exact LeO.refl _)
      | (with_reducible exact LeO.none _)
      | (with_reducible refine LeO.ite ?_ ?_)
      | (with_reducible refine LeO.bind ?_ (fun _ => ?_))
      | exact ih0 _ _ _ _ _ _ _ _ _ _
      | exact ih1 _ _ _ _
      | exact impl_CharacterAt.mono _ _ _ _ _
      | exact laws_eqCyclo.mono _ _ _ _ _
      | exact laws_heldCyclo.mono _ _ _ _
      | exact laws_markCyclo.mono _ _ _ _
      | exact spec_CharacterAt.mono _ _ _ _ _
      | exact LeO.none _
      | refine LeO.ite ?_ ?_
      | refine LeO.bind ?_ (fun _ => ?_)
set_option maxHeartbeats 8000000 in
set_option maxRecDepth 100000 in
theorem laws_FnExactCharacterAt.calls (k : Nat) (a0_0 : Int) (a0_1 : Int) (a0_2 : Int) (a1 : Int) (r : Bool) (w : World) (h : laws_FnExactCharacterAt.f k a0_0 a0_1 a0_2 a1 = some r) :
    Calls Try.prog 10 #[.agg #[.int .i64 a0_0, .int .i64 a0_1, .int .i64 a0_2], .int .i64 a1] w fun e w' => e = .returned (.bool r) ∧ Below w.heap.size w w' := by
  have hu40 := Try.underlying40
  have hu42 := Try.underlying42
  have HB := Aside0.mk (Below.refl w.heap.size w)
  have H : ((laws_toCharacter.f a0_0 a0_1 a0_2).bind fun bt328 => ((spec_CharacterAt.f k bt328.1 bt328.2.1 bt328.2.2 a1).bind fun bt331 => ((laws_toCharacter.f a0_0 a0_1 a0_2).bind fun bt337 => ((impl_CharacterAt.f k bt337.1 bt337.2.1 bt337.2.2 a1).bind fun bt340 => ((laws_eqCyclo.f k bt340.1 bt340.2.1 bt331.1 bt331.2.1).bind fun t346 => (if t346 = true then (laws_FnExactCharacterAt.j0 k a1 bt331.2.2 (bt340.2.2 != bt331.2.2) a0_0 a0_1 a0_2 bt331.1 bt331.2.1 bt340.1 bt340.2.1) else (laws_FnExactCharacterAt.j0 k a1 bt331.2.2 true a0_0 a0_1 a0_2 bt331.1 bt331.2.1 bt340.1 bt340.2.1))))))) = some r := h
  clear h
  replace H := Option.bind_eq_some_iff.mp H
  obtain ⟨⟨t328, t329, t330⟩, A30, H⟩ := H
  replace H : ((spec_CharacterAt.f k t328 t329 t330 a1).bind fun bt331 => ((laws_toCharacter.f a0_0 a0_1 a0_2).bind fun bt337 => ((impl_CharacterAt.f k bt337.1 bt337.2.1 bt337.2.2 a1).bind fun bt340 => ((laws_eqCyclo.f k bt340.1 bt340.2.1 bt331.1 bt331.2.1).bind fun t346 => (if t346 = true then (laws_FnExactCharacterAt.j0 k a1 bt331.2.2 (bt340.2.2 != bt331.2.2) a0_0 a0_1 a0_2 bt331.1 bt331.2.1 bt340.1 bt340.2.1) else (laws_FnExactCharacterAt.j0 k a1 bt331.2.2 true a0_0 a0_1 a0_2 bt331.1 bt331.2.1 bt340.1 bt340.2.1)))))) = some r := H
  have A3 := Aside0.mk A30
  clear A30
  replace H := Option.bind_eq_some_iff.mp H
  obtain ⟨⟨t331, t332, t335⟩, A40, H⟩ := H
  replace H : ((laws_toCharacter.f a0_0 a0_1 a0_2).bind fun bt337 => ((impl_CharacterAt.f k bt337.1 bt337.2.1 bt337.2.2 a1).bind fun bt340 => ((laws_eqCyclo.f k bt340.1 bt340.2.1 t331 t332).bind fun t346 => (if t346 = true then (laws_FnExactCharacterAt.j0 k a1 t335 (bt340.2.2 != t335) a0_0 a0_1 a0_2 t331 t332 bt340.1 bt340.2.1) else (laws_FnExactCharacterAt.j0 k a1 t335 true a0_0 a0_1 a0_2 t331 t332 bt340.1 bt340.2.1))))) = some r := H
  have A4 := Aside0.mk A40
  clear A40
  replace H := Option.bind_eq_some_iff.mp H
  obtain ⟨⟨t337, t338, t339⟩, A50, H⟩ := H
  replace H : ((impl_CharacterAt.f k t337 t338 t339 a1).bind fun bt340 => ((laws_eqCyclo.f k bt340.1 bt340.2.1 t331 t332).bind fun t346 => (if t346 = true then (laws_FnExactCharacterAt.j0 k a1 t335 (bt340.2.2 != t335) a0_0 a0_1 a0_2 t331 t332 bt340.1 bt340.2.1) else (laws_FnExactCharacterAt.j0 k a1 t335 true a0_0 a0_1 a0_2 t331 t332 bt340.1 bt340.2.1)))) = some r := H
  have A5 := Aside0.mk A50
  clear A50
  replace H := Option.bind_eq_some_iff.mp H
  obtain ⟨⟨t340, t341, t344⟩, A60, H⟩ := H
  replace H : ((laws_eqCyclo.f k t340 t341 t331 t332).bind fun t346 => (if t346 = true then (laws_FnExactCharacterAt.j0 k a1 t335 (t344 != t335) a0_0 a0_1 a0_2 t331 t332 t340 t341) else (laws_FnExactCharacterAt.j0 k a1 t335 true a0_0 a0_1 a0_2 t331 t332 t340 t341))) = some r := H
  have A6 := Aside0.mk A60
  clear A60
  have HC7 := Aside0.mk H
  clear H
  go_enter Try.func10, Try.ntmps10
  go_upto_region 3 with (first | ((with_reducible refine gate_dst (N := 2) rfl ?_); refine box_event ?hg (N := 2) ?hd (cs := #[.int .i64 a0_0, .int .i64 a0_1, .int .i64 a0_2]) (t := 40) ?hr ?_; (case hd => rfl); (case hg => rfl); (case hr => first | (go_simp; done) | (go_simp; rfl)); intro gb327 hg w8 hbox hb; have n0_ := Aside0.mk (below_step qB41 hb); have n1_ := Aside0.mk (hbox); have n2_ := Aside0.mk ((by rw [hg]; exact (below_size qB41) : w.heap.size ≤ gb327)); have n3_ := Aside0.mk ((by rw [hg]; exact (below_size qB41) : w.heap.size ≤ gb327)); clear HB; have HB := n0_; have BK327 := n1_; have GW327 := n2_; have GE327 := n3_; clear n0_ n1_ n2_ n3_; clear hb hbox hg; have hcz9_0 : w8.cell? ⟨gb327, 0, none⟩ = some (.int .i64 a0_0) := (blk_cell BK327.out 0).trans rfl; have hcz9_1 : w8.cell? ⟨gb327, 1, none⟩ = some (.int .i64 a0_1) := (blk_cell BK327.out 1).trans rfl; have hcz9_2 : w8.cell? ⟨gb327, 2, none⟩ = some (.int .i64 a0_2) := (blk_cell BK327.out 2).trans rfl; have hfz9_0 := blk_frozen BK327.out 0; have hfz9_1 := blk_frozen BK327.out 1; have hfz9_2 := blk_frozen BK327.out 2) | ((with_reducible refine gate_callee (f := 30) rfl ?_); refine goesL_ (some 15) rfl rfl Try.func30 (by kernel_rfl) rfl #[.agg #[.int .i64 a0_0, .int .i64 a0_1, .int .i64 a0_2]] rfl qB40 ?_; (with_reducible refine (laws_toCharacter.calls a0_0 a0_1 a0_2 t328 t329 t330 _ A3.out).mono ?_); rintro e w10 ⟨rfl, hb⟩; refine ⟨_, rfl, ?_⟩; have n0_ := Aside0.mk (blk_below (g := gb327) (o := .cells #[.int .i64 a0_0, .int .i64 a0_1, .int .i64 a0_2] 40 (0, 0)) qB57 hb); have n1_ := Aside0.mk (below_step qB37 hb); clear BK327; clear HB; have BK327 := n0_; have HB := n1_; clear n0_ n1_; (try clear hb); (try clear hb2); (try clear hk); (try clear hi)) | ((with_reducible refine gate_callee (f := 29) rfl ?_); refine goesL_ (some 17) rfl rfl Try.func29 (by kernel_rfl) rfl #[.agg #[.int .i64 t328, .int .i64 t329, .int .i64 t330], .int .i64 a1] rfl qB40 ?_; (with_reducible refine (spec_CharacterAt.calls k t328 t329 t330 a1 t331 t332 t335 _ A4.out).mono ?_); rintro e w11 ⟨v333, rfl, ho0, hb⟩; refine ⟨_, rfl, ?_⟩; have n0_ := Aside0.mk (Kd.R_lower ho0 (below_size qB37)); have n1_ := Aside0.mk (blk_below (g := gb327) (o := .cells #[.int .i64 a0_0, .int .i64 a0_1, .int .i64 a0_2] 40 (0, 0)) qB57 hb); have n2_ := Aside0.mk (below_step qB37 hb); clear BK327; clear HB; have HO334 := n0_; have BK327 := n1_; have HB := n2_; clear n0_ n1_ n2_; (try clear hb); (try clear hb2); (try clear hk); (try clear hi); (try clear ho0)) | ((with_reducible refine gate_dst (N := 5) rfl ?_); refine box_event ?hg (N := 5) ?hd (cs := #[.int .i64 0, .slice none 0 0]) (t := 42) ?hr ?_; (case hd => rfl); (case hg => rfl); (case hr => first | (go_simp; done) | (go_simp; rfl)); intro gb336 hg w12 hbox hb; have n0_ := Aside0.mk (Kd.R_below qB75 hb); have n1_ := Aside0.mk (blk_below (g := gb327) (o := .cells #[.int .i64 a0_0, .int .i64 a0_1, .int .i64 a0_2] 40 (0, 0)) qB57 hb); have n2_ := Aside0.mk (below_step qB37 hb); have n3_ := Aside0.mk (hbox); have n4_ := Aside0.mk ((by rw [hg]; exact (below_size qB37) : w.heap.size ≤ gb336)); have n5_ := Aside0.mk ((by rw [hg]; exact (below_size qB37) : w.heap.size ≤ gb336)); have n6_ := Aside0.mk ((by rw [hg]; exact Nat.ne_of_lt (blk_lt (g := gb327) (o := .cells #[.int .i64 a0_0, .int .i64 a0_1, .int .i64 a0_2] 40 (0, 0)) qB57) : gb327 ≠ gb336)); have n7_ := Aside0.mk ((by rw [hg]; exact Nat.ne_of_gt (blk_lt (g := gb327) (o := .cells #[.int .i64 a0_0, .int .i64 a0_1, .int .i64 a0_2] 40 (0, 0)) qB57) : gb336 ≠ gb327)); clear HO334; clear BK327; clear HB; have HO334 := n0_; have BK327 := n1_; have HB := n2_; have BK336 := n3_; have GW336 := n4_; have GE336 := n5_; have NB327_336 := n6_; have NB336_327 := n7_; clear n0_ n1_ n2_ n3_ n4_ n5_ n6_ n7_; clear hb hbox hg; have hnb13 := NB336_327.out; have hnc13 := NB327_336.out; have hcz14_0 : w12.cell? ⟨gb336, 0, none⟩ = some (.int .i64 0) := (blk_cell BK336.out 0).trans rfl; have hcz14_1 : w12.cell? ⟨gb336, 1, none⟩ = some (.slice none 0 0) := (blk_cell BK336.out 1).trans rfl; have hfz14_0 := blk_frozen BK336.out 0; have hfz14_1 := blk_frozen BK336.out 1; obtain ⟨Ao15, co15, eo15⟩ := Kd.R_slice HO334.out; subst eo15; have hcz16_0 : w12.cell? ⟨gb327, 0, none⟩ = some (.int .i64 a0_0) := (blk_cell BK327.out 0).trans rfl; have hcz16_1 : w12.cell? ⟨gb327, 1, none⟩ = some (.int .i64 a0_1) := (blk_cell BK327.out 1).trans rfl; have hcz16_2 : w12.cell? ⟨gb327, 2, none⟩ = some (.int .i64 a0_2) := (blk_cell BK327.out 2).trans rfl; have hfz16_0 := blk_frozen BK327.out 0; have hfz16_1 := blk_frozen BK327.out 1; have hfz16_2 := blk_frozen BK327.out 2) | ((with_reducible refine gate_callee (f := 30) rfl ?_); refine goesL_ (some 22) rfl rfl Try.func30 (by kernel_rfl) rfl #[.agg #[.int .i64 a0_0, .int .i64 a0_1, .int .i64 a0_2]] rfl qB40 ?_; (with_reducible refine (laws_toCharacter.calls a0_0 a0_1 a0_2 t337 t338 t339 _ A5.out).mono ?_); rintro e w17 ⟨rfl, hb⟩; refine ⟨_, rfl, ?_⟩; have n0_ := Aside0.mk (Kd.R_below (by (with_reducible repeat (first | apply Kd.R_alloc | apply Kd.R_drewN | apply Kd.R_drew)); exact (Kd.R_mono (Kd.R_far (p := ⟨gb336, 1, none⟩) (Kd.R_far (p := ⟨gb336, 0, none⟩) (Kd.R_types HO334.out BK336.out (by decide)) (fun _ hk => hk.2) (.int .i64 t331)) (fun _ hk => hk.2) (.slice Ao15 t332.length co15)) (fun _ h_ => h_.1))) hb); have n1_ := Aside0.mk (blk_below (g := gb327) (o := .cells #[.int .i64 a0_0, .int .i64 a0_1, .int .i64 a0_2] 40 (0, 0)) (by (with_reducible repeat (first | refine blk_drewN ?_ _ | refine blk_drew ?_ | refine blk_alloc ?_ _)); refine blk_far ?_ NB327_336.out _; (with_reducible repeat (first | refine blk_drewN ?_ _ | refine blk_drew ?_ | refine blk_alloc ?_ _)); refine blk_far ?_ NB327_336.out _; (with_reducible repeat (first | refine blk_drewN ?_ _ | refine blk_drew ?_ | refine blk_alloc ?_ _)); exact BK327.out) hb); have n2_ := Aside0.mk (blk_below (g := gb336) (o := .cells #[.int .i64 t331, .slice Ao15 t332.length co15] 42 (0, 0)) (by (with_reducible repeat (first | refine blk_drewN ?_ _ | refine blk_drew ?_ | refine blk_alloc ?_ _)); refine blk_put (cs := #[.int .i64 t331, .slice none 0 0]) ?_ 1 _ rfl; (with_reducible repeat (first | refine blk_drewN ?_ _ | refine blk_drew ?_ | refine blk_alloc ?_ _)); refine blk_put (cs := #[.int .i64 0, .slice none 0 0]) ?_ 0 _ rfl; (with_reducible repeat (first | refine blk_drewN ?_ _ | refine blk_drew ?_ | refine blk_alloc ?_ _)); exact BK336.out) hb); have n3_ := Aside0.mk (below_step qB24 hb); clear HO334; clear BK327; clear BK336; clear HB; have HO334 := n0_; have BK327 := n1_; have BK336 := n2_; have HB := n3_; clear n0_ n1_ n2_ n3_; (try clear hb); (try clear hb2); (try clear hk); (try clear hi)) | ((with_reducible refine gate_callee (f := 31) rfl ?_); refine goesL_ (some 24) rfl rfl Try.func31 (by kernel_rfl) rfl #[.agg #[.int .i64 t337, .int .i64 t338, .int .i64 t339], .int .i64 a1] rfl qB40 ?_; (with_reducible refine (impl_CharacterAt.calls k t337 t338 t339 a1 t340 t341 t344 _ A6.out).mono ?_); rintro e w18 ⟨v342, rfl, ho0, hb⟩; refine ⟨_, rfl, ?_⟩; have n0_ := Aside0.mk (Kd.R_elder' qB75 (Kd.R_base ho0) hb); have n1_ := Aside0.mk (Kd.R_lower (Kd.R_new' ho0 (Kd.R_lt qB75)) (below_size qB24)); have n2_ := Aside0.mk (blk_below (g := gb327) (o := .cells #[.int .i64 a0_0, .int .i64 a0_1, .int .i64 a0_2] 40 (0, 0)) qB57 hb); have n3_ := Aside0.mk (blk_below (g := gb336) (o := .cells #[.int .i64 t331, .slice Ao15 t332.length co15] 42 (0, 0)) qB58 hb); have n4_ := Aside0.mk (below_step qB24 hb); clear HO334; clear BK327; clear BK336; clear HB; have HO334 := n0_; have HO343 := n1_; have BK327 := n2_; have BK336 := n3_; have HB := n4_; clear n0_ n1_ n2_ n3_ n4_; (try clear hb); (try clear hb2); (try clear hk); (try clear hi); (try clear ho0)) | ((with_reducible refine gate_dst (N := 7) rfl ?_); refine box_event ?hg (N := 7) ?hd (cs := #[.int .i64 0, .slice none 0 0]) (t := 42) ?hr ?_; (case hd => rfl); (case hg => rfl); (case hr => first | (go_simp; done) | (go_simp; rfl)); intro gb345 hg w19 hbox hb; have n0_ := Aside0.mk (Kd.R_below qB75 hb); have n1_ := Aside0.mk (Kd.R_below (by (with_reducible repeat (first | apply Kd.R_alloc | apply Kd.R_drewN | apply Kd.R_drew)); exact HO343.out) hb); have n2_ := Aside0.mk (blk_below (g := gb327) (o := .cells #[.int .i64 a0_0, .int .i64 a0_1, .int .i64 a0_2] 40 (0, 0)) qB57 hb); have n3_ := Aside0.mk (blk_below (g := gb336) (o := .cells #[.int .i64 t331, .slice Ao15 t332.length co15] 42 (0, 0)) qB58 hb); have n4_ := Aside0.mk (below_step qB24 hb); have n5_ := Aside0.mk (hbox); have n6_ := Aside0.mk ((by rw [hg]; exact (below_size qB24) : w.heap.size ≤ gb345)); have n7_ := Aside0.mk ((by rw [hg]; exact (below_size qB24) : w.heap.size ≤ gb345)); have n8_ := Aside0.mk ((by rw [hg]; exact Nat.ne_of_lt (blk_lt (g := gb327) (o := .cells #[.int .i64 a0_0, .int .i64 a0_1, .int .i64 a0_2] 40 (0, 0)) qB57) : gb327 ≠ gb345)); have n9_ := Aside0.mk ((by rw [hg]; exact Nat.ne_of_gt (blk_lt (g := gb327) (o := .cells #[.int .i64 a0_0, .int .i64 a0_1, .int .i64 a0_2] 40 (0, 0)) qB57) : gb345 ≠ gb327)); have n10_ := Aside0.mk ((by rw [hg]; exact Nat.ne_of_lt (blk_lt (g := gb336) (o := .cells #[.int .i64 t331, .slice Ao15 t332.length co15] 42 (0, 0)) qB58) : gb336 ≠ gb345)); have n11_ := Aside0.mk ((by rw [hg]; exact Nat.ne_of_gt (blk_lt (g := gb336) (o := .cells #[.int .i64 t331, .slice Ao15 t332.length co15] 42 (0, 0)) qB58) : gb345 ≠ gb336)); clear HO334; clear HO343; clear BK327; clear BK336; clear HB; have HO334 := n0_; have HO343 := n1_; have BK327 := n2_; have BK336 := n3_; have HB := n4_; have BK345 := n5_; have GW345 := n6_; have GE345 := n7_; have NB327_345 := n8_; have NB345_327 := n9_; have NB336_345 := n10_; have NB345_336 := n11_; clear n0_ n1_ n2_ n3_ n4_ n5_ n6_ n7_ n8_ n9_ n10_ n11_; clear hb hbox hg; have hnb20 := NB345_327.out; have hnc20 := NB327_345.out; have hnb21 := NB345_336.out; have hnc21 := NB336_345.out; have hcz22_0 : w19.cell? ⟨gb345, 0, none⟩ = some (.int .i64 0) := (blk_cell BK345.out 0).trans rfl; have hcz22_1 : w19.cell? ⟨gb345, 1, none⟩ = some (.slice none 0 0) := (blk_cell BK345.out 1).trans rfl; have hfz22_0 := blk_frozen BK345.out 0; have hfz22_1 := blk_frozen BK345.out 1; obtain ⟨Ao23, co23, eo23⟩ := Kd.R_slice HO343.out; subst eo23))
  (try simp only [Act.put, List.setIfInBounds_toArray, List.set_cons_zero, List.set_cons_succ])
  go_cut [35] (fun v35 wc => ∃ (kq : Nat) (x35_6 : Bool), v35 = .bool x35_6 ∧ Aside0 (laws_FnExactCharacterAt.j0 kq a1 t335 x35_6 a0_0 a0_1 a0_2 t331 t332 t340 t341 = some r) ∧ Aside0 (kq ≤ k) ∧ Aside0 (Kd.R (Kd.int .i64) 2 wc w.heap.size (fun k_ => some k_ ≠ ((.slice Ao23 t341.length co23) : Value).ownBlock) (.slice Ao15 t332.length co15) t332) ∧ Aside0 (Kd.R (Kd.int .i64) 2 wc w.heap.size (fun k_ => some k_ ≠ ((.slice Ao15 t332.length co15) : Value).ownBlock) (.slice Ao23 t341.length co23) t341) ∧ Aside0 (wc.heap[gb327]? = some (.cells #[.int .i64 a0_0, .int .i64 a0_1, .int .i64 a0_2] 40 (0, 0))) ∧ Aside0 (wc.heap[gb336]? = some (.cells #[.int .i64 t331, (.slice Ao15 t332.length co15)] 42 (0, 0))) ∧ Aside0 (wc.heap[gb345]? = some (.cells #[.int .i64 t340, (.slice Ao23 t341.length co23)] 42 (0, 0))) ∧ Aside0 (Below w.heap.size w wc))
  case first =>
    have H := HC7.out
    clear HC7
    replace H := Option.bind_eq_some_iff.mp H
    obtain ⟨t346, A240, H⟩ := H
    replace H : (if t346 = true then (laws_FnExactCharacterAt.j0 k a1 t335 (t344 != t335) a0_0 a0_1 a0_2 t331 t332 t340 t341) else (laws_FnExactCharacterAt.j0 k a1 t335 true a0_0 a0_1 a0_2 t331 t332 t340 t341)) = some r := H
    have A24 := Aside0.mk A240
    clear A240
    by_cases c25 : t346 = true
    · subst c25
      have H1 : (laws_FnExactCharacterAt.j0 k a1 t335 (t344 != t335) a0_0 a0_1 a0_2 t331 t332 t340 t341) = some r := by rw [if_pos rfl] at H; exact H
      clear H
      have H := H1
      clear H1
      have H' := Aside0.mk H
      clear H
      have hnb26 := NB345_327.out
      have hnc26 := NB327_345.out
      have hnb27 := NB345_336.out
      have hnc27 := NB336_345.out
      have hcz28_0 : w19.cell? ⟨gb345, 0, none⟩ = some (.int .i64 0) := (blk_cell BK345.out 0).trans rfl
      have hcz28_1 : w19.cell? ⟨gb345, 1, none⟩ = some (.slice none 0 0) := (blk_cell BK345.out 1).trans rfl
      have hfz28_0 := blk_frozen BK345.out 0
      have hfz28_1 := blk_frozen BK345.out 1
      have hnb29 := NB336_327.out
      have hnc29 := NB327_336.out
      have hcz30_0 : w19.cell? ⟨gb336, 0, none⟩ = some (.int .i64 t331) := (blk_cell BK336.out 0).trans rfl
      have hcz30_1 : w19.cell? ⟨gb336, 1, none⟩ = some (.slice Ao15 t332.length co15) := (blk_cell BK336.out 1).trans rfl
      have hfz30_0 := blk_frozen BK336.out 0
      have hfz30_1 := blk_frozen BK336.out 1
      go_wp2_with (first | ((with_reducible refine gate_callee (f := 32) rfl ?_); refine goesL_ (some 29) rfl rfl Try.func32 (by kernel_rfl) rfl #[.agg #[.int .i64 t340, .slice Ao23 t341.length co23], .agg #[.int .i64 t331, .slice Ao15 t332.length co15]] rfl qB40 ?_; (with_reducible refine (laws_eqCyclo.calls k t340 _ _ t341 t331 _ _ t332 true _ ?side1 ?side2 ?side3 ?side4 A24.out).mono ?_); (case side1 => refine (Kd.R_reads' (e := 2) (base := w.heap.size) (ok := fun k_ => (True ∧ some k_ ≠ (.slice Ao15 t332.length co15 : Value).ownBlock)) (n := t341.length) (c := co23) ?_).2.2; exact qB14); (case side2 => exact (Kd.R_reads' HO343.out).2.1); (case side3 => refine (Kd.R_reads' (e := 2) (base := w.heap.size) (ok := fun k_ => (True ∧ some k_ ≠ (.slice Ao23 t341.length co23 : Value).ownBlock)) (n := t332.length) (c := co15) ?_).2.2; exact qB15); (case side4 => exact (Kd.R_reads' HO334.out).2.1); rintro e w31 ⟨rfl, hb⟩; refine ⟨_, rfl, ?_⟩; have n0_ := Aside0.mk (Kd.R_below qB15 hb); have n1_ := Aside0.mk (Kd.R_below qB14 hb); have n2_ := Aside0.mk (blk_below (g := gb327) (o := .cells #[.int .i64 a0_0, .int .i64 a0_1, .int .i64 a0_2] 40 (0, 0)) qB7 hb); have n3_ := Aside0.mk (blk_below (g := gb336) (o := .cells #[.int .i64 t331, .slice Ao15 t332.length co15] 42 (0, 0)) qB8 hb); have n4_ := Aside0.mk (blk_below (g := gb345) (o := .cells #[.int .i64 t340, .slice Ao23 t341.length co23] 42 (0, 0)) qB3 hb); have n5_ := Aside0.mk (below_step qB18 hb); clear HO334; clear HO343; clear BK327; clear BK336; clear BK345; clear HB; have HO334 := n0_; have HO343 := n1_; have BK327 := n2_; have BK336 := n3_; have BK345 := n4_; have HB := n5_; clear n0_ n1_ n2_ n3_ n4_ n5_; (try clear hb); (try clear hb2); (try clear hk); (try clear hi)))
      go_meet
      case rel => exact ⟨_, ((t344 != t335)), qB82, H', ⟨by first | omega | exact Nat.le_refl _⟩, ⟨by (with_reducible repeat (first | apply Kd.R_alloc | apply Kd.R_drewN | apply Kd.R_drew)); exact Kd.R_mono HO334.out (fun _ hk => hk.2)⟩, ⟨by (with_reducible repeat (first | apply Kd.R_alloc | apply Kd.R_drewN | apply Kd.R_drew)); exact Kd.R_mono HO343.out (fun _ hk => hk.2)⟩, ⟨by (with_reducible repeat (first | refine blk_drewN ?_ _ | refine blk_drew ?_ | refine blk_alloc ?_ _)); exact BK327.out⟩, ⟨by (with_reducible repeat (first | refine blk_drewN ?_ _ | refine blk_drew ?_ | refine blk_alloc ?_ _)); exact BK336.out⟩, ⟨by (with_reducible repeat (first | refine blk_drewN ?_ _ | refine blk_drew ?_ | refine blk_alloc ?_ _)); exact BK345.out⟩, ⟨by repeat (first | (with_reducible first | exact HB.out | apply below_alloc | apply pw_below_drewN | apply below_drew1 | refine below_set ?_ GE327.out | refine below_set ?_ GE336.out | refine below_set ?_ GE345.out) | exact HB.out)⟩⟩
    · replace c25 := Bool.eq_false_iff.mpr c25
      subst c25
      have H1 : (laws_FnExactCharacterAt.j0 k a1 t335 true a0_0 a0_1 a0_2 t331 t332 t340 t341) = some r := by rw [if_neg (show ¬ (false = true) by decide)] at H; exact H
      clear H
      have H := H1
      clear H1
      have H' := Aside0.mk H
      clear H
      have hnb32 := NB345_327.out
      have hnc32 := NB327_345.out
      have hnb33 := NB345_336.out
      have hnc33 := NB336_345.out
      have hcz34_0 : w19.cell? ⟨gb345, 0, none⟩ = some (.int .i64 0) := (blk_cell BK345.out 0).trans rfl
      have hcz34_1 : w19.cell? ⟨gb345, 1, none⟩ = some (.slice none 0 0) := (blk_cell BK345.out 1).trans rfl
      have hfz34_0 := blk_frozen BK345.out 0
      have hfz34_1 := blk_frozen BK345.out 1
      have hnb35 := NB336_327.out
      have hnc35 := NB327_336.out
      have hcz36_0 : w19.cell? ⟨gb336, 0, none⟩ = some (.int .i64 t331) := (blk_cell BK336.out 0).trans rfl
      have hcz36_1 : w19.cell? ⟨gb336, 1, none⟩ = some (.slice Ao15 t332.length co15) := (blk_cell BK336.out 1).trans rfl
      have hfz36_0 := blk_frozen BK336.out 0
      have hfz36_1 := blk_frozen BK336.out 1
      go_wp2_with (first | ((with_reducible refine gate_callee (f := 32) rfl ?_); refine goesL_ (some 29) rfl rfl Try.func32 (by kernel_rfl) rfl #[.agg #[.int .i64 t340, .slice Ao23 t341.length co23], .agg #[.int .i64 t331, .slice Ao15 t332.length co15]] rfl qB40 ?_; (with_reducible refine (laws_eqCyclo.calls k t340 _ _ t341 t331 _ _ t332 false _ ?side1 ?side2 ?side3 ?side4 A24.out).mono ?_); (case side1 => refine (Kd.R_reads' (e := 2) (base := w.heap.size) (ok := fun k_ => (True ∧ some k_ ≠ (.slice Ao15 t332.length co15 : Value).ownBlock)) (n := t341.length) (c := co23) ?_).2.2; exact qB14); (case side2 => exact (Kd.R_reads' HO343.out).2.1); (case side3 => refine (Kd.R_reads' (e := 2) (base := w.heap.size) (ok := fun k_ => (True ∧ some k_ ≠ (.slice Ao23 t341.length co23 : Value).ownBlock)) (n := t332.length) (c := co15) ?_).2.2; exact qB15); (case side4 => exact (Kd.R_reads' HO334.out).2.1); rintro e w37 ⟨rfl, hb⟩; refine ⟨_, rfl, ?_⟩; have n0_ := Aside0.mk (Kd.R_below qB15 hb); have n1_ := Aside0.mk (Kd.R_below qB14 hb); have n2_ := Aside0.mk (blk_below (g := gb327) (o := .cells #[.int .i64 a0_0, .int .i64 a0_1, .int .i64 a0_2] 40 (0, 0)) qB7 hb); have n3_ := Aside0.mk (blk_below (g := gb336) (o := .cells #[.int .i64 t331, .slice Ao15 t332.length co15] 42 (0, 0)) qB8 hb); have n4_ := Aside0.mk (blk_below (g := gb345) (o := .cells #[.int .i64 t340, .slice Ao23 t341.length co23] 42 (0, 0)) qB3 hb); have n5_ := Aside0.mk (below_step qB18 hb); clear HO334; clear HO343; clear BK327; clear BK336; clear BK345; clear HB; have HO334 := n0_; have HO343 := n1_; have BK327 := n2_; have BK336 := n3_; have BK345 := n4_; have HB := n5_; clear n0_ n1_ n2_ n3_ n4_ n5_; (try clear hb); (try clear hb2); (try clear hk); (try clear hi)))
      go_meet
      case rel => exact ⟨_, (true), qB82, H', ⟨by first | omega | exact Nat.le_refl _⟩, ⟨by (with_reducible repeat (first | apply Kd.R_alloc | apply Kd.R_drewN | apply Kd.R_drew)); exact Kd.R_mono HO334.out (fun _ hk => hk.2)⟩, ⟨by (with_reducible repeat (first | apply Kd.R_alloc | apply Kd.R_drewN | apply Kd.R_drew)); exact Kd.R_mono HO343.out (fun _ hk => hk.2)⟩, ⟨by (with_reducible repeat (first | refine blk_drewN ?_ _ | refine blk_drew ?_ | refine blk_alloc ?_ _)); exact BK327.out⟩, ⟨by (with_reducible repeat (first | refine blk_drewN ?_ _ | refine blk_drew ?_ | refine blk_alloc ?_ _)); exact BK336.out⟩, ⟨by (with_reducible repeat (first | refine blk_drewN ?_ _ | refine blk_drew ?_ | refine blk_alloc ?_ _)); exact BK345.out⟩, ⟨by repeat (first | (with_reducible first | exact HB.out | apply below_alloc | apply pw_below_drewN | apply below_drew1 | refine below_set ?_ GE327.out | refine below_set ?_ GE336.out | refine below_set ?_ GE345.out) | exact HB.out)⟩⟩
  case rest =>
    clear HC7
    try clear c1
    try clear c2
    try clear p2
    try clear c3
    try clear c10
    try clear c13
    try clear c20
    try clear c21
    try clear c25
    try clear c26
    try clear c27
    try clear c29
    try clear c30
    try clear c31
    try clear c32
    try clear c33
    try clear c35
    try clear hcz14_0
    try clear hcz14_1
    try clear hcz16_0
    try clear hcz16_1
    try clear hcz16_2
    try clear hcz22_0
    try clear hcz22_1
    try clear hcz28_0
    try clear hcz28_1
    try clear hcz30_0
    try clear hcz30_1
    try clear hcz34_0
    try clear hcz34_1
    try clear hcz36_0
    try clear hcz36_1
    try clear hcz9_0
    try clear hcz9_1
    try clear hcz9_2
    try clear hfz14_0
    try clear hfz14_1
    try clear hfz16_0
    try clear hfz16_1
    try clear hfz16_2
    try clear hfz22_0
    try clear hfz22_1
    try clear hfz28_0
    try clear hfz28_1
    try clear hfz30_0
    try clear hfz30_1
    try clear hfz34_0
    try clear hfz34_1
    try clear hfz36_0
    try clear hfz36_1
    try clear hfz9_0
    try clear hfz9_1
    try clear hfz9_2
    obtain ⟨kq, x35_6, rfl, HA, HJ6, HO_337001, HO_346001, BK327, BK336, BK345, HB⟩ := hcut
    cases kq with
    | zero => exact absurd HA.out (by simp [laws_FnExactCharacterAt.j0])
    | succ kj6 =>
      have H := HA.out
      clear HA
      simp only [laws_FnExactCharacterAt.j0] at H
      by_cases c38 : x35_6 = true
      · subst c38
        have H1 : (some false) = some r := by rw [if_pos rfl] at H; exact H
        clear H
        have H := H1
        clear H1
        obtain rfl := Option.some.inj H
        go_wp2
        go_ret
        exact ⟨by first | rfl | (simp [errW_none, errW_some] <;> rfl) | (simp [*, errW_none, errW_some] <;> rfl), by repeat (first | (with_reducible first | exact HB.out | apply below_alloc | apply pw_below_drewN | apply below_drew1 | refine below_set ?_ GE327.out | refine below_set ?_ GE336.out | refine below_set ?_ GE345.out) | exact HB.out)⟩
      · replace c38 := Bool.eq_false_iff.mpr c38
        subst c38
        have H1 : ((laws_markCyclo.f kj6 t340 t341 1).bind fun bt347 => ((laws_heldCyclo.f kj6 t340 bt347.2 1).bind fun t349 => (if t349 < 0 then (some false) else (if t349 = bt347.1 then ((laws_toCharacter.f a0_0 a0_1 a0_2).bind fun bt350 => ((impl_CharacterAt.f kj6 bt350.1 bt350.2.1 bt350.2.2 a1).bind fun bt353 => ((laws_eqCyclo.f kj6 bt353.1 bt353.2.1 t331 t332).bind fun t359 => (if t359 = true then (laws_FnExactCharacterAt.j1 kj6 bt347.1 (bt353.2.2 != t335) t340 bt347.2) else (laws_FnExactCharacterAt.j1 kj6 bt347.1 true t340 bt347.2))))) else (some false))))) = some r := by rw [if_neg (show ¬ (false = true) by decide)] at H; exact H
        clear H
        have H := H1
        clear H1
        replace H := Option.bind_eq_some_iff.mp H
        obtain ⟨⟨t347, t348⟩, A390, H⟩ := H
        replace H : ((laws_heldCyclo.f kj6 t340 t348 1).bind fun t349 => (if t349 < 0 then (some false) else (if t349 = t347 then ((laws_toCharacter.f a0_0 a0_1 a0_2).bind fun bt350 => ((impl_CharacterAt.f kj6 bt350.1 bt350.2.1 bt350.2.2 a1).bind fun bt353 => ((laws_eqCyclo.f kj6 bt353.1 bt353.2.1 t331 t332).bind fun t359 => (if t359 = true then (laws_FnExactCharacterAt.j1 kj6 t347 (bt353.2.2 != t335) t340 t348) else (laws_FnExactCharacterAt.j1 kj6 t347 true t340 t348))))) else (some false)))) = some r := H
        have A39 := Aside0.mk A390
        clear A390
        replace H := Option.bind_eq_some_iff.mp H
        obtain ⟨t349, A400, H⟩ := H
        replace H : (if t349 < 0 then (some false) else (if t349 = t347 then ((laws_toCharacter.f a0_0 a0_1 a0_2).bind fun bt350 => ((impl_CharacterAt.f kj6 bt350.1 bt350.2.1 bt350.2.2 a1).bind fun bt353 => ((laws_eqCyclo.f kj6 bt353.1 bt353.2.1 t331 t332).bind fun t359 => (if t359 = true then (laws_FnExactCharacterAt.j1 kj6 t347 (bt353.2.2 != t335) t340 t348) else (laws_FnExactCharacterAt.j1 kj6 t347 true t340 t348))))) else (some false))) = some r := H
        have A40 := Aside0.mk A400
        clear A400
        by_cases c41 : t349 < 0
        · rw [if_pos c41] at H
          have c41b0 : decide (t349 < 0) = true := decide_eq_true c41
          clear c41
          obtain rfl := Option.some.inj H
          have hnb42 := NB345_327.out
          have hnc42 := NB327_345.out
          have hnb43 := NB345_336.out
          have hnc43 := NB336_345.out
          have hcz44_0 : wc.cell? ⟨gb345, 0, none⟩ = some (.int .i64 t340) := (blk_cell BK345.out 0).trans rfl
          have hcz44_1 : wc.cell? ⟨gb345, 1, none⟩ = some (.slice Ao23 t341.length co23) := (blk_cell BK345.out 1).trans rfl
          have hfz44_0 := blk_frozen BK345.out 0
          have hfz44_1 := blk_frozen BK345.out 1
          go_wp2_with (first | ((with_reducible refine gate_callee (f := 33) rfl ?_); refine goesL_ (some 38) rfl rfl Try.func33 (by kernel_rfl) rfl #[.agg #[.int .i64 t340, .slice Ao23 t341.length co23], .int .i64 1] rfl qB40 ?_; (with_reducible refine (laws_markCyclo.calls kj6 t340 (fun k_ => some k_ = (.slice Ao23 t341.length co23 : Value).ownBlock) (.slice Ao23 t341.length co23) t341 1 t347 t348 w _ ?side1 ?side2 A39.out).mono ?_); (case side1 => repeat (first | (with_reducible first | exact HB.out | apply below_alloc | apply pw_below_drewN | apply below_drew1 | refine below_set ?_ GE327.out | refine below_set ?_ GE336.out | refine below_set ?_ GE345.out) | exact HB.out)); (case side2 => exact Kd.R_tight rfl HO_346001.out); rintro e w45 ⟨rfl, hy0, hb, hkp⟩; refine ⟨_, rfl, ?_⟩; have n0_ := Aside0.mk (Kd.R_mono (ok' := fun k_ => some k_ ≠ (.slice Ao23 t341.length co23 : Value).ownBlock) (Kd.R_keptB (HO_337001.out) hkp (fun k_ hk_ hs_ => (hk_) hs_)) (fun k_ hk_ => hk_.1)); have n1_ := Aside0.mk (Kd.R_reok rfl hy0 (fun k_ e_ => HO_346001.out.1 k_ e_)); have n2_ := Aside0.mk (blk_kept qB57 hkp (fun hs_ => (fun e_ => (Kd.R_ne HO_346001.out BK327.out (by decide)) e_) hs_)); have n3_ := Aside0.mk (blk_kept qB58 hkp (fun hs_ => (fun e_ => (Kd.R_ne HO_346001.out BK336.out (by decide)) e_) hs_)); have n4_ := Aside0.mk (blk_kept qB59 hkp (fun hs_ => (fun e_ => (Kd.R_ne HO_346001.out BK345.out (by decide)) e_) hs_)); have n5_ := Aside0.mk (hb); clear HO_337001; clear HO_346001; clear BK327; clear BK336; clear BK345; clear HB; have HO_337001 := n0_; have HO_346001 := n1_; have BK327 := n2_; have BK336 := n3_; have BK345 := n4_; have HB := n5_; clear n0_ n1_ n2_ n3_ n4_ n5_; (try clear hb); (try clear hkp); (try clear hy0); have hcz46_0 : w45.cell? ⟨gb345, 0, none⟩ = some (.int .i64 t340) := (blk_cell BK345.out 0).trans rfl; have hcz46_1 : w45.cell? ⟨gb345, 1, none⟩ = some (.slice Ao23 t341.length co23) := (blk_cell BK345.out 1).trans rfl; have hfz46_0 := blk_frozen BK345.out 0; have hfz46_1 := blk_frozen BK345.out 1) | ((with_reducible refine gate_callee (f := 34) rfl ?_); refine goesL_ (some 41) rfl rfl Try.func34 (by kernel_rfl) rfl #[.agg #[.int .i64 t340, .slice Ao23 t348.length co23], .int .i64 1] rfl qB19 ?_; (with_reducible refine (laws_heldCyclo.calls kj6 t340 _ _ t348 1 t349 _ ?side1 ?side2 A40.out).mono ?_); (case side1 => repeat (first | exact (Kd.R_reads' HO_346001.out).2.2 | (with_reducible refine Kd.C_alloc ?_ _) | (with_reducible refine Kd.C_drewN ?_ _) | (with_reducible refine Kd.C_drew ?_))); (case side2 => rw [show t348.length = t341.length from (Kd.R_reads' HO_346001.out).1.symm]; exact (Kd.R_reads' HO_346001.out).2.1); rintro e w47 ⟨rfl, hb⟩; refine ⟨_, rfl, ?_⟩; have n0_ := Aside0.mk (Kd.R_below qB61 hb); have n1_ := Aside0.mk (Kd.R_below qB62 hb); have n2_ := Aside0.mk (blk_below (g := gb327) (o := .cells #[.int .i64 a0_0, .int .i64 a0_1, .int .i64 a0_2] 40 (0, 0)) qB57 hb); have n3_ := Aside0.mk (blk_below (g := gb336) (o := .cells #[.int .i64 t331, .slice Ao15 t332.length co15] 42 (0, 0)) qB58 hb); have n4_ := Aside0.mk (blk_below (g := gb345) (o := .cells #[.int .i64 t340, .slice Ao23 t341.length co23] 42 (0, 0)) qB59 hb); have n5_ := Aside0.mk (below_step qB18 hb); clear HO_337001; clear HO_346001; clear BK327; clear BK336; clear BK345; clear HB; have HO_337001 := n0_; have HO_346001 := n1_; have BK327 := n2_; have BK336 := n3_; have BK345 := n4_; have HB := n5_; clear n0_ n1_ n2_ n3_ n4_ n5_; (try clear hb); (try clear hb2); (try clear hk); (try clear hi)))
          go_ret
          exact ⟨by first | rfl | (simp [errW_none, errW_some] <;> rfl) | (simp [*, errW_none, errW_some] <;> rfl), by repeat (first | (with_reducible first | exact HB.out | apply below_alloc | apply pw_below_drewN | apply below_drew1 | refine below_set ?_ GE327.out | refine below_set ?_ GE336.out | refine below_set ?_ GE345.out) | exact HB.out)⟩
        · rw [if_neg c41] at H
          have c41b0 : decide (t349 < 0) = false := decide_eq_false c41
          clear c41
          by_cases c48 : t349 = t347
          · rw [if_pos c48] at H
            have c48b0 : (t349 == t347) = true := beq_iff_eq.mpr c48
            have c48b1 : (t349 != t347) = false := bne_eq_false_iff_eq.mpr c48
            clear c48
            replace H := Option.bind_eq_some_iff.mp H
            obtain ⟨⟨t350, t351, t352⟩, A490, H⟩ := H
            replace H : ((impl_CharacterAt.f kj6 t350 t351 t352 a1).bind fun bt353 => ((laws_eqCyclo.f kj6 bt353.1 bt353.2.1 t331 t332).bind fun t359 => (if t359 = true then (laws_FnExactCharacterAt.j1 kj6 t347 (bt353.2.2 != t335) t340 t348) else (laws_FnExactCharacterAt.j1 kj6 t347 true t340 t348)))) = some r := H
            have A49 := Aside0.mk A490
            clear A490
            replace H := Option.bind_eq_some_iff.mp H
            obtain ⟨⟨t353, t354, t357⟩, A500, H⟩ := H
            replace H : ((laws_eqCyclo.f kj6 t353 t354 t331 t332).bind fun t359 => (if t359 = true then (laws_FnExactCharacterAt.j1 kj6 t347 (t357 != t335) t340 t348) else (laws_FnExactCharacterAt.j1 kj6 t347 true t340 t348))) = some r := H
            have A50 := Aside0.mk A500
            clear A500
            have HC51 := Aside0.mk H
            clear H
            have hnb52 := NB345_327.out
            have hnc52 := NB327_345.out
            have hnb53 := NB345_336.out
            have hnc53 := NB336_345.out
            have hcz54_0 : wc.cell? ⟨gb345, 0, none⟩ = some (.int .i64 t340) := (blk_cell BK345.out 0).trans rfl
            have hcz54_1 : wc.cell? ⟨gb345, 1, none⟩ = some (.slice Ao23 t341.length co23) := (blk_cell BK345.out 1).trans rfl
            have hfz54_0 := blk_frozen BK345.out 0
            have hfz54_1 := blk_frozen BK345.out 1
            go_upto_region 14 with (first | ((with_reducible refine gate_callee (f := 33) rfl ?_); refine goesL_ (some 38) rfl rfl Try.func33 (by kernel_rfl) rfl #[.agg #[.int .i64 t340, .slice Ao23 t341.length co23], .int .i64 1] rfl qB40 ?_; (with_reducible refine (laws_markCyclo.calls kj6 t340 (fun k_ => some k_ = (.slice Ao23 t341.length co23 : Value).ownBlock) (.slice Ao23 t341.length co23) t341 1 t347 t348 w _ ?side1 ?side2 A39.out).mono ?_); (case side1 => repeat (first | (with_reducible first | exact HB.out | apply below_alloc | apply pw_below_drewN | apply below_drew1 | refine below_set ?_ GE327.out | refine below_set ?_ GE336.out | refine below_set ?_ GE345.out) | exact HB.out)); (case side2 => exact Kd.R_tight rfl HO_346001.out); rintro e w55 ⟨rfl, hy0, hb, hkp⟩; refine ⟨_, rfl, ?_⟩; have n0_ := Aside0.mk (Kd.R_mono (ok' := fun k_ => some k_ ≠ (.slice Ao23 t341.length co23 : Value).ownBlock) (Kd.R_keptB (HO_337001.out) hkp (fun k_ hk_ hs_ => (hk_) hs_)) (fun k_ hk_ => hk_.1)); have n1_ := Aside0.mk (Kd.R_reok rfl hy0 (fun k_ e_ => HO_346001.out.1 k_ e_)); have n2_ := Aside0.mk (blk_kept qB57 hkp (fun hs_ => (fun e_ => (Kd.R_ne HO_346001.out BK327.out (by decide)) e_) hs_)); have n3_ := Aside0.mk (blk_kept qB58 hkp (fun hs_ => (fun e_ => (Kd.R_ne HO_346001.out BK336.out (by decide)) e_) hs_)); have n4_ := Aside0.mk (blk_kept qB59 hkp (fun hs_ => (fun e_ => (Kd.R_ne HO_346001.out BK345.out (by decide)) e_) hs_)); have n5_ := Aside0.mk (hb); clear HO_337001; clear HO_346001; clear BK327; clear BK336; clear BK345; clear HB; have HO_337001 := n0_; have HO_346001 := n1_; have BK327 := n2_; have BK336 := n3_; have BK345 := n4_; have HB := n5_; clear n0_ n1_ n2_ n3_ n4_ n5_; (try clear hb); (try clear hkp); (try clear hy0); have hcz56_0 : w55.cell? ⟨gb345, 0, none⟩ = some (.int .i64 t340) := (blk_cell BK345.out 0).trans rfl; have hcz56_1 : w55.cell? ⟨gb345, 1, none⟩ = some (.slice Ao23 t341.length co23) := (blk_cell BK345.out 1).trans rfl; have hfz56_0 := blk_frozen BK345.out 0; have hfz56_1 := blk_frozen BK345.out 1) | ((with_reducible refine gate_callee (f := 34) rfl ?_); refine goesL_ (some 41) rfl rfl Try.func34 (by kernel_rfl) rfl #[.agg #[.int .i64 t340, .slice Ao23 t348.length co23], .int .i64 1] rfl qB19 ?_; (with_reducible refine (laws_heldCyclo.calls kj6 t340 _ _ t348 1 t349 _ ?side1 ?side2 A40.out).mono ?_); (case side1 => repeat (first | exact (Kd.R_reads' HO_346001.out).2.2 | (with_reducible refine Kd.C_alloc ?_ _) | (with_reducible refine Kd.C_drewN ?_ _) | (with_reducible refine Kd.C_drew ?_))); (case side2 => rw [show t348.length = t341.length from (Kd.R_reads' HO_346001.out).1.symm]; exact (Kd.R_reads' HO_346001.out).2.1); rintro e w57 ⟨rfl, hb⟩; refine ⟨_, rfl, ?_⟩; have n0_ := Aside0.mk (Kd.R_below qB61 hb); have n1_ := Aside0.mk (Kd.R_below qB62 hb); have n2_ := Aside0.mk (blk_below (g := gb327) (o := .cells #[.int .i64 a0_0, .int .i64 a0_1, .int .i64 a0_2] 40 (0, 0)) qB57 hb); have n3_ := Aside0.mk (blk_below (g := gb336) (o := .cells #[.int .i64 t331, .slice Ao15 t332.length co15] 42 (0, 0)) qB58 hb); have n4_ := Aside0.mk (blk_below (g := gb345) (o := .cells #[.int .i64 t340, .slice Ao23 t341.length co23] 42 (0, 0)) qB59 hb); have n5_ := Aside0.mk (below_step qB18 hb); clear HO_337001; clear HO_346001; clear BK327; clear BK336; clear BK345; clear HB; have HO_337001 := n0_; have HO_346001 := n1_; have BK327 := n2_; have BK336 := n3_; have BK345 := n4_; have HB := n5_; clear n0_ n1_ n2_ n3_ n4_ n5_; (try clear hb); (try clear hb2); (try clear hk); (try clear hi); have hnb58 := NB327_336.out; have hnc58 := NB336_327.out; have hcz59_0 : w57.cell? ⟨gb327, 0, none⟩ = some (.int .i64 a0_0) := (blk_cell BK327.out 0).trans rfl; have hcz59_1 : w57.cell? ⟨gb327, 1, none⟩ = some (.int .i64 a0_1) := (blk_cell BK327.out 1).trans rfl; have hcz59_2 : w57.cell? ⟨gb327, 2, none⟩ = some (.int .i64 a0_2) := (blk_cell BK327.out 2).trans rfl; have hfz59_0 := blk_frozen BK327.out 0; have hfz59_1 := blk_frozen BK327.out 1; have hfz59_2 := blk_frozen BK327.out 2) | ((with_reducible refine gate_callee (f := 30) rfl ?_); refine goesL_ (some 49) rfl rfl Try.func30 (by kernel_rfl) rfl #[.agg #[.int .i64 a0_0, .int .i64 a0_1, .int .i64 a0_2]] rfl qB40 ?_; (with_reducible refine (laws_toCharacter.calls a0_0 a0_1 a0_2 t350 t351 t352 _ A49.out).mono ?_); rintro e w60 ⟨rfl, hb⟩; refine ⟨_, rfl, ?_⟩; have n0_ := Aside0.mk (Kd.R_below qB61 hb); have n1_ := Aside0.mk (Kd.R_below qB62 hb); have n2_ := Aside0.mk (blk_below (g := gb327) (o := .cells #[.int .i64 a0_0, .int .i64 a0_1, .int .i64 a0_2] 40 (0, 0)) qB57 hb); have n3_ := Aside0.mk (blk_below (g := gb336) (o := .cells #[.int .i64 t331, .slice Ao15 t332.length co15] 42 (0, 0)) qB58 hb); have n4_ := Aside0.mk (blk_below (g := gb345) (o := .cells #[.int .i64 t340, .slice Ao23 t341.length co23] 42 (0, 0)) qB59 hb); have n5_ := Aside0.mk (below_step qB18 hb); clear HO_337001; clear HO_346001; clear BK327; clear BK336; clear BK345; clear HB; have HO_337001 := n0_; have HO_346001 := n1_; have BK327 := n2_; have BK336 := n3_; have BK345 := n4_; have HB := n5_; clear n0_ n1_ n2_ n3_ n4_ n5_; (try clear hb); (try clear hb2); (try clear hk); (try clear hi)) | ((with_reducible refine gate_callee (f := 31) rfl ?_); refine goesL_ (some 51) rfl rfl Try.func31 (by kernel_rfl) rfl #[.agg #[.int .i64 t350, .int .i64 t351, .int .i64 t352], .int .i64 a1] rfl qB40 ?_; (with_reducible refine (impl_CharacterAt.calls kj6 t350 t351 t352 a1 t353 t354 t357 _ A50.out).mono ?_); rintro e w61 ⟨v355, rfl, ho0, hb⟩; refine ⟨_, rfl, ?_⟩; have n0_ := Aside0.mk (Kd.R_elder' qB61 (Kd.R_base ho0) hb); have n1_ := Aside0.mk (Kd.R_elder' qB62 (Kd.R_base ho0) hb); have n2_ := Aside0.mk (Kd.R_lower (Kd.R_new' (Kd.R_new' ho0 (Kd.R_lt qB61)) (Kd.R_lt qB62)) (below_size qB18)); have n3_ := Aside0.mk (blk_below (g := gb327) (o := .cells #[.int .i64 a0_0, .int .i64 a0_1, .int .i64 a0_2] 40 (0, 0)) qB57 hb); have n4_ := Aside0.mk (blk_below (g := gb336) (o := .cells #[.int .i64 t331, .slice Ao15 t332.length co15] 42 (0, 0)) qB58 hb); have n5_ := Aside0.mk (blk_below (g := gb345) (o := .cells #[.int .i64 t340, .slice Ao23 t341.length co23] 42 (0, 0)) qB59 hb); have n6_ := Aside0.mk (below_step qB18 hb); clear HO_337001; clear HO_346001; clear BK327; clear BK336; clear BK345; clear HB; have HO_337001 := n0_; have HO_346001 := n1_; have HO356 := n2_; have BK327 := n3_; have BK336 := n4_; have BK345 := n5_; have HB := n6_; clear n0_ n1_ n2_ n3_ n4_ n5_ n6_; (try clear hb); (try clear hb2); (try clear hk); (try clear hi); (try clear ho0)) | ((with_reducible refine gate_dst (N := 11) rfl ?_); refine box_event ?hg (N := 11) ?hd (cs := #[.int .i64 0, .slice none 0 0]) (t := 42) ?hr ?_; (case hd => rfl); (case hg => rfl); (case hr => first | (go_simp; done) | (go_simp; rfl)); intro gb358 hg w62 hbox hb; have n0_ := Aside0.mk (Kd.R_below qB61 hb); have n1_ := Aside0.mk (Kd.R_below qB62 hb); have n2_ := Aside0.mk (Kd.R_below (by (with_reducible repeat (first | apply Kd.R_alloc | apply Kd.R_drewN | apply Kd.R_drew)); exact HO356.out) hb); have n3_ := Aside0.mk (blk_below (g := gb327) (o := .cells #[.int .i64 a0_0, .int .i64 a0_1, .int .i64 a0_2] 40 (0, 0)) qB57 hb); have n4_ := Aside0.mk (blk_below (g := gb336) (o := .cells #[.int .i64 t331, .slice Ao15 t332.length co15] 42 (0, 0)) qB58 hb); have n5_ := Aside0.mk (blk_below (g := gb345) (o := .cells #[.int .i64 t340, .slice Ao23 t341.length co23] 42 (0, 0)) qB59 hb); have n6_ := Aside0.mk (below_step qB18 hb); have n7_ := Aside0.mk (hbox); have n8_ := Aside0.mk ((by rw [hg]; exact (below_size qB18) : w.heap.size ≤ gb358)); have n9_ := Aside0.mk ((by rw [hg]; exact (below_size qB18) : w.heap.size ≤ gb358)); have n10_ := Aside0.mk ((by rw [hg]; exact Nat.ne_of_lt (blk_lt (g := gb327) (o := .cells #[.int .i64 a0_0, .int .i64 a0_1, .int .i64 a0_2] 40 (0, 0)) qB57) : gb327 ≠ gb358)); have n11_ := Aside0.mk ((by rw [hg]; exact Nat.ne_of_gt (blk_lt (g := gb327) (o := .cells #[.int .i64 a0_0, .int .i64 a0_1, .int .i64 a0_2] 40 (0, 0)) qB57) : gb358 ≠ gb327)); have n12_ := Aside0.mk ((by rw [hg]; exact Nat.ne_of_lt (blk_lt (g := gb336) (o := .cells #[.int .i64 t331, .slice Ao15 t332.length co15] 42 (0, 0)) qB58) : gb336 ≠ gb358)); have n13_ := Aside0.mk ((by rw [hg]; exact Nat.ne_of_gt (blk_lt (g := gb336) (o := .cells #[.int .i64 t331, .slice Ao15 t332.length co15] 42 (0, 0)) qB58) : gb358 ≠ gb336)); have n14_ := Aside0.mk ((by rw [hg]; exact Nat.ne_of_lt (blk_lt (g := gb345) (o := .cells #[.int .i64 t340, .slice Ao23 t341.length co23] 42 (0, 0)) qB59) : gb345 ≠ gb358)); have n15_ := Aside0.mk ((by rw [hg]; exact Nat.ne_of_gt (blk_lt (g := gb345) (o := .cells #[.int .i64 t340, .slice Ao23 t341.length co23] 42 (0, 0)) qB59) : gb358 ≠ gb345)); clear HO_337001; clear HO_346001; clear HO356; clear BK327; clear BK336; clear BK345; clear HB; have HO_337001 := n0_; have HO_346001 := n1_; have HO356 := n2_; have BK327 := n3_; have BK336 := n4_; have BK345 := n5_; have HB := n6_; have BK358 := n7_; have GW358 := n8_; have GE358 := n9_; have NB327_358 := n10_; have NB358_327 := n11_; have NB336_358 := n12_; have NB358_336 := n13_; have NB345_358 := n14_; have NB358_345 := n15_; clear n0_ n1_ n2_ n3_ n4_ n5_ n6_ n7_ n8_ n9_ n10_ n11_ n12_ n13_ n14_ n15_; clear hb hbox hg; have hnb63 := NB358_327.out; have hnc63 := NB327_358.out; have hnb64 := NB358_336.out; have hnc64 := NB336_358.out; have hnb65 := NB358_345.out; have hnc65 := NB345_358.out; have hcz66_0 : w62.cell? ⟨gb358, 0, none⟩ = some (.int .i64 0) := (blk_cell BK358.out 0).trans rfl; have hcz66_1 : w62.cell? ⟨gb358, 1, none⟩ = some (.slice none 0 0) := (blk_cell BK358.out 1).trans rfl; have hfz66_0 := blk_frozen BK358.out 0; have hfz66_1 := blk_frozen BK358.out 1; obtain ⟨Ao67, co67, eo67⟩ := Kd.R_slice HO356.out; subst eo67))
            (try simp only [Act.put, List.setIfInBounds_toArray, List.set_cons_zero, List.set_cons_succ])
            go_cut [62] (fun v62 wc => ∃ (kq : Nat) (x62_50 : Bool), v62 = .bool x62_50 ∧ Aside0 (laws_FnExactCharacterAt.j1 kq t347 x62_50 t340 t348 = some r) ∧ Aside0 (kq ≤ kj6) ∧ Aside0 (Kd.R (Kd.int .i64) 2 wc w.heap.size (fun k_ => some k_ ≠ ((.slice Ao23 t341.length co23) : Value).ownBlock ∧ some k_ ≠ ((.slice Ao67 t354.length co67) : Value).ownBlock) (.slice Ao15 t332.length co15) t332) ∧ Aside0 (Kd.R (Kd.int .i64) 2 wc w.heap.size (fun k_ => some k_ ≠ ((.slice Ao15 t332.length co15) : Value).ownBlock ∧ some k_ ≠ ((.slice Ao67 t354.length co67) : Value).ownBlock) (.slice Ao23 t341.length co23) t348) ∧ Aside0 (Kd.R (Kd.int .i64) 2 wc w.heap.size (fun k_ => some k_ ≠ ((.slice Ao15 t332.length co15) : Value).ownBlock ∧ some k_ ≠ ((.slice Ao23 t341.length co23) : Value).ownBlock) (.slice Ao67 t354.length co67) t354) ∧ Aside0 (wc.heap[gb327]? = some (.cells #[.int .i64 a0_0, .int .i64 a0_1, .int .i64 a0_2] 40 (0, 0))) ∧ Aside0 (wc.heap[gb336]? = some (.cells #[.int .i64 t331, (.slice Ao15 t332.length co15)] 42 (0, 0))) ∧ Aside0 (wc.heap[gb345]? = some (.cells #[.int .i64 t340, (.slice Ao23 t341.length co23)] 42 (0, 0))) ∧ Aside0 (wc.heap[gb358]? = some (.cells #[.int .i64 t353, (.slice Ao67 t354.length co67)] 42 (0, 0))) ∧ Aside0 (Below w.heap.size w wc))
            case first =>
              have H := HC51.out
              clear HC51
              replace H := Option.bind_eq_some_iff.mp H
              obtain ⟨t359, A680, H⟩ := H
              replace H : (if t359 = true then (laws_FnExactCharacterAt.j1 kj6 t347 (t357 != t335) t340 t348) else (laws_FnExactCharacterAt.j1 kj6 t347 true t340 t348)) = some r := H
              have A68 := Aside0.mk A680
              clear A680
              by_cases c69 : t359 = true
              · subst c69
                have H1 : (laws_FnExactCharacterAt.j1 kj6 t347 (t357 != t335) t340 t348) = some r := by rw [if_pos rfl] at H; exact H
                clear H
                have H := H1
                clear H1
                have H' := Aside0.mk H
                clear H
                have hnb70 := NB358_327.out
                have hnc70 := NB327_358.out
                have hnb71 := NB358_336.out
                have hnc71 := NB336_358.out
                have hnb72 := NB358_345.out
                have hnc72 := NB345_358.out
                have hcz73_0 : w62.cell? ⟨gb358, 0, none⟩ = some (.int .i64 0) := (blk_cell BK358.out 0).trans rfl
                have hcz73_1 : w62.cell? ⟨gb358, 1, none⟩ = some (.slice none 0 0) := (blk_cell BK358.out 1).trans rfl
                have hfz73_0 := blk_frozen BK358.out 0
                have hfz73_1 := blk_frozen BK358.out 1
                have hnb74 := NB336_327.out
                have hnc74 := NB327_336.out
                have hnb75 := NB336_345.out
                have hnc75 := NB345_336.out
                have hcz76_0 : w62.cell? ⟨gb336, 0, none⟩ = some (.int .i64 t331) := (blk_cell BK336.out 0).trans rfl
                have hcz76_1 : w62.cell? ⟨gb336, 1, none⟩ = some (.slice Ao15 t332.length co15) := (blk_cell BK336.out 1).trans rfl
                have hfz76_0 := blk_frozen BK336.out 0
                have hfz76_1 := blk_frozen BK336.out 1
                go_wp2_with (first | ((with_reducible refine gate_callee (f := 32) rfl ?_); refine goesL_ (some 56) rfl rfl Try.func32 (by kernel_rfl) rfl #[.agg #[.int .i64 t353, .slice Ao67 t354.length co67], .agg #[.int .i64 t331, .slice Ao15 t332.length co15]] rfl qB40 ?_; (with_reducible refine (laws_eqCyclo.calls kj6 t353 _ _ t354 t331 _ _ t332 true _ ?side1 ?side2 ?side3 ?side4 A68.out).mono ?_); (case side1 => refine (Kd.R_reads' (e := 2) (base := w.heap.size) (ok := fun k_ => ((True ∧ some k_ ≠ (.slice Ao15 t332.length co15 : Value).ownBlock) ∧ some k_ ≠ (.slice Ao23 t341.length co23 : Value).ownBlock)) (n := t354.length) (c := co67) ?_).2.2; exact qB16); (case side2 => exact (Kd.R_reads' HO356.out).2.1); (case side3 => refine (Kd.R_reads' (e := 2) (base := w.heap.size) (ok := fun k_ => (some k_ ≠ (.slice Ao23 t341.length co23 : Value).ownBlock ∧ some k_ ≠ (.slice Ao67 t354.length co67 : Value).ownBlock)) (n := t332.length) (c := co15) ?_).2.2; exact qB12); (case side4 => exact (Kd.R_reads' HO_337001.out).2.1); rintro e w77 ⟨rfl, hb⟩; refine ⟨_, rfl, ?_⟩; have n0_ := Aside0.mk (Kd.R_below qB12 hb); have n1_ := Aside0.mk (Kd.R_below qB13 hb); have n2_ := Aside0.mk (Kd.R_below qB16 hb); have n3_ := Aside0.mk (blk_below (g := gb327) (o := .cells #[.int .i64 a0_0, .int .i64 a0_1, .int .i64 a0_2] 40 (0, 0)) qB9 hb); have n4_ := Aside0.mk (blk_below (g := gb336) (o := .cells #[.int .i64 t331, .slice Ao15 t332.length co15] 42 (0, 0)) qB10 hb); have n5_ := Aside0.mk (blk_below (g := gb345) (o := .cells #[.int .i64 t340, .slice Ao23 t341.length co23] 42 (0, 0)) qB11 hb); have n6_ := Aside0.mk (blk_below (g := gb358) (o := .cells #[.int .i64 t353, .slice Ao67 t354.length co67] 42 (0, 0)) qB4 hb); have n7_ := Aside0.mk (below_step qB17 hb); clear HO_337001; clear HO_346001; clear HO356; clear BK327; clear BK336; clear BK345; clear BK358; clear HB; have HO_337001 := n0_; have HO_346001 := n1_; have HO356 := n2_; have BK327 := n3_; have BK336 := n4_; have BK345 := n5_; have BK358 := n6_; have HB := n7_; clear n0_ n1_ n2_ n3_ n4_ n5_ n6_ n7_; (try clear hb); (try clear hb2); (try clear hk); (try clear hi)))
                go_meet
                case rel => exact ⟨_, ((t357 != t335)), qB82, H', ⟨by have := HJ6.out; first | omega | exact Nat.le_refl _⟩, ⟨by (with_reducible repeat (first | apply Kd.R_alloc | apply Kd.R_drewN | apply Kd.R_drew)); exact HO_337001.out⟩, ⟨by (with_reducible repeat (first | apply Kd.R_alloc | apply Kd.R_drewN | apply Kd.R_drew)); exact HO_346001.out⟩, ⟨by (with_reducible repeat (first | apply Kd.R_alloc | apply Kd.R_drewN | apply Kd.R_drew)); exact Kd.R_mono HO356.out (fun _ hk => ⟨hk.1.2, hk.2⟩)⟩, ⟨by (with_reducible repeat (first | refine blk_drewN ?_ _ | refine blk_drew ?_ | refine blk_alloc ?_ _)); exact BK327.out⟩, ⟨by (with_reducible repeat (first | refine blk_drewN ?_ _ | refine blk_drew ?_ | refine blk_alloc ?_ _)); exact BK336.out⟩, ⟨by (with_reducible repeat (first | refine blk_drewN ?_ _ | refine blk_drew ?_ | refine blk_alloc ?_ _)); exact BK345.out⟩, ⟨by (with_reducible repeat (first | refine blk_drewN ?_ _ | refine blk_drew ?_ | refine blk_alloc ?_ _)); exact BK358.out⟩, ⟨by repeat (first | (with_reducible first | exact HB.out | apply below_alloc | apply pw_below_drewN | apply below_drew1 | refine below_set ?_ GE327.out | refine below_set ?_ GE336.out | refine below_set ?_ GE345.out | refine below_set ?_ GE358.out) | exact HB.out)⟩⟩
              · replace c69 := Bool.eq_false_iff.mpr c69
                subst c69
                have H1 : (laws_FnExactCharacterAt.j1 kj6 t347 true t340 t348) = some r := by rw [if_neg (show ¬ (false = true) by decide)] at H; exact H
                clear H
                have H := H1
                clear H1
                have H' := Aside0.mk H
                clear H
                have hnb78 := NB358_327.out
                have hnc78 := NB327_358.out
                have hnb79 := NB358_336.out
                have hnc79 := NB336_358.out
                have hnb80 := NB358_345.out
                have hnc80 := NB345_358.out
                have hcz81_0 : w62.cell? ⟨gb358, 0, none⟩ = some (.int .i64 0) := (blk_cell BK358.out 0).trans rfl
                have hcz81_1 : w62.cell? ⟨gb358, 1, none⟩ = some (.slice none 0 0) := (blk_cell BK358.out 1).trans rfl
                have hfz81_0 := blk_frozen BK358.out 0
                have hfz81_1 := blk_frozen BK358.out 1
                have hnb82 := NB336_327.out
                have hnc82 := NB327_336.out
                have hnb83 := NB336_345.out
                have hnc83 := NB345_336.out
                have hcz84_0 : w62.cell? ⟨gb336, 0, none⟩ = some (.int .i64 t331) := (blk_cell BK336.out 0).trans rfl
                have hcz84_1 : w62.cell? ⟨gb336, 1, none⟩ = some (.slice Ao15 t332.length co15) := (blk_cell BK336.out 1).trans rfl
                have hfz84_0 := blk_frozen BK336.out 0
                have hfz84_1 := blk_frozen BK336.out 1
                go_wp2_with (first | ((with_reducible refine gate_callee (f := 32) rfl ?_); refine goesL_ (some 56) rfl rfl Try.func32 (by kernel_rfl) rfl #[.agg #[.int .i64 t353, .slice Ao67 t354.length co67], .agg #[.int .i64 t331, .slice Ao15 t332.length co15]] rfl qB40 ?_; (with_reducible refine (laws_eqCyclo.calls kj6 t353 _ _ t354 t331 _ _ t332 false _ ?side1 ?side2 ?side3 ?side4 A68.out).mono ?_); (case side1 => refine (Kd.R_reads' (e := 2) (base := w.heap.size) (ok := fun k_ => ((True ∧ some k_ ≠ (.slice Ao15 t332.length co15 : Value).ownBlock) ∧ some k_ ≠ (.slice Ao23 t341.length co23 : Value).ownBlock)) (n := t354.length) (c := co67) ?_).2.2; exact qB16); (case side2 => exact (Kd.R_reads' HO356.out).2.1); (case side3 => refine (Kd.R_reads' (e := 2) (base := w.heap.size) (ok := fun k_ => (some k_ ≠ (.slice Ao23 t341.length co23 : Value).ownBlock ∧ some k_ ≠ (.slice Ao67 t354.length co67 : Value).ownBlock)) (n := t332.length) (c := co15) ?_).2.2; exact qB12); (case side4 => exact (Kd.R_reads' HO_337001.out).2.1); rintro e w85 ⟨rfl, hb⟩; refine ⟨_, rfl, ?_⟩; have n0_ := Aside0.mk (Kd.R_below qB12 hb); have n1_ := Aside0.mk (Kd.R_below qB13 hb); have n2_ := Aside0.mk (Kd.R_below qB16 hb); have n3_ := Aside0.mk (blk_below (g := gb327) (o := .cells #[.int .i64 a0_0, .int .i64 a0_1, .int .i64 a0_2] 40 (0, 0)) qB9 hb); have n4_ := Aside0.mk (blk_below (g := gb336) (o := .cells #[.int .i64 t331, .slice Ao15 t332.length co15] 42 (0, 0)) qB10 hb); have n5_ := Aside0.mk (blk_below (g := gb345) (o := .cells #[.int .i64 t340, .slice Ao23 t341.length co23] 42 (0, 0)) qB11 hb); have n6_ := Aside0.mk (blk_below (g := gb358) (o := .cells #[.int .i64 t353, .slice Ao67 t354.length co67] 42 (0, 0)) qB4 hb); have n7_ := Aside0.mk (below_step qB17 hb); clear HO_337001; clear HO_346001; clear HO356; clear BK327; clear BK336; clear BK345; clear BK358; clear HB; have HO_337001 := n0_; have HO_346001 := n1_; have HO356 := n2_; have BK327 := n3_; have BK336 := n4_; have BK345 := n5_; have BK358 := n6_; have HB := n7_; clear n0_ n1_ n2_ n3_ n4_ n5_ n6_ n7_; (try clear hb); (try clear hb2); (try clear hk); (try clear hi)))
                go_meet
                case rel => exact ⟨_, (true), qB82, H', ⟨by have := HJ6.out; first | omega | exact Nat.le_refl _⟩, ⟨by (with_reducible repeat (first | apply Kd.R_alloc | apply Kd.R_drewN | apply Kd.R_drew)); exact HO_337001.out⟩, ⟨by (with_reducible repeat (first | apply Kd.R_alloc | apply Kd.R_drewN | apply Kd.R_drew)); exact HO_346001.out⟩, ⟨by (with_reducible repeat (first | apply Kd.R_alloc | apply Kd.R_drewN | apply Kd.R_drew)); exact Kd.R_mono HO356.out (fun _ hk => ⟨hk.1.2, hk.2⟩)⟩, ⟨by (with_reducible repeat (first | refine blk_drewN ?_ _ | refine blk_drew ?_ | refine blk_alloc ?_ _)); exact BK327.out⟩, ⟨by (with_reducible repeat (first | refine blk_drewN ?_ _ | refine blk_drew ?_ | refine blk_alloc ?_ _)); exact BK336.out⟩, ⟨by (with_reducible repeat (first | refine blk_drewN ?_ _ | refine blk_drew ?_ | refine blk_alloc ?_ _)); exact BK345.out⟩, ⟨by (with_reducible repeat (first | refine blk_drewN ?_ _ | refine blk_drew ?_ | refine blk_alloc ?_ _)); exact BK358.out⟩, ⟨by repeat (first | (with_reducible first | exact HB.out | apply below_alloc | apply pw_below_drewN | apply below_drew1 | refine below_set ?_ GE327.out | refine below_set ?_ GE336.out | refine below_set ?_ GE345.out | refine below_set ?_ GE358.out) | exact HB.out)⟩⟩
            case rest =>
              clear HC51
              try clear c1
              try clear c2
              try clear p2
              try clear c3
              try clear c4
              try clear c5
              try clear c6
              try clear c7
              try clear c8
              try clear c10
              try clear c13
              try clear c20
              try clear c21
              try clear c25
              try clear c26
              try clear c27
              try clear c29
              try clear c30
              try clear c31
              try clear c32
              try clear c33
              try clear c34
              try clear c35
              try clear c38
              try clear c41
              try clear c41b0
              try clear c42
              try clear c43
              try clear c48
              try clear c48b0
              try clear c48b1
              try clear c52
              try clear c53
              try clear c58
              try clear c63
              try clear c64
              try clear c65
              try clear c69
              try clear c70
              try clear c71
              try clear c72
              try clear c74
              try clear c75
              try clear c78
              try clear c79
              try clear c80
              try clear c82
              try clear c83
              try clear hcz14_0
              try clear hcz14_1
              try clear hcz16_0
              try clear hcz16_1
              try clear hcz16_2
              try clear hcz22_0
              try clear hcz22_1
              try clear hcz28_0
              try clear hcz28_1
              try clear hcz30_0
              try clear hcz30_1
              try clear hcz34_0
              try clear hcz34_1
              try clear hcz36_0
              try clear hcz36_1
              try clear hcz44_0
              try clear hcz44_1
              try clear hcz46_0
              try clear hcz46_1
              try clear hcz54_0
              try clear hcz54_1
              try clear hcz56_0
              try clear hcz56_1
              try clear hcz59_0
              try clear hcz59_1
              try clear hcz59_2
              try clear hcz66_0
              try clear hcz66_1
              try clear hcz73_0
              try clear hcz73_1
              try clear hcz76_0
              try clear hcz76_1
              try clear hcz81_0
              try clear hcz81_1
              try clear hcz84_0
              try clear hcz84_1
              try clear hcz9_0
              try clear hcz9_1
              try clear hcz9_2
              try clear hfz14_0
              try clear hfz14_1
              try clear hfz16_0
              try clear hfz16_1
              try clear hfz16_2
              try clear hfz22_0
              try clear hfz22_1
              try clear hfz28_0
              try clear hfz28_1
              try clear hfz30_0
              try clear hfz30_1
              try clear hfz34_0
              try clear hfz34_1
              try clear hfz36_0
              try clear hfz36_1
              try clear hfz44_0
              try clear hfz44_1
              try clear hfz46_0
              try clear hfz46_1
              try clear hfz54_0
              try clear hfz54_1
              try clear hfz56_0
              try clear hfz56_1
              try clear hfz59_0
              try clear hfz59_1
              try clear hfz59_2
              try clear hfz66_0
              try clear hfz66_1
              try clear hfz73_0
              try clear hfz73_1
              try clear hfz76_0
              try clear hfz76_1
              try clear hfz81_0
              try clear hfz81_1
              try clear hfz84_0
              try clear hfz84_1
              try clear hfz9_0
              try clear hfz9_1
              try clear hfz9_2
              try clear p2
              obtain ⟨kq, x62_50, rfl, HA, HJ50, HO_337001, HO_346001, HO_359001, BK327, BK336, BK345, BK358, HB⟩ := hcut
              have hl346001_50 := (Kd.R_reads' HO_346001.out).1
              rw [hl346001_50] at HO_346001
              (try simp only [hl346001_50])
              (try simp only [hl346001_50] at BK327)
              (try simp only [hl346001_50] at BK336)
              (try simp only [hl346001_50] at BK345)
              (try simp only [hl346001_50] at BK358)
              (try simp only [hl346001_50] at HO_337001)
              (try simp only [hl346001_50] at HO_359001)
              cases kq with
              | zero => exact absurd HA.out (by simp [laws_FnExactCharacterAt.j1])
              | succ kj50 =>
                have H := HA.out
                clear HA
                simp only [laws_FnExactCharacterAt.j1] at H
                by_cases c86 : x62_50 = true
                · subst c86
                  have H1 : (some false) = some r := by rw [if_pos rfl] at H; exact H
                  clear H
                  have H := H1
                  clear H1
                  obtain rfl := Option.some.inj H
                  go_wp2
                  go_ret
                  exact ⟨by first | rfl | (simp [errW_none, errW_some] <;> rfl) | (simp [*, errW_none, errW_some] <;> rfl), by repeat (first | (with_reducible first | exact HB.out | apply below_alloc | apply pw_below_drewN | apply below_drew1 | refine below_set ?_ GE327.out | refine below_set ?_ GE336.out | refine below_set ?_ GE345.out | refine below_set ?_ GE358.out) | exact HB.out)⟩
                · replace c86 := Bool.eq_false_iff.mpr c86
                  subst c86
                  have H1 : ((laws_heldCyclo.f kj50 t340 t348 1).bind fun t360 => (if t360 < 0 then (some false) else (if t360 = t347 then (some true) else (some false)))) = some r := by rw [if_neg (show ¬ (false = true) by decide)] at H; exact H
                  clear H
                  have H := H1
                  clear H1
                  replace H := Option.bind_eq_some_iff.mp H
                  obtain ⟨t360, A870, H⟩ := H
                  replace H : (if t360 < 0 then (some false) else (if t360 = t347 then (some true) else (some false))) = some r := H
                  have A87 := Aside0.mk A870
                  clear A870
                  by_cases c88 : t360 < 0
                  · rw [if_pos c88] at H
                    have c88b0 : decide (t360 < 0) = true := decide_eq_true c88
                    clear c88
                    obtain rfl := Option.some.inj H
                    have hnb89 := NB345_327.out
                    have hnc89 := NB327_345.out
                    have hnb90 := NB345_336.out
                    have hnc90 := NB336_345.out
                    have hnb91 := NB345_358.out
                    have hnc91 := NB358_345.out
                    have hcz92_0 : wc.cell? ⟨gb345, 0, none⟩ = some (.int .i64 t340) := (blk_cell BK345.out 0).trans rfl
                    have hcz92_1 : wc.cell? ⟨gb345, 1, none⟩ = some (.slice Ao23 t348.length co23) := (blk_cell BK345.out 1).trans rfl
                    have hfz92_0 := blk_frozen BK345.out 0
                    have hfz92_1 := blk_frozen BK345.out 1
                    go_wp2_with (first | ((with_reducible refine gate_callee (f := 34) rfl ?_); refine goesL_ (some 65) rfl rfl Try.func34 (by kernel_rfl) rfl #[.agg #[.int .i64 t340, .slice Ao23 t348.length co23], .int .i64 1] rfl qB40 ?_; (with_reducible refine (laws_heldCyclo.calls kj50 t340 _ _ t348 1 t360 _ ?side1 ?side2 A87.out).mono ?_); (case side1 => repeat (first | exact (Kd.R_reads' HO_346001.out).2.2 | (with_reducible refine Kd.C_alloc ?_ _) | (with_reducible refine Kd.C_drewN ?_ _) | (with_reducible refine Kd.C_drew ?_))); (case side2 => exact (Kd.R_reads' HO_346001.out).2.1); rintro e w93 ⟨rfl, hb⟩; refine ⟨_, rfl, ?_⟩; have n0_ := Aside0.mk (Kd.R_below qB61 hb); have n1_ := Aside0.mk (Kd.R_below qB62 hb); have n2_ := Aside0.mk (Kd.R_below qB63 hb); have n3_ := Aside0.mk (blk_below (g := gb327) (o := .cells #[.int .i64 a0_0, .int .i64 a0_1, .int .i64 a0_2] 40 (0, 0)) qB57 hb); have n4_ := Aside0.mk (blk_below (g := gb336) (o := .cells #[.int .i64 t331, .slice Ao15 t332.length co15] 42 (0, 0)) qB58 hb); have n5_ := Aside0.mk (blk_below (g := gb345) (o := .cells #[.int .i64 t340, .slice Ao23 t348.length co23] 42 (0, 0)) qB59 hb); have n6_ := Aside0.mk (blk_below (g := gb358) (o := .cells #[.int .i64 t353, .slice Ao67 t354.length co67] 42 (0, 0)) qB60 hb); have n7_ := Aside0.mk (below_step qB17 hb); clear HO_337001; clear HO_346001; clear HO_359001; clear BK327; clear BK336; clear BK345; clear BK358; clear HB; have HO_337001 := n0_; have HO_346001 := n1_; have HO_359001 := n2_; have BK327 := n3_; have BK336 := n4_; have BK345 := n5_; have BK358 := n6_; have HB := n7_; clear n0_ n1_ n2_ n3_ n4_ n5_ n6_ n7_; (try clear hb); (try clear hb2); (try clear hk); (try clear hi)))
                    go_ret
                    exact ⟨by first | rfl | (simp [errW_none, errW_some] <;> rfl) | (simp [*, errW_none, errW_some] <;> rfl), by repeat (first | (with_reducible first | exact HB.out | apply below_alloc | apply pw_below_drewN | apply below_drew1 | refine below_set ?_ GE327.out | refine below_set ?_ GE336.out | refine below_set ?_ GE345.out | refine below_set ?_ GE358.out) | exact HB.out)⟩
                  · rw [if_neg c88] at H
                    have c88b0 : decide (t360 < 0) = false := decide_eq_false c88
                    clear c88
                    by_cases c94 : t360 = t347
                    · rw [if_pos c94] at H
                      have c94b0 : (t360 == t347) = true := beq_iff_eq.mpr c94
                      have c94b1 : (t360 != t347) = false := bne_eq_false_iff_eq.mpr c94
                      clear c94
                      obtain rfl := Option.some.inj H
                      have hnb95 := NB345_327.out
                      have hnc95 := NB327_345.out
                      have hnb96 := NB345_336.out
                      have hnc96 := NB336_345.out
                      have hnb97 := NB345_358.out
                      have hnc97 := NB358_345.out
                      have hcz98_0 : wc.cell? ⟨gb345, 0, none⟩ = some (.int .i64 t340) := (blk_cell BK345.out 0).trans rfl
                      have hcz98_1 : wc.cell? ⟨gb345, 1, none⟩ = some (.slice Ao23 t348.length co23) := (blk_cell BK345.out 1).trans rfl
                      have hfz98_0 := blk_frozen BK345.out 0
                      have hfz98_1 := blk_frozen BK345.out 1
                      go_wp2_with (first | ((with_reducible refine gate_callee (f := 34) rfl ?_); refine goesL_ (some 65) rfl rfl Try.func34 (by kernel_rfl) rfl #[.agg #[.int .i64 t340, .slice Ao23 t348.length co23], .int .i64 1] rfl qB40 ?_; (with_reducible refine (laws_heldCyclo.calls kj50 t340 _ _ t348 1 t360 _ ?side1 ?side2 A87.out).mono ?_); (case side1 => repeat (first | exact (Kd.R_reads' HO_346001.out).2.2 | (with_reducible refine Kd.C_alloc ?_ _) | (with_reducible refine Kd.C_drewN ?_ _) | (with_reducible refine Kd.C_drew ?_))); (case side2 => exact (Kd.R_reads' HO_346001.out).2.1); rintro e w99 ⟨rfl, hb⟩; refine ⟨_, rfl, ?_⟩; have n0_ := Aside0.mk (Kd.R_below qB61 hb); have n1_ := Aside0.mk (Kd.R_below qB62 hb); have n2_ := Aside0.mk (Kd.R_below qB63 hb); have n3_ := Aside0.mk (blk_below (g := gb327) (o := .cells #[.int .i64 a0_0, .int .i64 a0_1, .int .i64 a0_2] 40 (0, 0)) qB57 hb); have n4_ := Aside0.mk (blk_below (g := gb336) (o := .cells #[.int .i64 t331, .slice Ao15 t332.length co15] 42 (0, 0)) qB58 hb); have n5_ := Aside0.mk (blk_below (g := gb345) (o := .cells #[.int .i64 t340, .slice Ao23 t348.length co23] 42 (0, 0)) qB59 hb); have n6_ := Aside0.mk (blk_below (g := gb358) (o := .cells #[.int .i64 t353, .slice Ao67 t354.length co67] 42 (0, 0)) qB60 hb); have n7_ := Aside0.mk (below_step qB17 hb); clear HO_337001; clear HO_346001; clear HO_359001; clear BK327; clear BK336; clear BK345; clear BK358; clear HB; have HO_337001 := n0_; have HO_346001 := n1_; have HO_359001 := n2_; have BK327 := n3_; have BK336 := n4_; have BK345 := n5_; have BK358 := n6_; have HB := n7_; clear n0_ n1_ n2_ n3_ n4_ n5_ n6_ n7_; (try clear hb); (try clear hb2); (try clear hk); (try clear hi)))
                      go_ret
                      exact ⟨by first | rfl | (simp [errW_none, errW_some] <;> rfl) | (simp [*, errW_none, errW_some] <;> rfl), by repeat (first | (with_reducible first | exact HB.out | apply below_alloc | apply pw_below_drewN | apply below_drew1 | refine below_set ?_ GE327.out | refine below_set ?_ GE336.out | refine below_set ?_ GE345.out | refine below_set ?_ GE358.out) | exact HB.out)⟩
                    · rw [if_neg c94] at H
                      have c94b0 : (t360 == t347) = false := beq_eq_false_iff_ne.mpr c94
                      have c94b1 : (t360 != t347) = true := bne_iff_ne.mpr c94
                      obtain rfl := Option.some.inj H
                      have hnb100 := NB345_327.out
                      have hnc100 := NB327_345.out
                      have hnb101 := NB345_336.out
                      have hnc101 := NB336_345.out
                      have hnb102 := NB345_358.out
                      have hnc102 := NB358_345.out
                      have hcz103_0 : wc.cell? ⟨gb345, 0, none⟩ = some (.int .i64 t340) := (blk_cell BK345.out 0).trans rfl
                      have hcz103_1 : wc.cell? ⟨gb345, 1, none⟩ = some (.slice Ao23 t348.length co23) := (blk_cell BK345.out 1).trans rfl
                      have hfz103_0 := blk_frozen BK345.out 0
                      have hfz103_1 := blk_frozen BK345.out 1
                      go_wp2_with (first | ((with_reducible refine gate_callee (f := 34) rfl ?_); refine goesL_ (some 65) rfl rfl Try.func34 (by kernel_rfl) rfl #[.agg #[.int .i64 t340, .slice Ao23 t348.length co23], .int .i64 1] rfl qB40 ?_; (with_reducible refine (laws_heldCyclo.calls kj50 t340 _ _ t348 1 t360 _ ?side1 ?side2 A87.out).mono ?_); (case side1 => repeat (first | exact (Kd.R_reads' HO_346001.out).2.2 | (with_reducible refine Kd.C_alloc ?_ _) | (with_reducible refine Kd.C_drewN ?_ _) | (with_reducible refine Kd.C_drew ?_))); (case side2 => exact (Kd.R_reads' HO_346001.out).2.1); rintro e w104 ⟨rfl, hb⟩; refine ⟨_, rfl, ?_⟩; have n0_ := Aside0.mk (Kd.R_below qB61 hb); have n1_ := Aside0.mk (Kd.R_below qB62 hb); have n2_ := Aside0.mk (Kd.R_below qB63 hb); have n3_ := Aside0.mk (blk_below (g := gb327) (o := .cells #[.int .i64 a0_0, .int .i64 a0_1, .int .i64 a0_2] 40 (0, 0)) qB57 hb); have n4_ := Aside0.mk (blk_below (g := gb336) (o := .cells #[.int .i64 t331, .slice Ao15 t332.length co15] 42 (0, 0)) qB58 hb); have n5_ := Aside0.mk (blk_below (g := gb345) (o := .cells #[.int .i64 t340, .slice Ao23 t348.length co23] 42 (0, 0)) qB59 hb); have n6_ := Aside0.mk (blk_below (g := gb358) (o := .cells #[.int .i64 t353, .slice Ao67 t354.length co67] 42 (0, 0)) qB60 hb); have n7_ := Aside0.mk (below_step qB17 hb); clear HO_337001; clear HO_346001; clear HO_359001; clear BK327; clear BK336; clear BK345; clear BK358; clear HB; have HO_337001 := n0_; have HO_346001 := n1_; have HO_359001 := n2_; have BK327 := n3_; have BK336 := n4_; have BK345 := n5_; have BK358 := n6_; have HB := n7_; clear n0_ n1_ n2_ n3_ n4_ n5_ n6_ n7_; (try clear hb); (try clear hb2); (try clear hk); (try clear hi)))
                      go_ret
                      exact ⟨by first | rfl | (simp [errW_none, errW_some] <;> rfl) | (simp [*, errW_none, errW_some] <;> rfl), by repeat (first | (with_reducible first | exact HB.out | apply below_alloc | apply pw_below_drewN | apply below_drew1 | refine below_set ?_ GE327.out | refine below_set ?_ GE336.out | refine below_set ?_ GE345.out | refine below_set ?_ GE358.out) | exact HB.out)⟩
          · rw [if_neg c48] at H
            have c48b0 : (t349 == t347) = false := beq_eq_false_iff_ne.mpr c48
            have c48b1 : (t349 != t347) = true := bne_iff_ne.mpr c48
            obtain rfl := Option.some.inj H
            have hnb105 := NB345_327.out
            have hnc105 := NB327_345.out
            have hnb106 := NB345_336.out
            have hnc106 := NB336_345.out
            have hcz107_0 : wc.cell? ⟨gb345, 0, none⟩ = some (.int .i64 t340) := (blk_cell BK345.out 0).trans rfl
            have hcz107_1 : wc.cell? ⟨gb345, 1, none⟩ = some (.slice Ao23 t341.length co23) := (blk_cell BK345.out 1).trans rfl
            have hfz107_0 := blk_frozen BK345.out 0
            have hfz107_1 := blk_frozen BK345.out 1
            go_wp2_with (first | ((with_reducible refine gate_callee (f := 33) rfl ?_); refine goesL_ (some 38) rfl rfl Try.func33 (by kernel_rfl) rfl #[.agg #[.int .i64 t340, .slice Ao23 t341.length co23], .int .i64 1] rfl qB40 ?_; (with_reducible refine (laws_markCyclo.calls kj6 t340 (fun k_ => some k_ = (.slice Ao23 t341.length co23 : Value).ownBlock) (.slice Ao23 t341.length co23) t341 1 t347 t348 w _ ?side1 ?side2 A39.out).mono ?_); (case side1 => repeat (first | (with_reducible first | exact HB.out | apply below_alloc | apply pw_below_drewN | apply below_drew1 | refine below_set ?_ GE327.out | refine below_set ?_ GE336.out | refine below_set ?_ GE345.out) | exact HB.out)); (case side2 => exact Kd.R_tight rfl HO_346001.out); rintro e w108 ⟨rfl, hy0, hb, hkp⟩; refine ⟨_, rfl, ?_⟩; have n0_ := Aside0.mk (Kd.R_mono (ok' := fun k_ => some k_ ≠ (.slice Ao23 t341.length co23 : Value).ownBlock) (Kd.R_keptB (HO_337001.out) hkp (fun k_ hk_ hs_ => (hk_) hs_)) (fun k_ hk_ => hk_.1)); have n1_ := Aside0.mk (Kd.R_reok rfl hy0 (fun k_ e_ => HO_346001.out.1 k_ e_)); have n2_ := Aside0.mk (blk_kept qB57 hkp (fun hs_ => (fun e_ => (Kd.R_ne HO_346001.out BK327.out (by decide)) e_) hs_)); have n3_ := Aside0.mk (blk_kept qB58 hkp (fun hs_ => (fun e_ => (Kd.R_ne HO_346001.out BK336.out (by decide)) e_) hs_)); have n4_ := Aside0.mk (blk_kept qB59 hkp (fun hs_ => (fun e_ => (Kd.R_ne HO_346001.out BK345.out (by decide)) e_) hs_)); have n5_ := Aside0.mk (hb); clear HO_337001; clear HO_346001; clear BK327; clear BK336; clear BK345; clear HB; have HO_337001 := n0_; have HO_346001 := n1_; have BK327 := n2_; have BK336 := n3_; have BK345 := n4_; have HB := n5_; clear n0_ n1_ n2_ n3_ n4_ n5_; (try clear hb); (try clear hkp); (try clear hy0); have hcz109_0 : w108.cell? ⟨gb345, 0, none⟩ = some (.int .i64 t340) := (blk_cell BK345.out 0).trans rfl; have hcz109_1 : w108.cell? ⟨gb345, 1, none⟩ = some (.slice Ao23 t341.length co23) := (blk_cell BK345.out 1).trans rfl; have hfz109_0 := blk_frozen BK345.out 0; have hfz109_1 := blk_frozen BK345.out 1) | ((with_reducible refine gate_callee (f := 34) rfl ?_); refine goesL_ (some 41) rfl rfl Try.func34 (by kernel_rfl) rfl #[.agg #[.int .i64 t340, .slice Ao23 t348.length co23], .int .i64 1] rfl qB19 ?_; (with_reducible refine (laws_heldCyclo.calls kj6 t340 _ _ t348 1 t349 _ ?side1 ?side2 A40.out).mono ?_); (case side1 => repeat (first | exact (Kd.R_reads' HO_346001.out).2.2 | (with_reducible refine Kd.C_alloc ?_ _) | (with_reducible refine Kd.C_drewN ?_ _) | (with_reducible refine Kd.C_drew ?_))); (case side2 => rw [show t348.length = t341.length from (Kd.R_reads' HO_346001.out).1.symm]; exact (Kd.R_reads' HO_346001.out).2.1); rintro e w110 ⟨rfl, hb⟩; refine ⟨_, rfl, ?_⟩; have n0_ := Aside0.mk (Kd.R_below qB61 hb); have n1_ := Aside0.mk (Kd.R_below qB62 hb); have n2_ := Aside0.mk (blk_below (g := gb327) (o := .cells #[.int .i64 a0_0, .int .i64 a0_1, .int .i64 a0_2] 40 (0, 0)) qB57 hb); have n3_ := Aside0.mk (blk_below (g := gb336) (o := .cells #[.int .i64 t331, .slice Ao15 t332.length co15] 42 (0, 0)) qB58 hb); have n4_ := Aside0.mk (blk_below (g := gb345) (o := .cells #[.int .i64 t340, .slice Ao23 t341.length co23] 42 (0, 0)) qB59 hb); have n5_ := Aside0.mk (below_step qB18 hb); clear HO_337001; clear HO_346001; clear BK327; clear BK336; clear BK345; clear HB; have HO_337001 := n0_; have HO_346001 := n1_; have BK327 := n2_; have BK336 := n3_; have BK345 := n4_; have HB := n5_; clear n0_ n1_ n2_ n3_ n4_ n5_; (try clear hb); (try clear hb2); (try clear hk); (try clear hi)))
            go_ret
            exact ⟨by first | rfl | (simp [errW_none, errW_some] <;> rfl) | (simp [*, errW_none, errW_some] <;> rfl), by repeat (first | (with_reducible first | exact HB.out | apply below_alloc | apply pw_below_drewN | apply below_drew1 | refine below_set ?_ GE327.out | refine below_set ?_ GE336.out | refine below_set ?_ GE345.out) | exact HB.out)⟩

/-- THE ONE PURE STATEMENT of laws_FnExactCharacterAt. -/
def laws_FnExactCharacterAt.Pure : Prop := ∀ (a0_0 : Int) (a0_1 : Int) (a0_2 : Int) (a1 : Int), (Lit.int .i64 a0_0).wf = true → (Lit.int .i64 a0_1).wf = true → (Lit.int .i64 a0_2).wf = true → (Lit.int .i64 a1).wf = true → ∃ k, laws_FnExactCharacterAt.f k a0_0 a0_1 a0_2 a1 = some true
theorem laws_FnExactCharacterAt.walk (P : laws_FnExactCharacterAt.Pure) (a0_0 : Int) (a0_1 : Int) (a0_2 : Int) (a1 : Int) (w : World) (w0_0 : (Lit.int .i64 a0_0).wf = true) (w0_1 : (Lit.int .i64 a0_1).wf = true) (w0_2 : (Lit.int .i64 a0_2).wf = true) (w1 : (Lit.int .i64 a1).wf = true) :
    Calls Try.prog 10 #[.agg #[.int .i64 a0_0, .int .i64 a0_1, .int .i64 a0_2], .int .i64 a1] w fun e w' => e = .returned (.bool true) ∧ Below w.heap.size w w' := by
  obtain ⟨k, h⟩ := P a0_0 a0_1 a0_2 a1 w0_0 w0_1 w0_2 w1
  refine (laws_FnExactCharacterAt.calls k a0_0 a0_1 a0_2 a1 true w  h).mono ?_
  rintro e w' ⟨rfl, hd⟩
  exact ⟨rfl, hd⟩

end Go.Proofs.Ytghlmdjedpnglaa.PFnExactCharacterAt
