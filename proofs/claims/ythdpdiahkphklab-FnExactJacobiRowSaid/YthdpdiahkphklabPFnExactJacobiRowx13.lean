/- The functions that the law reaches, as plain functions, each with the proof that the program comes to it; no condition. Written by a program of this session (wip/mp.py) over the printing of the kit; what is marked HAND is told by hand. -/
import Derived.Test.YthdpdiahkphklabPFnExactJacobiRowx0
import Derived.Test.YthdpdiahkphklabPFnExactJacobiRowx5
import Derived.Test.YthdpdiahkphklabPFnExactJacobiRowx11
import Derived.Test.YthdpdiahkphklabPFnExactJacobiRowx12
namespace Go.Proofs.Ythdpdiahkphklab.PFnExactJacobiRow
open Go.RowKit Go.Proofs.YthdpdiahkphklabW.PrintWords Go.Proofs.YthdpdiahkphklabW.PrintLast Go.Proofs.YthdpdiahkphklabW.PrintMore
attribute [local go_sem] max2_int min2_int max_two min_two max_three min_three max_four min_four   -- for this text's walks alone
set_option linter.unusedVariables false
set_option linter.unusedSimpArgs false

/-! ### laws_FnExactJacobiRow: function 4 -/
-- HAND
theorem nMarkC_both {G : Nat → Prop} {w0 w : World} {u v : Value} {l s l2 : List S43} {a n : Int} (hb : laws_markCS_B.f l a = some n) (ha : laws_markCS_A.f l a = some l2) (hB : Below w0.heap.size w0 w)
    (hN : ∃ N, w0.heap.size ≤ N ∧ Kd.S k43 43 w w0.heap.size (fun k => k < N) v s ∧ Kd.S k43 43 w N (fun _ => True) u l ∧ G N) :
    Calls Try.prog 17 #[u, .int .i64 a] w fun e w' => e = .returned (.int .i64 n) ∧ (∃ N, G N ∧ Kept w w' (fun k => N ≤ k)) ∧ Kd.S k43 43 w' w0.heap.size (fun k => some k ≠ u.ownBlock) v s ∧ Kd.S k43 43 w' w0.heap.size (fun k => some k ≠ v.ownBlock) u l2 ∧ Below w0.heap.size w0 w' := by
  obtain ⟨N, h0, hs, hu, hG⟩ := hN
  unfold laws_markCS_B.f at hb
  unfold laws_markCS_A.f at ha
  by_cases c : l.length ≤ 1000000 ∧ l.all (fun x => decide (x.f1.length ≤ 1000000)) = true
  · rw [if_pos c] at hb ha
    obtain rfl := Option.some.inj hb
    obtain rfl := Option.some.inj ha
    have hu2 : Kd.S k43 43 w w0.heap.size (fun k => N ≤ k) u l := Kd.S_lower (Kd.S_mono (Kd.S_bound hu) (fun k hk => hk.2.1)) h0
    refine (nMarkC_calls w0 w _ u l a hB hu2 c.1 (fun x hx => by simpa using List.all_eq_true.mp c.2 x hx)).mono ?_
    rintro e w' ⟨rfl, h1, h2, h3⟩
    refine ⟨rfl, ⟨N, hG, h3⟩, Kd.S_mono (Kd.S_step hs (fun k hk hlt => h3.2 k hlt (fun h => by omega))) (fun k hk he => ?_), Kd.S_mono h1 (fun k hk he => ?_), h2⟩
    · have := Kd.S_base hu k he.symm
      omega
    · have := (Kd.S_R hs).1 k he.symm
      omega
  · rw [if_neg c] at hb
    cases hb
mutual
def laws_FnExactJacobiRow.j0 : Nat → List (S43) → Int → List (S43) → Bool → Int → Int → Int → Option (Bool)
  | 0, _, _, _, _, _, _, _ => none
  | k + 1, x3, x4, x5, x31, x422000, x422001, x422002 => if x31 = true then (some false) else ((laws_markCS_B.f x5 1).bind fun t437 => ((laws_markCS_A.f x5 1).bind fun t438 => ((laws_heldCycloS.f k t438 1).bind fun t441 => (if t441 < 0 then (some false) else (if t441 = t437 then ((laws_toCharacter.f x422000 x422001 x422002).bind fun bt442 => ((impl_JacobiRow.f k bt442.1 bt442.2.1 bt442.2.2).bind fun bt445 => ((laws_eqCycloS.f k bt445.1 x3).bind fun t449 => (if t449 = true then (laws_FnExactJacobiRow.j1 k t438 t437 (bt445.2 != x4)) else (laws_FnExactJacobiRow.j1 k t438 t437 true))))) else (some false))))))
def laws_FnExactJacobiRow.j1 : Nat → List (S43) → Int → Bool → Option (Bool)
  | 0, _, _, _ => none
  | k + 1, x5, x7, x57 => if x57 = true then (some false) else ((laws_heldCycloS.f k x5 1).bind fun t450 => (if t450 < 0 then (some false) else (if t450 = x7 then (some true) else (some false))))
end
def laws_FnExactJacobiRow.f (k : Nat) (a0_0 : Int) (a0_1 : Int) (a0_2 : Int) : Option (Bool) := (laws_toCharacter.f a0_0 a0_1 a0_2).bind fun bt422 => ((spec_JacobiRow.f k bt422.1 bt422.2.1 bt422.2.2).bind fun bt425 => ((laws_toCharacter.f a0_0 a0_1 a0_2).bind fun bt429 => ((impl_JacobiRow.f k bt429.1 bt429.2.1 bt429.2.2).bind fun bt432 => ((laws_eqCycloS.f k bt432.1 bt425.1).bind fun t436 => (if t436 = true then (laws_FnExactJacobiRow.j0 k bt425.1 bt425.2 bt432.1 (bt432.2 != bt425.2) a0_0 a0_1 a0_2) else (laws_FnExactJacobiRow.j0 k bt425.1 bt425.2 bt432.1 true a0_0 a0_1 a0_2))))))
theorem laws_FnExactJacobiRow.mono_l : ∀ k, (∀ y0 y1 y2 y3 y4 y5 y6, LeO (laws_FnExactJacobiRow.j0 k y0 y1 y2 y3 y4 y5 y6) (laws_FnExactJacobiRow.j0 (k + 1) y0 y1 y2 y3 y4 y5 y6)) ∧ (∀ y0 y1 y2, LeO (laws_FnExactJacobiRow.j1 k y0 y1 y2) (laws_FnExactJacobiRow.j1 (k + 1) y0 y1 y2))
  | 0 => ⟨fun _ _ _ _ _ _ _ r h => by simp [laws_FnExactJacobiRow.j0] at h, fun _ _ _ r h => by simp [laws_FnExactJacobiRow.j1] at h⟩
  | k + 1 => by
    obtain ⟨ih0, ih1⟩ := laws_FnExactJacobiRow.mono_l k
    refine ⟨?_, ?_⟩
    · intro y0 y1 y2 y3 y4 y5 y6
      unfold laws_FnExactJacobiRow.j0
      repeat' first
      | (with_reducible exact ih0 _ _ _ _ _ _ _)
      | (with_reducible exact ih1 _ _ _)
      | (with_reducible exact impl_JacobiRow.mono _ _ _ _)
      | (with_reducible exact laws_eqCycloS.mono _ _ _)
      | (with_reducible exact laws_heldCycloS.mono _ _ _)
      | (with_reducible exact spec_JacobiRow.mono _ _ _ _)
      | (with_reducible exact LeO.refl _)
      | (with_reducible exact LeO.none _)
      | (with_reducible refine LeO.ite ?_ ?_)
      | (with_reducible refine LeO.bind ?_ (fun _ => ?_))
      | exact ih0 _ _ _ _ _ _ _
      | exact ih1 _ _ _
      | exact impl_JacobiRow.mono _ _ _ _
      | exact laws_eqCycloS.mono _ _ _
      | exact laws_heldCycloS.mono _ _ _
      | exact spec_JacobiRow.mono _ _ _ _
      | exact LeO.none _
      | refine LeO.ite ?_ ?_
      | refine LeO.bind ?_ (fun _ => ?_)
    · intro y0 y1 y2
      unfold laws_FnExactJacobiRow.j1
      repeat' first
      | (with_reducible exact ih0 _ _ _ _ _ _ _)
      | (with_reducible exact ih1 _ _ _)
      | (with_reducible exact impl_JacobiRow.mono _ _ _ _)
      | (with_reducible exact laws_eqCycloS.mono _ _ _)
      | (with_reducible exact laws_heldCycloS.mono _ _ _)
      | (with_reducible exact spec_JacobiRow.mono _ _ _ _)
      | (with_reducible exact LeO.refl _)
      | (with_reducible exact LeO.none _)
      | (with_reducible refine LeO.ite ?_ ?_)
      | (with_reducible refine LeO.bind ?_ (fun _ => ?_))
      | exact ih0 _ _ _ _ _ _ _
      | exact ih1 _ _ _
      | exact impl_JacobiRow.mono _ _ _ _
      | exact laws_eqCycloS.mono _ _ _
      | exact laws_heldCycloS.mono _ _ _
      | exact spec_JacobiRow.mono _ _ _ _
      | exact LeO.none _
      | refine LeO.ite ?_ ?_
      | refine LeO.bind ?_ (fun _ => ?_)
theorem laws_FnExactJacobiRow.mono : ∀ a0 a1 a2 k, LeO (laws_FnExactJacobiRow.f k a0 a1 a2) (laws_FnExactJacobiRow.f (k + 1) a0 a1 a2) := by
  intro a0 a1 a2 k
  obtain ⟨ih0, ih1⟩ := laws_FnExactJacobiRow.mono_l k
  unfold laws_FnExactJacobiRow.f
  repeat' first
      | (with_reducible exact ih0 _ _ _ _ _ _ _)
      | (with_reducible exact ih1 _ _ _)
      | (with_reducible exact impl_JacobiRow.mono _ _ _ _)
      | (with_reducible exact laws_eqCycloS.mono _ _ _)
      | (with_reducible exact laws_heldCycloS.mono _ _ _)
      | (with_reducible exact spec_JacobiRow.mono _ _ _ _)
      | (with_reducible exact LeO.refl _)
      | (with_reducible exact LeO.none _)
      | (with_reducible refine LeO.ite ?_ ?_)
      | (with_reducible refine LeO.bind ?_ (fun _ => ?_))
      | exact ih0 _ _ _ _ _ _ _
      | exact ih1 _ _ _
      | exact impl_JacobiRow.mono _ _ _ _
      | exact laws_eqCycloS.mono _ _ _
      | exact laws_heldCycloS.mono _ _ _
      | exact spec_JacobiRow.mono _ _ _ _
      | exact LeO.none _
      | refine LeO.ite ?_ ?_
      | refine LeO.bind ?_ (fun _ => ?_)
-- HAND
set_option maxHeartbeats 8000000 in
set_option maxRecDepth 100000 in
theorem laws_FnExactJacobiRow.calls (k : Nat) (a0_0 : Int) (a0_1 : Int) (a0_2 : Int) (r : Bool) (w : World) (h : laws_FnExactJacobiRow.f k a0_0 a0_1 a0_2 = some r) :
    Calls Try.prog 4 #[.agg #[.int .i64 a0_0, .int .i64 a0_1, .int .i64 a0_2]] w fun e w' => e = .returned (.bool r) ∧ Below w.heap.size w w' := by
  have hu29 := Try.underlying29
  have HB := Aside0.mk (Below.refl w.heap.size w)
  have H : ((laws_toCharacter.f a0_0 a0_1 a0_2).bind fun bt422 => ((spec_JacobiRow.f k bt422.1 bt422.2.1 bt422.2.2).bind fun bt425 => ((laws_toCharacter.f a0_0 a0_1 a0_2).bind fun bt429 => ((impl_JacobiRow.f k bt429.1 bt429.2.1 bt429.2.2).bind fun bt432 => ((laws_eqCycloS.f k bt432.1 bt425.1).bind fun t436 => (if t436 = true then (laws_FnExactJacobiRow.j0 k bt425.1 bt425.2 bt432.1 (bt432.2 != bt425.2) a0_0 a0_1 a0_2) else (laws_FnExactJacobiRow.j0 k bt425.1 bt425.2 bt432.1 true a0_0 a0_1 a0_2))))))) = some r := h
  clear h
  replace H := Option.bind_eq_some_iff.mp H
  obtain ⟨⟨t422, t423, t424⟩, A20, H⟩ := H
  replace H : ((spec_JacobiRow.f k t422 t423 t424).bind fun bt425 => ((laws_toCharacter.f a0_0 a0_1 a0_2).bind fun bt429 => ((impl_JacobiRow.f k bt429.1 bt429.2.1 bt429.2.2).bind fun bt432 => ((laws_eqCycloS.f k bt432.1 bt425.1).bind fun t436 => (if t436 = true then (laws_FnExactJacobiRow.j0 k bt425.1 bt425.2 bt432.1 (bt432.2 != bt425.2) a0_0 a0_1 a0_2) else (laws_FnExactJacobiRow.j0 k bt425.1 bt425.2 bt432.1 true a0_0 a0_1 a0_2)))))) = some r := H
  have A2 := Aside0.mk A20
  clear A20
  replace H := Option.bind_eq_some_iff.mp H
  obtain ⟨⟨t425, t428⟩, A30, H⟩ := H
  replace H : ((laws_toCharacter.f a0_0 a0_1 a0_2).bind fun bt429 => ((impl_JacobiRow.f k bt429.1 bt429.2.1 bt429.2.2).bind fun bt432 => ((laws_eqCycloS.f k bt432.1 t425).bind fun t436 => (if t436 = true then (laws_FnExactJacobiRow.j0 k t425 t428 bt432.1 (bt432.2 != t428) a0_0 a0_1 a0_2) else (laws_FnExactJacobiRow.j0 k t425 t428 bt432.1 true a0_0 a0_1 a0_2))))) = some r := H
  have A3 := Aside0.mk A30
  clear A30
  replace H := Option.bind_eq_some_iff.mp H
  obtain ⟨⟨t429, t430, t431⟩, A40, H⟩ := H
  replace H : ((impl_JacobiRow.f k t429 t430 t431).bind fun bt432 => ((laws_eqCycloS.f k bt432.1 t425).bind fun t436 => (if t436 = true then (laws_FnExactJacobiRow.j0 k t425 t428 bt432.1 (bt432.2 != t428) a0_0 a0_1 a0_2) else (laws_FnExactJacobiRow.j0 k t425 t428 bt432.1 true a0_0 a0_1 a0_2)))) = some r := H
  have A4 := Aside0.mk A40
  clear A40
  replace H := Option.bind_eq_some_iff.mp H
  obtain ⟨⟨t432, t435⟩, A50, H⟩ := H
  replace H : ((laws_eqCycloS.f k t432 t425).bind fun t436 => (if t436 = true then (laws_FnExactJacobiRow.j0 k t425 t428 t432 (t435 != t428) a0_0 a0_1 a0_2) else (laws_FnExactJacobiRow.j0 k t425 t428 t432 true a0_0 a0_1 a0_2))) = some r := H
  have A5 := Aside0.mk A50
  clear A50
  have HC6 := Aside0.mk H
  clear H
  go_enter Try.func4, Try.ntmps4
  go_upto_region 3 with (first | ((with_reducible refine gate_dst (N := 1) rfl ?_); refine box_event ?hg (N := 1) ?hd (cs := #[.int .i64 a0_0, .int .i64 a0_1, .int .i64 a0_2]) (t := 29) ?hr ?_; (case hd => rfl); (case hg => rfl); (case hr => first | (go_simp; done) | (go_simp; rfl)); intro gb421 hg w7 hbox hb; have n0_ := Aside0.mk (below_step qB33 hb); have n1_ := Aside0.mk (hbox); have n2_ := Aside0.mk ((by rw [hg]; exact (below_size qB33) : w.heap.size ≤ gb421)); have n3_ := Aside0.mk ((by rw [hg]; exact (below_size qB33) : w.heap.size ≤ gb421)); clear HB; have HB := n0_; have BK421 := n1_; have GW421 := n2_; have GE421 := n3_; clear n0_ n1_ n2_ n3_; clear hb hbox hg; have hcz8_0 : w7.cell? ⟨gb421, 0, none⟩ = some (.int .i64 a0_0) := (blk_cell BK421.out 0).trans rfl; have hcz8_1 : w7.cell? ⟨gb421, 1, none⟩ = some (.int .i64 a0_1) := (blk_cell BK421.out 1).trans rfl; have hcz8_2 : w7.cell? ⟨gb421, 2, none⟩ = some (.int .i64 a0_2) := (blk_cell BK421.out 2).trans rfl; have hfz8_0 := blk_frozen BK421.out 0; have hfz8_1 := blk_frozen BK421.out 1; have hfz8_2 := blk_frozen BK421.out 2) | ((with_reducible refine gate_callee (f := 14) rfl ?_); refine goesL_ (some 13) rfl rfl Try.func14 (by kernel_rfl) rfl #[.agg #[.int .i64 a0_0, .int .i64 a0_1, .int .i64 a0_2]] rfl qB32 ?_; (with_reducible refine (laws_toCharacter.calls a0_0 a0_1 a0_2 t422 t423 t424 _ A2.out).mono ?_); rintro e w9 ⟨rfl, hb⟩; refine ⟨_, rfl, ?_⟩; have n0_ := Aside0.mk (blk_below (g := gb421) (o := .cells #[.int .i64 a0_0, .int .i64 a0_1, .int .i64 a0_2] 29 (0, 0)) qB50 hb); have n1_ := Aside0.mk (below_step qB26 hb); clear BK421; clear HB; have BK421 := n0_; have HB := n1_; clear n0_ n1_; (try clear hb); (try clear hb2); (try clear hk); (try clear hi)) | ((with_reducible refine gate_callee (f := 13) rfl ?_); refine goesL_ (some 14) rfl rfl Try.func13 (by kernel_rfl) rfl #[.agg #[.int .i64 t422, .int .i64 t423, .int .i64 t424]] rfl qB32 ?_; (with_reducible refine (spec_JacobiRow.calls k t422 t423 t424 t425 t428 _ A3.out).mono ?_); rintro e w10 ⟨v426, rfl, ho0, hb⟩; refine ⟨_, rfl, ?_⟩; have n0_ := Aside0.mk (Kd.S_lower ho0 (below_size qB26)); have n1_ := Aside0.mk (blk_below (g := gb421) (o := .cells #[.int .i64 a0_0, .int .i64 a0_1, .int .i64 a0_2] 29 (0, 0)) qB50 hb); have n2_ := Aside0.mk (below_step qB26 hb); clear BK421; clear HB; have HO427 := n0_; have BK421 := n1_; have HB := n2_; clear n0_ n1_ n2_; (try clear hb); (try clear hb2); (try clear hk); (try clear hi); (try clear ho0); have hcz11_0 : w10.cell? ⟨gb421, 0, none⟩ = some (.int .i64 a0_0) := (blk_cell BK421.out 0).trans rfl; have hcz11_1 : w10.cell? ⟨gb421, 1, none⟩ = some (.int .i64 a0_1) := (blk_cell BK421.out 1).trans rfl; have hcz11_2 : w10.cell? ⟨gb421, 2, none⟩ = some (.int .i64 a0_2) := (blk_cell BK421.out 2).trans rfl; have hfz11_0 := blk_frozen BK421.out 0; have hfz11_1 := blk_frozen BK421.out 1; have hfz11_2 := blk_frozen BK421.out 2) | ((with_reducible refine gate_callee (f := 14) rfl ?_); refine goesL_ (some 19) rfl rfl Try.func14 (by kernel_rfl) rfl #[.agg #[.int .i64 a0_0, .int .i64 a0_1, .int .i64 a0_2]] rfl qB32 ?_; (with_reducible refine (laws_toCharacter.calls a0_0 a0_1 a0_2 t429 t430 t431 _ A4.out).mono ?_); rintro e w12 ⟨rfl, hb⟩; refine ⟨_, rfl, ?_⟩; have n0_ := Aside0.mk (Kd.S_below qB67 hb); have n1_ := Aside0.mk (blk_below (g := gb421) (o := .cells #[.int .i64 a0_0, .int .i64 a0_1, .int .i64 a0_2] 29 (0, 0)) qB50 hb); have n2_ := Aside0.mk (below_step qB26 hb); clear HO427; clear BK421; clear HB; have HO427 := n0_; have BK421 := n1_; have HB := n2_; clear n0_ n1_ n2_; (try clear hb); (try clear hb2); (try clear hk); (try clear hi)) | ((with_reducible refine gate_callee (f := 15) rfl ?_); refine goesL_ (some 20) rfl rfl Try.func15 (by kernel_rfl) rfl #[.agg #[.int .i64 t429, .int .i64 t430, .int .i64 t431]] rfl qB32 ?_; (with_reducible refine (impl_JacobiRow.calls k t429 t430 t431 t432 t435 _ A5.out).mono ?_); rintro e w13 ⟨v433, rfl, ho0, hb⟩; refine ⟨_, rfl, ?_⟩; have HNN := Aside0.mk (show ∃ N_, w.heap.size ≤ N_ ∧ Kd.S k43 43 _ w.heap.size (fun k_ => k_ < N_) v426 t425 ∧ Kd.S k43 43 _ N_ (fun _ => True) v433 t432 ∧ (gb421 < N_ ∧ True) from ⟨_, below_size qB33, Kd.S_mono (Kd.S_old qB67 hb) (fun _ hk => hk.2), ho0, ⟨blk_lt qB50, trivial⟩⟩); have n0_ := Aside0.mk (Kd.S_elder' qB67 (Kd.S_base ho0) hb); have n1_ := Aside0.mk (Kd.S_lower (Kd.S_new' ho0 (Kd.S_lt qB67)) (below_size qB26)); have n2_ := Aside0.mk (blk_below (g := gb421) (o := .cells #[.int .i64 a0_0, .int .i64 a0_1, .int .i64 a0_2] 29 (0, 0)) qB50 hb); have n3_ := Aside0.mk (below_step qB26 hb); clear HO427; clear BK421; clear HB; have HO427 := n0_; have HO434 := n1_; have BK421 := n2_; have HB := n3_; clear n0_ n1_ n2_ n3_; (try clear hb); (try clear hb2); (try clear hk); (try clear hi); (try clear ho0)))
  (try simp only [Act.put, List.setIfInBounds_toArray, List.set_cons_zero, List.set_cons_succ])
  go_cut [31] (fun v31 wc => ∃ (kq : Nat) (x31_5 : Bool), v31 = .bool x31_5 ∧ Aside0 (laws_FnExactJacobiRow.j0 kq t425 t428 t432 x31_5 a0_0 a0_1 a0_2 = some r) ∧ Aside0 (kq ≤ k) ∧ Aside0 (Kd.S k43 43 wc w.heap.size (fun k_ => some k_ ≠ (v433 : Value).ownBlock) v426 t425) ∧ Aside0 (Kd.S k43 43 wc w.heap.size (fun k_ => some k_ ≠ (v426 : Value).ownBlock) v433 t432) ∧ Aside0 (wc.heap[gb421]? = some (.cells #[.int .i64 a0_0, .int .i64 a0_1, .int .i64 a0_2] 29 (0, 0))) ∧ Aside0 (Below w.heap.size w wc) ∧ Aside0 (∃ N_, w.heap.size ≤ N_ ∧ Kd.S k43 43 wc w.heap.size (fun k_ => k_ < N_) v426 t425 ∧ Kd.S k43 43 wc N_ (fun _ => True) v433 t432 ∧ (gb421 < N_ ∧ True)))
  case first =>
    have H := HC6.out
    clear HC6
    replace H := Option.bind_eq_some_iff.mp H
    obtain ⟨t436, A140, H⟩ := H
    replace H : (if t436 = true then (laws_FnExactJacobiRow.j0 k t425 t428 t432 (t435 != t428) a0_0 a0_1 a0_2) else (laws_FnExactJacobiRow.j0 k t425 t428 t432 true a0_0 a0_1 a0_2)) = some r := H
    have A14 := Aside0.mk A140
    clear A140
    by_cases c15 : t436 = true
    · subst c15
      have H1 : (laws_FnExactJacobiRow.j0 k t425 t428 t432 (t435 != t428) a0_0 a0_1 a0_2) = some r := by rw [if_pos rfl] at H; exact H
      clear H
      have H := H1
      clear H1
      have H' := Aside0.mk H
      clear H
      obtain ⟨Ao16, co16, eo16⟩ := Kd.S_slice HO434.out
      subst eo16
      obtain ⟨Ao17, co17, eo17⟩ := Kd.S_slice HO427.out
      subst eo17
      go_wp2_with (first | ((with_reducible refine gate_callee (f := 16) rfl ?_); refine goesL_ (some 25) rfl rfl Try.func16 (by kernel_rfl) rfl #[.slice Ao16 t432.length co16, .slice Ao17 t425.length co17] rfl qB32 ?_; (with_reducible refine (laws_eqCycloS.calls k _ _ t432 _ _ t425 true _ ?side1 ?side2 ?side3 ?side4 A14.out).mono ?_); (case side1 => repeat (first | exact (Kd.S_reads' HO434.out).2.2 | (with_reducible refine Kd.C_alloc ?_ _) | (with_reducible refine Kd.C_drewN ?_ _) | (with_reducible refine Kd.C_drew ?_))); (case side2 => exact (Kd.S_reads' HO434.out).2.1); (case side3 => repeat (first | exact (Kd.S_reads' HO427.out).2.2 | (with_reducible refine Kd.C_alloc ?_ _) | (with_reducible refine Kd.C_drewN ?_ _) | (with_reducible refine Kd.C_drew ?_))); (case side4 => exact (Kd.S_reads' HO427.out).2.1); rintro e w18 ⟨rfl, hb⟩; refine ⟨_, rfl, ?_⟩; have HNN2 := Aside0.mk (show ∃ N_, w.heap.size ≤ N_ ∧ Kd.S k43 43 w18 w.heap.size (fun k_ => k_ < N_) _ t425 ∧ Kd.S k43 43 w18 N_ (fun _ => True) _ t432 ∧ (gb421 < N_ ∧ True) from by obtain ⟨N_, h0_, h1_, h2_, hG_⟩ := HNN.out; exact ⟨N_, h0_, Kd.S_below qB79 hb, Kd.S_below qB80 hb, hG_⟩); clear HNN; have HNN := HNN2; clear HNN2; have n0_ := Aside0.mk (Kd.S_below qB67 hb); have n1_ := Aside0.mk (Kd.S_below qB68 hb); have n2_ := Aside0.mk (blk_below (g := gb421) (o := .cells #[.int .i64 a0_0, .int .i64 a0_1, .int .i64 a0_2] 29 (0, 0)) qB50 hb); have n3_ := Aside0.mk (below_step qB26 hb); clear HO427; clear HO434; clear BK421; clear HB; have HO427 := n0_; have HO434 := n1_; have BK421 := n2_; have HB := n3_; clear n0_ n1_ n2_ n3_; (try clear hb); (try clear hb2); (try clear hk); (try clear hi)))
      go_meet
      case rel => exact ⟨_, ((t435 != t428)), qB83, H', ⟨by first | omega | exact Nat.le_refl _⟩, ⟨by (with_reducible repeat (first | apply Kd.S_alloc | apply Kd.S_drewN | apply Kd.S_drew)); exact Kd.S_mono HO427.out (fun _ hk => hk.2)⟩, ⟨by (with_reducible repeat (first | apply Kd.S_alloc | apply Kd.S_drewN | apply Kd.S_drew)); exact Kd.S_mono HO434.out (fun _ hk => hk.2)⟩, ⟨by (with_reducible repeat (first | refine blk_drewN ?_ _ | refine blk_drew ?_ | refine blk_alloc ?_ _)); exact BK421.out⟩, ⟨by repeat (first | (with_reducible first | exact HB.out | apply below_alloc | apply pw_below_drewN | apply below_drew1 | refine below_set ?_ GE421.out) | exact HB.out)⟩, ⟨by obtain ⟨N_, h0_, h1_, h2_, hG_⟩ := HNN.out; exact ⟨N_, h0_, by (with_reducible repeat (first | apply Kd.S_alloc | apply Kd.S_drewN | apply Kd.S_drew)); exact h1_, by (with_reducible repeat (first | apply Kd.S_alloc | apply Kd.S_drewN | apply Kd.S_drew)); exact h2_, hG_⟩⟩⟩
    · replace c15 := Bool.eq_false_iff.mpr c15
      subst c15
      have H1 : (laws_FnExactJacobiRow.j0 k t425 t428 t432 true a0_0 a0_1 a0_2) = some r := by rw [if_neg (show ¬ (false = true) by decide)] at H; exact H
      clear H
      have H := H1
      clear H1
      have H' := Aside0.mk H
      clear H
      obtain ⟨Ao19, co19, eo19⟩ := Kd.S_slice HO434.out
      subst eo19
      obtain ⟨Ao20, co20, eo20⟩ := Kd.S_slice HO427.out
      subst eo20
      go_wp2_with (first | ((with_reducible refine gate_callee (f := 16) rfl ?_); refine goesL_ (some 25) rfl rfl Try.func16 (by kernel_rfl) rfl #[.slice Ao19 t432.length co19, .slice Ao20 t425.length co20] rfl qB32 ?_; (with_reducible refine (laws_eqCycloS.calls k _ _ t432 _ _ t425 false _ ?side1 ?side2 ?side3 ?side4 A14.out).mono ?_); (case side1 => repeat (first | exact (Kd.S_reads' HO434.out).2.2 | (with_reducible refine Kd.C_alloc ?_ _) | (with_reducible refine Kd.C_drewN ?_ _) | (with_reducible refine Kd.C_drew ?_))); (case side2 => exact (Kd.S_reads' HO434.out).2.1); (case side3 => repeat (first | exact (Kd.S_reads' HO427.out).2.2 | (with_reducible refine Kd.C_alloc ?_ _) | (with_reducible refine Kd.C_drewN ?_ _) | (with_reducible refine Kd.C_drew ?_))); (case side4 => exact (Kd.S_reads' HO427.out).2.1); rintro e w21 ⟨rfl, hb⟩; refine ⟨_, rfl, ?_⟩; have HNN2 := Aside0.mk (show ∃ N_, w.heap.size ≤ N_ ∧ Kd.S k43 43 w21 w.heap.size (fun k_ => k_ < N_) _ t425 ∧ Kd.S k43 43 w21 N_ (fun _ => True) _ t432 ∧ (gb421 < N_ ∧ True) from by obtain ⟨N_, h0_, h1_, h2_, hG_⟩ := HNN.out; exact ⟨N_, h0_, Kd.S_below qB79 hb, Kd.S_below qB80 hb, hG_⟩); clear HNN; have HNN := HNN2; clear HNN2; have n0_ := Aside0.mk (Kd.S_below qB67 hb); have n1_ := Aside0.mk (Kd.S_below qB68 hb); have n2_ := Aside0.mk (blk_below (g := gb421) (o := .cells #[.int .i64 a0_0, .int .i64 a0_1, .int .i64 a0_2] 29 (0, 0)) qB50 hb); have n3_ := Aside0.mk (below_step qB26 hb); clear HO427; clear HO434; clear BK421; clear HB; have HO427 := n0_; have HO434 := n1_; have BK421 := n2_; have HB := n3_; clear n0_ n1_ n2_ n3_; (try clear hb); (try clear hb2); (try clear hk); (try clear hi)))
      go_meet
      case rel => exact ⟨_, (true), qB83, H', ⟨by first | omega | exact Nat.le_refl _⟩, ⟨by (with_reducible repeat (first | apply Kd.S_alloc | apply Kd.S_drewN | apply Kd.S_drew)); exact Kd.S_mono HO427.out (fun _ hk => hk.2)⟩, ⟨by (with_reducible repeat (first | apply Kd.S_alloc | apply Kd.S_drewN | apply Kd.S_drew)); exact Kd.S_mono HO434.out (fun _ hk => hk.2)⟩, ⟨by (with_reducible repeat (first | refine blk_drewN ?_ _ | refine blk_drew ?_ | refine blk_alloc ?_ _)); exact BK421.out⟩, ⟨by repeat (first | (with_reducible first | exact HB.out | apply below_alloc | apply pw_below_drewN | apply below_drew1 | refine below_set ?_ GE421.out) | exact HB.out)⟩, ⟨by obtain ⟨N_, h0_, h1_, h2_, hG_⟩ := HNN.out; exact ⟨N_, h0_, by (with_reducible repeat (first | apply Kd.S_alloc | apply Kd.S_drewN | apply Kd.S_drew)); exact h1_, by (with_reducible repeat (first | apply Kd.S_alloc | apply Kd.S_drewN | apply Kd.S_drew)); exact h2_, hG_⟩⟩⟩
  case rest =>
    clear HC6
    try clear c1
    try clear p2
    try clear c4
    try clear c13
    try clear c14
    try clear c15
    try clear c16
    try clear hcz11_0
    try clear hcz11_1
    try clear hcz11_2
    try clear hcz8_0
    try clear hcz8_1
    try clear hcz8_2
    try clear hfz11_0
    try clear hfz11_1
    try clear hfz11_2
    try clear hfz8_0
    try clear hfz8_1
    try clear hfz8_2
    obtain ⟨kq, x31_5, rfl, HA, HJ5, HO_3, HO_5, BK421, HB, HNN⟩ := hcut
    cases kq with
    | zero => exact absurd HA.out (by simp [laws_FnExactJacobiRow.j0])
    | succ kj5 =>
      have H := HA.out
      clear HA
      simp only [laws_FnExactJacobiRow.j0] at H
      by_cases c22 : x31_5 = true
      · subst c22
        have H1 : (some false) = some r := by rw [if_pos rfl] at H; exact H
        clear H
        have H := H1
        clear H1
        obtain rfl := Option.some.inj H
        go_wp2
        go_ret
        exact ⟨by first | rfl | (simp [errW_none, errW_some] <;> rfl) | (simp [*, errW_none, errW_some] <;> rfl), by repeat (first | (with_reducible first | exact HB.out | apply below_alloc | apply pw_below_drewN | apply below_drew1 | refine below_set ?_ GE421.out) | exact HB.out)⟩
      · replace c22 := Bool.eq_false_iff.mpr c22
        subst c22
        have H1 : ((laws_markCS_B.f t432 1).bind fun t437 => ((laws_markCS_A.f t432 1).bind fun t438 => ((laws_heldCycloS.f kj5 t438 1).bind fun t441 => (if t441 < 0 then (some false) else (if t441 = t437 then ((laws_toCharacter.f a0_0 a0_1 a0_2).bind fun bt442 => ((impl_JacobiRow.f kj5 bt442.1 bt442.2.1 bt442.2.2).bind fun bt445 => ((laws_eqCycloS.f kj5 bt445.1 t425).bind fun t449 => (if t449 = true then (laws_FnExactJacobiRow.j1 kj5 t438 t437 (bt445.2 != t428)) else (laws_FnExactJacobiRow.j1 kj5 t438 t437 true))))) else (some false)))))) = some r := by rw [if_neg (show ¬ (false = true) by decide)] at H; exact H
        clear H
        have H := H1
        clear H1
        replace H := Option.bind_eq_some_iff.mp H
        obtain ⟨t437, A230, H⟩ := H
        replace H : ((laws_markCS_A.f t432 1).bind fun t438 => ((laws_heldCycloS.f kj5 t438 1).bind fun t441 => (if t441 < 0 then (some false) else (if t441 = t437 then ((laws_toCharacter.f a0_0 a0_1 a0_2).bind fun bt442 => ((impl_JacobiRow.f kj5 bt442.1 bt442.2.1 bt442.2.2).bind fun bt445 => ((laws_eqCycloS.f kj5 bt445.1 t425).bind fun t449 => (if t449 = true then (laws_FnExactJacobiRow.j1 kj5 t438 t437 (bt445.2 != t428)) else (laws_FnExactJacobiRow.j1 kj5 t438 t437 true))))) else (some false))))) = some r := H
        have A23 := Aside0.mk A230
        clear A230
        replace H := Option.bind_eq_some_iff.mp H
        obtain ⟨t438, A240, H⟩ := H
        replace H : ((laws_heldCycloS.f kj5 t438 1).bind fun t441 => (if t441 < 0 then (some false) else (if t441 = t437 then ((laws_toCharacter.f a0_0 a0_1 a0_2).bind fun bt442 => ((impl_JacobiRow.f kj5 bt442.1 bt442.2.1 bt442.2.2).bind fun bt445 => ((laws_eqCycloS.f kj5 bt445.1 t425).bind fun t449 => (if t449 = true then (laws_FnExactJacobiRow.j1 kj5 t438 t437 (bt445.2 != t428)) else (laws_FnExactJacobiRow.j1 kj5 t438 t437 true))))) else (some false)))) = some r := H
        have A24 := Aside0.mk A240
        clear A240
        replace H := Option.bind_eq_some_iff.mp H
        obtain ⟨t441, A250, H⟩ := H
        replace H : (if t441 < 0 then (some false) else (if t441 = t437 then ((laws_toCharacter.f a0_0 a0_1 a0_2).bind fun bt442 => ((impl_JacobiRow.f kj5 bt442.1 bt442.2.1 bt442.2.2).bind fun bt445 => ((laws_eqCycloS.f kj5 bt445.1 t425).bind fun t449 => (if t449 = true then (laws_FnExactJacobiRow.j1 kj5 t438 t437 (bt445.2 != t428)) else (laws_FnExactJacobiRow.j1 kj5 t438 t437 true))))) else (some false))) = some r := H
        have A25 := Aside0.mk A250
        clear A250
        by_cases c26 : t441 < 0
        · rw [if_pos c26] at H
          have c26b0 : decide (t441 < 0) = true := decide_eq_true c26
          clear c26
          obtain rfl := Option.some.inj H
          obtain ⟨Ao27, co27, eo27⟩ := Kd.S_slice HO_5.out
          subst eo27
          go_wp2_with (first | ((with_reducible refine gate_callee (f := 17) rfl ?_); refine goesL_ (some 34) rfl rfl Try.func17 (by kernel_rfl) rfl #[.slice Ao27 t432.length co27, .int .i64 1] rfl qB32 ?_; refine (nMarkC_both A23.out A24.out qB33 qB5).mono ?_; rintro e w28 ⟨rfl, hg_, h1_, h2_, h3_⟩; refine ⟨_, rfl, ?_⟩; obtain ⟨v439, hv_⟩ : ∃ v_ : Value, v_ = .slice Ao27 t432.length co27 := ⟨_, rfl⟩; (try rw [← hv_]); have n0_ := Aside0.mk (show Kd.S k43 43 w28 w.heap.size (fun k_ => some k_ ≠ (.slice Ao27 t432.length co27 : Value).ownBlock ∧ some k_ ≠ (v439 : Value).ownBlock) _ t425 from Kd.S_mono h1_ (fun k_ hk_ => ⟨hk_, by rw [hv_]; exact hk_⟩)); have n2_ := Aside0.mk (show Kd.S k43 43 w28 w.heap.size (fun k_ => (True ∧ some k_ ≠ (_ : Value).ownBlock) ∧ True) v439 t438 from Kd.S_mono (by rw [hv_]; exact h2_) (fun k_ hk_ => ⟨⟨trivial, hk_⟩, trivial⟩)); have n1_ := Aside0.mk (show Kd.S k43 43 w28 w.heap.size (fun k_ => (some k_ ≠ (_ : Value).ownBlock) ∧ True) (.slice Ao27 t432.length co27) t438 from Kd.S_mono h2_ (fun k_ hk_ => ⟨hk_, trivial⟩)); have n3_ := Aside0.mk h3_; have nB421_ := Aside0.mk (show w28.heap[gb421]? = some _ from by obtain ⟨N_, hG_, hk_⟩ := hg_; exact (hk_.2 gb421 (blk_lt qB50) (by have := hG_; omega)).trans qB50); clear BK421; have BK421 := nB421_; clear nB421_; clear hg_; clear HO_3 HO_5 HB; have HO_3 := n0_; have HO_5 := n1_; have HO440 := n2_; have HB := n3_; clear n0_ n1_ n2_ n3_ h1_ h2_ h3_ hv_; obtain ⟨Ao29, co29, eo29⟩ := Kd.S_slice HO440.out; subst eo29) | ((with_reducible refine gate_callee (f := 18) rfl ?_); refine goesL_ (some 37) rfl rfl Try.func18 (by kernel_rfl) rfl #[.slice Ao29 t438.length co29, .int .i64 1] rfl qB32 ?_; (with_reducible refine (laws_heldCycloS.calls kj5 _ _ t438 1 t441 _ ?side1 ?side2 A25.out).mono ?_); (case side1 => repeat (first | exact (Kd.S_reads' HO440.out).2.2 | (with_reducible refine Kd.C_alloc ?_ _) | (with_reducible refine Kd.C_drewN ?_ _) | (with_reducible refine Kd.C_drew ?_))); (case side2 => exact (Kd.S_reads' HO440.out).2.1); rintro e w' ⟨rfl, ⟨nd, rfl⟩⟩; refine ⟨_, rfl, ?_⟩))
          go_ret
          exact ⟨by first | rfl | (simp [errW_none, errW_some] <;> rfl) | (simp [*, errW_none, errW_some] <;> rfl), by repeat (first | (with_reducible first | exact HB.out | apply below_alloc | apply pw_below_drewN | apply below_drew1 | refine below_set ?_ GE421.out) | exact HB.out)⟩
        · rw [if_neg c26] at H
          have c26b0 : decide (t441 < 0) = false := decide_eq_false c26
          clear c26
          by_cases c30 : t441 = t437
          · rw [if_pos c30] at H
            have c30b0 : (t441 == t437) = true := beq_iff_eq.mpr c30
            have c30b1 : (t441 != t437) = false := bne_eq_false_iff_eq.mpr c30
            clear c30
            replace H := Option.bind_eq_some_iff.mp H
            obtain ⟨⟨t442, t443, t444⟩, A310, H⟩ := H
            replace H : ((impl_JacobiRow.f kj5 t442 t443 t444).bind fun bt445 => ((laws_eqCycloS.f kj5 bt445.1 t425).bind fun t449 => (if t449 = true then (laws_FnExactJacobiRow.j1 kj5 t438 t437 (bt445.2 != t428)) else (laws_FnExactJacobiRow.j1 kj5 t438 t437 true)))) = some r := H
            have A31 := Aside0.mk A310
            clear A310
            replace H := Option.bind_eq_some_iff.mp H
            obtain ⟨⟨t445, t448⟩, A320, H⟩ := H
            replace H : ((laws_eqCycloS.f kj5 t445 t425).bind fun t449 => (if t449 = true then (laws_FnExactJacobiRow.j1 kj5 t438 t437 (t448 != t428)) else (laws_FnExactJacobiRow.j1 kj5 t438 t437 true))) = some r := H
            have A32 := Aside0.mk A320
            clear A320
            have HC33 := Aside0.mk H
            clear H
            obtain ⟨Ao34, co34, eo34⟩ := Kd.S_slice HO_5.out
            subst eo34
            go_upto_region 14 with (first | ((with_reducible refine gate_callee (f := 17) rfl ?_); refine goesL_ (some 34) rfl rfl Try.func17 (by kernel_rfl) rfl #[.slice Ao34 t432.length co34, .int .i64 1] rfl qB32 ?_; refine (nMarkC_both A23.out A24.out qB33 qB5).mono ?_; rintro e w35 ⟨rfl, hg_, h1_, h2_, h3_⟩; refine ⟨_, rfl, ?_⟩; obtain ⟨v439, hv_⟩ : ∃ v_ : Value, v_ = .slice Ao34 t432.length co34 := ⟨_, rfl⟩; (try rw [← hv_]); have n0_ := Aside0.mk (show Kd.S k43 43 w35 w.heap.size (fun k_ => some k_ ≠ (.slice Ao34 t432.length co34 : Value).ownBlock ∧ some k_ ≠ (v439 : Value).ownBlock) _ t425 from Kd.S_mono h1_ (fun k_ hk_ => ⟨hk_, by rw [hv_]; exact hk_⟩)); have n2_ := Aside0.mk (show Kd.S k43 43 w35 w.heap.size (fun k_ => (True ∧ some k_ ≠ (_ : Value).ownBlock) ∧ True) v439 t438 from Kd.S_mono (by rw [hv_]; exact h2_) (fun k_ hk_ => ⟨⟨trivial, hk_⟩, trivial⟩)); have n1_ := Aside0.mk (show Kd.S k43 43 w35 w.heap.size (fun k_ => (some k_ ≠ (_ : Value).ownBlock) ∧ True) (.slice Ao34 t432.length co34) t438 from Kd.S_mono h2_ (fun k_ hk_ => ⟨hk_, trivial⟩)); have n3_ := Aside0.mk h3_; have nB421_ := Aside0.mk (show w35.heap[gb421]? = some _ from by obtain ⟨N_, hG_, hk_⟩ := hg_; exact (hk_.2 gb421 (blk_lt qB50) (by have := hG_; omega)).trans qB50); clear BK421; have BK421 := nB421_; clear nB421_; clear hg_; clear HO_3 HO_5 HB; have HO_3 := n0_; have HO_5 := n1_; have HO440 := n2_; have HB := n3_; clear n0_ n1_ n2_ n3_ h1_ h2_ h3_ hv_; obtain ⟨Ao36, co36, eo36⟩ := Kd.S_slice HO440.out; subst eo36) | ((with_reducible refine gate_callee (f := 18) rfl ?_); refine goesL_ (some 37) rfl rfl Try.func18 (by kernel_rfl) rfl #[.slice Ao36 t438.length co36, .int .i64 1] rfl qB32 ?_; (with_reducible refine (laws_heldCycloS.calls kj5 _ _ t438 1 t441 _ ?side1 ?side2 A25.out).mono ?_); (case side1 => repeat (first | exact (Kd.S_reads' HO440.out).2.2 | (with_reducible refine Kd.C_alloc ?_ _) | (with_reducible refine Kd.C_drewN ?_ _) | (with_reducible refine Kd.C_drew ?_))); (case side2 => exact (Kd.S_reads' HO440.out).2.1); rintro e w' ⟨rfl, ⟨nd, rfl⟩⟩; refine ⟨_, rfl, ?_⟩; have hcz37_0 : w35.cell? ⟨gb421, 0, none⟩ = some (.int .i64 a0_0) := (blk_cell BK421.out 0).trans rfl; have hcz37_1 : w35.cell? ⟨gb421, 1, none⟩ = some (.int .i64 a0_1) := (blk_cell BK421.out 1).trans rfl; have hcz37_2 : w35.cell? ⟨gb421, 2, none⟩ = some (.int .i64 a0_2) := (blk_cell BK421.out 2).trans rfl; have hfz37_0 := blk_frozen BK421.out 0; have hfz37_1 := blk_frozen BK421.out 1; have hfz37_2 := blk_frozen BK421.out 2) | ((with_reducible refine gate_callee (f := 14) rfl ?_); refine goesL_ (some 45) rfl rfl Try.func14 (by kernel_rfl) rfl #[.agg #[.int .i64 a0_0, .int .i64 a0_1, .int .i64 a0_2]] rfl qB32 ?_; (with_reducible refine (laws_toCharacter.calls a0_0 a0_1 a0_2 t442 t443 t444 _ A31.out).mono ?_); rintro e w38 ⟨rfl, hb⟩; refine ⟨_, rfl, ?_⟩; have n0_ := Aside0.mk (Kd.S_below qB77 hb); have n1_ := Aside0.mk (Kd.S_below qB78 hb); have n2_ := Aside0.mk (Kd.S_below qB69 hb); have n3_ := Aside0.mk (blk_below (g := gb421) (o := .cells #[.int .i64 a0_0, .int .i64 a0_1, .int .i64 a0_2] 29 (0, 0)) qB50 hb); have n4_ := Aside0.mk (below_step qB26 hb); clear HO_3; clear HO_5; clear HO440; clear BK421; clear HB; have HO_3 := n0_; have HO_5 := n1_; have HO440 := n2_; have BK421 := n3_; have HB := n4_; clear n0_ n1_ n2_ n3_ n4_; (try clear hb); (try clear hb2); (try clear hk); (try clear hi)) | ((with_reducible refine gate_callee (f := 15) rfl ?_); refine goesL_ (some 46) rfl rfl Try.func15 (by kernel_rfl) rfl #[.agg #[.int .i64 t442, .int .i64 t443, .int .i64 t444]] rfl qB32 ?_; (with_reducible refine (impl_JacobiRow.calls kj5 t442 t443 t444 t445 t448 _ A32.out).mono ?_); rintro e w39 ⟨v446, rfl, ho0, hb⟩; refine ⟨_, rfl, ?_⟩; have n0_ := Aside0.mk (Kd.S_elder' qB77 (Kd.S_base ho0) hb); have n1_ := Aside0.mk (Kd.S_elder' qB78 (Kd.S_base ho0) hb); have n2_ := Aside0.mk (Kd.S_elder' qB69 (Kd.S_base ho0) hb); have n3_ := Aside0.mk (Kd.S_lower (Kd.S_new' (Kd.S_new' (Kd.S_new' ho0 (Kd.S_lt qB77)) (Kd.S_lt qB78)) (Kd.S_lt qB69)) (below_size qB26)); have n4_ := Aside0.mk (blk_below (g := gb421) (o := .cells #[.int .i64 a0_0, .int .i64 a0_1, .int .i64 a0_2] 29 (0, 0)) qB50 hb); have n5_ := Aside0.mk (below_step qB26 hb); clear HO_3; clear HO_5; clear HO440; clear BK421; clear HB; have HO_3 := n0_; have HO_5 := n1_; have HO440 := n2_; have HO447 := n3_; have BK421 := n4_; have HB := n5_; clear n0_ n1_ n2_ n3_ n4_ n5_; (try clear hb); (try clear hb2); (try clear hk); (try clear hi); (try clear ho0)))
            (try simp only [Act.put, List.setIfInBounds_toArray, List.set_cons_zero, List.set_cons_succ])
            go_cut [57] (fun v57 wc => ∃ (kq : Nat) (x57_32 : Bool), v57 = .bool x57_32 ∧ Aside0 (laws_FnExactJacobiRow.j1 kq t438 t437 x57_32 = some r) ∧ Aside0 (kq ≤ kj5) ∧ Aside0 (Kd.S k43 43 wc w.heap.size (fun _ => True) (.slice Ao36 t438.length co36) t438) ∧ Aside0 (wc.heap[gb421]? = some (.cells #[.int .i64 a0_0, .int .i64 a0_1, .int .i64 a0_2] 29 (0, 0))) ∧ Aside0 (Below w.heap.size w wc))
            case first =>
              have H := HC33.out
              clear HC33
              replace H := Option.bind_eq_some_iff.mp H
              obtain ⟨t449, A400, H⟩ := H
              replace H : (if t449 = true then (laws_FnExactJacobiRow.j1 kj5 t438 t437 (t448 != t428)) else (laws_FnExactJacobiRow.j1 kj5 t438 t437 true)) = some r := H
              have A40 := Aside0.mk A400
              clear A400
              by_cases c41 : t449 = true
              · subst c41
                have H1 : (laws_FnExactJacobiRow.j1 kj5 t438 t437 (t448 != t428)) = some r := by rw [if_pos rfl] at H; exact H
                clear H
                have H := H1
                clear H1
                have H' := Aside0.mk H
                clear H
                obtain ⟨Ao42, co42, eo42⟩ := Kd.S_slice HO447.out
                subst eo42
                obtain ⟨Ao43, co43, eo43⟩ := Kd.S_slice HO_3.out
                subst eo43
                go_wp2_with (first | ((with_reducible refine gate_callee (f := 16) rfl ?_); refine goesL_ (some 51) rfl rfl Try.func16 (by kernel_rfl) rfl #[.slice Ao42 t445.length co42, .slice Ao43 t425.length co43] rfl qB32 ?_; (with_reducible refine (laws_eqCycloS.calls kj5 _ _ t445 _ _ t425 true _ ?side1 ?side2 ?side3 ?side4 A40.out).mono ?_); (case side1 => repeat (first | exact (Kd.S_reads' HO447.out).2.2 | (with_reducible refine Kd.C_alloc ?_ _) | (with_reducible refine Kd.C_drewN ?_ _) | (with_reducible refine Kd.C_drew ?_))); (case side2 => exact (Kd.S_reads' HO447.out).2.1); (case side3 => repeat (first | exact (Kd.S_reads' HO_3.out).2.2 | (with_reducible refine Kd.C_alloc ?_ _) | (with_reducible refine Kd.C_drewN ?_ _) | (with_reducible refine Kd.C_drew ?_))); (case side4 => exact (Kd.S_reads' HO_3.out).2.1); rintro e w44 ⟨rfl, hb⟩; refine ⟨_, rfl, ?_⟩; have n0_ := Aside0.mk (Kd.S_below qB77 hb); have n1_ := Aside0.mk (Kd.S_below qB78 hb); have n2_ := Aside0.mk (Kd.S_below qB69 hb); have n3_ := Aside0.mk (Kd.S_below qB70 hb); have n4_ := Aside0.mk (blk_below (g := gb421) (o := .cells #[.int .i64 a0_0, .int .i64 a0_1, .int .i64 a0_2] 29 (0, 0)) qB50 hb); have n5_ := Aside0.mk (below_step qB26 hb); clear HO_3; clear HO_5; clear HO440; clear HO447; clear BK421; clear HB; have HO_3 := n0_; have HO_5 := n1_; have HO440 := n2_; have HO447 := n3_; have BK421 := n4_; have HB := n5_; clear n0_ n1_ n2_ n3_ n4_ n5_; (try clear hb); (try clear hb2); (try clear hk); (try clear hi)))
                go_meet
                case rel => exact ⟨_, ((t448 != t428)), qB83, H', ⟨by have := HJ5.out; first | omega | exact Nat.le_refl _⟩, ⟨by (with_reducible repeat (first | apply Kd.S_alloc | apply Kd.S_drewN | apply Kd.S_drew)); exact Kd.S_mono HO440.out (fun _ hk => trivial)⟩, ⟨by (with_reducible repeat (first | refine blk_drewN ?_ _ | refine blk_drew ?_ | refine blk_alloc ?_ _)); exact BK421.out⟩, ⟨by repeat (first | (with_reducible first | exact HB.out | apply below_alloc | apply pw_below_drewN | apply below_drew1 | refine below_set ?_ GE421.out) | exact HB.out)⟩⟩
              · replace c41 := Bool.eq_false_iff.mpr c41
                subst c41
                have H1 : (laws_FnExactJacobiRow.j1 kj5 t438 t437 true) = some r := by rw [if_neg (show ¬ (false = true) by decide)] at H; exact H
                clear H
                have H := H1
                clear H1
                have H' := Aside0.mk H
                clear H
                obtain ⟨Ao45, co45, eo45⟩ := Kd.S_slice HO447.out
                subst eo45
                obtain ⟨Ao46, co46, eo46⟩ := Kd.S_slice HO_3.out
                subst eo46
                go_wp2_with (first | ((with_reducible refine gate_callee (f := 16) rfl ?_); refine goesL_ (some 51) rfl rfl Try.func16 (by kernel_rfl) rfl #[.slice Ao45 t445.length co45, .slice Ao46 t425.length co46] rfl qB32 ?_; (with_reducible refine (laws_eqCycloS.calls kj5 _ _ t445 _ _ t425 false _ ?side1 ?side2 ?side3 ?side4 A40.out).mono ?_); (case side1 => repeat (first | exact (Kd.S_reads' HO447.out).2.2 | (with_reducible refine Kd.C_alloc ?_ _) | (with_reducible refine Kd.C_drewN ?_ _) | (with_reducible refine Kd.C_drew ?_))); (case side2 => exact (Kd.S_reads' HO447.out).2.1); (case side3 => repeat (first | exact (Kd.S_reads' HO_3.out).2.2 | (with_reducible refine Kd.C_alloc ?_ _) | (with_reducible refine Kd.C_drewN ?_ _) | (with_reducible refine Kd.C_drew ?_))); (case side4 => exact (Kd.S_reads' HO_3.out).2.1); rintro e w47 ⟨rfl, hb⟩; refine ⟨_, rfl, ?_⟩; have n0_ := Aside0.mk (Kd.S_below qB77 hb); have n1_ := Aside0.mk (Kd.S_below qB78 hb); have n2_ := Aside0.mk (Kd.S_below qB69 hb); have n3_ := Aside0.mk (Kd.S_below qB70 hb); have n4_ := Aside0.mk (blk_below (g := gb421) (o := .cells #[.int .i64 a0_0, .int .i64 a0_1, .int .i64 a0_2] 29 (0, 0)) qB50 hb); have n5_ := Aside0.mk (below_step qB26 hb); clear HO_3; clear HO_5; clear HO440; clear HO447; clear BK421; clear HB; have HO_3 := n0_; have HO_5 := n1_; have HO440 := n2_; have HO447 := n3_; have BK421 := n4_; have HB := n5_; clear n0_ n1_ n2_ n3_ n4_ n5_; (try clear hb); (try clear hb2); (try clear hk); (try clear hi)))
                go_meet
                case rel => exact ⟨_, (true), qB83, H', ⟨by have := HJ5.out; first | omega | exact Nat.le_refl _⟩, ⟨by (with_reducible repeat (first | apply Kd.S_alloc | apply Kd.S_drewN | apply Kd.S_drew)); exact Kd.S_mono HO440.out (fun _ hk => trivial)⟩, ⟨by (with_reducible repeat (first | refine blk_drewN ?_ _ | refine blk_drew ?_ | refine blk_alloc ?_ _)); exact BK421.out⟩, ⟨by repeat (first | (with_reducible first | exact HB.out | apply below_alloc | apply pw_below_drewN | apply below_drew1 | refine below_set ?_ GE421.out) | exact HB.out)⟩⟩
            case rest =>
              clear HC33
              try clear c1
              try clear c2
              try clear p2
              try clear c3
              try clear c4
              try clear c13
              try clear c14
              try clear c15
              try clear c16
              try clear c18
              try clear c22
              try clear c26
              try clear c26b0
              try clear c30
              try clear c30b0
              try clear c30b1
              try clear c41
              try clear hcz11_0
              try clear hcz11_1
              try clear hcz11_2
              try clear hcz37_0
              try clear hcz37_1
              try clear hcz37_2
              try clear hcz8_0
              try clear hcz8_1
              try clear hcz8_2
              try clear hfz11_0
              try clear hfz11_1
              try clear hfz11_2
              try clear hfz37_0
              try clear hfz37_1
              try clear hfz37_2
              try clear hfz8_0
              try clear hfz8_1
              try clear hfz8_2
              try clear p2
              obtain ⟨kq, x57_32, rfl, HA, HJ32, HO_5, BK421, HB⟩ := hcut
              cases kq with
              | zero => exact absurd HA.out (by simp [laws_FnExactJacobiRow.j1])
              | succ kj32 =>
                have H := HA.out
                clear HA
                simp only [laws_FnExactJacobiRow.j1] at H
                by_cases c48 : x57_32 = true
                · subst c48
                  have H1 : (some false) = some r := by rw [if_pos rfl] at H; exact H
                  clear H
                  have H := H1
                  clear H1
                  obtain rfl := Option.some.inj H
                  go_wp2
                  go_ret
                  exact ⟨by first | rfl | (simp [errW_none, errW_some] <;> rfl) | (simp [*, errW_none, errW_some] <;> rfl), by repeat (first | (with_reducible first | exact HB.out | apply below_alloc | apply pw_below_drewN | apply below_drew1 | refine below_set ?_ GE421.out) | exact HB.out)⟩
                · replace c48 := Bool.eq_false_iff.mpr c48
                  subst c48
                  have H1 : ((laws_heldCycloS.f kj32 t438 1).bind fun t450 => (if t450 < 0 then (some false) else (if t450 = t437 then (some true) else (some false)))) = some r := by rw [if_neg (show ¬ (false = true) by decide)] at H; exact H
                  clear H
                  have H := H1
                  clear H1
                  replace H := Option.bind_eq_some_iff.mp H
                  obtain ⟨t450, A490, H⟩ := H
                  replace H : (if t450 < 0 then (some false) else (if t450 = t437 then (some true) else (some false))) = some r := H
                  have A49 := Aside0.mk A490
                  clear A490
                  by_cases c50 : t450 < 0
                  · rw [if_pos c50] at H
                    have c50b0 : decide (t450 < 0) = true := decide_eq_true c50
                    clear c50
                    obtain rfl := Option.some.inj H
                    go_wp2_with (first | ((with_reducible refine gate_callee (f := 18) rfl ?_); refine goesL_ (some 60) rfl rfl Try.func18 (by kernel_rfl) rfl #[.slice Ao36 t438.length co36, .int .i64 1] rfl qB32 ?_; (with_reducible refine (laws_heldCycloS.calls kj32 _ _ t438 1 t450 _ ?side1 ?side2 A49.out).mono ?_); (case side1 => repeat (first | exact (Kd.S_reads' HO_5.out).2.2 | (with_reducible refine Kd.C_alloc ?_ _) | (with_reducible refine Kd.C_drewN ?_ _) | (with_reducible refine Kd.C_drew ?_))); (case side2 => exact (Kd.S_reads' HO_5.out).2.1); rintro e w' ⟨rfl, ⟨nd, rfl⟩⟩; refine ⟨_, rfl, ?_⟩))
                    go_ret
                    exact ⟨by first | rfl | (simp [errW_none, errW_some] <;> rfl) | (simp [*, errW_none, errW_some] <;> rfl), by repeat (first | (with_reducible first | exact HB.out | apply below_alloc | apply pw_below_drewN | apply below_drew1 | refine below_set ?_ GE421.out) | exact HB.out)⟩
                  · rw [if_neg c50] at H
                    have c50b0 : decide (t450 < 0) = false := decide_eq_false c50
                    clear c50
                    by_cases c51 : t450 = t437
                    · rw [if_pos c51] at H
                      have c51b0 : (t450 == t437) = true := beq_iff_eq.mpr c51
                      have c51b1 : (t450 != t437) = false := bne_eq_false_iff_eq.mpr c51
                      clear c51
                      obtain rfl := Option.some.inj H
                      go_wp2_with (first | ((with_reducible refine gate_callee (f := 18) rfl ?_); refine goesL_ (some 60) rfl rfl Try.func18 (by kernel_rfl) rfl #[.slice Ao36 t438.length co36, .int .i64 1] rfl qB32 ?_; (with_reducible refine (laws_heldCycloS.calls kj32 _ _ t438 1 t450 _ ?side1 ?side2 A49.out).mono ?_); (case side1 => repeat (first | exact (Kd.S_reads' HO_5.out).2.2 | (with_reducible refine Kd.C_alloc ?_ _) | (with_reducible refine Kd.C_drewN ?_ _) | (with_reducible refine Kd.C_drew ?_))); (case side2 => exact (Kd.S_reads' HO_5.out).2.1); rintro e w' ⟨rfl, ⟨nd, rfl⟩⟩; refine ⟨_, rfl, ?_⟩))
                      go_ret
                      exact ⟨by first | rfl | (simp [errW_none, errW_some] <;> rfl) | (simp [*, errW_none, errW_some] <;> rfl), by repeat (first | (with_reducible first | exact HB.out | apply below_alloc | apply pw_below_drewN | apply below_drew1 | refine below_set ?_ GE421.out) | exact HB.out)⟩
                    · rw [if_neg c51] at H
                      have c51b0 : (t450 == t437) = false := beq_eq_false_iff_ne.mpr c51
                      have c51b1 : (t450 != t437) = true := bne_iff_ne.mpr c51
                      obtain rfl := Option.some.inj H
                      go_wp2_with (first | ((with_reducible refine gate_callee (f := 18) rfl ?_); refine goesL_ (some 60) rfl rfl Try.func18 (by kernel_rfl) rfl #[.slice Ao36 t438.length co36, .int .i64 1] rfl qB32 ?_; (with_reducible refine (laws_heldCycloS.calls kj32 _ _ t438 1 t450 _ ?side1 ?side2 A49.out).mono ?_); (case side1 => repeat (first | exact (Kd.S_reads' HO_5.out).2.2 | (with_reducible refine Kd.C_alloc ?_ _) | (with_reducible refine Kd.C_drewN ?_ _) | (with_reducible refine Kd.C_drew ?_))); (case side2 => exact (Kd.S_reads' HO_5.out).2.1); rintro e w' ⟨rfl, ⟨nd, rfl⟩⟩; refine ⟨_, rfl, ?_⟩))
                      go_ret
                      exact ⟨by first | rfl | (simp [errW_none, errW_some] <;> rfl) | (simp [*, errW_none, errW_some] <;> rfl), by repeat (first | (with_reducible first | exact HB.out | apply below_alloc | apply pw_below_drewN | apply below_drew1 | refine below_set ?_ GE421.out) | exact HB.out)⟩
          · rw [if_neg c30] at H
            have c30b0 : (t441 == t437) = false := beq_eq_false_iff_ne.mpr c30
            have c30b1 : (t441 != t437) = true := bne_iff_ne.mpr c30
            obtain rfl := Option.some.inj H
            obtain ⟨Ao52, co52, eo52⟩ := Kd.S_slice HO_5.out
            subst eo52
            go_wp2_with (first | ((with_reducible refine gate_callee (f := 17) rfl ?_); refine goesL_ (some 34) rfl rfl Try.func17 (by kernel_rfl) rfl #[.slice Ao52 t432.length co52, .int .i64 1] rfl qB32 ?_; refine (nMarkC_both A23.out A24.out qB33 qB5).mono ?_; rintro e w53 ⟨rfl, hg_, h1_, h2_, h3_⟩; refine ⟨_, rfl, ?_⟩; obtain ⟨v439, hv_⟩ : ∃ v_ : Value, v_ = .slice Ao52 t432.length co52 := ⟨_, rfl⟩; (try rw [← hv_]); have n0_ := Aside0.mk (show Kd.S k43 43 w53 w.heap.size (fun k_ => some k_ ≠ (.slice Ao52 t432.length co52 : Value).ownBlock ∧ some k_ ≠ (v439 : Value).ownBlock) _ t425 from Kd.S_mono h1_ (fun k_ hk_ => ⟨hk_, by rw [hv_]; exact hk_⟩)); have n2_ := Aside0.mk (show Kd.S k43 43 w53 w.heap.size (fun k_ => (True ∧ some k_ ≠ (_ : Value).ownBlock) ∧ True) v439 t438 from Kd.S_mono (by rw [hv_]; exact h2_) (fun k_ hk_ => ⟨⟨trivial, hk_⟩, trivial⟩)); have n1_ := Aside0.mk (show Kd.S k43 43 w53 w.heap.size (fun k_ => (some k_ ≠ (_ : Value).ownBlock) ∧ True) (.slice Ao52 t432.length co52) t438 from Kd.S_mono h2_ (fun k_ hk_ => ⟨hk_, trivial⟩)); have n3_ := Aside0.mk h3_; have nB421_ := Aside0.mk (show w53.heap[gb421]? = some _ from by obtain ⟨N_, hG_, hk_⟩ := hg_; exact (hk_.2 gb421 (blk_lt qB50) (by have := hG_; omega)).trans qB50); clear BK421; have BK421 := nB421_; clear nB421_; clear hg_; clear HO_3 HO_5 HB; have HO_3 := n0_; have HO_5 := n1_; have HO440 := n2_; have HB := n3_; clear n0_ n1_ n2_ n3_ h1_ h2_ h3_ hv_; obtain ⟨Ao54, co54, eo54⟩ := Kd.S_slice HO440.out; subst eo54) | ((with_reducible refine gate_callee (f := 18) rfl ?_); refine goesL_ (some 37) rfl rfl Try.func18 (by kernel_rfl) rfl #[.slice Ao54 t438.length co54, .int .i64 1] rfl qB32 ?_; (with_reducible refine (laws_heldCycloS.calls kj5 _ _ t438 1 t441 _ ?side1 ?side2 A25.out).mono ?_); (case side1 => repeat (first | exact (Kd.S_reads' HO440.out).2.2 | (with_reducible refine Kd.C_alloc ?_ _) | (with_reducible refine Kd.C_drewN ?_ _) | (with_reducible refine Kd.C_drew ?_))); (case side2 => exact (Kd.S_reads' HO440.out).2.1); rintro e w' ⟨rfl, ⟨nd, rfl⟩⟩; refine ⟨_, rfl, ?_⟩))
            go_ret
            exact ⟨by first | rfl | (simp [errW_none, errW_some] <;> rfl) | (simp [*, errW_none, errW_some] <;> rfl), by repeat (first | (with_reducible first | exact HB.out | apply below_alloc | apply pw_below_drewN | apply below_drew1 | refine below_set ?_ GE421.out) | exact HB.out)⟩

/-- THE ONE PURE STATEMENT of laws_FnExactJacobiRow. -/
def laws_FnExactJacobiRow.Pure : Prop := ∀ (a0_0 : Int) (a0_1 : Int) (a0_2 : Int), (Lit.int .i64 a0_0).wf = true → (Lit.int .i64 a0_1).wf = true → (Lit.int .i64 a0_2).wf = true → ∃ k, laws_FnExactJacobiRow.f k a0_0 a0_1 a0_2 = some true
theorem laws_FnExactJacobiRow.walk (P : laws_FnExactJacobiRow.Pure) (a0_0 : Int) (a0_1 : Int) (a0_2 : Int) (w : World) (w0_0 : (Lit.int .i64 a0_0).wf = true) (w0_1 : (Lit.int .i64 a0_1).wf = true) (w0_2 : (Lit.int .i64 a0_2).wf = true) :
    Calls Try.prog 4 #[.agg #[.int .i64 a0_0, .int .i64 a0_1, .int .i64 a0_2]] w fun e w' => e = .returned (.bool true) ∧ Below w.heap.size w w' := by
  obtain ⟨k, h⟩ := P a0_0 a0_1 a0_2 w0_0 w0_1 w0_2
  refine (laws_FnExactJacobiRow.calls k a0_0 a0_1 a0_2 true w  h).mono ?_
  rintro e w' ⟨rfl, hd⟩
  exact ⟨rfl, hd⟩

end Go.Proofs.Ythdpdiahkphklab.PFnExactJacobiRow
