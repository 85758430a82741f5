/- The functions that the law reaches, as plain functions, each with the proof that the program comes to it; no condition. Written by a program of this session (wip/mp.py) over the printing of the kit; what is marked HAND is told by hand. -/
import Derived.Test.YthljmbobccaalaaPFnExactNormOfx0
import Derived.Test.YthljmbobccaalaaPFnExactNormOfx6
import Derived.Test.YthljmbobccaalaaPFnExactNormOfx7
namespace Go.Proofs.Ythljmbobccaalaa.PFnExactNormOf
open Go.RowKit Go.Proofs.YthljmbobccaalaaW.PrintWords Go.Proofs.YthljmbobccaalaaW.PrintLast Go.Proofs.YthljmbobccaalaaW.PrintMore
attribute [local go_sem] max2_int min2_int max_two min_two max_three min_three max_four min_four   -- for this text's walks alone
set_option linter.unusedVariables false
set_option linter.unusedSimpArgs false

/-! ### spec_l02Product: function 53 -/
def spec_l02Product.l0 : Nat → List (S26) → Int → Int → List Int → Option (Int × List Int × Bool)
 | 0, _, _, _, _ => none
 | k + 1, x6, x9, x287000, x287001 => if x9 < (x6.length : Int) then (if 0 ≤ x9 then ((spec_l01Times.f k x287000 x287001 ((rd_T26 x6 x9).f0) ((rd_T26 x6 x9).f1)).bind fun bt288 => (if bt288.2.2 = true then (spec_l02Product.l0 k x6 (wrap64 (x9 + 1)) bt288.1 bt288.2.1) else (some (0, ([] : List Int), false)))) else (none)) else (some (x287000, x287001, true))
def spec_l02Product.f (k : Nat) (a0_0 : Int) (l0_1 : List Int) (a1 : Int) : Option (Int × List Int × Bool) := (spec_l02Images.f k a0_0 l0_1).bind fun bt276 => ((spec_l01One.f k a0_0).bind fun bt282 => (spec_l02Product.l0 k bt276.1 a1 bt282.1 bt282.2))
theorem spec_l02Product.mono_l : ∀ k, (∀ y0 y1 y2 y3, LeO (spec_l02Product.l0 k y0 y1 y2 y3) (spec_l02Product.l0 (k + 1) y0 y1 y2 y3))
 | 0 => fun _ _ _ _ r h => by simp [spec_l02Product.l0] at h
 | k + 1 => by
  have ih0 := spec_l02Product.mono_l k
  ·intro y0 y1 y2 y3
   unfold spec_l02Product.l0
   repeat' first
   | (with_reducible exact ih0 _ _ _ _)
   | (with_reducible exact spec_l01One.mono _ _)
   | (with_reducible exact spec_l01Times.mono _ _ _ _ _)
   | (with_reducible exact spec_l02Images.mono _ _ _)
   | (with_reducible exact LeO.refl _)
   | (with_reducible exact LeO.none _)
   | (with_reducible refine LeO.ite ?_ ?_)
   | (with_reducible refine LeO.bind ?_ (fun _ => ?_))
   | exact ih0 _ _ _ _
   | exact spec_l01One.mono _ _
   | exact spec_l01Times.mono _ _ _ _ _
   | exact spec_l02Images.mono _ _ _
   | exact LeO.none _
   | refine LeO.ite ?_ ?_
   | refine LeO.bind ?_ (fun _ => ?_)
theorem spec_l02Product.mono : ∀ a0 a1 a2 k, LeO (spec_l02Product.f k a0 a1 a2) (spec_l02Product.f (k + 1) a0 a1 a2) := by
 intro a0 a1 a2 k
 have ih0 := spec_l02Product.mono_l k
 unfold spec_l02Product.f
 repeat' first
   | (with_reducible exact ih0 _ _ _ _)
   | (with_reducible exact spec_l01One.mono _ _)
   | (with_reducible exact spec_l01Times.mono _ _ _ _ _)
   | (with_reducible exact spec_l02Images.mono _ _ _)
   | (with_reducible exact LeO.refl _)
   | (with_reducible exact LeO.none _)
   | (with_reducible refine LeO.ite ?_ ?_)
   | (with_reducible refine LeO.bind ?_ (fun _ => ?_))
   | exact ih0 _ _ _ _
   | exact spec_l01One.mono _ _
   | exact spec_l01Times.mono _ _ _ _ _
   | exact spec_l02Images.mono _ _ _
   | exact LeO.none _
   | refine LeO.ite ?_ ?_
   | refine LeO.bind ?_ (fun _ => ?_)
def spec_l02Product.T6 : Bool × List (List Nat × List Nat) := (true, [([], []), ([], []), ([], []), ([1, 2], [1, 2]), ([3], [3]), ([0, 4], [0, 4]), ([5], [5]), ([6], [6]), ([6], [6]), ([], []), ([9, 7, 5, 0, 1, 2, 3, 4, 5, 6, 7, 9], [7, 9]), ([8, 10, 0, 1, 2, 3, 4, 5, 6, 7, 8, 9, 10], [8])])
def spec_l02Product.B6 : List Nat := [0, 0, 0, 6, 14, 31, 63, 127, 127, 0, 767, 2047]
theorem spec_l02Product.tab6 : rtab .any (opsOf Try.f53 6) = spec_l02Product.T6 := by kernel_rfl
theorem spec_l02Product.bits6 : waitsOk spec_l02Product.T6.2 spec_l02Product.B6 = true := by kernel_rfl
set_option maxHeartbeats 8000000 in
set_option maxRecDepth 100000 in
theorem spec_l02Product.calls (k : Nat) (a0_0 : Int) (A0_1 : Option Addr) (c0_1 : Nat) (l0_1 : List Int) (a1 : Int) (r1 : Int) (r2 : List Int) (r3 : Bool) (w : World) (hr0_1 : Kd.C (Kd.int .i64) w A0_1 l0_1.length l0_1) (hc0_1 : l0_1.length ≤ c0_1) (h : spec_l02Product.f k a0_0 l0_1 a1 = some (r1, r2, r3)) :
  Calls Try.prog 53 #[.agg #[.int .i64 a0_0, .slice A0_1 l0_1.length c0_1], .int .i64 a1] w fun e w' => ∃ v1_ : Value, e = .returned (.tuple #[.agg #[.int .i64 r1, v1_], .bool r3]) ∧ Kd.R (Kd.int .i64) 2 w' w.heap.size (fun _ => True) v1_ r2 ∧ Below w.heap.size w w' := by
 have hu26 := Try.underlying26
 have HR0_1 := Aside0.mk hr0_1
 have HC0_1 := Aside0.mk hc0_1
 clear hr0_1 hc0_1
 have HB := Aside0.mk (Below.refl w.heap.size w)
 have H : ((spec_l02Images.f k a0_0 l0_1).bind fun bt276 => ((spec_l01One.f k a0_0).bind fun bt282 => (spec_l02Product.l0 k bt276.1 a1 bt282.1 bt282.2))) = some (r1, r2, r3) := h
 clear h
 replace H := Option.bind_eq_some_iff.mp H
 obtain ⟨⟨t276, t279⟩, A30, H⟩ := H
 replace H : ((spec_l01One.f k a0_0).bind fun bt282 => (spec_l02Product.l0 k t276 a1 bt282.1 bt282.2)) = some (r1, r2, r3) := H
 have A3 := Aside0.mk A30
 clear A30
 replace H := Option.bind_eq_some_iff.mp H
 obtain ⟨⟨t282, t283⟩, A40, H⟩ := H
 replace H : (spec_l02Product.l0 k t276 a1 t282 t283) = some (r1, r2, r3) := H
 have A4 := Aside0.mk A40
 clear A40
 have H' := Aside0.mk H
 clear H
 go_enter Try.func53, Try.ntmps53
 go_wp2_with (first | ((with_reducible refine gate_dst (N := 2) rfl ?_); refine box_event ?hg (N := 2) ?hd (cs := #[.int .i64 a0_0, .slice A0_1 l0_1.length c0_1]) (t := 26) ?hr ?_; (case hd => rfl); (case hg => rfl); (case hr => first | (go_simp; done) | (go_simp; rfl)); intro gb274 hg w5 hbox hb; have n0_ := Aside0.mk (below_step qB60 hb); have n1_ := Aside0.mk (hbox); have n2_ := Aside0.mk ((by rw [hg]; exact (below_size qB60) : w.heap.size ≤ gb274)); have n3_ := Aside0.mk ((by rw [hg]; exact (below_size qB60) : w.heap.size ≤ gb274)); clear HB; have HB := n0_; have BK274 := n1_; have GW274 := n2_; have GE274 := n3_; clear n0_ n1_ n2_ n3_; clear hb hbox hg) | ((with_reducible refine gate_dst (N := 4) rfl ?_); refine box_event ?hg (N := 4) ?hd (cs := #[.int .i64 0, .slice none 0 0]) (t := 26) ?hr ?_; (case hd => rfl); (case hg => rfl); (case hr => first | (go_simp; done) | (go_simp; rfl)); intro gb275 hg w6 hbox hb; have n0_ := Aside0.mk (blk_below (g := gb274) (o := .cells #[.int .i64 a0_0, .slice A0_1 l0_1.length c0_1] 26 (0, 0)) qB79 hb); have n1_ := Aside0.mk (below_step qB42 hb); have n2_ := Aside0.mk (hbox); have n3_ := Aside0.mk ((by rw [hg]; exact (below_size qB42) : w.heap.size ≤ gb275)); have n4_ := Aside0.mk ((by rw [hg]; exact (below_size qB42) : w.heap.size ≤ gb275)); have n5_ := Aside0.mk ((by rw [hg]; exact Nat.ne_of_lt (blk_lt (g := gb274) (o := .cells #[.int .i64 a0_0, .slice A0_1 l0_1.length c0_1] 26 (0, 0)) qB79) : gb274 ≠ gb275)); have n6_ := Aside0.mk ((by rw [hg]; exact Nat.ne_of_gt (blk_lt (g := gb274) (o := .cells #[.int .i64 a0_0, .slice A0_1 l0_1.length c0_1] 26 (0, 0)) qB79) : gb275 ≠ gb274)); clear BK274; clear HB; have BK274 := n0_; have HB := n1_; have BK275 := n2_; have GW275 := n3_; have GE275 := n4_; have NB274_275 := n5_; have NB275_274 := n6_; clear n0_ n1_ n2_ n3_ n4_ n5_ n6_; clear hb hbox hg; have hnb7 := NB274_275.out; have hnc7 := NB275_274.out; have hcz8_0 : w6.cell? ⟨gb274, 0, none⟩ = some (.int .i64 a0_0) := (blk_cell BK274.out 0).trans rfl; have hcz8_1 : w6.cell? ⟨gb274, 1, none⟩ = some (.slice A0_1 l0_1.length c0_1) := (blk_cell BK274.out 1).trans rfl; have hfz8_0 := blk_frozen BK274.out 0; have hfz8_1 := blk_frozen BK274.out 1) | ((with_reducible refine gate_callee (f := 74) rfl ?_); refine goesL_ (some 14) rfl rfl Try.func74 (by kernel_rfl) rfl #[.agg #[.int .i64 a0_0, .slice A0_1 l0_1.length c0_1]] rfl qB58 ?_; (with_reducible refine (spec_l02Images.calls k a0_0 _ _ l0_1 t276 t279 _ ?side1 ?side2 A3.out).mono ?_); (case side1 => repeat (first | exact (Kd.C_below HR0_1.out HB.out) | (with_reducible refine Kd.C_alloc ?_ _) | (with_reducible refine Kd.C_drewN ?_ _) | (with_reducible refine Kd.C_drew ?_))); (case side2 => exact HC0_1.out); rintro e w9 ⟨v277, v280, rfl, ho0, ho1, hb⟩; refine ⟨_, rfl, ?_⟩; have n0_ := Aside0.mk (Kd.S_lower (Kd.S_newB (Kd.S_newB ho0 (g := gb274) (o := .cells #[.int .i64 a0_0, .slice A0_1 l0_1.length c0_1] 26 (0, 0)) qB79) (g := gb275) (o := .cells #[.int .i64 0, .slice none 0 0] 26 (0, 0)) qB80) (below_size qB26)); have n1_ := Aside0.mk (Kd.R_lower ho1 (below_size qB26)); have n2_ := Aside0.mk (blk_below (g := gb274) (o := .cells #[.int .i64 a0_0, .slice A0_1 l0_1.length c0_1] 26 (0, 0)) qB79 hb); have n3_ := Aside0.mk (blk_below (g := gb275) (o := .cells #[.int .i64 0, .slice none 0 0] 26 (0, 0)) qB80 hb); have n4_ := Aside0.mk (below_step qB26 hb); clear BK274; clear BK275; clear HB; have HO278 := n0_; have HO281 := n1_; have BK274 := n2_; have BK275 := n3_; have HB := n4_; clear n0_ n1_ n2_ n3_ n4_; (try clear hb); (try clear hb2); (try clear hk); (try clear hi); (try clear ho0); (try clear ho1); have hcz10_0 : w9.cell? ⟨gb274, 0, none⟩ = some (.int .i64 a0_0) := (blk_cell BK274.out 0).trans rfl; have hcz10_1 : w9.cell? ⟨gb274, 1, none⟩ = some (.slice A0_1 l0_1.length c0_1) := (blk_cell BK274.out 1).trans rfl; have hfz10_0 := blk_frozen BK274.out 0; have hfz10_1 := blk_frozen BK274.out 1) | ((with_reducible refine gate_callee (f := 45) rfl ?_); refine goesL_ (some 19) rfl rfl Try.func45 (by kernel_rfl) rfl #[.int .i64 a0_0] rfl qB58 ?_; (with_reducible refine (spec_l01One.calls k a0_0 t282 t283 _ A4.out).mono ?_); rintro e w11 ⟨v284, rfl, ho0, hb⟩; refine ⟨_, rfl, ?_⟩; have n0_ := Aside0.mk (Kd.S_elder' qB101 (Kd.R_base ho0) hb); have n1_ := Aside0.mk (Kd.R_elder' qB102 (Kd.R_base ho0) hb); have n2_ := Aside0.mk (Kd.R_lower (Kd.R_new' ho0 (Kd.R_lt qB102)) (below_size qB26)); have n3_ := Aside0.mk (blk_below (g := gb274) (o := .cells #[.int .i64 a0_0, .slice A0_1 l0_1.length c0_1] 26 (0, 0)) qB79 hb); have n4_ := Aside0.mk (blk_below (g := gb275) (o := .cells #[.int .i64 0, .slice none 0 0] 26 (0, 0)) qB80 hb); have n5_ := Aside0.mk (below_step qB26 hb); clear HO278; clear HO281; clear BK274; clear BK275; clear HB; have HO278 := n0_; have HO281 := n1_; have HO285 := n2_; have BK274 := n3_; have BK275 := n4_; have HB := n5_; clear n0_ n1_ n2_ n3_ n4_ n5_; (try clear hb); (try clear hb2); (try clear hk); (try clear hi); (try clear ho0)) | ((with_reducible refine gate_dst (N := 8) rfl ?_); refine box_event ?hg (N := 8) ?hd (cs := #[.int .i64 0, .slice none 0 0]) (t := 26) ?hr ?_; (case hd => rfl); (case hg => rfl); (case hr => first | (go_simp; done) | (go_simp; rfl)); intro gb286 hg w12 hbox hb; have n0_ := Aside0.mk (Kd.S_below (Kd.S_elderB qB101 gb286 (Nat.le_of_eq hg.symm)) hb); have n1_ := Aside0.mk (Kd.R_below qB102 hb); have n2_ := Aside0.mk (Kd.R_below (by (with_reducible repeat (first | apply Kd.R_alloc | apply Kd.R_drewN | apply Kd.R_drew)); exact HO285.out) hb); have n3_ := Aside0.mk (blk_below (g := gb274) (o := .cells #[.int .i64 a0_0, .slice A0_1 l0_1.length c0_1] 26 (0, 0)) qB79 hb); have n4_ := Aside0.mk (blk_below (g := gb275) (o := .cells #[.int .i64 0, .slice none 0 0] 26 (0, 0)) qB80 hb); have n5_ := Aside0.mk (below_step qB26 hb); have n6_ := Aside0.mk (hbox); have n7_ := Aside0.mk ((by rw [hg]; exact (below_size qB26) : w.heap.size ≤ gb286)); have n8_ := Aside0.mk ((by rw [hg]; exact (below_size qB26) : w.heap.size ≤ gb286)); have n9_ := Aside0.mk ((by rw [hg]; exact Nat.ne_of_lt (blk_lt (g := gb274) (o := .cells #[.int .i64 a0_0, .slice A0_1 l0_1.length c0_1] 26 (0, 0)) qB79) : gb274 ≠ gb286)); have n10_ := Aside0.mk ((by rw [hg]; exact Nat.ne_of_gt (blk_lt (g := gb274) (o := .cells #[.int .i64 a0_0, .slice A0_1 l0_1.length c0_1] 26 (0, 0)) qB79) : gb286 ≠ gb274)); have n11_ := Aside0.mk ((by rw [hg]; exact Nat.ne_of_lt (blk_lt (g := gb275) (o := .cells #[.int .i64 0, .slice none 0 0] 26 (0, 0)) qB80) : gb275 ≠ gb286)); have n12_ := Aside0.mk ((by rw [hg]; exact Nat.ne_of_gt (blk_lt (g := gb275) (o := .cells #[.int .i64 0, .slice none 0 0] 26 (0, 0)) qB80) : gb286 ≠ gb275)); clear HO278; clear HO281; clear HO285; clear BK274; clear BK275; clear HB; have HO278 := n0_; have HO281 := n1_; have HO285 := n2_; have BK274 := n3_; have BK275 := n4_; have HB := n5_; have BK286 := n6_; have GW286 := n7_; have GE286 := n8_; have NB274_286 := n9_; have NB286_274 := n10_; have NB275_286 := n11_; have NB286_275 := n12_; clear n0_ n1_ n2_ n3_ n4_ n5_ n6_ n7_ n8_ n9_ n10_ n11_ n12_; clear hb hbox hg; have hnb13 := NB286_274.out; have hnc13 := NB274_286.out; have hnb14 := NB286_275.out; have hnc14 := NB275_286.out; have hcz15_0 : w12.cell? ⟨gb286, 0, none⟩ = some (.int .i64 0) := (blk_cell BK286.out 0).trans rfl; have hcz15_1 : w12.cell? ⟨gb286, 1, none⟩ = some (.slice none 0 0) := (blk_cell BK286.out 1).trans rfl; have hfz15_0 := blk_frozen BK286.out 0; have hfz15_1 := blk_frozen BK286.out 1; obtain ⟨Ao16, co16, eo16⟩ := Kd.R_slice HO285.out; subst eo16))
 try simp only [Act.put, List.setIfInBounds_toArray, List.set_cons_succ, List.set_cons_zero]
 go_loopg [9] k (fun kq v9 w' => ∃ (x9_1 : Int) (x276000_1 : Int) (x287000_1 : Int) (x287001_1 : List Int) (u287001 : Value), v9 = .int .i64 x9_1 ∧ Aside0 (spec_l02Product.l0 kq t276 x9_1 x287000_1 x287001_1 = some (r1, r2, r3)) ∧ Aside0 (kq ≤ k) ∧ Aside0 (Kd.S k26 26 w' w.heap.size (fun k_ => some k_ ≠ (u287001 : Value).ownBlock ∧ k_ ≠ gb274 ∧ k_ ≠ gb275 ∧ k_ ≠ gb286) v277 t276) ∧ Aside0 (Kd.R (Kd.int .i64) 2 w' w.heap.size (fun _ => True) u287001 x287001_1) ∧ Aside0 (w'.heap[gb274]? = some (.cells #[.int .i64 a0_0, (.slice A0_1 l0_1.length c0_1)] 26 (0, 0))) ∧ Aside0 (w'.heap[gb275]? = some (.cells #[.int .i64 x276000_1, (.slice none 0 0)] 26 (0, 0))) ∧ Aside0 (w'.heap[gb286]? = some (.cells #[.int .i64 x287000_1, u287001] 26 (0, 0))) ∧ Aside0 (Below w.heap.size w w'))
 case atStart => exact ⟨(a1), (0), (t282), (t283), (.slice Ao16 t283.length co16), qB123, H', ⟨Nat.le_refl _⟩, ⟨by (with_reducible repeat (first | apply Kd.S_alloc | apply Kd.S_drewN | apply Kd.S_drew)); exact Kd.S_mono (Kd.S_far (p := ⟨gb286, 1, none⟩) (Kd.S_far (p := ⟨gb286, 0, none⟩) (Kd.S_mono HO278.out (fun k_ hk => (⟨hk, hk.2⟩ : _ ∧ k_ ≠ gb286))) (fun _ hk => hk.2) (.int .i64 t282)) (fun _ hk => hk.2) (.slice Ao16 t283.length co16)) (fun _ hk => ⟨hk.1.1.2, ⟨hk.1.1.1.1.2, ⟨hk.1.1.1.2, hk.1.2⟩⟩⟩)⟩, ⟨by (with_reducible repeat (first | apply Kd.R_alloc | apply Kd.R_drewN | apply Kd.R_drew)); exact Kd.R_mono (Kd.R_far (p := ⟨gb286, 1, none⟩) (Kd.R_far (p := ⟨gb286, 0, none⟩) (Kd.R_types HO285.out BK286.out (by decide)) (fun _ hk => hk.2) (.int .i64 t282)) (fun _ hk => hk.2) (.slice Ao16 t283.length co16)) (fun _ hk => trivial)⟩, ⟨by (with_reducible repeat (first | refine blk_drewN ?_ _ | refine blk_drew ?_ | refine blk_alloc ?_ _)); refine blk_far ?_ NB274_286.out _; (with_reducible repeat (first | refine blk_drewN ?_ _ | refine blk_drew ?_ | refine blk_alloc ?_ _)); refine blk_far ?_ NB274_286.out _; (with_reducible repeat (first | refine blk_drewN ?_ _ | refine blk_drew ?_ | refine blk_alloc ?_ _)); exact BK274.out⟩, ⟨by (with_reducible repeat (first | refine blk_drewN ?_ _ | refine blk_drew ?_ | refine blk_alloc ?_ _)); refine blk_far ?_ NB275_286.out _; (with_reducible repeat (first | refine blk_drewN ?_ _ | refine blk_drew ?_ | refine blk_alloc ?_ _)); refine blk_far ?_ NB275_286.out _; (with_reducible repeat (first | refine blk_drewN ?_ _ | refine blk_drew ?_ | refine blk_alloc ?_ _)); exact BK275.out⟩, ⟨by (with_reducible repeat (first | refine blk_drewN ?_ _ | refine blk_drew ?_ | refine blk_alloc ?_ _)); refine blk_put (cs := #[.int .i64 t282, .slice none 0 0]) ?_ 1 _ rfl; (with_reducible repeat (first | refine blk_drewN ?_ _ | refine blk_drew ?_ | refine blk_alloc ?_ _)); refine blk_put (cs := #[.int .i64 0, .slice none 0 0]) ?_ 0 _ rfl; (with_reducible repeat (first | refine blk_drewN ?_ _ | refine blk_drew ?_ | refine blk_alloc ?_ _)); exact BK286.out⟩, ⟨by repeat (first | (with_reducible first | exact HB.out | apply below_alloc | apply pw_below_drewN | apply below_drew1 | refine below_set ?_ GE274.out | refine below_set ?_ GE275.out | refine below_set ?_ GE286.out) | exact HB.out)⟩⟩
 case round =>
  clear H'
  try clear c1
  try clear p2
  try clear c4
  try clear c5
  try clear c7
  try clear c13
  try clear c14
  try clear hcz10_0
  try clear hcz10_1
  try clear hcz15_0
  try clear hcz15_1
  try clear hcz8_0
  try clear hcz8_1
  try clear hfz10_0
  try clear hfz10_1
  try clear hfz15_0
  try clear hfz15_1
  try clear hfz8_0
  try clear hfz8_1
  obtain ⟨x9_1, x276000_1, x287000_1, x287001_1, u287001, rfl, HA, HK1, HO_6, HO_287001, BK274, BK275, BK286, HB⟩ := hrel
  cases gk with
  | zero => exact absurd HA.out (by simp [spec_l02Product.l0])
  | succ k1 =>
   have H := HA.out
   clear HA
   simp only [spec_l02Product.l0] at H
   by_cases c17 : x9_1 < (t276.length : Int)
   ·rw [if_pos c17] at H
    have c17b0 : decide (x9_1 < (t276.length : Int)) = true := decide_eq_true c17
    clear c17
    by_cases c18 : 0 ≤ x9_1
    ·rw [if_pos c18] at H
     have c18b0 : decide (0 ≤ x9_1) = true := decide_eq_true c18
     clear c18
     replace H := Option.bind_eq_some_iff.mp H
     obtain ⟨⟨t288, t289, t292⟩, A190, H⟩ := H
     replace H : (if t292 = true then (spec_l02Product.l0 k1 t276 (wrap64 (x9_1 + 1)) t288 t289) else (some (0, ([] : List Int), false))) = some (r1, r2, r3) := H
     have A19 := Aside0.mk A190
     clear A190
     by_cases c20 : t292 = true
     ·subst c20
      have H1 : (spec_l02Product.l0 k1 t276 (wrap64 (x9_1 + 1)) t288 t289) = some (r1, r2, r3) := by rw [if_pos rfl] at H; exact H
      clear H
      have H := H1
      clear H1
      have H' := Aside0.mk H
      clear H
      obtain ⟨Ao21, co21, eo21⟩ := Kd.S_slice HO_6.out
      subst eo21
      obtain ⟨Ao22, co22, eo22⟩ := Kd.R_slice HO_287001.out
      subst eo22
      try go_wp2
      have n0_ := Aside0.mk (Kd.S_drew HO_6.out)
      have n1_ := Aside0.mk (Kd.R_drew HO_287001.out)
      have n2_ := Aside0.mk (blk_drew BK274.out)
      have n3_ := Aside0.mk (blk_drew BK275.out)
      have n4_ := Aside0.mk (blk_drew BK286.out)
      have n5_ := Aside0.mk (below_drew1 HB.out)
      clear HO_6
      clear HO_287001
      clear BK274
      clear BK275
      clear BK286
      clear HB
      have HO_6 := n0_
      have HO_287001 := n1_
      have BK274 := n2_
      have BK275 := n3_
      have BK286 := n4_
      have HB := n5_
      clear n0_ n1_ n2_ n3_ n4_ n5_
      have p287 : 0 ≤ (x9_1 : Int) := of_decide_eq_true qB122
      have q287 : x9_1 < (t276.length : Int) := of_decide_eq_true qB122
      obtain ⟨ad287, A287_1, c287_1, e287, hx287_0, hx287_1, hl287_1, hi287_1⟩ := at_T26 (Kd.S_reads' HO_6.out).2.2 x9_1 p287 q287
      cases e287
      obtain ⟨ce287, hce287, hMe287, hcc287⟩ := Kd.S_get HO_6.out z26 x9_1 p287 qB52
      obtain ⟨ve287_1, rfl, ge287_1⟩ := k26_openM hMe287
      have hv287_1 := hcc287 1 _ rfl
      rw [add_field _ _ 1 (by omega)] at hv287_1
      replace hv287_1 := Option.some.inj (hv287_1.symm.trans hx287_1)
      rw [hv287_1] at ge287_1
      have HL287_1 := Aside0.mk (show Kd.R (Kd.int .i64) 2 _ _ _ _ ((rd_T26 t276 x9_1).f1) from ge287_1)
      clear hv287_1 ge287_1
      clear hcc287 hce287
      have HR287_1 := Aside0.mk hi287_1
      have HC287_1 := Aside0.mk hl287_1
      clear hi287_1 hl287_1
      replace p287 := eq_true p287
      replace q287 := eq_true q287
      refine start_ (n := 12) (S := fun w' => w'.cell? ⟨gb286, 0, none⟩ = some (.int .i64 x287000_1) ∧ w'.cell? ⟨gb286, 1, none⟩ = some (.slice Ao22 x287001_1.length co22) ∧ w'.cell? (ad287.add ((x9_1).toNat * 2)) = some (.int .i64 ((rd_T26 t276 x9_1).f0)) ∧ w'.cell? ⟨(ad287.add ((x9_1).toNat * 2)).block, (ad287.add ((x9_1).toNat * 2)).off + 1, none⟩ = some (.slice A287_1 ((rd_T26 t276 x9_1).f1).length c287_1)) (ds := []) #[false, false, false, false, false, false, false, false, false, false, false, false] (by kernel_rfl) rfl rfl ⟨(blk_cell BK286.out 0).trans rfl, (blk_cell BK286.out 1).trans rfl, hx287_0, hx287_1⟩ (fun hHeld => ?_); refine with_tabW spec_l02Product.tab6 spec_l02Product.bits6 (fun HT_ HW_ => ?_)
      generalize wr.drew = w23 at HO_6 HO_287001 BK274 BK275 BK286 HB HL287_1 HR287_1 hx287_0 hx287_1 hHeld ⊢
      refine pure_ (i := 1) (N := some 29) (v := ?_) (a' := ?_) #[false, true, false, false, false, false, false, false, false, false, false, false] rfl rfl (any_of HT_.out (by kernel_rfl)) (fun _ _ _ h => h) (Or.inl ⟨by rfl, ?_⟩) ?_ ?_
      rotate_left
      ·intro w'
       go_simp
       with_reducible rfl
      rotate_left
      ·simp only [Act.put, List.setIfInBounds_toArray, List.set_cons_zero, List.set_cons_succ, i64_w, i32_w]
       rfl
      refine pure_ (i := 2) (N := some 30) (v := ?_) (a' := ?_) #[false, true, true, false, false, false, false, false, false, false, false, false] rfl rfl (any_of HT_.out (by kernel_rfl)) (fun _ _ _ h => h) (Or.inl ⟨by rfl, ?_⟩) ?_ ?_
      rotate_left
      ·intro w'
       go_simp
       with_reducible rfl
      rotate_left
      ·simp only [Act.put, List.setIfInBounds_toArray, List.set_cons_zero, List.set_cons_succ, i64_w, i32_w]
       rfl
      refine pure_ (i := 3) (N := some 31) (v := ?_) (a' := ?_) #[false, true, true, true, false, false, false, false, false, false, false, false] rfl rfl (any_of HT_.out (by kernel_rfl)) (fun _ _ _ h => h) (Or.inl ⟨by rfl, ?_⟩) ?_ ?_
      rotate_left
      ·intro w'
       go_simp
       with_reducible rfl
      rotate_left
      ·simp only [Act.put, List.setIfInBounds_toArray, List.set_cons_zero, List.set_cons_succ, i64_w, i32_w]
       rfl
      refine take_ (i := 0) (N := some 28) (v := ?_) (a' := ?_) #[true, true, true, true, false, false, false, false, false, false, false, false] rfl rfl (take_ofW HT_.out HW_.out (by kernel_rfl)) (fun _ _ _ h => h) (Or.inl ⟨by rfl, ?_⟩) hHeld ?_ ?_
      rotate_left
      ·rintro w' ⟨s0, s1, s2, s3⟩
       go_simp
       with_reducible rfl
      rotate_left
      ·simp only [Act.put, List.setIfInBounds_toArray, List.set_cons_zero, List.set_cons_succ, i64_w, i32_w]
       rfl
      refine take_ (i := 4) (N := some 32) (v := ?_) (a' := ?_) #[true, true, true, true, true, false, false, false, false, false, false, false] rfl rfl (take_ofW HT_.out HW_.out (by kernel_rfl)) (fun _ _ _ h => h) (Or.inl ⟨by rfl, ?_⟩) hHeld ?_ ?_
      rotate_left
      ·rintro w' ⟨s0, s1, s2, s3⟩
       go_simp
       with_reducible rfl
      rotate_left
      ·simp only [Act.put, List.setIfInBounds_toArray, List.set_cons_zero, List.set_cons_succ, i64_w, i32_w]
       rfl
      refine join_ (σ := Value × Nat) 2 #[true, true, true, true, true, true, true, true, true, true, false, false] (fun s_ => [(33, .tuple #[.agg #[.int .i64 t288, s_.1], .bool true]), (10, .pointer (some ⟨s_.2, 0, none⟩)), (27, .tuple #[.agg #[.int .i64 t288, s_.1], .bool true]), (34, .agg #[.int .i64 t288, s_.1]), (35, .bool true)]) (fun s_ w' => (w'.cell? ⟨gb286, 0, none⟩ = some (.int .i64 x287000_1) ∧ w'.cell? ⟨gb286, 1, none⟩ = some (.slice Ao22 x287001_1.length co22) ∧ w'.cell? (ad287.add ((x9_1).toNat * 2)) = some (.int .i64 ((rd_T26 t276 x9_1).f0)) ∧ w'.cell? ⟨(ad287.add ((x9_1).toNat * 2)).block, (ad287.add ((x9_1).toNat * 2)).off + 1, none⟩ = some (.slice A287_1 ((rd_T26 t276 x9_1).f1).length c287_1)) ∧ (Kd.R (Kd.int .i64) 2 w' w.heap.size (fun k_ => some k_ ≠ (s_.1 : Value).ownBlock ∧ some k_ ≠ (.slice Ao22 x287001_1.length co22 : Value).ownBlock ∧ some k_ ≠ (.slice (some ad287) t276.length co21 : Value).ownBlock ∧ k_ ≠ gb274 ∧ k_ ≠ gb275 ∧ k_ ≠ gb286) (.slice A287_1 ((rd_T26 t276 x9_1).f1).length c287_1) ((rd_T26 t276 x9_1).f1)) ∧ (Kd.R (Kd.int .i64) 2 w' w.heap.size (fun k_ => some k_ ≠ (.slice A287_1 ((rd_T26 t276 x9_1).f1).length c287_1 : Value).ownBlock ∧ some k_ ≠ (.slice Ao22 x287001_1.length co22 : Value).ownBlock) s_.1 t289) ∧ (Kd.R (Kd.int .i64) 2 w' w.heap.size (fun k_ => some k_ ≠ (s_.1 : Value).ownBlock) (.slice Ao22 x287001_1.length co22) x287001_1) ∧ (Kd.S k26 26 w' w.heap.size (fun k_ => some k_ ≠ (s_.1 : Value).ownBlock ∧ some k_ ≠ (.slice Ao22 x287001_1.length co22 : Value).ownBlock ∧ k_ ≠ gb274 ∧ k_ ≠ gb275 ∧ k_ ≠ gb286 ∧ k_ ≠ s_.2) (.slice (some ad287) t276.length co21) t276) ∧ (w'.heap[gb274]? = some (.cells #[.int .i64 a0_0, .slice A0_1 l0_1.length c0_1] 26 (0, 0))) ∧ (w'.heap[gb275]? = some (.cells #[.int .i64 x276000_1, .slice none 0 0] 26 (0, 0))) ∧ (w'.heap[gb286]? = some (.cells #[.int .i64 x287000_1, .slice Ao22 x287001_1.length co22] 26 (0, 0))) ∧ (w'.heap[s_.2]? = some (.cells #[.int .i64 0, .slice none 0 0] 26 (0, 0))) ∧ (w.heap.size ≤ s_.2) ∧ (w.heap.size ≤ s_.2) ∧ (gb274 ≠ s_.2) ∧ (s_.2 ≠ gb274) ∧ (gb275 ≠ s_.2) ∧ (s_.2 ≠ gb275) ∧ (gb286 ≠ s_.2) ∧ (s_.2 ≠ gb286) ∧ (Below w.heap.size w w')) ?_ ?_
      rotate_left
      ·intro hCont
       refine two_ (i := 5) (j := 9) (Ni := some 33) (Nj := some 10) #[true, true, true, true, true, true, false, false, false, false, false, false] #[true, true, true, true, true, false, false, false, false, true, false, false] rfl rfl rfl rfl (two_of HT_.out (by kernel_rfl)) (by decide) (by decide) (fun K hK => ?_) (fun K hK => ?_)
       ·skip
        refine goes_ Try.func37 (by kernel_rfl) rfl #[.agg #[.int .i64 x287000_1, .slice Ao22 x287001_1.length co22], .agg #[.int .i64 ((rd_T26 t276 x9_1).f0), .slice A287_1 ((rd_T26 t276 x9_1).f1).length c287_1]] (by rfl) rfl rfl qB58 ?_
        with_reducible refine (spec_l01Times.calls k1 x287000_1 _ _ x287001_1 ((rd_T26 t276 x9_1).f0) _ _ ((rd_T26 t276 x9_1).f1) t288 t289 true _ ?side1 ?side2 ?side3 ?side4 A19.out).mono ?_
        (case side1 => repeat (first | exact (Kd.R_reads' HO_287001.out).2.2 | (with_reducible refine Kd.C_alloc ?_ _) | (with_reducible refine Kd.C_drewN ?_ _) | (with_reducible refine Kd.C_drew ?_)))
        (case side2 => exact (Kd.R_reads' HO_287001.out).2.1)
        (case side3 => repeat (first | exact qB28 | (with_reducible refine Kd.C_alloc ?_ _) | (with_reducible refine Kd.C_drewN ?_ _) | (with_reducible refine Kd.C_drew ?_)))
        (case side4 => exact HC287_1.out)
        rintro e w24 ⟨v290, rfl, ho0, hb⟩
        have HS2_ := (hb.cell (World.block_lt_of_cell? _ _ (hHeld.2.2.1))).trans (hHeld.2.2.1)
        have HS3_ := (hb.cell (World.block_lt_of_cell? _ _ (hHeld.2.2.2))).trans (hHeld.2.2.2)
        refine ⟨_, rfl, ?_⟩
        have n0_ := Aside0.mk (Kd.S_elder' qB117 (Kd.R_base ho0) hb)
        have n1_ := Aside0.mk (Kd.R_elder' qB91 (Kd.R_base ho0) hb)
        have n2_ := Aside0.mk (Kd.R_elder' qB93 (Kd.R_base ho0) hb)
        have n3_ := Aside0.mk (Kd.R_lower (Kd.R_new' (Kd.R_new' ho0 (Kd.R_lt qB91)) (Kd.R_lt qB93)) (below_size qB17))
        have n4_ := Aside0.mk (blk_below (g := gb274) (o := .cells #[.int .i64 a0_0, .slice A0_1 l0_1.length c0_1] 26 (0, 0)) qB79 hb)
        have n5_ := Aside0.mk (blk_below (g := gb275) (o := .cells #[.int .i64 x276000_1, .slice none 0 0] 26 (0, 0)) qB80 hb)
        have n6_ := Aside0.mk (blk_below (g := gb286) (o := .cells #[.int .i64 x287000_1, .slice Ao22 x287001_1.length co22] 26 (0, 0)) qB81 hb)
        have n7_ := Aside0.mk (Kd.C_below qB28 hb)
        have n8_ := Aside0.mk (below_step qB17 hb)
        clear HO_6
        clear HO_287001
        clear HL287_1
        clear BK274
        clear BK275
        clear BK286
        clear HR287_1
        clear HB
        have HO_6 := n0_
        have HO_287001 := n1_
        have HL287_1 := n2_
        have HO291 := n3_
        have BK274 := n4_
        have BK275 := n5_
        have BK286 := n6_
        have HR287_1 := n7_
        have HB := n8_
        clear n0_ n1_ n2_ n3_ n4_ n5_ n6_ n7_ n8_
        (try clear hb)
        (try clear hb2)
        (try clear hk)
        (try clear hi)
        (try clear ho0)
        refine hK.out _ _ ⟨(blk_cell BK286.out 0).trans rfl, (blk_cell BK286.out 1).trans rfl, HS2_, HS3_⟩ (fun hHeld => ?_)
        clear hK K
        refine norm_ (a' := ?_) ?_ ?_
        rotate_left
        ·show Act.put _ (some 33) _ = _
         simp only [Act.put, List.setIfInBounds_toArray, List.set_cons_zero, List.set_cons_succ, i64_w, i32_w]
         rfl
        refine pure_ (i := 6) (N := some 27) (v := ?_) (a' := ?_) #[true, true, true, true, true, true, true, false, false, false, false, false] rfl rfl (any_of HT_.out (by kernel_rfl)) (fun _ _ _ h => h) (Or.inl ⟨by rfl, ?_⟩) ?_ ?_
        rotate_left
        ·intro w'
         go_simp
         with_reducible rfl
        rotate_left
        ·simp only [Act.put, List.setIfInBounds_toArray, List.set_cons_zero, List.set_cons_succ, i64_w, i32_w]
         rfl
        refine pure_ (i := 7) (N := some 34) (v := ?_) (a' := ?_) #[true, true, true, true, true, true, true, true, false, false, false, false] rfl rfl (any_of HT_.out (by kernel_rfl)) (fun _ _ _ h => h) (Or.inl ⟨by rfl, ?_⟩) ?_ ?_
        rotate_left
        ·intro w'
         go_simp
         with_reducible rfl
        rotate_left
        ·simp only [Act.put, List.setIfInBounds_toArray, List.set_cons_zero, List.set_cons_succ, i64_w, i32_w]
         rfl
        refine pure_ (i := 8) (N := some 35) (v := ?_) (a' := ?_) #[true, true, true, true, true, true, true, true, true, false, false, false] rfl rfl (any_of HT_.out (by kernel_rfl)) (fun _ _ _ h => h) (Or.inl ⟨by rfl, ?_⟩) ?_ ?_
        rotate_left
        ·intro w'
         go_simp
         with_reducible rfl
        rotate_left
        ·simp only [Act.put, List.setIfInBounds_toArray, List.set_cons_zero, List.set_cons_succ, i64_w, i32_w]
         rfl
        refine one_ (i := 9) (N := some 10) #[true, true, true, true, true, true, true, true, true, true, false, false] rfl rfl (one_of HT_.out (by kernel_rfl)) (by decide) (fun K hK => ?_)
        refine box_step ?hg (N := 10) ?hd (cs := #[.int .i64 0, .slice none 0 0]) (t := 26) ?hr ?_; (case hd => rfl); (case hg => rfl); (case hr => first | (go_simp; done) | (go_simp; rfl))
        intro gb293 hg w25 hbox hb
        have HS2_ := (hb.cell (World.block_lt_of_cell? _ _ (hHeld.2.2.1))).trans (hHeld.2.2.1)
        have HS3_ := (hb.cell (World.block_lt_of_cell? _ _ (hHeld.2.2.2))).trans (hHeld.2.2.2)
        have n0_ := Aside0.mk (Kd.S_below (Kd.S_elderB qB117 gb293 (Nat.le_of_eq hg.symm)) hb)
        have n1_ := Aside0.mk (Kd.R_below qB91 hb)
        have n2_ := Aside0.mk (Kd.R_below qB93 hb)
        have n3_ := Aside0.mk (Kd.R_below qB103 hb)
        have n4_ := Aside0.mk (blk_below (g := gb274) (o := .cells #[.int .i64 a0_0, .slice A0_1 l0_1.length c0_1] 26 (0, 0)) qB79 hb)
        have n5_ := Aside0.mk (blk_below (g := gb275) (o := .cells #[.int .i64 x276000_1, .slice none 0 0] 26 (0, 0)) qB80 hb)
        have n6_ := Aside0.mk (blk_below (g := gb286) (o := .cells #[.int .i64 x287000_1, .slice Ao22 x287001_1.length co22] 26 (0, 0)) qB81 hb)
        have n7_ := Aside0.mk (Kd.C_below qB28 hb)
        have n8_ := Aside0.mk (below_step qB17 hb)
        have n9_ := Aside0.mk (hbox)
        have n10_ := Aside0.mk ((by rw [hg]; exact (below_size qB17) : w.heap.size ≤ gb293))
        have n11_ := Aside0.mk ((by rw [hg]; exact (below_size qB17) : w.heap.size ≤ gb293))
        have n12_ := Aside0.mk ((by rw [hg]; exact Nat.ne_of_lt (blk_lt (g := gb274) (o := .cells #[.int .i64 a0_0, .slice A0_1 l0_1.length c0_1] 26 (0, 0)) qB79) : gb274 ≠ gb293))
        have n13_ := Aside0.mk ((by rw [hg]; exact Nat.ne_of_gt (blk_lt (g := gb274) (o := .cells #[.int .i64 a0_0, .slice A0_1 l0_1.length c0_1] 26 (0, 0)) qB79) : gb293 ≠ gb274))
        have n14_ := Aside0.mk ((by rw [hg]; exact Nat.ne_of_lt (blk_lt (g := gb275) (o := .cells #[.int .i64 x276000_1, .slice none 0 0] 26 (0, 0)) qB80) : gb275 ≠ gb293))
        have n15_ := Aside0.mk ((by rw [hg]; exact Nat.ne_of_gt (blk_lt (g := gb275) (o := .cells #[.int .i64 x276000_1, .slice none 0 0] 26 (0, 0)) qB80) : gb293 ≠ gb275))
        have n16_ := Aside0.mk ((by rw [hg]; exact Nat.ne_of_lt (blk_lt (g := gb286) (o := .cells #[.int .i64 x287000_1, .slice Ao22 x287001_1.length co22] 26 (0, 0)) qB81) : gb286 ≠ gb293))
        have n17_ := Aside0.mk ((by rw [hg]; exact Nat.ne_of_gt (blk_lt (g := gb286) (o := .cells #[.int .i64 x287000_1, .slice Ao22 x287001_1.length co22] 26 (0, 0)) qB81) : gb293 ≠ gb286))
        clear HO_6
        clear HO_287001
        clear HL287_1
        clear HO291
        clear BK274
        clear BK275
        clear BK286
        clear HR287_1
        clear HB
        have HO_6 := n0_
        have HO_287001 := n1_
        have HL287_1 := n2_
        have HO291 := n3_
        have BK274 := n4_
        have BK275 := n5_
        have BK286 := n6_
        have HR287_1 := n7_
        have HB := n8_
        have BK293 := n9_
        have GW293 := n10_
        have GE293 := n11_
        have NB274_293 := n12_
        have NB293_274 := n13_
        have NB275_293 := n14_
        have NB293_275 := n15_
        have NB286_293 := n16_
        have NB293_286 := n17_
        clear n0_ n1_ n2_ n3_ n4_ n5_ n6_ n7_ n8_ n9_ n10_ n11_ n12_ n13_ n14_ n15_ n16_ n17_
        clear hb hbox hg
        refine hK.out _ _ ⟨(blk_cell BK286.out 0).trans rfl, (blk_cell BK286.out 1).trans rfl, HS2_, HS3_⟩ (fun hHeld => ?_)
        clear hK K
        refine norm_ (a' := ?_) ?_ ?_
        rotate_left
        ·show Act.put _ (some 10) _ = _
         simp only [Act.put, List.setIfInBounds_toArray, List.set_cons_zero, List.set_cons_succ, i64_w, i32_w]
         rfl
        exact norm_ qB120 (hCont (v290, gb293) _ ⟨hHeld, qB19, qB54, qB59, qB20, qB79, qB80, qB81, qB82, GW293.out, GE293.out, NB274_293.out, NB293_274.out, NB275_293.out, NB293_275.out, NB286_293.out, NB293_286.out, qB14⟩)
       ·skip
        refine box_step ?hg (N := 10) ?hd (cs := #[.int .i64 0, .slice none 0 0]) (t := 26) ?hr ?_; (case hd => rfl); (case hg => rfl); (case hr => first | (go_simp; done) | (go_simp; rfl))
        intro gb293 hg w24 hbox hb
        have HS2_ := (hb.cell (World.block_lt_of_cell? _ _ (hHeld.2.2.1))).trans (hHeld.2.2.1)
        have HS3_ := (hb.cell (World.block_lt_of_cell? _ _ (hHeld.2.2.2))).trans (hHeld.2.2.2)
        have n0_ := Aside0.mk (Kd.S_below (Kd.S_elderB qB117 gb293 (Nat.le_of_eq hg.symm)) hb)
        have n1_ := Aside0.mk (Kd.R_below qB91 hb)
        have n2_ := Aside0.mk (Kd.R_below qB93 hb)
        have n3_ := Aside0.mk (blk_below (g := gb274) (o := .cells #[.int .i64 a0_0, .slice A0_1 l0_1.length c0_1] 26 (0, 0)) qB79 hb)
        have n4_ := Aside0.mk (blk_below (g := gb275) (o := .cells #[.int .i64 x276000_1, .slice none 0 0] 26 (0, 0)) qB80 hb)
        have n5_ := Aside0.mk (blk_below (g := gb286) (o := .cells #[.int .i64 x287000_1, .slice Ao22 x287001_1.length co22] 26 (0, 0)) qB81 hb)
        have n6_ := Aside0.mk (Kd.C_below qB28 hb)
        have n7_ := Aside0.mk (below_step qB17 hb)
        have n8_ := Aside0.mk (hbox)
        have n9_ := Aside0.mk ((by rw [hg]; exact (below_size qB17) : w.heap.size ≤ gb293))
        have n10_ := Aside0.mk ((by rw [hg]; exact (below_size qB17) : w.heap.size ≤ gb293))
        have n11_ := Aside0.mk ((by rw [hg]; exact Nat.ne_of_lt (blk_lt (g := gb274) (o := .cells #[.int .i64 a0_0, .slice A0_1 l0_1.length c0_1] 26 (0, 0)) qB79) : gb274 ≠ gb293))
        have n12_ := Aside0.mk ((by rw [hg]; exact Nat.ne_of_gt (blk_lt (g := gb274) (o := .cells #[.int .i64 a0_0, .slice A0_1 l0_1.length c0_1] 26 (0, 0)) qB79) : gb293 ≠ gb274))
        have n13_ := Aside0.mk ((by rw [hg]; exact Nat.ne_of_lt (blk_lt (g := gb275) (o := .cells #[.int .i64 x276000_1, .slice none 0 0] 26 (0, 0)) qB80) : gb275 ≠ gb293))
        have n14_ := Aside0.mk ((by rw [hg]; exact Nat.ne_of_gt (blk_lt (g := gb275) (o := .cells #[.int .i64 x276000_1, .slice none 0 0] 26 (0, 0)) qB80) : gb293 ≠ gb275))
        have n15_ := Aside0.mk ((by rw [hg]; exact Nat.ne_of_lt (blk_lt (g := gb286) (o := .cells #[.int .i64 x287000_1, .slice Ao22 x287001_1.length co22] 26 (0, 0)) qB81) : gb286 ≠ gb293))
        have n16_ := Aside0.mk ((by rw [hg]; exact Nat.ne_of_gt (blk_lt (g := gb286) (o := .cells #[.int .i64 x287000_1, .slice Ao22 x287001_1.length co22] 26 (0, 0)) qB81) : gb293 ≠ gb286))
        clear HO_6
        clear HO_287001
        clear HL287_1
        clear BK274
        clear BK275
        clear BK286
        clear HR287_1
        clear HB
        have HO_6 := n0_
        have HO_287001 := n1_
        have HL287_1 := n2_
        have BK274 := n3_
        have BK275 := n4_
        have BK286 := n5_
        have HR287_1 := n6_
        have HB := n7_
        have BK293 := n8_
        have GW293 := n9_
        have GE293 := n10_
        have NB274_293 := n11_
        have NB293_274 := n12_
        have NB275_293 := n13_
        have NB293_275 := n14_
        have NB286_293 := n15_
        have NB293_286 := n16_
        clear n0_ n1_ n2_ n3_ n4_ n5_ n6_ n7_ n8_ n9_ n10_ n11_ n12_ n13_ n14_ n15_ n16_
        clear hb hbox hg
        refine hK.out _ _ ⟨(blk_cell BK286.out 0).trans rfl, (blk_cell BK286.out 1).trans rfl, HS2_, HS3_⟩ (fun hHeld => ?_)
        clear hK K
        refine norm_ (a' := ?_) ?_ ?_
        rotate_left
        ·show Act.put _ (some 10) _ = _
         simp only [Act.put, List.setIfInBounds_toArray, List.set_cons_zero, List.set_cons_succ, i64_w, i32_w]
         rfl
        refine one_ (i := 5) (N := some 33) #[true, true, true, true, true, true, false, false, false, true, false, false] rfl rfl (one_of HT_.out (by kernel_rfl)) (by decide) (fun K hK => ?_)
        refine goes_ Try.func37 (by kernel_rfl) rfl #[.agg #[.int .i64 x287000_1, .slice Ao22 x287001_1.length co22], .agg #[.int .i64 ((rd_T26 t276 x9_1).f0), .slice A287_1 ((rd_T26 t276 x9_1).f1).length c287_1]] (by rfl) rfl rfl qB58 ?_
        with_reducible refine (spec_l01Times.calls k1 x287000_1 _ _ x287001_1 ((rd_T26 t276 x9_1).f0) _ _ ((rd_T26 t276 x9_1).f1) t288 t289 true _ ?side1 ?side2 ?side3 ?side4 A19.out).mono ?_
        (case side1 => repeat (first | exact (Kd.R_reads' HO_287001.out).2.2 | (with_reducible refine Kd.C_alloc ?_ _) | (with_reducible refine Kd.C_drewN ?_ _) | (with_reducible refine Kd.C_drew ?_)))
        (case side2 => exact (Kd.R_reads' HO_287001.out).2.1)
        (case side3 => repeat (first | exact qB28 | (with_reducible refine Kd.C_alloc ?_ _) | (with_reducible refine Kd.C_drewN ?_ _) | (with_reducible refine Kd.C_drew ?_)))
        (case side4 => exact HC287_1.out)
        rintro e w25 ⟨v290, rfl, ho0, hb⟩
        have HS2_ := (hb.cell (World.block_lt_of_cell? _ _ (hHeld.2.2.1))).trans (hHeld.2.2.1)
        have HS3_ := (hb.cell (World.block_lt_of_cell? _ _ (hHeld.2.2.2))).trans (hHeld.2.2.2)
        refine ⟨_, rfl, ?_⟩
        have n0_ := Aside0.mk (Kd.S_elder' qB117 (Kd.R_base ho0) hb)
        have n1_ := Aside0.mk (Kd.R_elder' qB91 (Kd.R_base ho0) hb)
        have n2_ := Aside0.mk (Kd.R_elder' qB93 (Kd.R_base ho0) hb)
        have n3_ := Aside0.mk (Kd.R_lower (Kd.R_new' (Kd.R_new' ho0 (Kd.R_lt qB91)) (Kd.R_lt qB93)) (below_size qB14))
        have n4_ := Aside0.mk (blk_below (g := gb274) (o := .cells #[.int .i64 a0_0, .slice A0_1 l0_1.length c0_1] 26 (0, 0)) qB79 hb)
        have n5_ := Aside0.mk (blk_below (g := gb275) (o := .cells #[.int .i64 x276000_1, .slice none 0 0] 26 (0, 0)) qB80 hb)
        have n6_ := Aside0.mk (blk_below (g := gb286) (o := .cells #[.int .i64 x287000_1, .slice Ao22 x287001_1.length co22] 26 (0, 0)) qB81 hb)
        have n7_ := Aside0.mk (Kd.C_below qB28 hb)
        have n8_ := Aside0.mk (blk_below (g := gb293) (o := .cells #[.int .i64 0, .slice none 0 0] 26 (0, 0)) qB82 hb)
        have n9_ := Aside0.mk (below_step qB14 hb)
        clear HO_6
        clear HO_287001
        clear HL287_1
        clear BK274
        clear BK275
        clear BK286
        clear HR287_1
        clear BK293
        clear HB
        have HO_6 := n0_
        have HO_287001 := n1_
        have HL287_1 := n2_
        have HO291 := n3_
        have BK274 := n4_
        have BK275 := n5_
        have BK286 := n6_
        have HR287_1 := n7_
        have BK293 := n8_
        have HB := n9_
        clear n0_ n1_ n2_ n3_ n4_ n5_ n6_ n7_ n8_ n9_
        (try clear hb)
        (try clear hb2)
        (try clear hk)
        (try clear hi)
        (try clear ho0)
        refine hK.out _ _ ⟨(blk_cell BK286.out 0).trans rfl, (blk_cell BK286.out 1).trans rfl, HS2_, HS3_⟩ (fun hHeld => ?_)
        clear hK K
        refine norm_ (a' := ?_) ?_ ?_
        rotate_left
        ·show Act.put _ (some 33) _ = _
         simp only [Act.put, List.setIfInBounds_toArray, List.set_cons_zero, List.set_cons_succ, i64_w, i32_w]
         rfl
        refine pure_ (i := 6) (N := some 27) (v := ?_) (a' := ?_) #[true, true, true, true, true, true, true, false, false, true, false, false] rfl rfl (any_of HT_.out (by kernel_rfl)) (fun _ _ _ h => h) (Or.inl ⟨by rfl, ?_⟩) ?_ ?_
        rotate_left
        ·intro w'
         go_simp
         with_reducible rfl
        rotate_left
        ·simp only [Act.put, List.setIfInBounds_toArray, List.set_cons_zero, List.set_cons_succ, i64_w, i32_w]
         rfl
        refine pure_ (i := 7) (N := some 34) (v := ?_) (a' := ?_) #[true, true, true, true, true, true, true, true, false, true, false, false] rfl rfl (any_of HT_.out (by kernel_rfl)) (fun _ _ _ h => h) (Or.inl ⟨by rfl, ?_⟩) ?_ ?_
        rotate_left
        ·intro w'
         go_simp
         with_reducible rfl
        rotate_left
        ·simp only [Act.put, List.setIfInBounds_toArray, List.set_cons_zero, List.set_cons_succ, i64_w, i32_w]
         rfl
        refine pure_ (i := 8) (N := some 35) (v := ?_) (a' := ?_) #[true, true, true, true, true, true, true, true, true, true, false, false] rfl rfl (any_of HT_.out (by kernel_rfl)) (fun _ _ _ h => h) (Or.inl ⟨by rfl, ?_⟩) ?_ ?_
        rotate_left
        ·intro w'
         go_simp
         with_reducible rfl
        rotate_left
        ·simp only [Act.put, List.setIfInBounds_toArray, List.set_cons_zero, List.set_cons_succ, i64_w, i32_w]
         rfl
        exact norm_ qB120 (hCont (v290, gb293) _ ⟨hHeld, qB19, qB54, qB59, qB21, qB79, qB80, qB81, qB82, GW293.out, GE293.out, NB274_293.out, NB293_274.out, NB275_293.out, NB293_275.out, NB286_293.out, NB293_286.out, qB14⟩)
      rintro ⟨v290, gb293⟩ w26 ⟨hS_, h0_, h1_, h2_, h3_, h4_, h5_, h6_, h7_, h8_, h9_, h10_, h11_, h12_, h13_, h14_, h15_, h16_⟩
      have n0_ : Aside0 (Kd.R (Kd.int .i64) 2 w26 w.heap.size (fun k_ => some k_ ≠ (v290 : Value).ownBlock ∧ some k_ ≠ (.slice Ao22 x287001_1.length co22 : Value).ownBlock ∧ some k_ ≠ (.slice (some ad287) t276.length co21 : Value).ownBlock ∧ k_ ≠ gb274 ∧ k_ ≠ gb275 ∧ k_ ≠ gb286) (.slice A287_1 ((rd_T26 t276 x9_1).f1).length c287_1) ((rd_T26 t276 x9_1).f1)) := ⟨h0_⟩
      have n1_ : Aside0 (Kd.R (Kd.int .i64) 2 w26 w.heap.size (fun k_ => some k_ ≠ (.slice A287_1 ((rd_T26 t276 x9_1).f1).length c287_1 : Value).ownBlock ∧ some k_ ≠ (.slice Ao22 x287001_1.length co22 : Value).ownBlock) v290 t289) := ⟨h1_⟩
      have n2_ : Aside0 (Kd.R (Kd.int .i64) 2 w26 w.heap.size (fun k_ => some k_ ≠ (v290 : Value).ownBlock) (.slice Ao22 x287001_1.length co22) x287001_1) := ⟨h2_⟩
      have n3_ : Aside0 (Kd.S k26 26 w26 w.heap.size (fun k_ => some k_ ≠ (v290 : Value).ownBlock ∧ some k_ ≠ (.slice Ao22 x287001_1.length co22 : Value).ownBlock ∧ k_ ≠ gb274 ∧ k_ ≠ gb275 ∧ k_ ≠ gb286 ∧ k_ ≠ gb293) (.slice (some ad287) t276.length co21) t276) := ⟨h3_⟩
      have n4_ : Aside0 (w26.heap[gb274]? = some (.cells #[.int .i64 a0_0, .slice A0_1 l0_1.length c0_1] 26 (0, 0))) := ⟨h4_⟩
      have n5_ : Aside0 (w26.heap[gb275]? = some (.cells #[.int .i64 x276000_1, .slice none 0 0] 26 (0, 0))) := ⟨h5_⟩
      have n6_ : Aside0 (w26.heap[gb286]? = some (.cells #[.int .i64 x287000_1, .slice Ao22 x287001_1.length co22] 26 (0, 0))) := ⟨h6_⟩
      have n7_ : Aside0 (w26.heap[gb293]? = some (.cells #[.int .i64 0, .slice none 0 0] 26 (0, 0))) := ⟨h7_⟩
      have n8_ : Aside0 (w.heap.size ≤ gb293) := ⟨h8_⟩
      have n9_ : Aside0 (w.heap.size ≤ gb293) := ⟨h9_⟩
      have n10_ : Aside0 (gb274 ≠ gb293) := ⟨h10_⟩
      have n11_ : Aside0 (gb293 ≠ gb274) := ⟨h11_⟩
      have n12_ : Aside0 (gb275 ≠ gb293) := ⟨h12_⟩
      have n13_ : Aside0 (gb293 ≠ gb275) := ⟨h13_⟩
      have n14_ : Aside0 (gb286 ≠ gb293) := ⟨h14_⟩
      have n15_ : Aside0 (gb293 ≠ gb286) := ⟨h15_⟩
      have n16_ : Aside0 (Below w.heap.size w w26) := ⟨h16_⟩
      clear HO_6
      clear HO_287001
      clear BK274
      clear BK275
      clear BK286
      clear HB
      clear h0_ h1_ h2_ h3_ h4_ h5_ h6_ h7_ h8_ h9_ h10_ h11_ h12_ h13_ h14_ h15_ h16_
      have HL287_1 := n0_
      have HO291 := n1_
      have HO_287001 := n2_
      have HO_6 := n3_
      have BK274 := n4_
      have BK275 := n5_
      have BK286 := n6_
      have BK293 := n7_
      have GW293 := n8_
      have GE293 := n9_
      have NB274_293 := n10_
      have NB293_274 := n11_
      have NB275_293 := n12_
      have NB293_275 := n13_
      have NB286_293 := n14_
      have NB293_286 := n15_
      have HB := n16_
      clear n0_ n1_ n2_ n3_ n4_ n5_ n6_ n7_ n8_ n9_ n10_ n11_ n12_ n13_ n14_ n15_ n16_
      have hHeld : w26.cell? ⟨gb286, 0, none⟩ = some (.int .i64 x287000_1) ∧ w26.cell? ⟨gb286, 1, none⟩ = some (.slice Ao22 x287001_1.length co22) ∧ w26.cell? (ad287.add ((x9_1).toNat * 2)) = some (.int .i64 ((rd_T26 t276 x9_1).f0)) ∧ w26.cell? ⟨(ad287.add ((x9_1).toNat * 2)).block, (ad287.add ((x9_1).toNat * 2)).off + 1, none⟩ = some (.slice A287_1 ((rd_T26 t276 x9_1).f1).length c287_1) := hS_
      obtain ⟨Ao28, co28, eo28⟩ := Kd.R_slice HO291.out
      (first | subst eo28 | (injection eo28 with f1_ f2_ f3_; have f4_ := f1_.symm; have f5_ := f3_.symm; clear f1_ f2_ f3_; subst f4_; subst f5_))
      refine norm_ (a' := ?_) ?_ ?_
      rotate_left
      ·simp only [putAll, Act.put, List.setIfInBounds_toArray, List.set_cons_zero, List.set_cons_succ]
       rfl
      refine one_ (i := 10) (N := none) #[true, true, true, true, true, true, true, true, true, true, true, false] rfl rfl (one_of HT_.out (by kernel_rfl)) (by decide) (fun K hK => ?_)
      have hs27 : w26.cell? ⟨gb293, 0, none⟩ = some (.int .i64 0) := (blk_cell BK293.out 0).trans rfl
      have hfs27 := blk_frozen BK293.out 0
      have hns27_0 := NB274_293.out
      have hns27_1 := NB275_293.out
      have hns27_2 := NB286_293.out
      have hms27_0 := NB293_274.out
      have hms27_1 := NB293_275.out
      have hms27_2 := NB293_286.out
      have hs29 : w26.cell? ⟨gb293, 1, none⟩ = some (.slice none 0 0) := (blk_cell BK293.out 1).trans rfl
      have hfs29 := blk_frozen BK293.out 1
      have hns29_0 := NB274_293.out
      have hns29_1 := NB275_293.out
      have hns29_2 := NB286_293.out
      have hms29_0 := NB293_274.out
      have hms29_1 := NB293_275.out
      have hms29_2 := NB293_286.out
      refine skip_ (w1 := ?_) (by rfl) rfl ?_ ?_
      rotate_left
      ·go_simp
       rfl
      refine hK.out _ _ ⟨((cell_far (p := ⟨gb293, _, none⟩) NB286_293.out _).trans (((cell_far (p := ⟨gb293, _, none⟩) NB286_293.out _).trans (hHeld.1)))), ((cell_far (p := ⟨gb293, _, none⟩) NB286_293.out _).trans (((cell_far (p := ⟨gb293, _, none⟩) NB286_293.out _).trans (hHeld.2.1)))), ((cell_far (p := ⟨gb293, _, none⟩) qB7 _).trans (((cell_far (p := ⟨gb293, _, none⟩) qB7 _).trans (hHeld.2.2.1)))), ((cell_far (p := ⟨gb293, _, none⟩) qB7 _).trans (((cell_far (p := ⟨gb293, _, none⟩) qB7 _).trans (hHeld.2.2.2))))⟩ (fun hHeld => ?_)
      clear hK K
      refine pure_ (i := 11) (N := some 11) (v := ?_) (a' := ?_) #[true, true, true, true, true, true, true, true, true, true, true, true] rfl rfl (any_of HT_.out (by kernel_rfl)) (fun _ _ _ h => h) (Or.inl ⟨by rfl, ?_⟩) ?_ ?_
      rotate_left
      ·intro w'
       go_simp
       with_reducible rfl
      rotate_left
      ·simp only [Act.put, List.setIfInBounds_toArray, List.set_cons_zero, List.set_cons_succ, i64_w, i32_w]
       rfl
      refine done_ (done_of HT_.out (by kernel_rfl)) ?_
      have hnb30 := NB293_274.out
      have hnc30 := NB274_293.out
      have hnb31 := NB293_275.out
      have hnc31 := NB275_293.out
      have hnb32 := NB293_286.out
      have hnc32 := NB286_293.out
      have hcz33_0 : w26.cell? ⟨gb293, 0, none⟩ = some (.int .i64 0) := (blk_cell BK293.out 0).trans rfl
      have hcz33_1 : w26.cell? ⟨gb293, 1, none⟩ = some (.slice none 0 0) := (blk_cell BK293.out 1).trans rfl
      have hfz33_0 := blk_frozen BK293.out 0
      have hfz33_1 := blk_frozen BK293.out 1
      have hnb34 := NB286_274.out
      have hnc34 := NB274_286.out
      have hnb35 := NB286_275.out
      have hnc35 := NB275_286.out
      have hcz36_0 : w26.cell? ⟨gb286, 0, none⟩ = some (.int .i64 x287000_1) := (blk_cell BK286.out 0).trans rfl
      have hcz36_1 : w26.cell? ⟨gb286, 1, none⟩ = some (.slice Ao22 x287001_1.length co22) := (blk_cell BK286.out 1).trans rfl
      have hfz36_0 := blk_frozen BK286.out 0
      have hfz36_1 := blk_frozen BK286.out 1
      try go_wp2
      (first | go_roundg k1 | ((try simp only [add_plain] at *); go_roundg k1))
      case measure => have := HK1.out; omega
      case rel => exact ⟨(wrap64 (x9_1 + 1)), (x276000_1), (t288), (t289), (.slice Ao28 t289.length co28), qB123, H', ⟨by have := HK1.out; omega⟩, ⟨by (with_reducible repeat (first | apply Kd.S_alloc | apply Kd.S_drewN | apply Kd.S_drew)); exact Kd.S_mono (Kd.S_far (p := ⟨gb286, 1, none⟩) (Kd.S_far (p := ⟨gb286, 0, none⟩) (Kd.S_far (p := ⟨gb293, 1, none⟩) (Kd.S_far (p := ⟨gb293, 0, none⟩) (Kd.S_mono (Kd.S_mono HO_6.out (fun k_ hk => (⟨hk, hk.2.2.2.2.2⟩ : _ ∧ k_ ≠ gb293))) (fun k_ hk => (⟨hk, hk.1.2.2.2.2.1⟩ : _ ∧ k_ ≠ gb286))) (fun _ hk => hk.1.2) (.int .i64 t288)) (fun _ hk => hk.1.2) (.slice Ao28 t289.length co28)) (fun _ hk => hk.2) (.int .i64 t288)) (fun _ hk => hk.2) (.slice Ao28 t289.length co28)) (fun _ hk => ⟨hk.1.1.1, ⟨hk.1.1.2.2.1, ⟨hk.1.1.2.2.2.1, hk.1.1.2.2.2.2.1⟩⟩⟩)⟩, ⟨by (with_reducible repeat (first | apply Kd.R_alloc | apply Kd.R_drewN | apply Kd.R_drew)); exact Kd.R_mono (Kd.R_far (p := ⟨gb286, 1, none⟩) (Kd.R_far (p := ⟨gb286, 0, none⟩) (Kd.R_far (p := ⟨gb293, 1, none⟩) (Kd.R_far (p := ⟨gb293, 0, none⟩) (Kd.R_types (Kd.R_types HO291.out BK293.out (by decide)) BK286.out (by decide)) (fun _ hk => hk.1.2) (.int .i64 t288)) (fun _ hk => hk.1.2) (.slice Ao28 t289.length co28)) (fun _ hk => hk.2) (.int .i64 t288)) (fun _ hk => hk.2) (.slice Ao28 t289.length co28)) (fun _ hk => trivial)⟩, ⟨by (with_reducible repeat (first | refine blk_drewN ?_ _ | refine blk_drew ?_ | refine blk_alloc ?_ _)); refine blk_far ?_ NB274_286.out _; (with_reducible repeat (first | refine blk_drewN ?_ _ | refine blk_drew ?_ | refine blk_alloc ?_ _)); refine blk_far ?_ NB274_286.out _; (with_reducible repeat (first | refine blk_drewN ?_ _ | refine blk_drew ?_ | refine blk_alloc ?_ _)); refine blk_far ?_ NB274_293.out _; (with_reducible repeat (first | refine blk_drewN ?_ _ | refine blk_drew ?_ | refine blk_alloc ?_ _)); refine blk_far ?_ NB274_293.out _; (with_reducible repeat (first | refine blk_drewN ?_ _ | refine blk_drew ?_ | refine blk_alloc ?_ _)); exact BK274.out⟩, ⟨by (with_reducible repeat (first | refine blk_drewN ?_ _ | refine blk_drew ?_ | refine blk_alloc ?_ _)); refine blk_far ?_ NB275_286.out _; (with_reducible repeat (first | refine blk_drewN ?_ _ | refine blk_drew ?_ | refine blk_alloc ?_ _)); refine blk_far ?_ NB275_286.out _; (with_reducible repeat (first | refine blk_drewN ?_ _ | refine blk_drew ?_ | refine blk_alloc ?_ _)); refine blk_far ?_ NB275_293.out _; (with_reducible repeat (first | refine blk_drewN ?_ _ | refine blk_drew ?_ | refine blk_alloc ?_ _)); refine blk_far ?_ NB275_293.out _; (with_reducible repeat (first | refine blk_drewN ?_ _ | refine blk_drew ?_ | refine blk_alloc ?_ _)); exact BK275.out⟩, ⟨by (with_reducible repeat (first | refine blk_drewN ?_ _ | refine blk_drew ?_ | refine blk_alloc ?_ _)); refine blk_put (cs := #[.int .i64 t288, .slice Ao22 x287001_1.length co22]) ?_ 1 _ rfl; (with_reducible repeat (first | refine blk_drewN ?_ _ | refine blk_drew ?_ | refine blk_alloc ?_ _)); refine blk_put (cs := #[.int .i64 x287000_1, .slice Ao22 x287001_1.length co22]) ?_ 0 _ rfl; (with_reducible repeat (first | refine blk_drewN ?_ _ | refine blk_drew ?_ | refine blk_alloc ?_ _)); refine blk_far ?_ NB286_293.out _; (with_reducible repeat (first | refine blk_drewN ?_ _ | refine blk_drew ?_ | refine blk_alloc ?_ _)); refine blk_far ?_ NB286_293.out _; (with_reducible repeat (first | refine blk_drewN ?_ _ | refine blk_drew ?_ | refine blk_alloc ?_ _)); exact BK286.out⟩, ⟨by repeat (first | (with_reducible first | exact HB.out | apply below_alloc | apply pw_below_drewN | apply below_drew1 | refine below_set ?_ GE274.out | refine below_set ?_ GE275.out | refine below_set ?_ GE286.out | refine below_set ?_ GE293.out) | exact HB.out)⟩⟩
     ·replace c20 := Bool.eq_false_iff.mpr c20
      subst c20
      have H1 : (some (0, ([] : List Int), false)) = some (r1, r2, r3) := by rw [if_neg (show ¬ (false = true) by decide)] at H; exact H
      clear H
      have H := H1
      clear H1
      simp only [Option.some.injEq, Prod.mk.injEq] at H
      obtain ⟨rfl, rfl, rfl⟩ := H
      obtain ⟨Ao37, co37, eo37⟩ := Kd.S_slice HO_6.out
      subst eo37
      obtain ⟨Ao38, co38, eo38⟩ := Kd.R_slice HO_287001.out
      subst eo38
      try go_wp2
      have n0_ := Aside0.mk (Kd.S_drew HO_6.out)
      have n1_ := Aside0.mk (Kd.R_drew HO_287001.out)
      have n2_ := Aside0.mk (blk_drew BK274.out)
      have n3_ := Aside0.mk (blk_drew BK275.out)
      have n4_ := Aside0.mk (blk_drew BK286.out)
      have n5_ := Aside0.mk (below_drew1 HB.out)
      clear HO_6
      clear HO_287001
      clear BK274
      clear BK275
      clear BK286
      clear HB
      have HO_6 := n0_
      have HO_287001 := n1_
      have BK274 := n2_
      have BK275 := n3_
      have BK286 := n4_
      have HB := n5_
      clear n0_ n1_ n2_ n3_ n4_ n5_
      have p287 : 0 ≤ (x9_1 : Int) := of_decide_eq_true qB122
      have q287 : x9_1 < (t276.length : Int) := of_decide_eq_true qB122
      obtain ⟨ad287, A287_1, c287_1, e287, hx287_0, hx287_1, hl287_1, hi287_1⟩ := at_T26 (Kd.S_reads' HO_6.out).2.2 x9_1 p287 q287
      cases e287
      obtain ⟨ce287, hce287, hMe287, hcc287⟩ := Kd.S_get HO_6.out z26 x9_1 p287 qB52
      obtain ⟨ve287_1, rfl, ge287_1⟩ := k26_openM hMe287
      have hv287_1 := hcc287 1 _ rfl
      rw [add_field _ _ 1 (by omega)] at hv287_1
      replace hv287_1 := Option.some.inj (hv287_1.symm.trans hx287_1)
      rw [hv287_1] at ge287_1
      have HL287_1 := Aside0.mk (show Kd.R (Kd.int .i64) 2 _ _ _ _ ((rd_T26 t276 x9_1).f1) from ge287_1)
      clear hv287_1 ge287_1
      clear hcc287 hce287
      have HR287_1 := Aside0.mk hi287_1
      have HC287_1 := Aside0.mk hl287_1
      clear hi287_1 hl287_1
      replace p287 := eq_true p287
      replace q287 := eq_true q287
      refine start_ (n := 12) (S := fun w' => w'.cell? ⟨gb286, 0, none⟩ = some (.int .i64 x287000_1) ∧ w'.cell? ⟨gb286, 1, none⟩ = some (.slice Ao38 x287001_1.length co38) ∧ w'.cell? (ad287.add ((x9_1).toNat * 2)) = some (.int .i64 ((rd_T26 t276 x9_1).f0)) ∧ w'.cell? ⟨(ad287.add ((x9_1).toNat * 2)).block, (ad287.add ((x9_1).toNat * 2)).off + 1, none⟩ = some (.slice A287_1 ((rd_T26 t276 x9_1).f1).length c287_1)) (ds := []) #[false, false, false, false, false, false, false, false, false, false, false, false] (by kernel_rfl) rfl rfl ⟨(blk_cell BK286.out 0).trans rfl, (blk_cell BK286.out 1).trans rfl, hx287_0, hx287_1⟩ (fun hHeld => ?_); refine with_tabW spec_l02Product.tab6 spec_l02Product.bits6 (fun HT_ HW_ => ?_)
      generalize wr.drew = w39 at HO_6 HO_287001 BK274 BK275 BK286 HB HL287_1 HR287_1 hx287_0 hx287_1 hHeld ⊢
      refine pure_ (i := 1) (N := some 29) (v := ?_) (a' := ?_) #[false, true, false, false, false, false, false, false, false, false, false, false] rfl rfl (any_of HT_.out (by kernel_rfl)) (fun _ _ _ h => h) (Or.inl ⟨by rfl, ?_⟩) ?_ ?_
      rotate_left
      ·intro w'
       go_simp
       with_reducible rfl
      rotate_left
      ·simp only [Act.put, List.setIfInBounds_toArray, List.set_cons_zero, List.set_cons_succ, i64_w, i32_w]
       rfl
      refine pure_ (i := 2) (N := some 30) (v := ?_) (a' := ?_) #[false, true, true, false, false, false, false, false, false, false, false, false] rfl rfl (any_of HT_.out (by kernel_rfl)) (fun _ _ _ h => h) (Or.inl ⟨by rfl, ?_⟩) ?_ ?_
      rotate_left
      ·intro w'
       go_simp
       with_reducible rfl
      rotate_left
      ·simp only [Act.put, List.setIfInBounds_toArray, List.set_cons_zero, List.set_cons_succ, i64_w, i32_w]
       rfl
      refine pure_ (i := 3) (N := some 31) (v := ?_) (a' := ?_) #[false, true, true, true, false, false, false, false, false, false, false, false] rfl rfl (any_of HT_.out (by kernel_rfl)) (fun _ _ _ h => h) (Or.inl ⟨by rfl, ?_⟩) ?_ ?_
      rotate_left
      ·intro w'
       go_simp
       with_reducible rfl
      rotate_left
      ·simp only [Act.put, List.setIfInBounds_toArray, List.set_cons_zero, List.set_cons_succ, i64_w, i32_w]
       rfl
      refine take_ (i := 0) (N := some 28) (v := ?_) (a' := ?_) #[true, true, true, true, false, false, false, false, false, false, false, false] rfl rfl (take_ofW HT_.out HW_.out (by kernel_rfl)) (fun _ _ _ h => h) (Or.inl ⟨by rfl, ?_⟩) hHeld ?_ ?_
      rotate_left
      ·rintro w' ⟨s0, s1, s2, s3⟩
       go_simp
       with_reducible rfl
      rotate_left
      ·simp only [Act.put, List.setIfInBounds_toArray, List.set_cons_zero, List.set_cons_succ, i64_w, i32_w]
       rfl
      refine take_ (i := 4) (N := some 32) (v := ?_) (a' := ?_) #[true, true, true, true, true, false, false, false, false, false, false, false] rfl rfl (take_ofW HT_.out HW_.out (by kernel_rfl)) (fun _ _ _ h => h) (Or.inl ⟨by rfl, ?_⟩) hHeld ?_ ?_
      rotate_left
      ·rintro w' ⟨s0, s1, s2, s3⟩
       go_simp
       with_reducible rfl
      rotate_left
      ·simp only [Act.put, List.setIfInBounds_toArray, List.set_cons_zero, List.set_cons_succ, i64_w, i32_w]
       rfl
      refine join_ (σ := Value × Nat) 2 #[true, true, true, true, true, true, true, true, true, true, false, false] (fun s_ => [(33, .tuple #[.agg #[.int .i64 t288, s_.1], .bool false]), (10, .pointer (some ⟨s_.2, 0, none⟩)), (27, .tuple #[.agg #[.int .i64 t288, s_.1], .bool false]), (34, .agg #[.int .i64 t288, s_.1]), (35, .bool false)]) (fun s_ w' => (w'.cell? ⟨gb286, 0, none⟩ = some (.int .i64 x287000_1) ∧ w'.cell? ⟨gb286, 1, none⟩ = some (.slice Ao38 x287001_1.length co38) ∧ w'.cell? (ad287.add ((x9_1).toNat * 2)) = some (.int .i64 ((rd_T26 t276 x9_1).f0)) ∧ w'.cell? ⟨(ad287.add ((x9_1).toNat * 2)).block, (ad287.add ((x9_1).toNat * 2)).off + 1, none⟩ = some (.slice A287_1 ((rd_T26 t276 x9_1).f1).length c287_1)) ∧ (Kd.R (Kd.int .i64) 2 w' w.heap.size (fun k_ => some k_ ≠ (s_.1 : Value).ownBlock ∧ some k_ ≠ (.slice Ao38 x287001_1.length co38 : Value).ownBlock ∧ some k_ ≠ (.slice (some ad287) t276.length co37 : Value).ownBlock ∧ k_ ≠ gb274 ∧ k_ ≠ gb275 ∧ k_ ≠ gb286) (.slice A287_1 ((rd_T26 t276 x9_1).f1).length c287_1) ((rd_T26 t276 x9_1).f1)) ∧ (Kd.R (Kd.int .i64) 2 w' w.heap.size (fun k_ => some k_ ≠ (.slice A287_1 ((rd_T26 t276 x9_1).f1).length c287_1 : Value).ownBlock ∧ some k_ ≠ (.slice Ao38 x287001_1.length co38 : Value).ownBlock) s_.1 t289) ∧ (Kd.R (Kd.int .i64) 2 w' w.heap.size (fun k_ => some k_ ≠ (s_.1 : Value).ownBlock) (.slice Ao38 x287001_1.length co38) x287001_1) ∧ (Kd.S k26 26 w' w.heap.size (fun k_ => some k_ ≠ (s_.1 : Value).ownBlock ∧ some k_ ≠ (.slice Ao38 x287001_1.length co38 : Value).ownBlock ∧ k_ ≠ gb274 ∧ k_ ≠ gb275 ∧ k_ ≠ gb286 ∧ k_ ≠ s_.2) (.slice (some ad287) t276.length co37) t276) ∧ (w'.heap[gb274]? = some (.cells #[.int .i64 a0_0, .slice A0_1 l0_1.length c0_1] 26 (0, 0))) ∧ (w'.heap[gb275]? = some (.cells #[.int .i64 x276000_1, .slice none 0 0] 26 (0, 0))) ∧ (w'.heap[gb286]? = some (.cells #[.int .i64 x287000_1, .slice Ao38 x287001_1.length co38] 26 (0, 0))) ∧ (w'.heap[s_.2]? = some (.cells #[.int .i64 0, .slice none 0 0] 26 (0, 0))) ∧ (w.heap.size ≤ s_.2) ∧ (w.heap.size ≤ s_.2) ∧ (gb274 ≠ s_.2) ∧ (s_.2 ≠ gb274) ∧ (gb275 ≠ s_.2) ∧ (s_.2 ≠ gb275) ∧ (gb286 ≠ s_.2) ∧ (s_.2 ≠ gb286) ∧ (Below w.heap.size w w')) ?_ ?_
      rotate_left
      ·intro hCont
       refine two_ (i := 5) (j := 9) (Ni := some 33) (Nj := some 10) #[true, true, true, true, true, true, false, false, false, false, false, false] #[true, true, true, true, true, false, false, false, false, true, false, false] rfl rfl rfl rfl (two_of HT_.out (by kernel_rfl)) (by decide) (by decide) (fun K hK => ?_) (fun K hK => ?_)
       ·skip
        refine goes_ Try.func37 (by kernel_rfl) rfl #[.agg #[.int .i64 x287000_1, .slice Ao38 x287001_1.length co38], .agg #[.int .i64 ((rd_T26 t276 x9_1).f0), .slice A287_1 ((rd_T26 t276 x9_1).f1).length c287_1]] (by rfl) rfl rfl qB58 ?_
        with_reducible refine (spec_l01Times.calls k1 x287000_1 _ _ x287001_1 ((rd_T26 t276 x9_1).f0) _ _ ((rd_T26 t276 x9_1).f1) t288 t289 false _ ?side1 ?side2 ?side3 ?side4 A19.out).mono ?_
        (case side1 => repeat (first | exact (Kd.R_reads' HO_287001.out).2.2 | (with_reducible refine Kd.C_alloc ?_ _) | (with_reducible refine Kd.C_drewN ?_ _) | (with_reducible refine Kd.C_drew ?_)))
        (case side2 => exact (Kd.R_reads' HO_287001.out).2.1)
        (case side3 => repeat (first | exact qB28 | (with_reducible refine Kd.C_alloc ?_ _) | (with_reducible refine Kd.C_drewN ?_ _) | (with_reducible refine Kd.C_drew ?_)))
        (case side4 => exact HC287_1.out)
        rintro e w40 ⟨v290, rfl, ho0, hb⟩
        have HS2_ := (hb.cell (World.block_lt_of_cell? _ _ (hHeld.2.2.1))).trans (hHeld.2.2.1)
        have HS3_ := (hb.cell (World.block_lt_of_cell? _ _ (hHeld.2.2.2))).trans (hHeld.2.2.2)
        refine ⟨_, rfl, ?_⟩
        have n0_ := Aside0.mk (Kd.S_elder' qB117 (Kd.R_base ho0) hb)
        have n1_ := Aside0.mk (Kd.R_elder' qB91 (Kd.R_base ho0) hb)
        have n2_ := Aside0.mk (Kd.R_elder' qB93 (Kd.R_base ho0) hb)
        have n3_ := Aside0.mk (Kd.R_lower (Kd.R_new' (Kd.R_new' ho0 (Kd.R_lt qB91)) (Kd.R_lt qB93)) (below_size qB17))
        have n4_ := Aside0.mk (blk_below (g := gb274) (o := .cells #[.int .i64 a0_0, .slice A0_1 l0_1.length c0_1] 26 (0, 0)) qB79 hb)
        have n5_ := Aside0.mk (blk_below (g := gb275) (o := .cells #[.int .i64 x276000_1, .slice none 0 0] 26 (0, 0)) qB80 hb)
        have n6_ := Aside0.mk (blk_below (g := gb286) (o := .cells #[.int .i64 x287000_1, .slice Ao38 x287001_1.length co38] 26 (0, 0)) qB81 hb)
        have n7_ := Aside0.mk (Kd.C_below qB28 hb)
        have n8_ := Aside0.mk (below_step qB17 hb)
        clear HO_6
        clear HO_287001
        clear HL287_1
        clear BK274
        clear BK275
        clear BK286
        clear HR287_1
        clear HB
        have HO_6 := n0_
        have HO_287001 := n1_
        have HL287_1 := n2_
        have HO291 := n3_
        have BK274 := n4_
        have BK275 := n5_
        have BK286 := n6_
        have HR287_1 := n7_
        have HB := n8_
        clear n0_ n1_ n2_ n3_ n4_ n5_ n6_ n7_ n8_
        (try clear hb)
        (try clear hb2)
        (try clear hk)
        (try clear hi)
        (try clear ho0)
        refine hK.out _ _ ⟨(blk_cell BK286.out 0).trans rfl, (blk_cell BK286.out 1).trans rfl, HS2_, HS3_⟩ (fun hHeld => ?_)
        clear hK K
        refine norm_ (a' := ?_) ?_ ?_
        rotate_left
        ·show Act.put _ (some 33) _ = _
         simp only [Act.put, List.setIfInBounds_toArray, List.set_cons_zero, List.set_cons_succ, i64_w, i32_w]
         rfl
        refine pure_ (i := 6) (N := some 27) (v := ?_) (a' := ?_) #[true, true, true, true, true, true, true, false, false, false, false, false] rfl rfl (any_of HT_.out (by kernel_rfl)) (fun _ _ _ h => h) (Or.inl ⟨by rfl, ?_⟩) ?_ ?_
        rotate_left
        ·intro w'
         go_simp
         with_reducible rfl
        rotate_left
        ·simp only [Act.put, List.setIfInBounds_toArray, List.set_cons_zero, List.set_cons_succ, i64_w, i32_w]
         rfl
        refine pure_ (i := 7) (N := some 34) (v := ?_) (a' := ?_) #[true, true, true, true, true, true, true, true, false, false, false, false] rfl rfl (any_of HT_.out (by kernel_rfl)) (fun _ _ _ h => h) (Or.inl ⟨by rfl, ?_⟩) ?_ ?_
        rotate_left
        ·intro w'
         go_simp
         with_reducible rfl
        rotate_left
        ·simp only [Act.put, List.setIfInBounds_toArray, List.set_cons_zero, List.set_cons_succ, i64_w, i32_w]
         rfl
        refine pure_ (i := 8) (N := some 35) (v := ?_) (a' := ?_) #[true, true, true, true, true, true, true, true, true, false, false, false] rfl rfl (any_of HT_.out (by kernel_rfl)) (fun _ _ _ h => h) (Or.inl ⟨by rfl, ?_⟩) ?_ ?_
        rotate_left
        ·intro w'
         go_simp
         with_reducible rfl
        rotate_left
        ·simp only [Act.put, List.setIfInBounds_toArray, List.set_cons_zero, List.set_cons_succ, i64_w, i32_w]
         rfl
        refine one_ (i := 9) (N := some 10) #[true, true, true, true, true, true, true, true, true, true, false, false] rfl rfl (one_of HT_.out (by kernel_rfl)) (by decide) (fun K hK => ?_)
        refine box_step ?hg (N := 10) ?hd (cs := #[.int .i64 0, .slice none 0 0]) (t := 26) ?hr ?_; (case hd => rfl); (case hg => rfl); (case hr => first | (go_simp; done) | (go_simp; rfl))
        intro gb293 hg w41 hbox hb
        have HS2_ := (hb.cell (World.block_lt_of_cell? _ _ (hHeld.2.2.1))).trans (hHeld.2.2.1)
        have HS3_ := (hb.cell (World.block_lt_of_cell? _ _ (hHeld.2.2.2))).trans (hHeld.2.2.2)
        have n0_ := Aside0.mk (Kd.S_below (Kd.S_elderB qB117 gb293 (Nat.le_of_eq hg.symm)) hb)
        have n1_ := Aside0.mk (Kd.R_below qB91 hb)
        have n2_ := Aside0.mk (Kd.R_below qB93 hb)
        have n3_ := Aside0.mk (Kd.R_below qB103 hb)
        have n4_ := Aside0.mk (blk_below (g := gb274) (o := .cells #[.int .i64 a0_0, .slice A0_1 l0_1.length c0_1] 26 (0, 0)) qB79 hb)
        have n5_ := Aside0.mk (blk_below (g := gb275) (o := .cells #[.int .i64 x276000_1, .slice none 0 0] 26 (0, 0)) qB80 hb)
        have n6_ := Aside0.mk (blk_below (g := gb286) (o := .cells #[.int .i64 x287000_1, .slice Ao38 x287001_1.length co38] 26 (0, 0)) qB81 hb)
        have n7_ := Aside0.mk (Kd.C_below qB28 hb)
        have n8_ := Aside0.mk (below_step qB17 hb)
        have n9_ := Aside0.mk (hbox)
        have n10_ := Aside0.mk ((by rw [hg]; exact (below_size qB17) : w.heap.size ≤ gb293))
        have n11_ := Aside0.mk ((by rw [hg]; exact (below_size qB17) : w.heap.size ≤ gb293))
        have n12_ := Aside0.mk ((by rw [hg]; exact Nat.ne_of_lt (blk_lt (g := gb274) (o := .cells #[.int .i64 a0_0, .slice A0_1 l0_1.length c0_1] 26 (0, 0)) qB79) : gb274 ≠ gb293))
        have n13_ := Aside0.mk ((by rw [hg]; exact Nat.ne_of_gt (blk_lt (g := gb274) (o := .cells #[.int .i64 a0_0, .slice A0_1 l0_1.length c0_1] 26 (0, 0)) qB79) : gb293 ≠ gb274))
        have n14_ := Aside0.mk ((by rw [hg]; exact Nat.ne_of_lt (blk_lt (g := gb275) (o := .cells #[.int .i64 x276000_1, .slice none 0 0] 26 (0, 0)) qB80) : gb275 ≠ gb293))
        have n15_ := Aside0.mk ((by rw [hg]; exact Nat.ne_of_gt (blk_lt (g := gb275) (o := .cells #[.int .i64 x276000_1, .slice none 0 0] 26 (0, 0)) qB80) : gb293 ≠ gb275))
        have n16_ := Aside0.mk ((by rw [hg]; exact Nat.ne_of_lt (blk_lt (g := gb286) (o := .cells #[.int .i64 x287000_1, .slice Ao38 x287001_1.length co38] 26 (0, 0)) qB81) : gb286 ≠ gb293))
        have n17_ := Aside0.mk ((by rw [hg]; exact Nat.ne_of_gt (blk_lt (g := gb286) (o := .cells #[.int .i64 x287000_1, .slice Ao38 x287001_1.length co38] 26 (0, 0)) qB81) : gb293 ≠ gb286))
        clear HO_6
        clear HO_287001
        clear HL287_1
        clear HO291
        clear BK274
        clear BK275
        clear BK286
        clear HR287_1
        clear HB
        have HO_6 := n0_
        have HO_287001 := n1_
        have HL287_1 := n2_
        have HO291 := n3_
        have BK274 := n4_
        have BK275 := n5_
        have BK286 := n6_
        have HR287_1 := n7_
        have HB := n8_
        have BK293 := n9_
        have GW293 := n10_
        have GE293 := n11_
        have NB274_293 := n12_
        have NB293_274 := n13_
        have NB275_293 := n14_
        have NB293_275 := n15_
        have NB286_293 := n16_
        have NB293_286 := n17_
        clear n0_ n1_ n2_ n3_ n4_ n5_ n6_ n7_ n8_ n9_ n10_ n11_ n12_ n13_ n14_ n15_ n16_ n17_
        clear hb hbox hg
        refine hK.out _ _ ⟨(blk_cell BK286.out 0).trans rfl, (blk_cell BK286.out 1).trans rfl, HS2_, HS3_⟩ (fun hHeld => ?_)
        clear hK K
        refine norm_ (a' := ?_) ?_ ?_
        rotate_left
        ·show Act.put _ (some 10) _ = _
         simp only [Act.put, List.setIfInBounds_toArray, List.set_cons_zero, List.set_cons_succ, i64_w, i32_w]
         rfl
        exact norm_ qB120 (hCont (v290, gb293) _ ⟨hHeld, qB19, qB54, qB59, qB20, qB79, qB80, qB81, qB82, GW293.out, GE293.out, NB274_293.out, NB293_274.out, NB275_293.out, NB293_275.out, NB286_293.out, NB293_286.out, qB14⟩)
       ·skip
        refine box_step ?hg (N := 10) ?hd (cs := #[.int .i64 0, .slice none 0 0]) (t := 26) ?hr ?_; (case hd => rfl); (case hg => rfl); (case hr => first | (go_simp; done) | (go_simp; rfl))
        intro gb293 hg w40 hbox hb
        have HS2_ := (hb.cell (World.block_lt_of_cell? _ _ (hHeld.2.2.1))).trans (hHeld.2.2.1)
        have HS3_ := (hb.cell (World.block_lt_of_cell? _ _ (hHeld.2.2.2))).trans (hHeld.2.2.2)
        have n0_ := Aside0.mk (Kd.S_below (Kd.S_elderB qB117 gb293 (Nat.le_of_eq hg.symm)) hb)
        have n1_ := Aside0.mk (Kd.R_below qB91 hb)
        have n2_ := Aside0.mk (Kd.R_below qB93 hb)
        have n3_ := Aside0.mk (blk_below (g := gb274) (o := .cells #[.int .i64 a0_0, .slice A0_1 l0_1.length c0_1] 26 (0, 0)) qB79 hb)
        have n4_ := Aside0.mk (blk_below (g := gb275) (o := .cells #[.int .i64 x276000_1, .slice none 0 0] 26 (0, 0)) qB80 hb)
        have n5_ := Aside0.mk (blk_below (g := gb286) (o := .cells #[.int .i64 x287000_1, .slice Ao38 x287001_1.length co38] 26 (0, 0)) qB81 hb)
        have n6_ := Aside0.mk (Kd.C_below qB28 hb)
        have n7_ := Aside0.mk (below_step qB17 hb)
        have n8_ := Aside0.mk (hbox)
        have n9_ := Aside0.mk ((by rw [hg]; exact (below_size qB17) : w.heap.size ≤ gb293))
        have n10_ := Aside0.mk ((by rw [hg]; exact (below_size qB17) : w.heap.size ≤ gb293))
        have n11_ := Aside0.mk ((by rw [hg]; exact Nat.ne_of_lt (blk_lt (g := gb274) (o := .cells #[.int .i64 a0_0, .slice A0_1 l0_1.length c0_1] 26 (0, 0)) qB79) : gb274 ≠ gb293))
        have n12_ := Aside0.mk ((by rw [hg]; exact Nat.ne_of_gt (blk_lt (g := gb274) (o := .cells #[.int .i64 a0_0, .slice A0_1 l0_1.length c0_1] 26 (0, 0)) qB79) : gb293 ≠ gb274))
        have n13_ := Aside0.mk ((by rw [hg]; exact Nat.ne_of_lt (blk_lt (g := gb275) (o := .cells #[.int .i64 x276000_1, .slice none 0 0] 26 (0, 0)) qB80) : gb275 ≠ gb293))
        have n14_ := Aside0.mk ((by rw [hg]; exact Nat.ne_of_gt (blk_lt (g := gb275) (o := .cells #[.int .i64 x276000_1, .slice none 0 0] 26 (0, 0)) qB80) : gb293 ≠ gb275))
        have n15_ := Aside0.mk ((by rw [hg]; exact Nat.ne_of_lt (blk_lt (g := gb286) (o := .cells #[.int .i64 x287000_1, .slice Ao38 x287001_1.length co38] 26 (0, 0)) qB81) : gb286 ≠ gb293))
        have n16_ := Aside0.mk ((by rw [hg]; exact Nat.ne_of_gt (blk_lt (g := gb286) (o := .cells #[.int .i64 x287000_1, .slice Ao38 x287001_1.length co38] 26 (0, 0)) qB81) : gb293 ≠ gb286))
        clear HO_6
        clear HO_287001
        clear HL287_1
        clear BK274
        clear BK275
        clear BK286
        clear HR287_1
        clear HB
        have HO_6 := n0_
        have HO_287001 := n1_
        have HL287_1 := n2_
        have BK274 := n3_
        have BK275 := n4_
        have BK286 := n5_
        have HR287_1 := n6_
        have HB := n7_
        have BK293 := n8_
        have GW293 := n9_
        have GE293 := n10_
        have NB274_293 := n11_
        have NB293_274 := n12_
        have NB275_293 := n13_
        have NB293_275 := n14_
        have NB286_293 := n15_
        have NB293_286 := n16_
        clear n0_ n1_ n2_ n3_ n4_ n5_ n6_ n7_ n8_ n9_ n10_ n11_ n12_ n13_ n14_ n15_ n16_
        clear hb hbox hg
        refine hK.out _ _ ⟨(blk_cell BK286.out 0).trans rfl, (blk_cell BK286.out 1).trans rfl, HS2_, HS3_⟩ (fun hHeld => ?_)
        clear hK K
        refine norm_ (a' := ?_) ?_ ?_
        rotate_left
        ·show Act.put _ (some 10) _ = _
         simp only [Act.put, List.setIfInBounds_toArray, List.set_cons_zero, List.set_cons_succ, i64_w, i32_w]
         rfl
        refine one_ (i := 5) (N := some 33) #[true, true, true, true, true, true, false, false, false, true, false, false] rfl rfl (one_of HT_.out (by kernel_rfl)) (by decide) (fun K hK => ?_)
        refine goes_ Try.func37 (by kernel_rfl) rfl #[.agg #[.int .i64 x287000_1, .slice Ao38 x287001_1.length co38], .agg #[.int .i64 ((rd_T26 t276 x9_1).f0), .slice A287_1 ((rd_T26 t276 x9_1).f1).length c287_1]] (by rfl) rfl rfl qB58 ?_
        with_reducible refine (spec_l01Times.calls k1 x287000_1 _ _ x287001_1 ((rd_T26 t276 x9_1).f0) _ _ ((rd_T26 t276 x9_1).f1) t288 t289 false _ ?side1 ?side2 ?side3 ?side4 A19.out).mono ?_
        (case side1 => repeat (first | exact (Kd.R_reads' HO_287001.out).2.2 | (with_reducible refine Kd.C_alloc ?_ _) | (with_reducible refine Kd.C_drewN ?_ _) | (with_reducible refine Kd.C_drew ?_)))
        (case side2 => exact (Kd.R_reads' HO_287001.out).2.1)
        (case side3 => repeat (first | exact qB28 | (with_reducible refine Kd.C_alloc ?_ _) | (with_reducible refine Kd.C_drewN ?_ _) | (with_reducible refine Kd.C_drew ?_)))
        (case side4 => exact HC287_1.out)
        rintro e w41 ⟨v290, rfl, ho0, hb⟩
        have HS2_ := (hb.cell (World.block_lt_of_cell? _ _ (hHeld.2.2.1))).trans (hHeld.2.2.1)
        have HS3_ := (hb.cell (World.block_lt_of_cell? _ _ (hHeld.2.2.2))).trans (hHeld.2.2.2)
        refine ⟨_, rfl, ?_⟩
        have n0_ := Aside0.mk (Kd.S_elder' qB117 (Kd.R_base ho0) hb)
        have n1_ := Aside0.mk (Kd.R_elder' qB91 (Kd.R_base ho0) hb)
        have n2_ := Aside0.mk (Kd.R_elder' qB93 (Kd.R_base ho0) hb)
        have n3_ := Aside0.mk (Kd.R_lower (Kd.R_new' (Kd.R_new' ho0 (Kd.R_lt qB91)) (Kd.R_lt qB93)) (below_size qB14))
        have n4_ := Aside0.mk (blk_below (g := gb274) (o := .cells #[.int .i64 a0_0, .slice A0_1 l0_1.length c0_1] 26 (0, 0)) qB79 hb)
        have n5_ := Aside0.mk (blk_below (g := gb275) (o := .cells #[.int .i64 x276000_1, .slice none 0 0] 26 (0, 0)) qB80 hb)
        have n6_ := Aside0.mk (blk_below (g := gb286) (o := .cells #[.int .i64 x287000_1, .slice Ao38 x287001_1.length co38] 26 (0, 0)) qB81 hb)
        have n7_ := Aside0.mk (Kd.C_below qB28 hb)
        have n8_ := Aside0.mk (blk_below (g := gb293) (o := .cells #[.int .i64 0, .slice none 0 0] 26 (0, 0)) qB82 hb)
        have n9_ := Aside0.mk (below_step qB14 hb)
        clear HO_6
        clear HO_287001
        clear HL287_1
        clear BK274
        clear BK275
        clear BK286
        clear HR287_1
        clear BK293
        clear HB
        have HO_6 := n0_
        have HO_287001 := n1_
        have HL287_1 := n2_
        have HO291 := n3_
        have BK274 := n4_
        have BK275 := n5_
        have BK286 := n6_
        have HR287_1 := n7_
        have BK293 := n8_
        have HB := n9_
        clear n0_ n1_ n2_ n3_ n4_ n5_ n6_ n7_ n8_ n9_
        (try clear hb)
        (try clear hb2)
        (try clear hk)
        (try clear hi)
        (try clear ho0)
        refine hK.out _ _ ⟨(blk_cell BK286.out 0).trans rfl, (blk_cell BK286.out 1).trans rfl, HS2_, HS3_⟩ (fun hHeld => ?_)
        clear hK K
        refine norm_ (a' := ?_) ?_ ?_
        rotate_left
        ·show Act.put _ (some 33) _ = _
         simp only [Act.put, List.setIfInBounds_toArray, List.set_cons_zero, List.set_cons_succ, i64_w, i32_w]
         rfl
        refine pure_ (i := 6) (N := some 27) (v := ?_) (a' := ?_) #[true, true, true, true, true, true, true, false, false, true, false, false] rfl rfl (any_of HT_.out (by kernel_rfl)) (fun _ _ _ h => h) (Or.inl ⟨by rfl, ?_⟩) ?_ ?_
        rotate_left
        ·intro w'
         go_simp
         with_reducible rfl
        rotate_left
        ·simp only [Act.put, List.setIfInBounds_toArray, List.set_cons_zero, List.set_cons_succ, i64_w, i32_w]
         rfl
        refine pure_ (i := 7) (N := some 34) (v := ?_) (a' := ?_) #[true, true, true, true, true, true, true, true, false, true, false, false] rfl rfl (any_of HT_.out (by kernel_rfl)) (fun _ _ _ h => h) (Or.inl ⟨by rfl, ?_⟩) ?_ ?_
        rotate_left
        ·intro w'
         go_simp
         with_reducible rfl
        rotate_left
        ·simp only [Act.put, List.setIfInBounds_toArray, List.set_cons_zero, List.set_cons_succ, i64_w, i32_w]
         rfl
        refine pure_ (i := 8) (N := some 35) (v := ?_) (a' := ?_) #[true, true, true, true, true, true, true, true, true, true, false, false] rfl rfl (any_of HT_.out (by kernel_rfl)) (fun _ _ _ h => h) (Or.inl ⟨by rfl, ?_⟩) ?_ ?_
        rotate_left
        ·intro w'
         go_simp
         with_reducible rfl
        rotate_left
        ·simp only [Act.put, List.setIfInBounds_toArray, List.set_cons_zero, List.set_cons_succ, i64_w, i32_w]
         rfl
        exact norm_ qB120 (hCont (v290, gb293) _ ⟨hHeld, qB19, qB54, qB59, qB21, qB79, qB80, qB81, qB82, GW293.out, GE293.out, NB274_293.out, NB293_274.out, NB275_293.out, NB293_275.out, NB286_293.out, NB293_286.out, qB14⟩)
      rintro ⟨v290, gb293⟩ w42 ⟨hS_, h0_, h1_, h2_, h3_, h4_, h5_, h6_, h7_, h8_, h9_, h10_, h11_, h12_, h13_, h14_, h15_, h16_⟩
      have n0_ : Aside0 (Kd.R (Kd.int .i64) 2 w42 w.heap.size (fun k_ => some k_ ≠ (v290 : Value).ownBlock ∧ some k_ ≠ (.slice Ao38 x287001_1.length co38 : Value).ownBlock ∧ some k_ ≠ (.slice (some ad287) t276.length co37 : Value).ownBlock ∧ k_ ≠ gb274 ∧ k_ ≠ gb275 ∧ k_ ≠ gb286) (.slice A287_1 ((rd_T26 t276 x9_1).f1).length c287_1) ((rd_T26 t276 x9_1).f1)) := ⟨h0_⟩
      have n1_ : Aside0 (Kd.R (Kd.int .i64) 2 w42 w.heap.size (fun k_ => some k_ ≠ (.slice A287_1 ((rd_T26 t276 x9_1).f1).length c287_1 : Value).ownBlock ∧ some k_ ≠ (.slice Ao38 x287001_1.length co38 : Value).ownBlock) v290 t289) := ⟨h1_⟩
      have n2_ : Aside0 (Kd.R (Kd.int .i64) 2 w42 w.heap.size (fun k_ => some k_ ≠ (v290 : Value).ownBlock) (.slice Ao38 x287001_1.length co38) x287001_1) := ⟨h2_⟩
      have n3_ : Aside0 (Kd.S k26 26 w42 w.heap.size (fun k_ => some k_ ≠ (v290 : Value).ownBlock ∧ some k_ ≠ (.slice Ao38 x287001_1.length co38 : Value).ownBlock ∧ k_ ≠ gb274 ∧ k_ ≠ gb275 ∧ k_ ≠ gb286 ∧ k_ ≠ gb293) (.slice (some ad287) t276.length co37) t276) := ⟨h3_⟩
      have n4_ : Aside0 (w42.heap[gb274]? = some (.cells #[.int .i64 a0_0, .slice A0_1 l0_1.length c0_1] 26 (0, 0))) := ⟨h4_⟩
      have n5_ : Aside0 (w42.heap[gb275]? = some (.cells #[.int .i64 x276000_1, .slice none 0 0] 26 (0, 0))) := ⟨h5_⟩
      have n6_ : Aside0 (w42.heap[gb286]? = some (.cells #[.int .i64 x287000_1, .slice Ao38 x287001_1.length co38] 26 (0, 0))) := ⟨h6_⟩
      have n7_ : Aside0 (w42.heap[gb293]? = some (.cells #[.int .i64 0, .slice none 0 0] 26 (0, 0))) := ⟨h7_⟩
      have n8_ : Aside0 (w.heap.size ≤ gb293) := ⟨h8_⟩
      have n9_ : Aside0 (w.heap.size ≤ gb293) := ⟨h9_⟩
      have n10_ : Aside0 (gb274 ≠ gb293) := ⟨h10_⟩
      have n11_ : Aside0 (gb293 ≠ gb274) := ⟨h11_⟩
      have n12_ : Aside0 (gb275 ≠ gb293) := ⟨h12_⟩
      have n13_ : Aside0 (gb293 ≠ gb275) := ⟨h13_⟩
      have n14_ : Aside0 (gb286 ≠ gb293) := ⟨h14_⟩
      have n15_ : Aside0 (gb293 ≠ gb286) := ⟨h15_⟩
      have n16_ : Aside0 (Below w.heap.size w w42) := ⟨h16_⟩
      clear HO_6
      clear HO_287001
      clear BK274
      clear BK275
      clear BK286
      clear HB
      clear h0_ h1_ h2_ h3_ h4_ h5_ h6_ h7_ h8_ h9_ h10_ h11_ h12_ h13_ h14_ h15_ h16_
      have HL287_1 := n0_
      have HO291 := n1_
      have HO_287001 := n2_
      have HO_6 := n3_
      have BK274 := n4_
      have BK275 := n5_
      have BK286 := n6_
      have BK293 := n7_
      have GW293 := n8_
      have GE293 := n9_
      have NB274_293 := n10_
      have NB293_274 := n11_
      have NB275_293 := n12_
      have NB293_275 := n13_
      have NB286_293 := n14_
      have NB293_286 := n15_
      have HB := n16_
      clear n0_ n1_ n2_ n3_ n4_ n5_ n6_ n7_ n8_ n9_ n10_ n11_ n12_ n13_ n14_ n15_ n16_
      have hHeld : w42.cell? ⟨gb286, 0, none⟩ = some (.int .i64 x287000_1) ∧ w42.cell? ⟨gb286, 1, none⟩ = some (.slice Ao38 x287001_1.length co38) ∧ w42.cell? (ad287.add ((x9_1).toNat * 2)) = some (.int .i64 ((rd_T26 t276 x9_1).f0)) ∧ w42.cell? ⟨(ad287.add ((x9_1).toNat * 2)).block, (ad287.add ((x9_1).toNat * 2)).off + 1, none⟩ = some (.slice A287_1 ((rd_T26 t276 x9_1).f1).length c287_1) := hS_
      obtain ⟨Ao44, co44, eo44⟩ := Kd.R_slice HO291.out
      (first | subst eo44 | (injection eo44 with f1_ f2_ f3_; have f4_ := f1_.symm; have f5_ := f3_.symm; clear f1_ f2_ f3_; subst f4_; subst f5_))
      refine norm_ (a' := ?_) ?_ ?_
      rotate_left
      ·simp only [putAll, Act.put, List.setIfInBounds_toArray, List.set_cons_zero, List.set_cons_succ]
       rfl
      refine one_ (i := 10) (N := none) #[true, true, true, true, true, true, true, true, true, true, true, false] rfl rfl (one_of HT_.out (by kernel_rfl)) (by decide) (fun K hK => ?_)
      have hs43 : w42.cell? ⟨gb293, 0, none⟩ = some (.int .i64 0) := (blk_cell BK293.out 0).trans rfl
      have hfs43 := blk_frozen BK293.out 0
      have hns43_0 := NB274_293.out
      have hns43_1 := NB275_293.out
      have hns43_2 := NB286_293.out
      have hms43_0 := NB293_274.out
      have hms43_1 := NB293_275.out
      have hms43_2 := NB293_286.out
      have hs45 : w42.cell? ⟨gb293, 1, none⟩ = some (.slice none 0 0) := (blk_cell BK293.out 1).trans rfl
      have hfs45 := blk_frozen BK293.out 1
      have hns45_0 := NB274_293.out
      have hns45_1 := NB275_293.out
      have hns45_2 := NB286_293.out
      have hms45_0 := NB293_274.out
      have hms45_1 := NB293_275.out
      have hms45_2 := NB293_286.out
      refine skip_ (w1 := ?_) (by rfl) rfl ?_ ?_
      rotate_left
      ·go_simp
       rfl
      refine hK.out _ _ ⟨((cell_far (p := ⟨gb293, _, none⟩) NB286_293.out _).trans (((cell_far (p := ⟨gb293, _, none⟩) NB286_293.out _).trans (hHeld.1)))), ((cell_far (p := ⟨gb293, _, none⟩) NB286_293.out _).trans (((cell_far (p := ⟨gb293, _, none⟩) NB286_293.out _).trans (hHeld.2.1)))), ((cell_far (p := ⟨gb293, _, none⟩) qB7 _).trans (((cell_far (p := ⟨gb293, _, none⟩) qB7 _).trans (hHeld.2.2.1)))), ((cell_far (p := ⟨gb293, _, none⟩) qB7 _).trans (((cell_far (p := ⟨gb293, _, none⟩) qB7 _).trans (hHeld.2.2.2))))⟩ (fun hHeld => ?_)
      clear hK K
      refine pure_ (i := 11) (N := some 11) (v := ?_) (a' := ?_) #[true, true, true, true, true, true, true, true, true, true, true, true] rfl rfl (any_of HT_.out (by kernel_rfl)) (fun _ _ _ h => h) (Or.inl ⟨by rfl, ?_⟩) ?_ ?_
      rotate_left
      ·intro w'
       go_simp
       with_reducible rfl
      rotate_left
      ·simp only [Act.put, List.setIfInBounds_toArray, List.set_cons_zero, List.set_cons_succ, i64_w, i32_w]
       rfl
      refine done_ (done_of HT_.out (by kernel_rfl)) ?_
      have hnb46 := NB275_274.out
      have hnc46 := NB274_275.out
      have hnb47 := NB275_286.out
      have hnc47 := NB286_275.out
      have hnb48 := NB275_293.out
      have hnc48 := NB293_275.out
      have hcz49_0 : w42.cell? ⟨gb275, 0, none⟩ = some (.int .i64 x276000_1) := (blk_cell BK275.out 0).trans rfl
      have hcz49_1 : w42.cell? ⟨gb275, 1, none⟩ = some (.slice none 0 0) := (blk_cell BK275.out 1).trans rfl
      have hfz49_0 := blk_frozen BK275.out 0
      have hfz49_1 := blk_frozen BK275.out 1
      try go_wp2
      refine bodyPost_ret (results_ct rfl _ _ gb275 26 #[.int .i64 0, .slice none 0 0] (0, 0) _ rfl (by (with_reducible repeat (first | refine blk_drewN ?_ _ | refine blk_drew ?_ | refine blk_alloc ?_ _)); refine blk_put (cs := #[.int .i64 0, .slice none 0 0]) ?_ 1 _ rfl; (with_reducible repeat (first | refine blk_drewN ?_ _ | refine blk_drew ?_ | refine blk_alloc ?_ _)); refine blk_put (cs := #[.int .i64 x276000_1, .slice none 0 0]) ?_ 0 _ rfl; (with_reducible repeat (first | refine blk_drewN ?_ _ | refine blk_drew ?_ | refine blk_alloc ?_ _)); refine blk_far ?_ NB275_293.out _; (with_reducible repeat (first | refine blk_drewN ?_ _ | refine blk_drew ?_ | refine blk_alloc ?_ _)); refine blk_far ?_ NB275_293.out _; (with_reducible repeat (first | refine blk_drewN ?_ _ | refine blk_drew ?_ | refine blk_alloc ?_ _)); exact BK275.out) Try.underlying26 rfl (by kernel_rfl)) rfl ?_
      exact ⟨_, by first | rfl | (simp [errW_none, errW_some] <;> rfl) | (simp [*, errW_none, errW_some] <;> rfl), by first | exact Kd.R_nil _ _ _ _ _ | exact Kd.N_nil _ _ _ _ _ | exact Kd.V_nil _ _ _ _ _ | exact Kd.Q_nil _ _ _ _ _ | exact Kd.S_nil _ _ _ _ _, by repeat (first | (with_reducible first | exact HB.out | apply below_alloc | apply pw_below_drewN | apply below_drew1 | refine below_set ?_ GE274.out | refine below_set ?_ GE275.out | refine below_set ?_ GE286.out | refine below_set ?_ GE293.out) | exact HB.out)⟩
    ·rw [if_neg c18] at H
     exact absurd H (by simp)
   ·rw [if_neg c17] at H
    have c17b0 : decide (x9_1 < (t276.length : Int)) = false := decide_eq_false c17
    clear c17
    simp only [Option.some.injEq, Prod.mk.injEq] at H
    obtain ⟨rfl, rfl, rfl⟩ := H
    obtain ⟨Ao50, co50, eo50⟩ := Kd.S_slice HO_6.out
    subst eo50
    have hnb51 := NB286_274.out
    have hnc51 := NB274_286.out
    have hnb52 := NB286_275.out
    have hnc52 := NB275_286.out
    have hcz53_0 : wr.cell? ⟨gb286, 0, none⟩ = some (.int .i64 x287000_1) := (blk_cell BK286.out 0).trans rfl
    have hcz53_1 : wr.cell? ⟨gb286, 1, none⟩ = some (u287001) := (blk_cell BK286.out 1).trans rfl
    have hfz53_0 := blk_frozen BK286.out 0
    have hfz53_1 := blk_frozen BK286.out 1
    have hnb54 := NB275_274.out
    have hnc54 := NB274_275.out
    have hcz55_0 : wr.cell? ⟨gb275, 0, none⟩ = some (.int .i64 x276000_1) := (blk_cell BK275.out 0).trans rfl
    have hcz55_1 : wr.cell? ⟨gb275, 1, none⟩ = some (.slice none 0 0) := (blk_cell BK275.out 1).trans rfl
    have hfz55_0 := blk_frozen BK275.out 0
    have hfz55_1 := blk_frozen BK275.out 1
    obtain ⟨Ao56, co56, eo56⟩ := Kd.R_slice HO_287001.out
    subst eo56
    go_wp2
    refine bodyPost_ret (results_ct rfl _ _ gb275 26 #[.int .i64 x287000_1, .slice Ao56 x287001_1.length co56] (0, 0) _ rfl (by (with_reducible repeat (first | refine blk_drewN ?_ _ | refine blk_drew ?_ | refine blk_alloc ?_ _)); refine blk_put (cs := #[.int .i64 x287000_1, .slice none 0 0]) ?_ 1 _ rfl; (with_reducible repeat (first | refine blk_drewN ?_ _ | refine blk_drew ?_ | refine blk_alloc ?_ _)); refine blk_put (cs := #[.int .i64 x276000_1, .slice none 0 0]) ?_ 0 _ rfl; (with_reducible repeat (first | refine blk_drewN ?_ _ | refine blk_drew ?_ | refine blk_alloc ?_ _)); exact BK275.out) Try.underlying26 rfl (by kernel_rfl)) rfl ?_
    exact ⟨_, by first | rfl | (simp [errW_none, errW_some] <;> rfl) | (simp [*, errW_none, errW_some] <;> rfl), by (with_reducible repeat (first | apply Kd.R_alloc | apply Kd.R_drewN | apply Kd.R_drew)); exact Kd.R_mono (Kd.R_far (p := ⟨gb275, 1, none⟩) (Kd.R_far (p := ⟨gb275, 0, none⟩) (Kd.R_types HO_287001.out BK275.out (by decide)) (fun _ hk => hk.2) (.int .i64 x287000_1)) (fun _ hk => hk.2) (.slice Ao56 x287001_1.length co56)) (fun _ hk => trivial), by repeat (first | (with_reducible first | exact HB.out | apply below_alloc | apply pw_below_drewN | apply below_drew1 | refine below_set ?_ GE274.out | refine below_set ?_ GE275.out | refine below_set ?_ GE286.out) | exact HB.out)⟩

end Go.Proofs.Ythljmbobccaalaa.PFnExactNormOf
