/- The functions that the law reaches, as plain functions, each with the proof that the program comes to it; no condition. Written by a program of this session (wip/mp.py) over the printing of the kit; what is marked HAND is told by hand. -/
import Derived.Test.YthljmbobccaalaaPFnExactNormOfx0
import Derived.Test.YthljmbobccaalaaPFnExactNormOfx1
import Derived.Test.YthljmbobccaalaaPFnExactNormOfx2
import Derived.Test.YthljmbobccaalaaPFnExactNormOfx5
namespace Go.Proofs.Ythljmbobccaalaa.PFnExactNormOf
open Go.RowKit Go.Proofs.YthljmbobccaalaaW.PrintWords Go.Proofs.YthljmbobccaalaaW.PrintLast Go.Proofs.YthljmbobccaalaaW.PrintMore
attribute [local go_sem] max2_int min2_int max_two min_two max_three min_three max_four min_four   -- for this text's walks alone
set_option linter.unusedVariables false
set_option linter.unusedSimpArgs false

/-! ### spec_l01Times: function 37 -/
mutual
def spec_l01Times.l0 : Nat → List Int → List Int → Int → Int → List Int → Int → List Int → Option (Int × List Int × Bool)
 | 0, _, _, _, _, _, _, _ => none
 | k + 1, x6, x7, x8, x193000, x193001, x194000, x194001 => if x8 < (x194001.length : Int) then (if 0 ≤ x8 then (if x6.length < 17592186044416 then (if x7.length < 17592186044416 then (spec_l01Times.l0 k (x6 ++ [Int.tmod (rd x194001 x8) 100000]) (x7 ++ [wrap64 (Int.tdiv (rd x194001 x8) 100000)]) (wrap64 (x8 + 1)) x193000 x193001 x194000 x194001) else (none)) else (none)) else (none)) else ((spec_l01Product.f k x193000 x193001 x6).bind fun bt209 => ((spec_l01Product.f k x193000 x193001 x7).bind fun bt213 => ((spec_l01Zero.f k x193000).bind fun bt219 => (spec_l01Times.l1 k 0 bt209.1 bt209.2 bt213.1 bt213.2 bt219.1 bt219.2))))
def spec_l01Times.l1 : Nat → Int → Int → List Int → Int → List Int → Int → List Int → Option (Int × List Int × Bool)
 | 0, _, _, _, _, _, _, _ => none
 | k + 1, x12, x218000, x218001, x219000, x219001, x224000, x224001 => if x12 < (x224001.length : Int) then (if 0 ≤ x12 then (if x12 < (x219001.length : Int) then ((spec_l01In.f (rd x219001 x12) (-10000000000000) 10000000000000).bind fun t225 => (if t225 = true then (if x12 < (x218001.length : Int) then (spec_l01Times.l1 k (wrap64 (x12 + 1)) x218000 x218001 x219000 x219001 x224000 (x224001.set (x12 : Int).toNat (wrap64 ((wrap64 ((rd x219001 x12) * 100000)) + (rd x218001 x12))))) else (none)) else (some (x224000, x224001, false)))) else (none)) else (none)) else ((spec_l01Fits.f k x224000 x224001).bind fun t229 => (some (x224000, x224001, t229)))
end
def spec_l01Times.f (k : Nat) (a0_0 : Int) (l0_1 : List Int) (a1_0 : Int) (l1_1 : List Int) : Option (Int × List Int × Bool) := spec_l01Times.l0 k (([] : List Int)) (([] : List Int)) 0 a0_0 l0_1 a1_0 l1_1
theorem spec_l01Times.mono_l : ∀ k, (∀ y0 y1 y2 y3 y4 y5 y6, LeO (spec_l01Times.l0 k y0 y1 y2 y3 y4 y5 y6) (spec_l01Times.l0 (k + 1) y0 y1 y2 y3 y4 y5 y6)) ∧ (∀ y0 y1 y2 y3 y4 y5 y6, LeO (spec_l01Times.l1 k y0 y1 y2 y3 y4 y5 y6) (spec_l01Times.l1 (k + 1) y0 y1 y2 y3 y4 y5 y6))
 | 0 => ⟨fun _ _ _ _ _ _ _ r h => by simp [spec_l01Times.l0] at h, fun _ _ _ _ _ _ _ r h => by simp [spec_l01Times.l1] at h⟩
 | k + 1 => by
  obtain ⟨ih0, ih1⟩ := spec_l01Times.mono_l k
  refine ⟨?_, ?_⟩
  ·intro y0 y1 y2 y3 y4 y5 y6
   unfold spec_l01Times.l0
   repeat' first
   | (with_reducible exact ih0 _ _ _ _ _ _ _)
   | (with_reducible exact ih1 _ _ _ _ _ _ _)
   | (with_reducible exact spec_l01Fits.mono _ _ _)
   | (with_reducible exact spec_l01Product.mono _ _ _ _)
   | (with_reducible exact spec_l01Zero.mono _ _)
   | (with_reducible exact LeO.refl _)
   | (with_reducible exact LeO.none _)
   | (with_reducible refine LeO.ite ?_ ?_)
   | (with_reducible refine LeO.bind ?_ (fun _ => ?_))
   | exact ih0 _ _ _ _ _ _ _
   | exact ih1 _ _ _ _ _ _ _
   | exact spec_l01Fits.mono _ _ _
   | exact spec_l01Product.mono _ _ _ _
   | exact spec_l01Zero.mono _ _
   | exact LeO.none _
   | refine LeO.ite ?_ ?_
   | refine LeO.bind ?_ (fun _ => ?_)
  ·intro y0 y1 y2 y3 y4 y5 y6
   unfold spec_l01Times.l1
   repeat' first
   | (with_reducible exact ih0 _ _ _ _ _ _ _)
   | (with_reducible exact ih1 _ _ _ _ _ _ _)
   | (with_reducible exact spec_l01Fits.mono _ _ _)
   | (with_reducible exact spec_l01Product.mono _ _ _ _)
   | (with_reducible exact spec_l01Zero.mono _ _)
   | (with_reducible exact LeO.refl _)
   | (with_reducible exact LeO.none _)
   | (with_reducible refine LeO.ite ?_ ?_)
   | (with_reducible refine LeO.bind ?_ (fun _ => ?_))
   | exact ih0 _ _ _ _ _ _ _
   | exact ih1 _ _ _ _ _ _ _
   | exact spec_l01Fits.mono _ _ _
   | exact spec_l01Product.mono _ _ _ _
   | exact spec_l01Zero.mono _ _
   | exact LeO.none _
   | refine LeO.ite ?_ ?_
   | refine LeO.bind ?_ (fun _ => ?_)
theorem spec_l01Times.mono : ∀ a0 a1 a2 a3 k, LeO (spec_l01Times.f k a0 a1 a2 a3) (spec_l01Times.f (k + 1) a0 a1 a2 a3) := by
 intro a0 a1 a2 a3 k
 obtain ⟨ih0, ih1⟩ := spec_l01Times.mono_l k
 unfold spec_l01Times.f
 repeat' first
   | (with_reducible exact ih0 _ _ _ _ _ _ _)
   | (with_reducible exact ih1 _ _ _ _ _ _ _)
   | (with_reducible exact spec_l01Fits.mono _ _ _)
   | (with_reducible exact spec_l01Product.mono _ _ _ _)
   | (with_reducible exact spec_l01Zero.mono _ _)
   | (with_reducible exact LeO.refl _)
   | (with_reducible exact LeO.none _)
   | (with_reducible refine LeO.ite ?_ ?_)
   | (with_reducible refine LeO.bind ?_ (fun _ => ?_))
   | exact ih0 _ _ _ _ _ _ _
   | exact ih1 _ _ _ _ _ _ _
   | exact spec_l01Fits.mono _ _ _
   | exact spec_l01Product.mono _ _ _ _
   | exact spec_l01Zero.mono _ _
   | exact LeO.none _
   | refine LeO.ite ?_ ?_
   | refine LeO.bind ?_ (fun _ => ?_)
def spec_l01Times.T7 : Bool × List (List Nat × List Nat) := (true, [([], []), ([], []), ([0, 1], [0, 1]), ([], []), ([], []), ([3, 4, 2], [3, 4]), ([], []), ([], []), ([6, 2, 5, 0, 1, 2, 6, 7], [2, 6]), ([7, 5, 8, 0, 1, 2, 3, 4, 5, 6, 7, 8], [5, 7])])
def spec_l01Times.B7 : List Nat := [0, 0, 3, 0, 0, 31, 0, 0, 255, 511]
theorem spec_l01Times.tab7 : rtab .any (opsOf Try.f37 7) = spec_l01Times.T7 := by kernel_rfl
theorem spec_l01Times.bits7 : waitsOk spec_l01Times.T7.2 spec_l01Times.B7 = true := by kernel_rfl
def spec_l01Times.T14 : Bool × List (List Nat × List Nat) := (true, [([], []), ([0], [0]), ([], []), ([], []), ([3], [3]), ([], []), ([4, 5], [4, 5]), ([6], [6]), ([7], [7]), ([], []), ([9], [9]), ([], []), ([10, 11], [10, 11]), ([12], [12]), ([8, 13], [8, 13]), ([1, 2, 0, 1, 2, 3, 4, 5, 6, 7, 8, 9, 10, 11, 12, 13, 14], [1, 2]), ([15, 14, 0, 1, 2, 3, 4, 5, 6, 7, 8, 9, 10, 11, 12, 13, 14], [14, 15])])
def spec_l01Times.B14 : List Nat := [0, 1, 0, 0, 8, 0, 56, 120, 248, 0, 512, 0, 3584, 7680, 16376, 32767, 65535]
theorem spec_l01Times.tab14 : rtab .any (opsOf Try.f37 14) = spec_l01Times.T14 := by kernel_rfl
theorem spec_l01Times.bits14 : waitsOk spec_l01Times.T14.2 spec_l01Times.B14 = true := by kernel_rfl
set_option maxHeartbeats 8000000 in
set_option maxRecDepth 100000 in
theorem spec_l01Times.calls (k : Nat) (a0_0 : Int) (A0_1 : Option Addr) (c0_1 : Nat) (l0_1 : List Int) (a1_0 : Int) (A1_1 : Option Addr) (c1_1 : Nat) (l1_1 : List Int) (r1 : Int) (r2 : List Int) (r3 : Bool) (w : World) (hr0_1 : Kd.C (Kd.int .i64) w A0_1 l0_1.length l0_1) (hc0_1 : l0_1.length ≤ c0_1) (hr1_1 : Kd.C (Kd.int .i64) w A1_1 l1_1.length l1_1) (hc1_1 : l1_1.length ≤ c1_1) (h : spec_l01Times.f k a0_0 l0_1 a1_0 l1_1 = some (r1, r2, r3)) :
  Calls Try.prog 37 #[.agg #[.int .i64 a0_0, .slice A0_1 l0_1.length c0_1], .agg #[.int .i64 a1_0, .slice A1_1 l1_1.length c1_1]] w fun e w' => ∃ v1_ : Value, e = .returned (.tuple #[.agg #[.int .i64 r1, v1_], .bool r3]) ∧ Kd.R (Kd.int .i64) 2 w' w.heap.size (fun _ => True) v1_ r2 ∧ Below w.heap.size w w' := by
 have hu26 := Try.underlying26
 have HR0_1 := Aside0.mk hr0_1
 have HC0_1 := Aside0.mk hc0_1
 clear hr0_1 hc0_1
 have HR1_1 := Aside0.mk hr1_1
 have HC1_1 := Aside0.mk hc1_1
 clear hr1_1 hc1_1
 have HB := Aside0.mk (Below.refl w.heap.size w)
 have H : (spec_l01Times.l0 k (([] : List Int)) (([] : List Int)) 0 a0_0 l0_1 a1_0 l1_1) = some (r1, r2, r3) := h
 clear h
 obtain ⟨y195, hy195⟩ : ∃ y_ : List Int, y_ = (([] : List Int)) := ⟨_, rfl⟩
 replace H : (spec_l01Times.l0 k y195 (([] : List Int)) 0 a0_0 l0_1 a1_0 l1_1) = some (r1, r2, r3) := by first | (rw [hy195]; with_reducible exact H) | (have H2_ := (Option.bind_some _ _).symm.trans H; rw [hy195]; with_reducible exact H2_) | (have H2_ := (Option.bind_some _ _).symm.trans H; with_reducible exact H2_) | with_reducible exact H | (rw [hy195]; exact H) | exact H
 have Ny195 := Aside0.mk hy195
 clear hy195
 obtain ⟨y198, hy198⟩ : ∃ y_ : List Int, y_ = (([] : List Int)) := ⟨_, rfl⟩
 replace H : (spec_l01Times.l0 k y195 y198 0 a0_0 l0_1 a1_0 l1_1) = some (r1, r2, r3) := by first | (rw [hy198]; with_reducible exact H) | (have H2_ := (Option.bind_some _ _).symm.trans H; rw [hy198]; with_reducible exact H2_) | (have H2_ := (Option.bind_some _ _).symm.trans H; with_reducible exact H2_) | with_reducible exact H | (rw [hy198]; exact H) | exact H
 have Ny198 := Aside0.mk hy198
 clear hy198
 have H' := Aside0.mk H
 clear H
 go_enter Try.func37, Try.ntmps37
 go_wp2_with (first | ((with_reducible refine gate_dst (N := 2) rfl ?_); refine box_event ?hg (N := 2) ?hd (cs := #[.int .i64 a0_0, .slice A0_1 l0_1.length c0_1]) (t := 26) ?hr ?_; (case hd => rfl); (case hg => rfl); (case hr => first | (go_simp; done) | (go_simp; rfl)); intro gb192 hg w3 hbox hb; have n0_ := Aside0.mk (below_step qB60 hb); have n1_ := Aside0.mk (hbox); have n2_ := Aside0.mk ((by rw [hg]; exact (below_size qB60) : w.heap.size ≤ gb192)); have n3_ := Aside0.mk ((by rw [hg]; exact (below_size qB60) : w.heap.size ≤ gb192)); clear HB; have HB := n0_; have BK192 := n1_; have GW192 := n2_; have GE192 := n3_; clear n0_ n1_ n2_ n3_; clear hb hbox hg) | ((with_reducible refine gate_dst (N := 3) rfl ?_); refine box_event ?hg (N := 3) ?hd (cs := #[.int .i64 a1_0, .slice A1_1 l1_1.length c1_1]) (t := 26) ?hr ?_; (case hd => rfl); (case hg => rfl); (case hr => first | (go_simp; done) | (go_simp; rfl)); intro gb193 hg w4 hbox hb; have n0_ := Aside0.mk (blk_below (g := gb192) (o := .cells #[.int .i64 a0_0, .slice A0_1 l0_1.length c0_1] 26 (0, 0)) qB69 hb); have n1_ := Aside0.mk (below_step qB37 hb); have n2_ := Aside0.mk (hbox); have n3_ := Aside0.mk ((by rw [hg]; exact (below_size qB37) : w.heap.size ≤ gb193)); have n4_ := Aside0.mk ((by rw [hg]; exact (below_size qB37) : w.heap.size ≤ gb193)); have n5_ := Aside0.mk ((by rw [hg]; exact Nat.ne_of_lt (blk_lt (g := gb192) (o := .cells #[.int .i64 a0_0, .slice A0_1 l0_1.length c0_1] 26 (0, 0)) qB69) : gb192 ≠ gb193)); have n6_ := Aside0.mk ((by rw [hg]; exact Nat.ne_of_gt (blk_lt (g := gb192) (o := .cells #[.int .i64 a0_0, .slice A0_1 l0_1.length c0_1] 26 (0, 0)) qB69) : gb193 ≠ gb192)); clear BK192; clear HB; have BK192 := n0_; have HB := n1_; have BK193 := n2_; have GW193 := n3_; have GE193 := n4_; have NB192_193 := n5_; have NB193_192 := n6_; clear n0_ n1_ n2_ n3_ n4_ n5_ n6_; clear hb hbox hg) | ((with_reducible refine gate_dst (N := 4) rfl ?_); refine box_event ?hg (N := 4) ?hd (cs := #[.int .i64 0, .slice none 0 0]) (t := 26) ?hr ?_; (case hd => rfl); (case hg => rfl); (case hr => first | (go_simp; done) | (go_simp; rfl)); intro gb194 hg w5 hbox hb; have n0_ := Aside0.mk (blk_below (g := gb192) (o := .cells #[.int .i64 a0_0, .slice A0_1 l0_1.length c0_1] 26 (0, 0)) qB69 hb); have n1_ := Aside0.mk (blk_below (g := gb193) (o := .cells #[.int .i64 a1_0, .slice A1_1 l1_1.length c1_1] 26 (0, 0)) qB70 hb); have n2_ := Aside0.mk (below_step qB24 hb); have n3_ := Aside0.mk (hbox); have n4_ := Aside0.mk ((by rw [hg]; exact (below_size qB24) : w.heap.size ≤ gb194)); have n5_ := Aside0.mk ((by rw [hg]; exact (below_size qB24) : w.heap.size ≤ gb194)); have n6_ := Aside0.mk ((by rw [hg]; exact Nat.ne_of_lt (blk_lt (g := gb192) (o := .cells #[.int .i64 a0_0, .slice A0_1 l0_1.length c0_1] 26 (0, 0)) qB69) : gb192 ≠ gb194)); have n7_ := Aside0.mk ((by rw [hg]; exact Nat.ne_of_gt (blk_lt (g := gb192) (o := .cells #[.int .i64 a0_0, .slice A0_1 l0_1.length c0_1] 26 (0, 0)) qB69) : gb194 ≠ gb192)); have n8_ := Aside0.mk ((by rw [hg]; exact Nat.ne_of_lt (blk_lt (g := gb193) (o := .cells #[.int .i64 a1_0, .slice A1_1 l1_1.length c1_1] 26 (0, 0)) qB70) : gb193 ≠ gb194)); have n9_ := Aside0.mk ((by rw [hg]; exact Nat.ne_of_gt (blk_lt (g := gb193) (o := .cells #[.int .i64 a1_0, .slice A1_1 l1_1.length c1_1] 26 (0, 0)) qB70) : gb194 ≠ gb193)); clear BK192; clear BK193; clear HB; have BK192 := n0_; have BK193 := n1_; have HB := n2_; have BK194 := n3_; have GW194 := n4_; have GE194 := n5_; have NB192_194 := n6_; have NB194_192 := n7_; have NB193_194 := n8_; have NB194_193 := n9_; clear n0_ n1_ n2_ n3_ n4_ n5_ n6_ n7_ n8_ n9_; clear hb hbox hg) | ((with_reducible refine gate_dst (N := 13) rfl ?_); refine Kd.R_lit (Kd.int .i64) _ 2 ?hg (N := 13) ?hd (xs := ([] : List Int)) (inner := []) (ok := fun _ => True) (okp := fun _ => True) ?hr ?hp (fun _ hk => hk) trivial (Below.refl _ _) (Nat.le_refl _) (by simp) ?_; (case hd => rfl); (case hg => rfl); (case hr => first | (go_simp; done) | (go_simp; rfl)); (case hp => exact (Reps.none _ _)); intro v196 w6 ho7 hb hg_ hnew_; clear hg_ hnew_; (first | rw [← Ny195.out] at ho7 | (simp only [Int.reduceToNat] at ho7; rw [← Ny195.out] at ho7)); have n0_ := Aside0.mk (Kd.R_lower ho7 (below_size qB16)); have n1_ := Aside0.mk (blk_below (g := gb192) (o := .cells #[.int .i64 a0_0, .slice A0_1 l0_1.length c0_1] 26 (0, 0)) qB69 hb); have n2_ := Aside0.mk (blk_below (g := gb193) (o := .cells #[.int .i64 a1_0, .slice A1_1 l1_1.length c1_1] 26 (0, 0)) qB70 hb); have n3_ := Aside0.mk (blk_below (g := gb194) (o := .cells #[.int .i64 0, .slice none 0 0] 26 (0, 0)) qB71 hb); have n4_ := Aside0.mk (below_step qB16 hb); clear BK192; clear BK193; clear BK194; clear HB; have HO197 := n0_; have BK192 := n1_; have BK193 := n2_; have BK194 := n3_; have HB := n4_; clear n0_ n1_ n2_ n3_ n4_; clear hb ho7) | ((with_reducible refine gate_dst (N := 14) rfl ?_); refine Kd.R_lit (Kd.int .i64) _ 2 ?hg (N := 14) ?hd (xs := ([] : List Int)) (inner := []) (ok := fun _ => True) (okp := fun _ => True) ?hr ?hp (fun _ hk => hk) trivial (Below.refl _ _) (Nat.le_refl _) (by simp) ?_; (case hd => rfl); (case hg => rfl); (case hr => first | (go_simp; done) | (go_simp; rfl)); (case hp => exact (Reps.none _ _)); intro v199 w8 ho9 hb hg_ hnew_; clear hg_ hnew_; (first | rw [← Ny198.out] at ho9 | (simp only [Int.reduceToNat] at ho9; rw [← Ny198.out] at ho9)); have n0_ := Aside0.mk (Kd.R_elder' qB97 (Kd.R_base ho9) hb); have n1_ := Aside0.mk (Kd.R_lower (Kd.R_new' ho9 (Kd.R_lt qB97)) (below_size qB16)); have n2_ := Aside0.mk (blk_below (g := gb192) (o := .cells #[.int .i64 a0_0, .slice A0_1 l0_1.length c0_1] 26 (0, 0)) qB69 hb); have n3_ := Aside0.mk (blk_below (g := gb193) (o := .cells #[.int .i64 a1_0, .slice A1_1 l1_1.length c1_1] 26 (0, 0)) qB70 hb); have n4_ := Aside0.mk (blk_below (g := gb194) (o := .cells #[.int .i64 0, .slice none 0 0] 26 (0, 0)) qB71 hb); have n5_ := Aside0.mk (below_step qB16 hb); clear HO197; clear BK192; clear BK193; clear BK194; clear HB; have HO197 := n0_; have HO200 := n1_; have BK192 := n2_; have BK193 := n3_; have BK194 := n4_; have HB := n5_; clear n0_ n1_ n2_ n3_ n4_ n5_; clear hb ho9))
 try simp only [Act.put, List.setIfInBounds_toArray, List.set_cons_succ, List.set_cons_zero]
 go_loopg [6, 7, 8] k (fun kq v6 v7 v8 w' => ∃ (x6_1 : List Int) (x7_1 : List Int) (x8_1 : Int), v8 = .int .i64 x8_1 ∧ Aside0 (spec_l01Times.l0 kq x6_1 x7_1 x8_1 a0_0 l0_1 a1_0 l1_1 = some (r1, r2, r3)) ∧ Aside0 (kq ≤ k) ∧ Aside0 (Kd.R (Kd.int .i64) 2 w' w.heap.size (fun k_ => some k_ ≠ (v7 : Value).ownBlock) v6 x6_1) ∧ Aside0 (Kd.R (Kd.int .i64) 2 w' w.heap.size (fun k_ => some k_ ≠ (v6 : Value).ownBlock) v7 x7_1) ∧ Aside0 (w'.heap[gb192]? = some (.cells #[.int .i64 a0_0, (.slice A0_1 l0_1.length c0_1)] 26 (0, 0))) ∧ Aside0 (w'.heap[gb193]? = some (.cells #[.int .i64 a1_0, (.slice A1_1 l1_1.length c1_1)] 26 (0, 0))) ∧ Aside0 (w'.heap[gb194]? = some (.cells #[.int .i64 0, (.slice none 0 0)] 26 (0, 0))) ∧ Aside0 (Below w.heap.size w w'))
 case atStart => exact ⟨(y195), (y198), (0), qB123, H', ⟨Nat.le_refl _⟩, ⟨by (with_reducible repeat (first | apply Kd.R_alloc | apply Kd.R_drewN | apply Kd.R_drew)); exact Kd.R_mono HO197.out (fun _ hk => hk.2)⟩, ⟨by (with_reducible repeat (first | apply Kd.R_alloc | apply Kd.R_drewN | apply Kd.R_drew)); exact Kd.R_mono HO200.out (fun _ hk => hk.2)⟩, ⟨by (with_reducible repeat (first | refine blk_drewN ?_ _ | refine blk_drew ?_ | refine blk_alloc ?_ _)); exact BK192.out⟩, ⟨by (with_reducible repeat (first | refine blk_drewN ?_ _ | refine blk_drew ?_ | refine blk_alloc ?_ _)); exact BK193.out⟩, ⟨by (with_reducible repeat (first | refine blk_drewN ?_ _ | refine blk_drew ?_ | refine blk_alloc ?_ _)); exact BK194.out⟩, ⟨by repeat (first | (with_reducible first | exact HB.out | apply below_alloc | apply pw_below_drewN | apply below_drew1 | refine below_set ?_ GE192.out | refine below_set ?_ GE193.out | refine below_set ?_ GE194.out) | exact HB.out)⟩⟩
 case round =>
  clear H'
  try clear c1
  try clear p2
  try clear c3
  obtain ⟨x6_1, x7_1, x8_1, rfl, HA, HK1, HO_6, HO_7, BK192, BK193, BK194, HB⟩ := hrel
  cases gk with
  | zero => exact absurd HA.out (by simp [spec_l01Times.l0])
  | succ k1 =>
   have H := HA.out
   clear HA
   simp only [spec_l01Times.l0] at H
   by_cases c10 : x8_1 < (l1_1.length : Int)
   ·rw [if_pos c10] at H
    have c10b0 : decide (x8_1 < (l1_1.length : Int)) = true := decide_eq_true c10
    clear c10
    by_cases c11 : 0 ≤ x8_1
    ·rw [if_pos c11] at H
     have c11b0 : decide (0 ≤ x8_1) = true := decide_eq_true c11
     clear c11
     by_cases c12 : x6_1.length < 17592186044416
     ·rw [if_pos c12] at H
      have LMc12 := Aside0.mk c12
      clear c12
      obtain ⟨y202, hy202⟩ : ∃ y_ : List Int, y_ = (x6_1 ++ [Int.tmod (rd l1_1 x8_1) 100000]) := ⟨_, rfl⟩
      replace H : (if x7_1.length < 17592186044416 then (spec_l01Times.l0 k1 y202 (x7_1 ++ [wrap64 (Int.tdiv (rd l1_1 x8_1) 100000)]) (wrap64 (x8_1 + 1)) a0_0 l0_1 a1_0 l1_1) else (none)) = some (r1, r2, r3) := by first | (rw [hy202]; with_reducible exact H) | (have H2_ := (Option.bind_some _ _).symm.trans H; rw [hy202]; with_reducible exact H2_) | (have H2_ := (Option.bind_some _ _).symm.trans H; with_reducible exact H2_) | with_reducible exact H | (rw [hy202]; exact H) | exact H
      have Ny202 := Aside0.mk hy202
      clear hy202
      by_cases c13 : x7_1.length < 17592186044416
      ·rw [if_pos c13] at H
       have LMc13 := Aside0.mk c13
       clear c13
       obtain ⟨y206, hy206⟩ : ∃ y_ : List Int, y_ = (x7_1 ++ [wrap64 (Int.tdiv (rd l1_1 x8_1) 100000)]) := ⟨_, rfl⟩
       replace H : (spec_l01Times.l0 k1 y202 y206 (wrap64 (x8_1 + 1)) a0_0 l0_1 a1_0 l1_1) = some (r1, r2, r3) := by first | (rw [hy206]; with_reducible exact H) | (have H2_ := (Option.bind_some _ _).symm.trans H; rw [hy206]; with_reducible exact H2_) | (have H2_ := (Option.bind_some _ _).symm.trans H; with_reducible exact H2_) | with_reducible exact H | (rw [hy206]; exact H) | exact H
       have Ny206 := Aside0.mk hy206
       clear hy206
       have H' := Aside0.mk H
       clear H
       have hnb14 := NB193_192.out
       have hnc14 := NB192_193.out
       have hnb15 := NB193_194.out
       have hnc15 := NB194_193.out
       have hcz16_0 : wr.cell? ⟨gb193, 0, none⟩ = some (.int .i64 a1_0) := (blk_cell BK193.out 0).trans rfl
       have hcz16_1 : wr.cell? ⟨gb193, 1, none⟩ = some (.slice A1_1 l1_1.length c1_1) := (blk_cell BK193.out 1).trans rfl
       have hfz16_0 := blk_frozen BK193.out 0
       have hfz16_1 := blk_frozen BK193.out 1
       have p201 : 0 ≤ (x8_1 : Int) := of_decide_eq_true qB122
       have q201 : x8_1 < (l1_1.length : Int) := of_decide_eq_true qB122
       obtain ⟨ad201, e201, hx201_0⟩ := Kd.at_int HR1_1.out x8_1 p201 q201
       cases e201
       replace hx201_0 := (HB.out.cell (World.block_lt_of_cell? w _ hx201_0)).trans hx201_0
       replace p201 := eq_true p201
       replace q201 := eq_true q201
       go_wp2_with (first | ((with_reducible refine gate_builtin (b := .append) (xs := #[.tmp 22, .tmp 29]) rfl ?_); at_builtin; refine Kd.R_append (Kd.int .i64) (w0 := w) w.heap.size rfl (.tmp 22) (.tmp 29) 22 2 (.int .i64 0) 8 rfl Try.underlying22 info2 rfl (by decide) (by omega) u6 x6_1 (Int.tmod (rd l1_1 x8_1) 100000) [.int .i64 (Int.tmod (rd l1_1 x8_1) 100000)] (fun k_ => some k_ ≠ (u7 : Value).ownBlock) (fun _ => False) rfl rfl ?aP (fun _ hk => hk.elim) ?aF ?aO ?aB ?aS ?aL ?_; (case aP => exact rfl); (case aB => exact qB16); (case aF => exact (fun k_ hk => Kd.fresh' (Kd.R_lt qB115) k_ hk)); (case aO => exact qB114); (case aS => exact (below_size qB16)); (case aL => have := LMc12.out; omega); intro v203 w17 ho hb hg hat; rw [← Ny202.out] at ho; have n0_ := Aside0.mk (Kd.R_after (ok := (fun _ => True)) (by (with_reducible repeat (first | apply Kd.R_alloc | apply Kd.R_drewN | apply Kd.R_drew)); exact Kd.R_mono HO_7.out (fun _ hk => ⟨trivial, hk⟩)) hg hat); have n1_ := Aside0.mk (blk_grown (g := gb192) (o := .cells #[.int .i64 a0_0, .slice A0_1 l0_1.length c0_1] 26 (0, 0)) qB69 hg (Kd.R_ne HO_6.out BK192.out (by decide))); have n2_ := Aside0.mk (blk_grown (g := gb193) (o := .cells #[.int .i64 a1_0, .slice (some ad201) l1_1.length c1_1] 26 (0, 0)) qB70 hg (Kd.R_ne HO_6.out BK193.out (by decide))); have n3_ := Aside0.mk (blk_grown (g := gb194) (o := .cells #[.int .i64 0, .slice none 0 0] 26 (0, 0)) qB71 hg (Kd.R_ne HO_6.out BK194.out (by decide))); have n4_ := Aside0.mk (hb); have n5_ := Aside0.mk (ho); clear HO_7; clear BK192; clear BK193; clear BK194; clear HB; clear HO_6; have HO_7 := n0_; have BK192 := n1_; have BK193 := n2_; have BK194 := n3_; have HB := n4_; have HO204 := n5_; clear n0_ n1_ n2_ n3_ n4_ n5_; clear ho hb hg hat; have hcz18_0 : w17.cell? ⟨gb193, 0, none⟩ = some (.int .i64 a1_0) := (blk_cell BK193.out 0).trans rfl; have hcz18_1 : w17.cell? ⟨gb193, 1, none⟩ = some (.slice (some ad201) l1_1.length c1_1) := (blk_cell BK193.out 1).trans rfl; have hfz18_0 := blk_frozen BK193.out 0; have hfz18_1 := blk_frozen BK193.out 1; have p205 : 0 ≤ (x8_1 : Int) := of_decide_eq_true qB122; have q205 : x8_1 < (l1_1.length : Int) := of_decide_eq_true qB122; obtain ⟨ad205, e205, hx205_0⟩ := Kd.at_int HR1_1.out x8_1 p205 q205; obtain rfl : ad201 = ad205 := (by injection e205); replace hx205_0 := (HB.out.cell (World.block_lt_of_cell? w _ hx205_0)).trans hx205_0; replace p205 := eq_true p205; replace q205 := eq_true q205) | ((with_reducible refine gate_builtin (b := .append) (xs := #[.tmp 31, .tmp 38]) rfl ?_); at_builtin; refine Kd.R_append (Kd.int .i64) (w0 := w) w.heap.size rfl (.tmp 31) (.tmp 38) 22 2 (.int .i64 0) 8 rfl Try.underlying22 info2 rfl (by decide) (by omega) u7 x7_1 (wrap64 (Int.tdiv (rd l1_1 x8_1) 100000)) [.int .i64 (wrap64 (Int.tdiv (rd l1_1 x8_1) 100000))] (fun k_ => some k_ ≠ (v203 : Value).ownBlock) (fun _ => False) rfl rfl ?aP (fun _ hk => hk.elim) ?aF ?aO ?aB ?aS ?aL ?_; (case aP => exact rfl); (case aB => exact qB16); (case aF => exact (fun k_ hk => Kd.fresh' (Kd.R_lt (by (with_reducible repeat (first | apply Kd.R_alloc | apply Kd.R_drewN | apply Kd.R_drew)); exact HO204.out)) k_ hk)); (case aO => exact (by (with_reducible repeat (first | apply Kd.R_alloc | apply Kd.R_drewN | apply Kd.R_drew)); exact Kd.R_mono HO_7.out (fun _ hk => hk.2))); (case aS => exact (below_size qB16)); (case aL => have := LMc13.out; omega); intro v207 w19 ho hb hg hat; rw [← Ny206.out] at ho; have n0_ := Aside0.mk (blk_grown (g := gb192) (o := .cells #[.int .i64 a0_0, .slice A0_1 l0_1.length c0_1] 26 (0, 0)) qB69 hg (Kd.R_ne HO_7.out BK192.out (by decide))); have n1_ := Aside0.mk (blk_grown (g := gb193) (o := .cells #[.int .i64 a1_0, .slice (some ad201) l1_1.length c1_1] 26 (0, 0)) qB70 hg (Kd.R_ne HO_7.out BK193.out (by decide))); have n2_ := Aside0.mk (blk_grown (g := gb194) (o := .cells #[.int .i64 0, .slice none 0 0] 26 (0, 0)) qB71 hg (Kd.R_ne HO_7.out BK194.out (by decide))); have n3_ := Aside0.mk (Kd.R_after (ok := (fun _ => True)) (by (with_reducible repeat (first | apply Kd.R_alloc | apply Kd.R_drewN | apply Kd.R_drew)); exact Kd.R_mono HO204.out (fun _ hk => ⟨trivial, hk⟩)) hg hat); have n4_ := Aside0.mk (hb); have n5_ := Aside0.mk (ho); clear BK192; clear BK193; clear BK194; clear HO204; clear HB; clear HO_7; have BK192 := n0_; have BK193 := n1_; have BK194 := n2_; have HO204 := n3_; have HB := n4_; have HO208 := n5_; clear n0_ n1_ n2_ n3_ n4_ n5_; clear ho hb hg hat))
       (first | go_roundg k1 | ((try simp only [add_plain] at *); go_roundg k1))
       case measure => have := HK1.out; omega
       case rel => exact ⟨(y202), (y206), (wrap64 (x8_1 + 1)), qB123, H', ⟨by have := HK1.out; omega⟩, ⟨by (with_reducible repeat (first | apply Kd.R_alloc | apply Kd.R_drewN | apply Kd.R_drew)); exact Kd.R_mono HO204.out (fun _ hk => hk.2)⟩, ⟨by (with_reducible repeat (first | apply Kd.R_alloc | apply Kd.R_drewN | apply Kd.R_drew)); exact HO208.out⟩, ⟨by (with_reducible repeat (first | refine blk_drewN ?_ _ | refine blk_drew ?_ | refine blk_alloc ?_ _)); exact BK192.out⟩, ⟨by (with_reducible repeat (first | refine blk_drewN ?_ _ | refine blk_drew ?_ | refine blk_alloc ?_ _)); exact BK193.out⟩, ⟨by (with_reducible repeat (first | refine blk_drewN ?_ _ | refine blk_drew ?_ | refine blk_alloc ?_ _)); exact BK194.out⟩, ⟨by repeat (first | (with_reducible first | exact HB.out | apply below_alloc | apply pw_below_drewN | apply below_drew1 | refine below_set ?_ GE192.out | refine below_set ?_ GE193.out | refine below_set ?_ GE194.out) | exact HB.out)⟩⟩
      ·rw [if_neg c13] at H
       exact absurd H (by simp)
     ·rw [if_neg c12] at H
      exact absurd H (by simp)
    ·rw [if_neg c11] at H
     exact absurd H (by simp)
   ·rw [if_neg c10] at H
    have c10b0 : decide (x8_1 < (l1_1.length : Int)) = false := decide_eq_false c10
    clear c10
    replace H := Option.bind_eq_some_iff.mp H
    obtain ⟨⟨t209, t210⟩, A200, H⟩ := H
    replace H : ((spec_l01Product.f k1 a0_0 l0_1 x7_1).bind fun bt213 => ((spec_l01Zero.f k1 a0_0).bind fun bt219 => (spec_l01Times.l1 k1 0 t209 t210 bt213.1 bt213.2 bt219.1 bt219.2))) = some (r1, r2, r3) := H
    have A20 := Aside0.mk A200
    clear A200
    replace H := Option.bind_eq_some_iff.mp H
    obtain ⟨⟨t213, t214⟩, A210, H⟩ := H
    replace H : ((spec_l01Zero.f k1 a0_0).bind fun bt219 => (spec_l01Times.l1 k1 0 t209 t210 t213 t214 bt219.1 bt219.2)) = some (r1, r2, r3) := H
    have A21 := Aside0.mk A210
    clear A210
    replace H := Option.bind_eq_some_iff.mp H
    obtain ⟨⟨t219, t220⟩, A220, H⟩ := H
    replace H : (spec_l01Times.l1 k1 0 t209 t210 t213 t214 t219 t220) = some (r1, r2, r3) := H
    have A22 := Aside0.mk A220
    clear A220
    have H' := Aside0.mk H
    clear H
    have hnb23 := NB193_192.out
    have hnc23 := NB192_193.out
    have hnb24 := NB193_194.out
    have hnc24 := NB194_193.out
    have hcz25_0 : wr.cell? ⟨gb193, 0, none⟩ = some (.int .i64 a1_0) := (blk_cell BK193.out 0).trans rfl
    have hcz25_1 : wr.cell? ⟨gb193, 1, none⟩ = some (.slice A1_1 l1_1.length c1_1) := (blk_cell BK193.out 1).trans rfl
    have hfz25_0 := blk_frozen BK193.out 0
    have hfz25_1 := blk_frozen BK193.out 1
    obtain ⟨Ao26, co26, eo26⟩ := Kd.R_slice HO_6.out
    subst eo26
    obtain ⟨Ao27, co27, eo27⟩ := Kd.R_slice HO_7.out
    subst eo27
    try go_wp2
    have n0_ := Aside0.mk (Kd.R_drew HO_6.out)
    have n1_ := Aside0.mk (Kd.R_drew HO_7.out)
    have n2_ := Aside0.mk (blk_drew BK192.out)
    have n3_ := Aside0.mk (blk_drew BK193.out)
    have n4_ := Aside0.mk (blk_drew BK194.out)
    have n5_ := Aside0.mk (below_drew1 HB.out)
    clear HO_6
    clear HO_7
    clear BK192
    clear BK193
    clear BK194
    clear HB
    have HO_6 := n0_
    have HO_7 := n1_
    have BK192 := n2_
    have BK193 := n3_
    have BK194 := n4_
    have HB := n5_
    clear n0_ n1_ n2_ n3_ n4_ n5_
    refine start_ (n := 10) (S := fun w' => w'.cell? ⟨gb192, 0, none⟩ = some (.int .i64 a0_0) ∧ w'.cell? ⟨gb192, 1, none⟩ = some (.slice A0_1 l0_1.length c0_1)) (ds := []) #[false, false, false, false, false, false, false, false, false, false] (by kernel_rfl) rfl rfl ⟨(blk_cell BK192.out 0).trans rfl, (blk_cell BK192.out 1).trans rfl⟩ (fun hHeld => ?_); refine with_tabW spec_l01Times.tab7 spec_l01Times.bits7 (fun HT_ HW_ => ?_)
    generalize wr.drew = w28 at HO_6 HO_7 BK192 BK193 BK194 HB hHeld ⊢
    refine pure_ (i := 1) (N := some 41) (v := ?_) (a' := ?_) #[false, true, false, false, false, false, false, false, false, false] rfl rfl (any_of HT_.out (by kernel_rfl)) (fun _ _ _ h => h) (Or.inl ⟨by rfl, ?_⟩) ?_ ?_
    rotate_left
    ·intro w'
     go_simp
     with_reducible rfl
    rotate_left
    ·simp only [Act.put, List.setIfInBounds_toArray, List.set_cons_zero, List.set_cons_succ, i64_w, i32_w]
     rfl
    refine pure_ (i := 4) (N := some 44) (v := ?_) (a' := ?_) #[false, true, false, false, true, false, false, false, false, false] rfl rfl (any_of HT_.out (by kernel_rfl)) (fun _ _ _ h => h) (Or.inl ⟨by rfl, ?_⟩) ?_ ?_
    rotate_left
    ·intro w'
     go_simp
     with_reducible rfl
    rotate_left
    ·simp only [Act.put, List.setIfInBounds_toArray, List.set_cons_zero, List.set_cons_succ, i64_w, i32_w]
     rfl
    refine take_ (i := 0) (N := some 40) (v := ?_) (a' := ?_) #[true, true, false, false, true, false, false, false, false, false] rfl rfl (take_ofW HT_.out HW_.out (by kernel_rfl)) (fun _ _ _ h => h) (Or.inl ⟨by rfl, ?_⟩) hHeld ?_ ?_
    rotate_left
    ·rintro w' ⟨s0, s1⟩
     go_simp
     with_reducible rfl
    rotate_left
    ·simp only [Act.put, List.setIfInBounds_toArray, List.set_cons_zero, List.set_cons_succ, i64_w, i32_w]
     rfl
    refine take_ (i := 3) (N := some 43) (v := ?_) (a' := ?_) #[true, true, false, true, true, false, false, false, false, false] rfl rfl (take_ofW HT_.out HW_.out (by kernel_rfl)) (fun _ _ _ h => h) (Or.inl ⟨by rfl, ?_⟩) hHeld ?_ ?_
    rotate_left
    ·rintro w' ⟨s0, s1⟩
     go_simp
     with_reducible rfl
    rotate_left
    ·simp only [Act.put, List.setIfInBounds_toArray, List.set_cons_zero, List.set_cons_succ, i64_w, i32_w]
     rfl
    refine join_ (σ := Value × Value × Nat × Nat) 2 #[true, true, true, true, true, true, true, true, false, false] (fun s_ => [(42, .agg #[.int .i64 t209, s_.1]), (45, .agg #[.int .i64 t213, s_.2.1]), (9, .pointer (some ⟨s_.2.2.1, 0, none⟩)), (10, .pointer (some ⟨s_.2.2.2, 0, none⟩))]) (fun s_ w' => (w'.cell? ⟨gb192, 0, none⟩ = some (.int .i64 a0_0) ∧ w'.cell? ⟨gb192, 1, none⟩ = some (.slice A0_1 l0_1.length c0_1)) ∧ (Kd.R (Kd.int .i64) 2 w' w.heap.size (fun k_ => some k_ ≠ (s_.2.1 : Value).ownBlock ∧ some k_ ≠ (.slice Ao26 x6_1.length co26 : Value).ownBlock ∧ some k_ ≠ (.slice Ao27 x7_1.length co27 : Value).ownBlock) s_.1 t210) ∧ (Kd.R (Kd.int .i64) 2 w' w.heap.size (fun k_ => some k_ ≠ (s_.1 : Value).ownBlock ∧ some k_ ≠ (.slice Ao26 x6_1.length co26 : Value).ownBlock ∧ some k_ ≠ (.slice Ao27 x7_1.length co27 : Value).ownBlock) s_.2.1 t214) ∧ (Kd.R (Kd.int .i64) 2 w' w.heap.size (fun k_ => some k_ ≠ (s_.1 : Value).ownBlock ∧ some k_ ≠ (s_.2.1 : Value).ownBlock ∧ some k_ ≠ (.slice Ao27 x7_1.length co27 : Value).ownBlock) (.slice Ao26 x6_1.length co26) x6_1) ∧ (Kd.R (Kd.int .i64) 2 w' w.heap.size (fun k_ => some k_ ≠ (s_.1 : Value).ownBlock ∧ some k_ ≠ (s_.2.1 : Value).ownBlock ∧ some k_ ≠ (.slice Ao26 x6_1.length co26 : Value).ownBlock) (.slice Ao27 x7_1.length co27) x7_1) ∧ (w'.heap[gb192]? = some (.cells #[.int .i64 a0_0, .slice A0_1 l0_1.length c0_1] 26 (0, 0))) ∧ (w'.heap[gb193]? = some (.cells #[.int .i64 a1_0, .slice A1_1 l1_1.length c1_1] 26 (0, 0))) ∧ (w'.heap[gb194]? = some (.cells #[.int .i64 0, .slice none 0 0] 26 (0, 0))) ∧ (w'.heap[s_.2.2.1]? = some (.cells #[.int .i64 0, .slice none 0 0] 26 (0, 0))) ∧ (w'.heap[s_.2.2.2]? = some (.cells #[.int .i64 0, .slice none 0 0] 26 (0, 0))) ∧ (w.heap.size ≤ s_.2.2.1) ∧ (w.heap.size ≤ s_.2.2.1) ∧ (gb192 ≠ s_.2.2.1) ∧ (s_.2.2.1 ≠ gb192) ∧ (gb193 ≠ s_.2.2.1) ∧ (s_.2.2.1 ≠ gb193) ∧ (gb194 ≠ s_.2.2.1) ∧ (s_.2.2.1 ≠ gb194) ∧ (s_.2.2.2 ≠ s_.2.2.1) ∧ (s_.2.2.1 ≠ s_.2.2.2) ∧ (w.heap.size ≤ s_.2.2.2) ∧ (w.heap.size ≤ s_.2.2.2) ∧ (gb192 ≠ s_.2.2.2) ∧ (s_.2.2.2 ≠ gb192) ∧ (gb193 ≠ s_.2.2.2) ∧ (s_.2.2.2 ≠ gb193) ∧ (gb194 ≠ s_.2.2.2) ∧ (s_.2.2.2 ≠ gb194) ∧ (Below w.heap.size w w')) ?_ ?_
    rotate_left
    ·intro hJ2_5_6_7
     refine join_ (σ := Value × Value × Nat) 3 #[true, true, true, true, true, true, true, false, false, false] (fun s_ => [(42, .agg #[.int .i64 t209, s_.1]), (45, .agg #[.int .i64 t213, s_.2.1]), (9, .pointer (some ⟨s_.2.2, 0, none⟩))]) (fun s_ w' => (w'.cell? ⟨gb192, 0, none⟩ = some (.int .i64 a0_0) ∧ w'.cell? ⟨gb192, 1, none⟩ = some (.slice A0_1 l0_1.length c0_1)) ∧ (Kd.R (Kd.int .i64) 2 w' w.heap.size (fun k_ => some k_ ≠ (s_.2.1 : Value).ownBlock ∧ some k_ ≠ (.slice Ao26 x6_1.length co26 : Value).ownBlock ∧ some k_ ≠ (.slice Ao27 x7_1.length co27 : Value).ownBlock) s_.1 t210) ∧ (Kd.R (Kd.int .i64) 2 w' w.heap.size (fun k_ => some k_ ≠ (s_.1 : Value).ownBlock ∧ some k_ ≠ (.slice Ao26 x6_1.length co26 : Value).ownBlock ∧ some k_ ≠ (.slice Ao27 x7_1.length co27 : Value).ownBlock) s_.2.1 t214) ∧ (Kd.R (Kd.int .i64) 2 w' w.heap.size (fun k_ => some k_ ≠ (s_.1 : Value).ownBlock ∧ some k_ ≠ (s_.2.1 : Value).ownBlock ∧ some k_ ≠ (.slice Ao27 x7_1.length co27 : Value).ownBlock) (.slice Ao26 x6_1.length co26) x6_1) ∧ (Kd.R (Kd.int .i64) 2 w' w.heap.size (fun k_ => some k_ ≠ (s_.1 : Value).ownBlock ∧ some k_ ≠ (s_.2.1 : Value).ownBlock ∧ some k_ ≠ (.slice Ao26 x6_1.length co26 : Value).ownBlock) (.slice Ao27 x7_1.length co27) x7_1) ∧ (w'.heap[gb192]? = some (.cells #[.int .i64 a0_0, .slice A0_1 l0_1.length c0_1] 26 (0, 0))) ∧ (w'.heap[gb193]? = some (.cells #[.int .i64 a1_0, .slice A1_1 l1_1.length c1_1] 26 (0, 0))) ∧ (w'.heap[gb194]? = some (.cells #[.int .i64 0, .slice none 0 0] 26 (0, 0))) ∧ (w'.heap[s_.2.2]? = some (.cells #[.int .i64 0, .slice none 0 0] 26 (0, 0))) ∧ (w.heap.size ≤ s_.2.2) ∧ (w.heap.size ≤ s_.2.2) ∧ (gb192 ≠ s_.2.2) ∧ (s_.2.2 ≠ gb192) ∧ (gb193 ≠ s_.2.2) ∧ (s_.2.2 ≠ gb193) ∧ (gb194 ≠ s_.2.2) ∧ (s_.2.2 ≠ gb194) ∧ (Below w.heap.size w w')) ?_ ?_
     rotate_left
     ·intro hJ2_5_6
      refine join_ (σ := Value × Value × Nat) 3 #[true, true, true, true, true, true, false, true, false, false] (fun s_ => [(42, .agg #[.int .i64 t209, s_.1]), (45, .agg #[.int .i64 t213, s_.2.1]), (10, .pointer (some ⟨s_.2.2, 0, none⟩))]) (fun s_ w' => (w'.cell? ⟨gb192, 0, none⟩ = some (.int .i64 a0_0) ∧ w'.cell? ⟨gb192, 1, none⟩ = some (.slice A0_1 l0_1.length c0_1)) ∧ (Kd.R (Kd.int .i64) 2 w' w.heap.size (fun k_ => some k_ ≠ (s_.2.1 : Value).ownBlock ∧ some k_ ≠ (.slice Ao26 x6_1.length co26 : Value).ownBlock ∧ some k_ ≠ (.slice Ao27 x7_1.length co27 : Value).ownBlock) s_.1 t210) ∧ (Kd.R (Kd.int .i64) 2 w' w.heap.size (fun k_ => some k_ ≠ (s_.1 : Value).ownBlock ∧ some k_ ≠ (.slice Ao26 x6_1.length co26 : Value).ownBlock ∧ some k_ ≠ (.slice Ao27 x7_1.length co27 : Value).ownBlock) s_.2.1 t214) ∧ (Kd.R (Kd.int .i64) 2 w' w.heap.size (fun k_ => some k_ ≠ (s_.1 : Value).ownBlock ∧ some k_ ≠ (s_.2.1 : Value).ownBlock ∧ some k_ ≠ (.slice Ao27 x7_1.length co27 : Value).ownBlock) (.slice Ao26 x6_1.length co26) x6_1) ∧ (Kd.R (Kd.int .i64) 2 w' w.heap.size (fun k_ => some k_ ≠ (s_.1 : Value).ownBlock ∧ some k_ ≠ (s_.2.1 : Value).ownBlock ∧ some k_ ≠ (.slice Ao26 x6_1.length co26 : Value).ownBlock) (.slice Ao27 x7_1.length co27) x7_1) ∧ (w'.heap[gb192]? = some (.cells #[.int .i64 a0_0, .slice A0_1 l0_1.length c0_1] 26 (0, 0))) ∧ (w'.heap[gb193]? = some (.cells #[.int .i64 a1_0, .slice A1_1 l1_1.length c1_1] 26 (0, 0))) ∧ (w'.heap[gb194]? = some (.cells #[.int .i64 0, .slice none 0 0] 26 (0, 0))) ∧ (w'.heap[s_.2.2]? = some (.cells #[.int .i64 0, .slice none 0 0] 26 (0, 0))) ∧ (w.heap.size ≤ s_.2.2) ∧ (w.heap.size ≤ s_.2.2) ∧ (gb192 ≠ s_.2.2) ∧ (s_.2.2 ≠ gb192) ∧ (gb193 ≠ s_.2.2) ∧ (s_.2.2 ≠ gb193) ∧ (gb194 ≠ s_.2.2) ∧ (s_.2.2 ≠ gb194) ∧ (Below w.heap.size w w')) ?_ ?_
      rotate_left
      ·intro hJ2_5_7
       refine join_ (σ := Value × Nat × Nat) 3 #[true, true, true, true, true, false, true, true, false, false] (fun s_ => [(42, .agg #[.int .i64 t209, s_.1]), (9, .pointer (some ⟨s_.2.1, 0, none⟩)), (10, .pointer (some ⟨s_.2.2, 0, none⟩))]) (fun s_ w' => (w'.cell? ⟨gb192, 0, none⟩ = some (.int .i64 a0_0) ∧ w'.cell? ⟨gb192, 1, none⟩ = some (.slice A0_1 l0_1.length c0_1)) ∧ (Kd.R (Kd.int .i64) 2 w' w.heap.size (fun k_ => some k_ ≠ (.slice Ao26 x6_1.length co26 : Value).ownBlock ∧ some k_ ≠ (.slice Ao27 x7_1.length co27 : Value).ownBlock) s_.1 t210) ∧ (Kd.R (Kd.int .i64) 2 w' w.heap.size (fun k_ => some k_ ≠ (s_.1 : Value).ownBlock ∧ some k_ ≠ (.slice Ao27 x7_1.length co27 : Value).ownBlock) (.slice Ao26 x6_1.length co26) x6_1) ∧ (Kd.R (Kd.int .i64) 2 w' w.heap.size (fun k_ => some k_ ≠ (s_.1 : Value).ownBlock ∧ some k_ ≠ (.slice Ao26 x6_1.length co26 : Value).ownBlock) (.slice Ao27 x7_1.length co27) x7_1) ∧ (w'.heap[gb192]? = some (.cells #[.int .i64 a0_0, .slice A0_1 l0_1.length c0_1] 26 (0, 0))) ∧ (w'.heap[gb193]? = some (.cells #[.int .i64 a1_0, .slice A1_1 l1_1.length c1_1] 26 (0, 0))) ∧ (w'.heap[gb194]? = some (.cells #[.int .i64 0, .slice none 0 0] 26 (0, 0))) ∧ (w'.heap[s_.2.1]? = some (.cells #[.int .i64 0, .slice none 0 0] 26 (0, 0))) ∧ (w'.heap[s_.2.2]? = some (.cells #[.int .i64 0, .slice none 0 0] 26 (0, 0))) ∧ (w.heap.size ≤ s_.2.1) ∧ (w.heap.size ≤ s_.2.1) ∧ (gb192 ≠ s_.2.1) ∧ (s_.2.1 ≠ gb192) ∧ (gb193 ≠ s_.2.1) ∧ (s_.2.1 ≠ gb193) ∧ (gb194 ≠ s_.2.1) ∧ (s_.2.1 ≠ gb194) ∧ (s_.2.2 ≠ s_.2.1) ∧ (s_.2.1 ≠ s_.2.2) ∧ (w.heap.size ≤ s_.2.2) ∧ (w.heap.size ≤ s_.2.2) ∧ (gb192 ≠ s_.2.2) ∧ (s_.2.2 ≠ gb192) ∧ (gb193 ≠ s_.2.2) ∧ (s_.2.2 ≠ gb193) ∧ (gb194 ≠ s_.2.2) ∧ (s_.2.2 ≠ gb194) ∧ (Below w.heap.size w w')) ?_ ?_
       rotate_left
       ·intro hJ2_6_7
        refine join_ (σ := Value × Value) 4 #[true, true, true, true, true, true, false, false, false, false] (fun s_ => [(42, .agg #[.int .i64 t209, s_.1]), (45, .agg #[.int .i64 t213, s_.2])]) (fun s_ w' => (w'.cell? ⟨gb192, 0, none⟩ = some (.int .i64 a0_0) ∧ w'.cell? ⟨gb192, 1, none⟩ = some (.slice A0_1 l0_1.length c0_1)) ∧ (Kd.R (Kd.int .i64) 2 w' w.heap.size (fun k_ => some k_ ≠ (s_.2 : Value).ownBlock ∧ some k_ ≠ (.slice Ao26 x6_1.length co26 : Value).ownBlock ∧ some k_ ≠ (.slice Ao27 x7_1.length co27 : Value).ownBlock) s_.1 t210) ∧ (Kd.R (Kd.int .i64) 2 w' w.heap.size (fun k_ => some k_ ≠ (s_.1 : Value).ownBlock ∧ some k_ ≠ (.slice Ao26 x6_1.length co26 : Value).ownBlock ∧ some k_ ≠ (.slice Ao27 x7_1.length co27 : Value).ownBlock) s_.2 t214) ∧ (Kd.R (Kd.int .i64) 2 w' w.heap.size (fun k_ => some k_ ≠ (s_.1 : Value).ownBlock ∧ some k_ ≠ (s_.2 : Value).ownBlock ∧ some k_ ≠ (.slice Ao27 x7_1.length co27 : Value).ownBlock) (.slice Ao26 x6_1.length co26) x6_1) ∧ (Kd.R (Kd.int .i64) 2 w' w.heap.size (fun k_ => some k_ ≠ (s_.1 : Value).ownBlock ∧ some k_ ≠ (s_.2 : Value).ownBlock ∧ some k_ ≠ (.slice Ao26 x6_1.length co26 : Value).ownBlock) (.slice Ao27 x7_1.length co27) x7_1) ∧ (w'.heap[gb192]? = some (.cells #[.int .i64 a0_0, .slice A0_1 l0_1.length c0_1] 26 (0, 0))) ∧ (w'.heap[gb193]? = some (.cells #[.int .i64 a1_0, .slice A1_1 l1_1.length c1_1] 26 (0, 0))) ∧ (w'.heap[gb194]? = some (.cells #[.int .i64 0, .slice none 0 0] 26 (0, 0))) ∧ (Below w.heap.size w w')) ?_ ?_
        rotate_left
        ·intro hJ2_5
         refine join_ (σ := Value × Nat) 4 #[true, true, true, true, true, false, true, false, false, false] (fun s_ => [(42, .agg #[.int .i64 t209, s_.1]), (9, .pointer (some ⟨s_.2, 0, none⟩))]) (fun s_ w' => (w'.cell? ⟨gb192, 0, none⟩ = some (.int .i64 a0_0) ∧ w'.cell? ⟨gb192, 1, none⟩ = some (.slice A0_1 l0_1.length c0_1)) ∧ (Kd.R (Kd.int .i64) 2 w' w.heap.size (fun k_ => some k_ ≠ (.slice Ao26 x6_1.length co26 : Value).ownBlock ∧ some k_ ≠ (.slice Ao27 x7_1.length co27 : Value).ownBlock) s_.1 t210) ∧ (Kd.R (Kd.int .i64) 2 w' w.heap.size (fun k_ => some k_ ≠ (s_.1 : Value).ownBlock ∧ some k_ ≠ (.slice Ao27 x7_1.length co27 : Value).ownBlock) (.slice Ao26 x6_1.length co26) x6_1) ∧ (Kd.R (Kd.int .i64) 2 w' w.heap.size (fun k_ => some k_ ≠ (s_.1 : Value).ownBlock ∧ some k_ ≠ (.slice Ao26 x6_1.length co26 : Value).ownBlock) (.slice Ao27 x7_1.length co27) x7_1) ∧ (w'.heap[gb192]? = some (.cells #[.int .i64 a0_0, .slice A0_1 l0_1.length c0_1] 26 (0, 0))) ∧ (w'.heap[gb193]? = some (.cells #[.int .i64 a1_0, .slice A1_1 l1_1.length c1_1] 26 (0, 0))) ∧ (w'.heap[gb194]? = some (.cells #[.int .i64 0, .slice none 0 0] 26 (0, 0))) ∧ (w'.heap[s_.2]? = some (.cells #[.int .i64 0, .slice none 0 0] 26 (0, 0))) ∧ (w.heap.size ≤ s_.2) ∧ (w.heap.size ≤ s_.2) ∧ (gb192 ≠ s_.2) ∧ (s_.2 ≠ gb192) ∧ (gb193 ≠ s_.2) ∧ (s_.2 ≠ gb193) ∧ (gb194 ≠ s_.2) ∧ (s_.2 ≠ gb194) ∧ (Below w.heap.size w w')) ?_ ?_
         rotate_left
         ·intro hJ2_6
          refine join_ (σ := Value × Nat) 4 #[true, true, true, true, true, false, false, true, false, false] (fun s_ => [(42, .agg #[.int .i64 t209, s_.1]), (10, .pointer (some ⟨s_.2, 0, none⟩))]) (fun s_ w' => (w'.cell? ⟨gb192, 0, none⟩ = some (.int .i64 a0_0) ∧ w'.cell? ⟨gb192, 1, none⟩ = some (.slice A0_1 l0_1.length c0_1)) ∧ (Kd.R (Kd.int .i64) 2 w' w.heap.size (fun k_ => some k_ ≠ (.slice Ao26 x6_1.length co26 : Value).ownBlock ∧ some k_ ≠ (.slice Ao27 x7_1.length co27 : Value).ownBlock) s_.1 t210) ∧ (Kd.R (Kd.int .i64) 2 w' w.heap.size (fun k_ => some k_ ≠ (s_.1 : Value).ownBlock ∧ some k_ ≠ (.slice Ao27 x7_1.length co27 : Value).ownBlock) (.slice Ao26 x6_1.length co26) x6_1) ∧ (Kd.R (Kd.int .i64) 2 w' w.heap.size (fun k_ => some k_ ≠ (s_.1 : Value).ownBlock ∧ some k_ ≠ (.slice Ao26 x6_1.length co26 : Value).ownBlock) (.slice Ao27 x7_1.length co27) x7_1) ∧ (w'.heap[gb192]? = some (.cells #[.int .i64 a0_0, .slice A0_1 l0_1.length c0_1] 26 (0, 0))) ∧ (w'.heap[gb193]? = some (.cells #[.int .i64 a1_0, .slice A1_1 l1_1.length c1_1] 26 (0, 0))) ∧ (w'.heap[gb194]? = some (.cells #[.int .i64 0, .slice none 0 0] 26 (0, 0))) ∧ (w'.heap[s_.2]? = some (.cells #[.int .i64 0, .slice none 0 0] 26 (0, 0))) ∧ (w.heap.size ≤ s_.2) ∧ (w.heap.size ≤ s_.2) ∧ (gb192 ≠ s_.2) ∧ (s_.2 ≠ gb192) ∧ (gb193 ≠ s_.2) ∧ (s_.2 ≠ gb193) ∧ (gb194 ≠ s_.2) ∧ (s_.2 ≠ gb194) ∧ (Below w.heap.size w w')) ?_ ?_
          rotate_left
          ·intro hJ2_7
           refine join_ (σ := Nat × Nat) 4 #[true, true, false, true, true, false, true, true, false, false] (fun s_ => [(9, .pointer (some ⟨s_.1, 0, none⟩)), (10, .pointer (some ⟨s_.2, 0, none⟩))]) (fun s_ w' => (w'.cell? ⟨gb192, 0, none⟩ = some (.int .i64 a0_0) ∧ w'.cell? ⟨gb192, 1, none⟩ = some (.slice A0_1 l0_1.length c0_1)) ∧ (Kd.R (Kd.int .i64) 2 w' w.heap.size (fun k_ => some k_ ≠ (.slice Ao27 x7_1.length co27 : Value).ownBlock) (.slice Ao26 x6_1.length co26) x6_1) ∧ (Kd.R (Kd.int .i64) 2 w' w.heap.size (fun k_ => some k_ ≠ (.slice Ao26 x6_1.length co26 : Value).ownBlock) (.slice Ao27 x7_1.length co27) x7_1) ∧ (w'.heap[gb192]? = some (.cells #[.int .i64 a0_0, .slice A0_1 l0_1.length c0_1] 26 (0, 0))) ∧ (w'.heap[gb193]? = some (.cells #[.int .i64 a1_0, .slice A1_1 l1_1.length c1_1] 26 (0, 0))) ∧ (w'.heap[gb194]? = some (.cells #[.int .i64 0, .slice none 0 0] 26 (0, 0))) ∧ (w'.heap[s_.1]? = some (.cells #[.int .i64 0, .slice none 0 0] 26 (0, 0))) ∧ (w'.heap[s_.2]? = some (.cells #[.int .i64 0, .slice none 0 0] 26 (0, 0))) ∧ (w.heap.size ≤ s_.1) ∧ (w.heap.size ≤ s_.1) ∧ (gb192 ≠ s_.1) ∧ (s_.1 ≠ gb192) ∧ (gb193 ≠ s_.1) ∧ (s_.1 ≠ gb193) ∧ (gb194 ≠ s_.1) ∧ (s_.1 ≠ gb194) ∧ (s_.2 ≠ s_.1) ∧ (s_.1 ≠ s_.2) ∧ (w.heap.size ≤ s_.2) ∧ (w.heap.size ≤ s_.2) ∧ (gb192 ≠ s_.2) ∧ (s_.2 ≠ gb192) ∧ (gb193 ≠ s_.2) ∧ (s_.2 ≠ gb193) ∧ (gb194 ≠ s_.2) ∧ (s_.2 ≠ gb194) ∧ (Below w.heap.size w w')) ?_ ?_
           rotate_left
           ·intro hJ6_7
            refine join_ (σ := Value) 5 #[true, true, true, true, true, false, false, false, false, false] (fun s_ => [(42, .agg #[.int .i64 t209, s_])]) (fun s_ w' => (w'.cell? ⟨gb192, 0, none⟩ = some (.int .i64 a0_0) ∧ w'.cell? ⟨gb192, 1, none⟩ = some (.slice A0_1 l0_1.length c0_1)) ∧ (Kd.R (Kd.int .i64) 2 w' w.heap.size (fun k_ => some k_ ≠ (.slice Ao26 x6_1.length co26 : Value).ownBlock ∧ some k_ ≠ (.slice Ao27 x7_1.length co27 : Value).ownBlock) s_ t210) ∧ (Kd.R (Kd.int .i64) 2 w' w.heap.size (fun k_ => some k_ ≠ (s_ : Value).ownBlock ∧ some k_ ≠ (.slice Ao27 x7_1.length co27 : Value).ownBlock) (.slice Ao26 x6_1.length co26) x6_1) ∧ (Kd.R (Kd.int .i64) 2 w' w.heap.size (fun k_ => some k_ ≠ (s_ : Value).ownBlock ∧ some k_ ≠ (.slice Ao26 x6_1.length co26 : Value).ownBlock) (.slice Ao27 x7_1.length co27) x7_1) ∧ (w'.heap[gb192]? = some (.cells #[.int .i64 a0_0, .slice A0_1 l0_1.length c0_1] 26 (0, 0))) ∧ (w'.heap[gb193]? = some (.cells #[.int .i64 a1_0, .slice A1_1 l1_1.length c1_1] 26 (0, 0))) ∧ (w'.heap[gb194]? = some (.cells #[.int .i64 0, .slice none 0 0] 26 (0, 0))) ∧ (Below w.heap.size w w')) ?_ ?_
            rotate_left
            ·intro hJ2
             refine join_ (σ := Nat) 5 #[true, true, false, true, true, false, true, false, false, false] (fun s_ => [(9, .pointer (some ⟨s_, 0, none⟩))]) (fun s_ w' => (w'.cell? ⟨gb192, 0, none⟩ = some (.int .i64 a0_0) ∧ w'.cell? ⟨gb192, 1, none⟩ = some (.slice A0_1 l0_1.length c0_1)) ∧ (Kd.R (Kd.int .i64) 2 w' w.heap.size (fun k_ => some k_ ≠ (.slice Ao27 x7_1.length co27 : Value).ownBlock) (.slice Ao26 x6_1.length co26) x6_1) ∧ (Kd.R (Kd.int .i64) 2 w' w.heap.size (fun k_ => some k_ ≠ (.slice Ao26 x6_1.length co26 : Value).ownBlock) (.slice Ao27 x7_1.length co27) x7_1) ∧ (w'.heap[gb192]? = some (.cells #[.int .i64 a0_0, .slice A0_1 l0_1.length c0_1] 26 (0, 0))) ∧ (w'.heap[gb193]? = some (.cells #[.int .i64 a1_0, .slice A1_1 l1_1.length c1_1] 26 (0, 0))) ∧ (w'.heap[gb194]? = some (.cells #[.int .i64 0, .slice none 0 0] 26 (0, 0))) ∧ (w'.heap[s_]? = some (.cells #[.int .i64 0, .slice none 0 0] 26 (0, 0))) ∧ (w.heap.size ≤ s_) ∧ (w.heap.size ≤ s_) ∧ (gb192 ≠ s_) ∧ (s_ ≠ gb192) ∧ (gb193 ≠ s_) ∧ (s_ ≠ gb193) ∧ (gb194 ≠ s_) ∧ (s_ ≠ gb194) ∧ (Below w.heap.size w w')) ?_ ?_
             rotate_left
             ·intro hJ6
              refine join_ (σ := Nat) 5 #[true, true, false, true, true, false, false, true, false, false] (fun s_ => [(10, .pointer (some ⟨s_, 0, none⟩))]) (fun s_ w' => (w'.cell? ⟨gb192, 0, none⟩ = some (.int .i64 a0_0) ∧ w'.cell? ⟨gb192, 1, none⟩ = some (.slice A0_1 l0_1.length c0_1)) ∧ (Kd.R (Kd.int .i64) 2 w' w.heap.size (fun k_ => some k_ ≠ (.slice Ao27 x7_1.length co27 : Value).ownBlock) (.slice Ao26 x6_1.length co26) x6_1) ∧ (Kd.R (Kd.int .i64) 2 w' w.heap.size (fun k_ => some k_ ≠ (.slice Ao26 x6_1.length co26 : Value).ownBlock) (.slice Ao27 x7_1.length co27) x7_1) ∧ (w'.heap[gb192]? = some (.cells #[.int .i64 a0_0, .slice A0_1 l0_1.length c0_1] 26 (0, 0))) ∧ (w'.heap[gb193]? = some (.cells #[.int .i64 a1_0, .slice A1_1 l1_1.length c1_1] 26 (0, 0))) ∧ (w'.heap[gb194]? = some (.cells #[.int .i64 0, .slice none 0 0] 26 (0, 0))) ∧ (w'.heap[s_]? = some (.cells #[.int .i64 0, .slice none 0 0] 26 (0, 0))) ∧ (w.heap.size ≤ s_) ∧ (w.heap.size ≤ s_) ∧ (gb192 ≠ s_) ∧ (s_ ≠ gb192) ∧ (gb193 ≠ s_) ∧ (s_ ≠ gb193) ∧ (gb194 ≠ s_) ∧ (s_ ≠ gb194) ∧ (Below w.heap.size w w')) ?_ ?_
              rotate_left
              ·intro hJ7
               refine three_ (i := 2) (j := 6) (k := 7) (Ni := some 42) (Nj := some 9) (Nk := some 10) #[true, true, true, true, true, false, false, false, false, false] #[true, true, false, true, true, false, true, false, false, false] #[true, true, false, true, true, false, false, true, false, false] rfl rfl rfl rfl rfl rfl (three_of HT_.out (by kernel_rfl)) (by decide) (by decide) (by decide) (fun K hK => ?_) (fun K hK => ?_) (fun K hK => ?_)
               ·skip
                refine goes_ Try.func62 (by kernel_rfl) rfl #[.agg #[.int .i64 a0_0, .slice A0_1 l0_1.length c0_1], .slice Ao26 x6_1.length co26] (by rfl) rfl rfl qB58 ?_
                with_reducible refine (spec_l01Product.calls k1 a0_0 _ _ l0_1 _ _ x6_1 t209 t210 _ ?side1 ?side2 ?side3 ?side4 A20.out).mono ?_
                (case side1 => repeat (first | exact (Kd.C_below HR0_1.out HB.out) | (with_reducible refine Kd.C_alloc ?_ _) | (with_reducible refine Kd.C_drewN ?_ _) | (with_reducible refine Kd.C_drew ?_)))
                (case side2 => exact HC0_1.out)
                (case side3 => repeat (first | exact (Kd.R_reads' HO_6.out).2.2 | (with_reducible refine Kd.C_alloc ?_ _) | (with_reducible refine Kd.C_drewN ?_ _) | (with_reducible refine Kd.C_drew ?_)))
                (case side4 => exact (Kd.R_reads' HO_6.out).2.1)
                rintro e w29 ⟨v211, rfl, ho0, hb⟩
                refine ⟨_, rfl, ?_⟩
                have n0_ := Aside0.mk (Kd.R_elder' qB114 (Kd.R_base ho0) hb)
                have n1_ := Aside0.mk (Kd.R_elder' qB115 (Kd.R_base ho0) hb)
                have n2_ := Aside0.mk (Kd.R_lower (Kd.R_new' (Kd.R_new' ho0 (Kd.R_lt qB114)) (Kd.R_lt qB115)) (below_size qB16))
                have n3_ := Aside0.mk (blk_below (g := gb192) (o := .cells #[.int .i64 a0_0, .slice A0_1 l0_1.length c0_1] 26 (0, 0)) qB69 hb)
                have n4_ := Aside0.mk (blk_below (g := gb193) (o := .cells #[.int .i64 a1_0, .slice A1_1 l1_1.length c1_1] 26 (0, 0)) qB70 hb)
                have n5_ := Aside0.mk (blk_below (g := gb194) (o := .cells #[.int .i64 0, .slice none 0 0] 26 (0, 0)) qB71 hb)
                have n6_ := Aside0.mk (below_step qB16 hb)
                clear HO_6
                clear HO_7
                clear BK192
                clear BK193
                clear BK194
                clear HB
                have HO_6 := n0_
                have HO_7 := n1_
                have HO212 := n2_
                have BK192 := n3_
                have BK193 := n4_
                have BK194 := n5_
                have HB := n6_
                clear n0_ n1_ n2_ n3_ n4_ n5_ n6_
                (try clear hb)
                (try clear hb2)
                (try clear hk)
                (try clear hi)
                (try clear ho0)
                refine hK.out _ _ ⟨(blk_cell BK192.out 0).trans rfl, (blk_cell BK192.out 1).trans rfl⟩ (fun hHeld => ?_)
                clear hK K
                refine norm_ (a' := ?_) ?_ ?_
                rotate_left
                ·show Act.put _ (some 42) _ = _
                 simp only [Act.put, List.setIfInBounds_toArray, List.set_cons_zero, List.set_cons_succ, i64_w, i32_w]
                 rfl
                exact norm_ qB18 (hJ2 (v211) _ ⟨hHeld, qB53, qB56, qB57, qB69, qB70, qB71, qB16⟩)
               ·skip
                refine box_step ?hg (N := 9) ?hd (cs := #[.int .i64 0, .slice none 0 0]) (t := 26) ?hr ?_; (case hd => rfl); (case hg => rfl); (case hr => first | (go_simp; done) | (go_simp; rfl))
                intro gb217 hg w29 hbox hb
                have n0_ := Aside0.mk (Kd.R_below qB114 hb)
                have n1_ := Aside0.mk (Kd.R_below qB115 hb)
                have n2_ := Aside0.mk (blk_below (g := gb192) (o := .cells #[.int .i64 a0_0, .slice A0_1 l0_1.length c0_1] 26 (0, 0)) qB69 hb)
                have n3_ := Aside0.mk (blk_below (g := gb193) (o := .cells #[.int .i64 a1_0, .slice A1_1 l1_1.length c1_1] 26 (0, 0)) qB70 hb)
                have n4_ := Aside0.mk (blk_below (g := gb194) (o := .cells #[.int .i64 0, .slice none 0 0] 26 (0, 0)) qB71 hb)
                have n5_ := Aside0.mk (below_step qB16 hb)
                have n6_ := Aside0.mk (hbox)
                have n7_ := Aside0.mk ((by rw [hg]; exact (below_size qB16) : w.heap.size ≤ gb217))
                have n8_ := Aside0.mk ((by rw [hg]; exact (below_size qB16) : w.heap.size ≤ gb217))
                have n9_ := Aside0.mk ((by rw [hg]; exact Nat.ne_of_lt (blk_lt (g := gb192) (o := .cells #[.int .i64 a0_0, .slice A0_1 l0_1.length c0_1] 26 (0, 0)) qB69) : gb192 ≠ gb217))
                have n10_ := Aside0.mk ((by rw [hg]; exact Nat.ne_of_gt (blk_lt (g := gb192) (o := .cells #[.int .i64 a0_0, .slice A0_1 l0_1.length c0_1] 26 (0, 0)) qB69) : gb217 ≠ gb192))
                have n11_ := Aside0.mk ((by rw [hg]; exact Nat.ne_of_lt (blk_lt (g := gb193) (o := .cells #[.int .i64 a1_0, .slice A1_1 l1_1.length c1_1] 26 (0, 0)) qB70) : gb193 ≠ gb217))
                have n12_ := Aside0.mk ((by rw [hg]; exact Nat.ne_of_gt (blk_lt (g := gb193) (o := .cells #[.int .i64 a1_0, .slice A1_1 l1_1.length c1_1] 26 (0, 0)) qB70) : gb217 ≠ gb193))
                have n13_ := Aside0.mk ((by rw [hg]; exact Nat.ne_of_lt (blk_lt (g := gb194) (o := .cells #[.int .i64 0, .slice none 0 0] 26 (0, 0)) qB71) : gb194 ≠ gb217))
                have n14_ := Aside0.mk ((by rw [hg]; exact Nat.ne_of_gt (blk_lt (g := gb194) (o := .cells #[.int .i64 0, .slice none 0 0] 26 (0, 0)) qB71) : gb217 ≠ gb194))
                clear HO_6
                clear HO_7
                clear BK192
                clear BK193
                clear BK194
                clear HB
                have HO_6 := n0_
                have HO_7 := n1_
                have BK192 := n2_
                have BK193 := n3_
                have BK194 := n4_
                have HB := n5_
                have BK217 := n6_
                have GW217 := n7_
                have GE217 := n8_
                have NB192_217 := n9_
                have NB217_192 := n10_
                have NB193_217 := n11_
                have NB217_193 := n12_
                have NB194_217 := n13_
                have NB217_194 := n14_
                clear n0_ n1_ n2_ n3_ n4_ n5_ n6_ n7_ n8_ n9_ n10_ n11_ n12_ n13_ n14_
                clear hb hbox hg
                refine hK.out _ _ ⟨(blk_cell BK192.out 0).trans rfl, (blk_cell BK192.out 1).trans rfl⟩ (fun hHeld => ?_)
                clear hK K
                refine norm_ (a' := ?_) ?_ ?_
                rotate_left
                ·show Act.put _ (some 9) _ = _
                 simp only [Act.put, List.setIfInBounds_toArray, List.set_cons_zero, List.set_cons_succ, i64_w, i32_w]
                 rfl
                exact norm_ qB18 (hJ6 (gb217) _ ⟨hHeld, qB114, qB115, qB69, qB70, qB71, qB72, GW217.out, GE217.out, NB192_217.out, NB217_192.out, NB193_217.out, NB217_193.out, NB194_217.out, NB217_194.out, qB12⟩)
               ·skip
                refine box_step ?hg (N := 10) ?hd (cs := #[.int .i64 0, .slice none 0 0]) (t := 26) ?hr ?_; (case hd => rfl); (case hg => rfl); (case hr => first | (go_simp; done) | (go_simp; rfl))
                intro gb218 hg w29 hbox hb
                have n0_ := Aside0.mk (Kd.R_below qB114 hb)
                have n1_ := Aside0.mk (Kd.R_below qB115 hb)
                have n2_ := Aside0.mk (blk_below (g := gb192) (o := .cells #[.int .i64 a0_0, .slice A0_1 l0_1.length c0_1] 26 (0, 0)) qB69 hb)
                have n3_ := Aside0.mk (blk_below (g := gb193) (o := .cells #[.int .i64 a1_0, .slice A1_1 l1_1.length c1_1] 26 (0, 0)) qB70 hb)
                have n4_ := Aside0.mk (blk_below (g := gb194) (o := .cells #[.int .i64 0, .slice none 0 0] 26 (0, 0)) qB71 hb)
                have n5_ := Aside0.mk (below_step qB16 hb)
                have n6_ := Aside0.mk (hbox)
                have n7_ := Aside0.mk ((by rw [hg]; exact (below_size qB16) : w.heap.size ≤ gb218))
                have n8_ := Aside0.mk ((by rw [hg]; exact (below_size qB16) : w.heap.size ≤ gb218))
                have n9_ := Aside0.mk ((by rw [hg]; exact Nat.ne_of_lt (blk_lt (g := gb192) (o := .cells #[.int .i64 a0_0, .slice A0_1 l0_1.length c0_1] 26 (0, 0)) qB69) : gb192 ≠ gb218))
                have n10_ := Aside0.mk ((by rw [hg]; exact Nat.ne_of_gt (blk_lt (g := gb192) (o := .cells #[.int .i64 a0_0, .slice A0_1 l0_1.length c0_1] 26 (0, 0)) qB69) : gb218 ≠ gb192))
                have n11_ := Aside0.mk ((by rw [hg]; exact Nat.ne_of_lt (blk_lt (g := gb193) (o := .cells #[.int .i64 a1_0, .slice A1_1 l1_1.length c1_1] 26 (0, 0)) qB70) : gb193 ≠ gb218))
                have n12_ := Aside0.mk ((by rw [hg]; exact Nat.ne_of_gt (blk_lt (g := gb193) (o := .cells #[.int .i64 a1_0, .slice A1_1 l1_1.length c1_1] 26 (0, 0)) qB70) : gb218 ≠ gb193))
                have n13_ := Aside0.mk ((by rw [hg]; exact Nat.ne_of_lt (blk_lt (g := gb194) (o := .cells #[.int .i64 0, .slice none 0 0] 26 (0, 0)) qB71) : gb194 ≠ gb218))
                have n14_ := Aside0.mk ((by rw [hg]; exact Nat.ne_of_gt (blk_lt (g := gb194) (o := .cells #[.int .i64 0, .slice none 0 0] 26 (0, 0)) qB71) : gb218 ≠ gb194))
                clear HO_6
                clear HO_7
                clear BK192
                clear BK193
                clear BK194
                clear HB
                have HO_6 := n0_
                have HO_7 := n1_
                have BK192 := n2_
                have BK193 := n3_
                have BK194 := n4_
                have HB := n5_
                have BK218 := n6_
                have GW218 := n7_
                have GE218 := n8_
                have NB192_218 := n9_
                have NB218_192 := n10_
                have NB193_218 := n11_
                have NB218_193 := n12_
                have NB194_218 := n13_
                have NB218_194 := n14_
                clear n0_ n1_ n2_ n3_ n4_ n5_ n6_ n7_ n8_ n9_ n10_ n11_ n12_ n13_ n14_
                clear hb hbox hg
                refine hK.out _ _ ⟨(blk_cell BK192.out 0).trans rfl, (blk_cell BK192.out 1).trans rfl⟩ (fun hHeld => ?_)
                clear hK K
                refine norm_ (a' := ?_) ?_ ?_
                rotate_left
                ·show Act.put _ (some 10) _ = _
                 simp only [Act.put, List.setIfInBounds_toArray, List.set_cons_zero, List.set_cons_succ, i64_w, i32_w]
                 rfl
                exact norm_ qB18 (hJ7 (gb218) _ ⟨hHeld, qB114, qB115, qB69, qB70, qB71, qB73, GW218.out, GE218.out, NB192_218.out, NB218_192.out, NB193_218.out, NB218_193.out, NB194_218.out, NB218_194.out, qB13⟩)
              ·skip
               rintro gb218 w30 ⟨hS_, h0_, h1_, h2_, h3_, h4_, h5_, h6_, h7_, h8_, h9_, h10_, h11_, h12_, h13_, h14_⟩
               have n0_ : Aside0 (Kd.R (Kd.int .i64) 2 w30 w.heap.size (fun k_ => some k_ ≠ (.slice Ao27 x7_1.length co27 : Value).ownBlock) (.slice Ao26 x6_1.length co26) x6_1) := ⟨h0_⟩
               have n1_ : Aside0 (Kd.R (Kd.int .i64) 2 w30 w.heap.size (fun k_ => some k_ ≠ (.slice Ao26 x6_1.length co26 : Value).ownBlock) (.slice Ao27 x7_1.length co27) x7_1) := ⟨h1_⟩
               have n2_ : Aside0 (w30.heap[gb192]? = some (.cells #[.int .i64 a0_0, .slice A0_1 l0_1.length c0_1] 26 (0, 0))) := ⟨h2_⟩
               have n3_ : Aside0 (w30.heap[gb193]? = some (.cells #[.int .i64 a1_0, .slice A1_1 l1_1.length c1_1] 26 (0, 0))) := ⟨h3_⟩
               have n4_ : Aside0 (w30.heap[gb194]? = some (.cells #[.int .i64 0, .slice none 0 0] 26 (0, 0))) := ⟨h4_⟩
               have n5_ : Aside0 (w30.heap[gb218]? = some (.cells #[.int .i64 0, .slice none 0 0] 26 (0, 0))) := ⟨h5_⟩
               have n6_ : Aside0 (w.heap.size ≤ gb218) := ⟨h6_⟩
               have n7_ : Aside0 (w.heap.size ≤ gb218) := ⟨h7_⟩
               have n8_ : Aside0 (gb192 ≠ gb218) := ⟨h8_⟩
               have n9_ : Aside0 (gb218 ≠ gb192) := ⟨h9_⟩
               have n10_ : Aside0 (gb193 ≠ gb218) := ⟨h10_⟩
               have n11_ : Aside0 (gb218 ≠ gb193) := ⟨h11_⟩
               have n12_ : Aside0 (gb194 ≠ gb218) := ⟨h12_⟩
               have n13_ : Aside0 (gb218 ≠ gb194) := ⟨h13_⟩
               have n14_ : Aside0 (Below w.heap.size w w30) := ⟨h14_⟩
               clear HO_6
               clear HO_7
               clear BK192
               clear BK193
               clear BK194
               clear HB
               clear h0_ h1_ h2_ h3_ h4_ h5_ h6_ h7_ h8_ h9_ h10_ h11_ h12_ h13_ h14_
               have HO_6 := n0_
               have HO_7 := n1_
               have BK192 := n2_
               have BK193 := n3_
               have BK194 := n4_
               have BK218 := n5_
               have GW218 := n6_
               have GE218 := n7_
               have NB192_218 := n8_
               have NB218_192 := n9_
               have NB193_218 := n10_
               have NB218_193 := n11_
               have NB194_218 := n12_
               have NB218_194 := n13_
               have HB := n14_
               clear n0_ n1_ n2_ n3_ n4_ n5_ n6_ n7_ n8_ n9_ n10_ n11_ n12_ n13_ n14_
               have hHeld : w30.cell? ⟨gb192, 0, none⟩ = some (.int .i64 a0_0) ∧ w30.cell? ⟨gb192, 1, none⟩ = some (.slice A0_1 l0_1.length c0_1) := hS_
               refine norm_ (a' := ?_) ?_ ?_
               rotate_left
               ·simp only [putAll, Act.put, List.setIfInBounds_toArray, List.set_cons_zero, List.set_cons_succ]
                rfl
               refine two_ (i := 2) (j := 6) (Ni := some 42) (Nj := some 9) #[true, true, true, true, true, false, false, true, false, false] #[true, true, false, true, true, false, true, true, false, false] rfl rfl rfl rfl (two_of HT_.out (by kernel_rfl)) (by decide) (by decide) (fun K hK => ?_) (fun K hK => ?_)
               ·skip
                refine goes_ Try.func62 (by kernel_rfl) rfl #[.agg #[.int .i64 a0_0, .slice A0_1 l0_1.length c0_1], .slice Ao26 x6_1.length co26] (by rfl) rfl rfl qB58 ?_
                with_reducible refine (spec_l01Product.calls k1 a0_0 _ _ l0_1 _ _ x6_1 t209 t210 _ ?side1 ?side2 ?side3 ?side4 A20.out).mono ?_
                (case side1 => repeat (first | exact (Kd.C_below HR0_1.out HB.out) | (with_reducible refine Kd.C_alloc ?_ _) | (with_reducible refine Kd.C_drewN ?_ _) | (with_reducible refine Kd.C_drew ?_)))
                (case side2 => exact HC0_1.out)
                (case side3 => repeat (first | exact (Kd.R_reads' HO_6.out).2.2 | (with_reducible refine Kd.C_alloc ?_ _) | (with_reducible refine Kd.C_drewN ?_ _) | (with_reducible refine Kd.C_drew ?_)))
                (case side4 => exact (Kd.R_reads' HO_6.out).2.1)
                rintro e w31 ⟨v211, rfl, ho0, hb⟩
                refine ⟨_, rfl, ?_⟩
                have n0_ := Aside0.mk (Kd.R_elder' qB114 (Kd.R_base ho0) hb)
                have n1_ := Aside0.mk (Kd.R_elder' qB115 (Kd.R_base ho0) hb)
                have n2_ := Aside0.mk (Kd.R_lower (Kd.R_new' (Kd.R_new' ho0 (Kd.R_lt qB114)) (Kd.R_lt qB115)) (below_size qB13))
                have n3_ := Aside0.mk (blk_below (g := gb192) (o := .cells #[.int .i64 a0_0, .slice A0_1 l0_1.length c0_1] 26 (0, 0)) qB69 hb)
                have n4_ := Aside0.mk (blk_below (g := gb193) (o := .cells #[.int .i64 a1_0, .slice A1_1 l1_1.length c1_1] 26 (0, 0)) qB70 hb)
                have n5_ := Aside0.mk (blk_below (g := gb194) (o := .cells #[.int .i64 0, .slice none 0 0] 26 (0, 0)) qB71 hb)
                have n6_ := Aside0.mk (blk_below (g := gb218) (o := .cells #[.int .i64 0, .slice none 0 0] 26 (0, 0)) qB73 hb)
                have n7_ := Aside0.mk (below_step qB13 hb)
                clear HO_6
                clear HO_7
                clear BK192
                clear BK193
                clear BK194
                clear BK218
                clear HB
                have HO_6 := n0_
                have HO_7 := n1_
                have HO212 := n2_
                have BK192 := n3_
                have BK193 := n4_
                have BK194 := n5_
                have BK218 := n6_
                have HB := n7_
                clear n0_ n1_ n2_ n3_ n4_ n5_ n6_ n7_
                (try clear hb)
                (try clear hb2)
                (try clear hk)
                (try clear hi)
                (try clear ho0)
                refine hK.out _ _ ⟨(blk_cell BK192.out 0).trans rfl, (blk_cell BK192.out 1).trans rfl⟩ (fun hHeld => ?_)
                clear hK K
                refine norm_ (a' := ?_) ?_ ?_
                rotate_left
                ·show Act.put _ (some 42) _ = _
                 simp only [Act.put, List.setIfInBounds_toArray, List.set_cons_zero, List.set_cons_succ, i64_w, i32_w]
                 rfl
                exact norm_ qB18 (hJ2_7 (v211, gb218) _ ⟨hHeld, qB53, qB56, qB57, qB69, qB70, qB71, qB73, GW218.out, GE218.out, NB192_218.out, NB218_192.out, NB193_218.out, NB218_193.out, NB194_218.out, NB218_194.out, qB13⟩)
               ·skip
                refine box_step ?hg (N := 9) ?hd (cs := #[.int .i64 0, .slice none 0 0]) (t := 26) ?hr ?_; (case hd => rfl); (case hg => rfl); (case hr => first | (go_simp; done) | (go_simp; rfl))
                intro gb217 hg w31 hbox hb
                have n0_ := Aside0.mk (Kd.R_below qB114 hb)
                have n1_ := Aside0.mk (Kd.R_below qB115 hb)
                have n2_ := Aside0.mk (blk_below (g := gb192) (o := .cells #[.int .i64 a0_0, .slice A0_1 l0_1.length c0_1] 26 (0, 0)) qB69 hb)
                have n3_ := Aside0.mk (blk_below (g := gb193) (o := .cells #[.int .i64 a1_0, .slice A1_1 l1_1.length c1_1] 26 (0, 0)) qB70 hb)
                have n4_ := Aside0.mk (blk_below (g := gb194) (o := .cells #[.int .i64 0, .slice none 0 0] 26 (0, 0)) qB71 hb)
                have n5_ := Aside0.mk (blk_below (g := gb218) (o := .cells #[.int .i64 0, .slice none 0 0] 26 (0, 0)) qB73 hb)
                have n6_ := Aside0.mk (below_step qB13 hb)
                have n7_ := Aside0.mk (hbox)
                have n8_ := Aside0.mk ((by rw [hg]; exact (below_size qB13) : w.heap.size ≤ gb217))
                have n9_ := Aside0.mk ((by rw [hg]; exact (below_size qB13) : w.heap.size ≤ gb217))
                have n10_ := Aside0.mk ((by rw [hg]; exact Nat.ne_of_lt (blk_lt (g := gb192) (o := .cells #[.int .i64 a0_0, .slice A0_1 l0_1.length c0_1] 26 (0, 0)) qB69) : gb192 ≠ gb217))
                have n11_ := Aside0.mk ((by rw [hg]; exact Nat.ne_of_gt (blk_lt (g := gb192) (o := .cells #[.int .i64 a0_0, .slice A0_1 l0_1.length c0_1] 26 (0, 0)) qB69) : gb217 ≠ gb192))
                have n12_ := Aside0.mk ((by rw [hg]; exact Nat.ne_of_lt (blk_lt (g := gb193) (o := .cells #[.int .i64 a1_0, .slice A1_1 l1_1.length c1_1] 26 (0, 0)) qB70) : gb193 ≠ gb217))
                have n13_ := Aside0.mk ((by rw [hg]; exact Nat.ne_of_gt (blk_lt (g := gb193) (o := .cells #[.int .i64 a1_0, .slice A1_1 l1_1.length c1_1] 26 (0, 0)) qB70) : gb217 ≠ gb193))
                have n14_ := Aside0.mk ((by rw [hg]; exact Nat.ne_of_lt (blk_lt (g := gb194) (o := .cells #[.int .i64 0, .slice none 0 0] 26 (0, 0)) qB71) : gb194 ≠ gb217))
                have n15_ := Aside0.mk ((by rw [hg]; exact Nat.ne_of_gt (blk_lt (g := gb194) (o := .cells #[.int .i64 0, .slice none 0 0] 26 (0, 0)) qB71) : gb217 ≠ gb194))
                have n16_ := Aside0.mk ((by rw [hg]; exact Nat.ne_of_lt (blk_lt (g := gb218) (o := .cells #[.int .i64 0, .slice none 0 0] 26 (0, 0)) qB73) : gb218 ≠ gb217))
                have n17_ := Aside0.mk ((by rw [hg]; exact Nat.ne_of_gt (blk_lt (g := gb218) (o := .cells #[.int .i64 0, .slice none 0 0] 26 (0, 0)) qB73) : gb217 ≠ gb218))
                clear HO_6
                clear HO_7
                clear BK192
                clear BK193
                clear BK194
                clear BK218
                clear HB
                have HO_6 := n0_
                have HO_7 := n1_
                have BK192 := n2_
                have BK193 := n3_
                have BK194 := n4_
                have BK218 := n5_
                have HB := n6_
                have BK217 := n7_
                have GW217 := n8_
                have GE217 := n9_
                have NB192_217 := n10_
                have NB217_192 := n11_
                have NB193_217 := n12_
                have NB217_193 := n13_
                have NB194_217 := n14_
                have NB217_194 := n15_
                have NB218_217 := n16_
                have NB217_218 := n17_
                clear n0_ n1_ n2_ n3_ n4_ n5_ n6_ n7_ n8_ n9_ n10_ n11_ n12_ n13_ n14_ n15_ n16_ n17_
                clear hb hbox hg
                refine hK.out _ _ ⟨(blk_cell BK192.out 0).trans rfl, (blk_cell BK192.out 1).trans rfl⟩ (fun hHeld => ?_)
                clear hK K
                refine norm_ (a' := ?_) ?_ ?_
                rotate_left
                ·show Act.put _ (some 9) _ = _
                 simp only [Act.put, List.setIfInBounds_toArray, List.set_cons_zero, List.set_cons_succ, i64_w, i32_w]
                 rfl
                exact norm_ qB18 (hJ6_7 (gb217, gb218) _ ⟨hHeld, qB114, qB115, qB69, qB70, qB71, qB72, qB73, GW217.out, GE217.out, NB192_217.out, NB217_192.out, NB193_217.out, NB217_193.out, NB194_217.out, NB217_194.out, NB218_217.out, NB217_218.out, GW218.out, GE218.out, NB192_218.out, NB218_192.out, NB193_218.out, NB218_193.out, NB194_218.out, NB218_194.out, qB10⟩)
             ·skip
              rintro gb217 w30 ⟨hS_, h0_, h1_, h2_, h3_, h4_, h5_, h6_, h7_, h8_, h9_, h10_, h11_, h12_, h13_, h14_⟩
              have n0_ : Aside0 (Kd.R (Kd.int .i64) 2 w30 w.heap.size (fun k_ => some k_ ≠ (.slice Ao27 x7_1.length co27 : Value).ownBlock) (.slice Ao26 x6_1.length co26) x6_1) := ⟨h0_⟩
              have n1_ : Aside0 (Kd.R (Kd.int .i64) 2 w30 w.heap.size (fun k_ => some k_ ≠ (.slice Ao26 x6_1.length co26 : Value).ownBlock) (.slice Ao27 x7_1.length co27) x7_1) := ⟨h1_⟩
              have n2_ : Aside0 (w30.heap[gb192]? = some (.cells #[.int .i64 a0_0, .slice A0_1 l0_1.length c0_1] 26 (0, 0))) := ⟨h2_⟩
              have n3_ : Aside0 (w30.heap[gb193]? = some (.cells #[.int .i64 a1_0, .slice A1_1 l1_1.length c1_1] 26 (0, 0))) := ⟨h3_⟩
              have n4_ : Aside0 (w30.heap[gb194]? = some (.cells #[.int .i64 0, .slice none 0 0] 26 (0, 0))) := ⟨h4_⟩
              have n5_ : Aside0 (w30.heap[gb217]? = some (.cells #[.int .i64 0, .slice none 0 0] 26 (0, 0))) := ⟨h5_⟩
              have n6_ : Aside0 (w.heap.size ≤ gb217) := ⟨h6_⟩
              have n7_ : Aside0 (w.heap.size ≤ gb217) := ⟨h7_⟩
              have n8_ : Aside0 (gb192 ≠ gb217) := ⟨h8_⟩
              have n9_ : Aside0 (gb217 ≠ gb192) := ⟨h9_⟩
              have n10_ : Aside0 (gb193 ≠ gb217) := ⟨h10_⟩
              have n11_ : Aside0 (gb217 ≠ gb193) := ⟨h11_⟩
              have n12_ : Aside0 (gb194 ≠ gb217) := ⟨h12_⟩
              have n13_ : Aside0 (gb217 ≠ gb194) := ⟨h13_⟩
              have n14_ : Aside0 (Below w.heap.size w w30) := ⟨h14_⟩
              clear HO_6
              clear HO_7
              clear BK192
              clear BK193
              clear BK194
              clear HB
              clear h0_ h1_ h2_ h3_ h4_ h5_ h6_ h7_ h8_ h9_ h10_ h11_ h12_ h13_ h14_
              have HO_6 := n0_
              have HO_7 := n1_
              have BK192 := n2_
              have BK193 := n3_
              have BK194 := n4_
              have BK217 := n5_
              have GW217 := n6_
              have GE217 := n7_
              have NB192_217 := n8_
              have NB217_192 := n9_
              have NB193_217 := n10_
              have NB217_193 := n11_
              have NB194_217 := n12_
              have NB217_194 := n13_
              have HB := n14_
              clear n0_ n1_ n2_ n3_ n4_ n5_ n6_ n7_ n8_ n9_ n10_ n11_ n12_ n13_ n14_
              have hHeld : w30.cell? ⟨gb192, 0, none⟩ = some (.int .i64 a0_0) ∧ w30.cell? ⟨gb192, 1, none⟩ = some (.slice A0_1 l0_1.length c0_1) := hS_
              refine norm_ (a' := ?_) ?_ ?_
              rotate_left
              ·simp only [putAll, Act.put, List.setIfInBounds_toArray, List.set_cons_zero, List.set_cons_succ]
               rfl
              refine two_ (i := 2) (j := 7) (Ni := some 42) (Nj := some 10) #[true, true, true, true, true, false, true, false, false, false] #[true, true, false, true, true, false, true, true, false, false] rfl rfl rfl rfl (two_of HT_.out (by kernel_rfl)) (by decide) (by decide) (fun K hK => ?_) (fun K hK => ?_)
              ·skip
               refine goes_ Try.func62 (by kernel_rfl) rfl #[.agg #[.int .i64 a0_0, .slice A0_1 l0_1.length c0_1], .slice Ao26 x6_1.length co26] (by rfl) rfl rfl qB58 ?_
               with_reducible refine (spec_l01Product.calls k1 a0_0 _ _ l0_1 _ _ x6_1 t209 t210 _ ?side1 ?side2 ?side3 ?side4 A20.out).mono ?_
               (case side1 => repeat (first | exact (Kd.C_below HR0_1.out HB.out) | (with_reducible refine Kd.C_alloc ?_ _) | (with_reducible refine Kd.C_drewN ?_ _) | (with_reducible refine Kd.C_drew ?_)))
               (case side2 => exact HC0_1.out)
               (case side3 => repeat (first | exact (Kd.R_reads' HO_6.out).2.2 | (with_reducible refine Kd.C_alloc ?_ _) | (with_reducible refine Kd.C_drewN ?_ _) | (with_reducible refine Kd.C_drew ?_)))
               (case side4 => exact (Kd.R_reads' HO_6.out).2.1)
               rintro e w31 ⟨v211, rfl, ho0, hb⟩
               refine ⟨_, rfl, ?_⟩
               have n0_ := Aside0.mk (Kd.R_elder' qB114 (Kd.R_base ho0) hb)
               have n1_ := Aside0.mk (Kd.R_elder' qB115 (Kd.R_base ho0) hb)
               have n2_ := Aside0.mk (Kd.R_lower (Kd.R_new' (Kd.R_new' ho0 (Kd.R_lt qB114)) (Kd.R_lt qB115)) (below_size qB12))
               have n3_ := Aside0.mk (blk_below (g := gb192) (o := .cells #[.int .i64 a0_0, .slice A0_1 l0_1.length c0_1] 26 (0, 0)) qB69 hb)
               have n4_ := Aside0.mk (blk_below (g := gb193) (o := .cells #[.int .i64 a1_0, .slice A1_1 l1_1.length c1_1] 26 (0, 0)) qB70 hb)
               have n5_ := Aside0.mk (blk_below (g := gb194) (o := .cells #[.int .i64 0, .slice none 0 0] 26 (0, 0)) qB71 hb)
               have n6_ := Aside0.mk (blk_below (g := gb217) (o := .cells #[.int .i64 0, .slice none 0 0] 26 (0, 0)) qB72 hb)
               have n7_ := Aside0.mk (below_step qB12 hb)
               clear HO_6
               clear HO_7
               clear BK192
               clear BK193
               clear BK194
               clear BK217
               clear HB
               have HO_6 := n0_
               have HO_7 := n1_
               have HO212 := n2_
               have BK192 := n3_
               have BK193 := n4_
               have BK194 := n5_
               have BK217 := n6_
               have HB := n7_
               clear n0_ n1_ n2_ n3_ n4_ n5_ n6_ n7_
               (try clear hb)
               (try clear hb2)
               (try clear hk)
               (try clear hi)
               (try clear ho0)
               refine hK.out _ _ ⟨(blk_cell BK192.out 0).trans rfl, (blk_cell BK192.out 1).trans rfl⟩ (fun hHeld => ?_)
               clear hK K
               refine norm_ (a' := ?_) ?_ ?_
               rotate_left
               ·show Act.put _ (some 42) _ = _
                simp only [Act.put, List.setIfInBounds_toArray, List.set_cons_zero, List.set_cons_succ, i64_w, i32_w]
                rfl
               exact norm_ qB18 (hJ2_6 (v211, gb217) _ ⟨hHeld, qB53, qB56, qB57, qB69, qB70, qB71, qB72, GW217.out, GE217.out, NB192_217.out, NB217_192.out, NB193_217.out, NB217_193.out, NB194_217.out, NB217_194.out, qB12⟩)
              ·skip
               refine box_step ?hg (N := 10) ?hd (cs := #[.int .i64 0, .slice none 0 0]) (t := 26) ?hr ?_; (case hd => rfl); (case hg => rfl); (case hr => first | (go_simp; done) | (go_simp; rfl))
               intro gb218 hg w31 hbox hb
               have n0_ := Aside0.mk (Kd.R_below qB114 hb)
               have n1_ := Aside0.mk (Kd.R_below qB115 hb)
               have n2_ := Aside0.mk (blk_below (g := gb192) (o := .cells #[.int .i64 a0_0, .slice A0_1 l0_1.length c0_1] 26 (0, 0)) qB69 hb)
               have n3_ := Aside0.mk (blk_below (g := gb193) (o := .cells #[.int .i64 a1_0, .slice A1_1 l1_1.length c1_1] 26 (0, 0)) qB70 hb)
               have n4_ := Aside0.mk (blk_below (g := gb194) (o := .cells #[.int .i64 0, .slice none 0 0] 26 (0, 0)) qB71 hb)
               have n5_ := Aside0.mk (blk_below (g := gb217) (o := .cells #[.int .i64 0, .slice none 0 0] 26 (0, 0)) qB72 hb)
               have n6_ := Aside0.mk (below_step qB12 hb)
               have n7_ := Aside0.mk (hbox)
               have n8_ := Aside0.mk ((by rw [hg]; exact (below_size qB12) : w.heap.size ≤ gb218))
               have n9_ := Aside0.mk ((by rw [hg]; exact (below_size qB12) : w.heap.size ≤ gb218))
               have n10_ := Aside0.mk ((by rw [hg]; exact Nat.ne_of_lt (blk_lt (g := gb192) (o := .cells #[.int .i64 a0_0, .slice A0_1 l0_1.length c0_1] 26 (0, 0)) qB69) : gb192 ≠ gb218))
               have n11_ := Aside0.mk ((by rw [hg]; exact Nat.ne_of_gt (blk_lt (g := gb192) (o := .cells #[.int .i64 a0_0, .slice A0_1 l0_1.length c0_1] 26 (0, 0)) qB69) : gb218 ≠ gb192))
               have n12_ := Aside0.mk ((by rw [hg]; exact Nat.ne_of_lt (blk_lt (g := gb193) (o := .cells #[.int .i64 a1_0, .slice A1_1 l1_1.length c1_1] 26 (0, 0)) qB70) : gb193 ≠ gb218))
               have n13_ := Aside0.mk ((by rw [hg]; exact Nat.ne_of_gt (blk_lt (g := gb193) (o := .cells #[.int .i64 a1_0, .slice A1_1 l1_1.length c1_1] 26 (0, 0)) qB70) : gb218 ≠ gb193))
               have n14_ := Aside0.mk ((by rw [hg]; exact Nat.ne_of_lt (blk_lt (g := gb194) (o := .cells #[.int .i64 0, .slice none 0 0] 26 (0, 0)) qB71) : gb194 ≠ gb218))
               have n15_ := Aside0.mk ((by rw [hg]; exact Nat.ne_of_gt (blk_lt (g := gb194) (o := .cells #[.int .i64 0, .slice none 0 0] 26 (0, 0)) qB71) : gb218 ≠ gb194))
               have n16_ := Aside0.mk ((by rw [hg]; exact Nat.ne_of_lt (blk_lt (g := gb217) (o := .cells #[.int .i64 0, .slice none 0 0] 26 (0, 0)) qB72) : gb217 ≠ gb218))
               have n17_ := Aside0.mk ((by rw [hg]; exact Nat.ne_of_gt (blk_lt (g := gb217) (o := .cells #[.int .i64 0, .slice none 0 0] 26 (0, 0)) qB72) : gb218 ≠ gb217))
               clear HO_6
               clear HO_7
               clear BK192
               clear BK193
               clear BK194
               clear BK217
               clear HB
               have HO_6 := n0_
               have HO_7 := n1_
               have BK192 := n2_
               have BK193 := n3_
               have BK194 := n4_
               have BK217 := n5_
               have HB := n6_
               have BK218 := n7_
               have GW218 := n8_
               have GE218 := n9_
               have NB192_218 := n10_
               have NB218_192 := n11_
               have NB193_218 := n12_
               have NB218_193 := n13_
               have NB194_218 := n14_
               have NB218_194 := n15_
               have NB217_218 := n16_
               have NB218_217 := n17_
               clear n0_ n1_ n2_ n3_ n4_ n5_ n6_ n7_ n8_ n9_ n10_ n11_ n12_ n13_ n14_ n15_ n16_ n17_
               clear hb hbox hg
               refine hK.out _ _ ⟨(blk_cell BK192.out 0).trans rfl, (blk_cell BK192.out 1).trans rfl⟩ (fun hHeld => ?_)
               clear hK K
               refine norm_ (a' := ?_) ?_ ?_
               rotate_left
               ·show Act.put _ (some 10) _ = _
                simp only [Act.put, List.setIfInBounds_toArray, List.set_cons_zero, List.set_cons_succ, i64_w, i32_w]
                rfl
               exact norm_ qB18 (hJ6_7 (gb217, gb218) _ ⟨hHeld, qB114, qB115, qB69, qB70, qB71, qB72, qB73, GW217.out, GE217.out, NB192_217.out, NB217_192.out, NB193_217.out, NB217_193.out, NB194_217.out, NB217_194.out, NB218_217.out, NB217_218.out, GW218.out, GE218.out, NB192_218.out, NB218_192.out, NB193_218.out, NB218_193.out, NB194_218.out, NB218_194.out, qB11⟩)
            ·skip
             rintro v211 w30 ⟨hS_, h0_, h1_, h2_, h3_, h4_, h5_, h6_⟩
             have n0_ : Aside0 (Kd.R (Kd.int .i64) 2 w30 w.heap.size (fun k_ => some k_ ≠ (.slice Ao26 x6_1.length co26 : Value).ownBlock ∧ some k_ ≠ (.slice Ao27 x7_1.length co27 : Value).ownBlock) v211 t210) := ⟨h0_⟩
             have n1_ : Aside0 (Kd.R (Kd.int .i64) 2 w30 w.heap.size (fun k_ => some k_ ≠ (v211 : Value).ownBlock ∧ some k_ ≠ (.slice Ao27 x7_1.length co27 : Value).ownBlock) (.slice Ao26 x6_1.length co26) x6_1) := ⟨h1_⟩
             have n2_ : Aside0 (Kd.R (Kd.int .i64) 2 w30 w.heap.size (fun k_ => some k_ ≠ (v211 : Value).ownBlock ∧ some k_ ≠ (.slice Ao26 x6_1.length co26 : Value).ownBlock) (.slice Ao27 x7_1.length co27) x7_1) := ⟨h2_⟩
             have n3_ : Aside0 (w30.heap[gb192]? = some (.cells #[.int .i64 a0_0, .slice A0_1 l0_1.length c0_1] 26 (0, 0))) := ⟨h3_⟩
             have n4_ : Aside0 (w30.heap[gb193]? = some (.cells #[.int .i64 a1_0, .slice A1_1 l1_1.length c1_1] 26 (0, 0))) := ⟨h4_⟩
             have n5_ : Aside0 (w30.heap[gb194]? = some (.cells #[.int .i64 0, .slice none 0 0] 26 (0, 0))) := ⟨h5_⟩
             have n6_ : Aside0 (Below w.heap.size w w30) := ⟨h6_⟩
             clear HO_6
             clear HO_7
             clear BK192
             clear BK193
             clear BK194
             clear HB
             clear h0_ h1_ h2_ h3_ h4_ h5_ h6_
             have HO212 := n0_
             have HO_6 := n1_
             have HO_7 := n2_
             have BK192 := n3_
             have BK193 := n4_
             have BK194 := n5_
             have HB := n6_
             clear n0_ n1_ n2_ n3_ n4_ n5_ n6_
             have hHeld : w30.cell? ⟨gb192, 0, none⟩ = some (.int .i64 a0_0) ∧ w30.cell? ⟨gb192, 1, none⟩ = some (.slice A0_1 l0_1.length c0_1) := hS_
             refine norm_ (a' := ?_) ?_ ?_
             rotate_left
             ·simp only [putAll, Act.put, List.setIfInBounds_toArray, List.set_cons_zero, List.set_cons_succ]
              rfl
             refine three_ (i := 5) (j := 6) (k := 7) (Ni := some 45) (Nj := some 9) (Nk := some 10) #[true, true, true, true, true, true, false, false, false, false] #[true, true, true, true, true, false, true, false, false, false] #[true, true, true, true, true, false, false, true, false, false] rfl rfl rfl rfl rfl rfl (three_of HT_.out (by kernel_rfl)) (by decide) (by decide) (by decide) (fun K hK => ?_) (fun K hK => ?_) (fun K hK => ?_)
             ·skip
              refine goes_ Try.func62 (by kernel_rfl) rfl #[.agg #[.int .i64 a0_0, .slice A0_1 l0_1.length c0_1], .slice Ao27 x7_1.length co27] (by rfl) rfl rfl qB58 ?_
              with_reducible refine (spec_l01Product.calls k1 a0_0 _ _ l0_1 _ _ x7_1 t213 t214 _ ?side1 ?side2 ?side3 ?side4 A21.out).mono ?_
              (case side1 => repeat (first | exact (Kd.C_below HR0_1.out HB.out) | (with_reducible refine Kd.C_alloc ?_ _) | (with_reducible refine Kd.C_drewN ?_ _) | (with_reducible refine Kd.C_drew ?_)))
              (case side2 => exact HC0_1.out)
              (case side3 => repeat (first | exact (Kd.R_reads' HO_7.out).2.2 | (with_reducible refine Kd.C_alloc ?_ _) | (with_reducible refine Kd.C_drewN ?_ _) | (with_reducible refine Kd.C_drew ?_)))
              (case side4 => exact (Kd.R_reads' HO_7.out).2.1)
              rintro e w31 ⟨v215, rfl, ho0, hb⟩
              refine ⟨_, rfl, ?_⟩
              have n0_ := Aside0.mk (Kd.R_elder' qB114 (Kd.R_base ho0) hb)
              have n1_ := Aside0.mk (Kd.R_elder' qB115 (Kd.R_base ho0) hb)
              have n2_ := Aside0.mk (Kd.R_elder' qB98 (Kd.R_base ho0) hb)
              have n3_ := Aside0.mk (Kd.R_lower (Kd.R_new' (Kd.R_new' (Kd.R_new' ho0 (Kd.R_lt qB114)) (Kd.R_lt qB115)) (Kd.R_lt qB98)) (below_size qB16))
              have n4_ := Aside0.mk (blk_below (g := gb192) (o := .cells #[.int .i64 a0_0, .slice A0_1 l0_1.length c0_1] 26 (0, 0)) qB69 hb)
              have n5_ := Aside0.mk (blk_below (g := gb193) (o := .cells #[.int .i64 a1_0, .slice A1_1 l1_1.length c1_1] 26 (0, 0)) qB70 hb)
              have n6_ := Aside0.mk (blk_below (g := gb194) (o := .cells #[.int .i64 0, .slice none 0 0] 26 (0, 0)) qB71 hb)
              have n7_ := Aside0.mk (below_step qB16 hb)
              clear HO_6
              clear HO_7
              clear HO212
              clear BK192
              clear BK193
              clear BK194
              clear HB
              have HO_6 := n0_
              have HO_7 := n1_
              have HO212 := n2_
              have HO216 := n3_
              have BK192 := n4_
              have BK193 := n5_
              have BK194 := n6_
              have HB := n7_
              clear n0_ n1_ n2_ n3_ n4_ n5_ n6_ n7_
              (try clear hb)
              (try clear hb2)
              (try clear hk)
              (try clear hi)
              (try clear ho0)
              refine hK.out _ _ ⟨(blk_cell BK192.out 0).trans rfl, (blk_cell BK192.out 1).trans rfl⟩ (fun hHeld => ?_)
              clear hK K
              refine norm_ (a' := ?_) ?_ ?_
              rotate_left
              ·show Act.put _ (some 45) _ = _
               simp only [Act.put, List.setIfInBounds_toArray, List.set_cons_zero, List.set_cons_succ, i64_w, i32_w]
               rfl
              exact norm_ qB18 (hJ2_5 (v211, v215) _ ⟨hHeld, qB48, qB47, qB49, qB50, qB69, qB70, qB71, qB16⟩)
             ·skip
              refine box_step ?hg (N := 9) ?hd (cs := #[.int .i64 0, .slice none 0 0]) (t := 26) ?hr ?_; (case hd => rfl); (case hg => rfl); (case hr => first | (go_simp; done) | (go_simp; rfl))
              intro gb217 hg w31 hbox hb
              have n0_ := Aside0.mk (Kd.R_below qB114 hb)
              have n1_ := Aside0.mk (Kd.R_below qB115 hb)
              have n2_ := Aside0.mk (Kd.R_below qB98 hb)
              have n3_ := Aside0.mk (blk_below (g := gb192) (o := .cells #[.int .i64 a0_0, .slice A0_1 l0_1.length c0_1] 26 (0, 0)) qB69 hb)
              have n4_ := Aside0.mk (blk_below (g := gb193) (o := .cells #[.int .i64 a1_0, .slice A1_1 l1_1.length c1_1] 26 (0, 0)) qB70 hb)
              have n5_ := Aside0.mk (blk_below (g := gb194) (o := .cells #[.int .i64 0, .slice none 0 0] 26 (0, 0)) qB71 hb)
              have n6_ := Aside0.mk (below_step qB16 hb)
              have n7_ := Aside0.mk (hbox)
              have n8_ := Aside0.mk ((by rw [hg]; exact (below_size qB16) : w.heap.size ≤ gb217))
              have n9_ := Aside0.mk ((by rw [hg]; exact (below_size qB16) : w.heap.size ≤ gb217))
              have n10_ := Aside0.mk ((by rw [hg]; exact Nat.ne_of_lt (blk_lt (g := gb192) (o := .cells #[.int .i64 a0_0, .slice A0_1 l0_1.length c0_1] 26 (0, 0)) qB69) : gb192 ≠ gb217))
              have n11_ := Aside0.mk ((by rw [hg]; exact Nat.ne_of_gt (blk_lt (g := gb192) (o := .cells #[.int .i64 a0_0, .slice A0_1 l0_1.length c0_1] 26 (0, 0)) qB69) : gb217 ≠ gb192))
              have n12_ := Aside0.mk ((by rw [hg]; exact Nat.ne_of_lt (blk_lt (g := gb193) (o := .cells #[.int .i64 a1_0, .slice A1_1 l1_1.length c1_1] 26 (0, 0)) qB70) : gb193 ≠ gb217))
              have n13_ := Aside0.mk ((by rw [hg]; exact Nat.ne_of_gt (blk_lt (g := gb193) (o := .cells #[.int .i64 a1_0, .slice A1_1 l1_1.length c1_1] 26 (0, 0)) qB70) : gb217 ≠ gb193))
              have n14_ := Aside0.mk ((by rw [hg]; exact Nat.ne_of_lt (blk_lt (g := gb194) (o := .cells #[.int .i64 0, .slice none 0 0] 26 (0, 0)) qB71) : gb194 ≠ gb217))
              have n15_ := Aside0.mk ((by rw [hg]; exact Nat.ne_of_gt (blk_lt (g := gb194) (o := .cells #[.int .i64 0, .slice none 0 0] 26 (0, 0)) qB71) : gb217 ≠ gb194))
              clear HO_6
              clear HO_7
              clear HO212
              clear BK192
              clear BK193
              clear BK194
              clear HB
              have HO_6 := n0_
              have HO_7 := n1_
              have HO212 := n2_
              have BK192 := n3_
              have BK193 := n4_
              have BK194 := n5_
              have HB := n6_
              have BK217 := n7_
              have GW217 := n8_
              have GE217 := n9_
              have NB192_217 := n10_
              have NB217_192 := n11_
              have NB193_217 := n12_
              have NB217_193 := n13_
              have NB194_217 := n14_
              have NB217_194 := n15_
              clear n0_ n1_ n2_ n3_ n4_ n5_ n6_ n7_ n8_ n9_ n10_ n11_ n12_ n13_ n14_ n15_
              clear hb hbox hg
              refine hK.out _ _ ⟨(blk_cell BK192.out 0).trans rfl, (blk_cell BK192.out 1).trans rfl⟩ (fun hHeld => ?_)
              clear hK K
              refine norm_ (a' := ?_) ?_ ?_
              rotate_left
              ·show Act.put _ (some 9) _ = _
               simp only [Act.put, List.setIfInBounds_toArray, List.set_cons_zero, List.set_cons_succ, i64_w, i32_w]
               rfl
              exact norm_ qB18 (hJ2_6 (v211, gb217) _ ⟨hHeld, qB98, qB114, qB115, qB69, qB70, qB71, qB72, GW217.out, GE217.out, NB192_217.out, NB217_192.out, NB193_217.out, NB217_193.out, NB194_217.out, NB217_194.out, qB12⟩)
             ·skip
              refine box_step ?hg (N := 10) ?hd (cs := #[.int .i64 0, .slice none 0 0]) (t := 26) ?hr ?_; (case hd => rfl); (case hg => rfl); (case hr => first | (go_simp; done) | (go_simp; rfl))
              intro gb218 hg w31 hbox hb
              have n0_ := Aside0.mk (Kd.R_below qB114 hb)
              have n1_ := Aside0.mk (Kd.R_below qB115 hb)
              have n2_ := Aside0.mk (Kd.R_below qB98 hb)
              have n3_ := Aside0.mk (blk_below (g := gb192) (o := .cells #[.int .i64 a0_0, .slice A0_1 l0_1.length c0_1] 26 (0, 0)) qB69 hb)
              have n4_ := Aside0.mk (blk_below (g := gb193) (o := .cells #[.int .i64 a1_0, .slice A1_1 l1_1.length c1_1] 26 (0, 0)) qB70 hb)
              have n5_ := Aside0.mk (blk_below (g := gb194) (o := .cells #[.int .i64 0, .slice none 0 0] 26 (0, 0)) qB71 hb)
              have n6_ := Aside0.mk (below_step qB16 hb)
              have n7_ := Aside0.mk (hbox)
              have n8_ := Aside0.mk ((by rw [hg]; exact (below_size qB16) : w.heap.size ≤ gb218))
              have n9_ := Aside0.mk ((by rw [hg]; exact (below_size qB16) : w.heap.size ≤ gb218))
              have n10_ := Aside0.mk ((by rw [hg]; exact Nat.ne_of_lt (blk_lt (g := gb192) (o := .cells #[.int .i64 a0_0, .slice A0_1 l0_1.length c0_1] 26 (0, 0)) qB69) : gb192 ≠ gb218))
              have n11_ := Aside0.mk ((by rw [hg]; exact Nat.ne_of_gt (blk_lt (g := gb192) (o := .cells #[.int .i64 a0_0, .slice A0_1 l0_1.length c0_1] 26 (0, 0)) qB69) : gb218 ≠ gb192))
              have n12_ := Aside0.mk ((by rw [hg]; exact Nat.ne_of_lt (blk_lt (g := gb193) (o := .cells #[.int .i64 a1_0, .slice A1_1 l1_1.length c1_1] 26 (0, 0)) qB70) : gb193 ≠ gb218))
              have n13_ := Aside0.mk ((by rw [hg]; exact Nat.ne_of_gt (blk_lt (g := gb193) (o := .cells #[.int .i64 a1_0, .slice A1_1 l1_1.length c1_1] 26 (0, 0)) qB70) : gb218 ≠ gb193))
              have n14_ := Aside0.mk ((by rw [hg]; exact Nat.ne_of_lt (blk_lt (g := gb194) (o := .cells #[.int .i64 0, .slice none 0 0] 26 (0, 0)) qB71) : gb194 ≠ gb218))
              have n15_ := Aside0.mk ((by rw [hg]; exact Nat.ne_of_gt (blk_lt (g := gb194) (o := .cells #[.int .i64 0, .slice none 0 0] 26 (0, 0)) qB71) : gb218 ≠ gb194))
              clear HO_6
              clear HO_7
              clear HO212
              clear BK192
              clear BK193
              clear BK194
              clear HB
              have HO_6 := n0_
              have HO_7 := n1_
              have HO212 := n2_
              have BK192 := n3_
              have BK193 := n4_
              have BK194 := n5_
              have HB := n6_
              have BK218 := n7_
              have GW218 := n8_
              have GE218 := n9_
              have NB192_218 := n10_
              have NB218_192 := n11_
              have NB193_218 := n12_
              have NB218_193 := n13_
              have NB194_218 := n14_
              have NB218_194 := n15_
              clear n0_ n1_ n2_ n3_ n4_ n5_ n6_ n7_ n8_ n9_ n10_ n11_ n12_ n13_ n14_ n15_
              clear hb hbox hg
              refine hK.out _ _ ⟨(blk_cell BK192.out 0).trans rfl, (blk_cell BK192.out 1).trans rfl⟩ (fun hHeld => ?_)
              clear hK K
              refine norm_ (a' := ?_) ?_ ?_
              rotate_left
              ·show Act.put _ (some 10) _ = _
               simp only [Act.put, List.setIfInBounds_toArray, List.set_cons_zero, List.set_cons_succ, i64_w, i32_w]
               rfl
              exact norm_ qB18 (hJ2_7 (v211, gb218) _ ⟨hHeld, qB98, qB114, qB115, qB69, qB70, qB71, qB73, GW218.out, GE218.out, NB192_218.out, NB218_192.out, NB193_218.out, NB218_193.out, NB194_218.out, NB218_194.out, qB13⟩)
           ·skip
            rintro ⟨gb217, gb218⟩ w31 ⟨hS_, h0_, h1_, h2_, h3_, h4_, h5_, h6_, h7_, h8_, h9_, h10_, h11_, h12_, h13_, h14_, h15_, h16_, h17_, h18_, h19_, h20_, h21_, h22_, h23_, h24_, h25_⟩
            have n0_ : Aside0 (Kd.R (Kd.int .i64) 2 w31 w.heap.size (fun k_ => some k_ ≠ (.slice Ao27 x7_1.length co27 : Value).ownBlock) (.slice Ao26 x6_1.length co26) x6_1) := ⟨h0_⟩
            have n1_ : Aside0 (Kd.R (Kd.int .i64) 2 w31 w.heap.size (fun k_ => some k_ ≠ (.slice Ao26 x6_1.length co26 : Value).ownBlock) (.slice Ao27 x7_1.length co27) x7_1) := ⟨h1_⟩
            have n2_ : Aside0 (w31.heap[gb192]? = some (.cells #[.int .i64 a0_0, .slice A0_1 l0_1.length c0_1] 26 (0, 0))) := ⟨h2_⟩
            have n3_ : Aside0 (w31.heap[gb193]? = some (.cells #[.int .i64 a1_0, .slice A1_1 l1_1.length c1_1] 26 (0, 0))) := ⟨h3_⟩
            have n4_ : Aside0 (w31.heap[gb194]? = some (.cells #[.int .i64 0, .slice none 0 0] 26 (0, 0))) := ⟨h4_⟩
            have n5_ : Aside0 (w31.heap[gb217]? = some (.cells #[.int .i64 0, .slice none 0 0] 26 (0, 0))) := ⟨h5_⟩
            have n6_ : Aside0 (w31.heap[gb218]? = some (.cells #[.int .i64 0, .slice none 0 0] 26 (0, 0))) := ⟨h6_⟩
            have n7_ : Aside0 (w.heap.size ≤ gb217) := ⟨h7_⟩
            have n8_ : Aside0 (w.heap.size ≤ gb217) := ⟨h8_⟩
            have n9_ : Aside0 (gb192 ≠ gb217) := ⟨h9_⟩
            have n10_ : Aside0 (gb217 ≠ gb192) := ⟨h10_⟩
            have n11_ : Aside0 (gb193 ≠ gb217) := ⟨h11_⟩
            have n12_ : Aside0 (gb217 ≠ gb193) := ⟨h12_⟩
            have n13_ : Aside0 (gb194 ≠ gb217) := ⟨h13_⟩
            have n14_ : Aside0 (gb217 ≠ gb194) := ⟨h14_⟩
            have n15_ : Aside0 (gb218 ≠ gb217) := ⟨h15_⟩
            have n16_ : Aside0 (gb217 ≠ gb218) := ⟨h16_⟩
            have n17_ : Aside0 (w.heap.size ≤ gb218) := ⟨h17_⟩
            have n18_ : Aside0 (w.heap.size ≤ gb218) := ⟨h18_⟩
            have n19_ : Aside0 (gb192 ≠ gb218) := ⟨h19_⟩
            have n20_ : Aside0 (gb218 ≠ gb192) := ⟨h20_⟩
            have n21_ : Aside0 (gb193 ≠ gb218) := ⟨h21_⟩
            have n22_ : Aside0 (gb218 ≠ gb193) := ⟨h22_⟩
            have n23_ : Aside0 (gb194 ≠ gb218) := ⟨h23_⟩
            have n24_ : Aside0 (gb218 ≠ gb194) := ⟨h24_⟩
            have n25_ : Aside0 (Below w.heap.size w w31) := ⟨h25_⟩
            clear HO_6
            clear HO_7
            clear BK192
            clear BK193
            clear BK194
            clear HB
            clear h0_ h1_ h2_ h3_ h4_ h5_ h6_ h7_ h8_ h9_ h10_ h11_ h12_ h13_ h14_ h15_ h16_ h17_ h18_ h19_ h20_ h21_ h22_ h23_ h24_ h25_
            have HO_6 := n0_
            have HO_7 := n1_
            have BK192 := n2_
            have BK193 := n3_
            have BK194 := n4_
            have BK217 := n5_
            have BK218 := n6_
            have GW217 := n7_
            have GE217 := n8_
            have NB192_217 := n9_
            have NB217_192 := n10_
            have NB193_217 := n11_
            have NB217_193 := n12_
            have NB194_217 := n13_
            have NB217_194 := n14_
            have NB218_217 := n15_
            have NB217_218 := n16_
            have GW218 := n17_
            have GE218 := n18_
            have NB192_218 := n19_
            have NB218_192 := n20_
            have NB193_218 := n21_
            have NB218_193 := n22_
            have NB194_218 := n23_
            have NB218_194 := n24_
            have HB := n25_
            clear n0_ n1_ n2_ n3_ n4_ n5_ n6_ n7_ n8_ n9_ n10_ n11_ n12_ n13_ n14_ n15_ n16_ n17_ n18_ n19_ n20_ n21_ n22_ n23_ n24_ n25_
            have hHeld : w31.cell? ⟨gb192, 0, none⟩ = some (.int .i64 a0_0) ∧ w31.cell? ⟨gb192, 1, none⟩ = some (.slice A0_1 l0_1.length c0_1) := hS_
            refine norm_ (a' := ?_) ?_ ?_
            rotate_left
            ·simp only [putAll, Act.put, List.setIfInBounds_toArray, List.set_cons_zero, List.set_cons_succ]
             rfl
            refine one_ (i := 2) (N := some 42) #[true, true, true, true, true, false, true, true, false, false] rfl rfl (one_of HT_.out (by kernel_rfl)) (by decide) (fun K hK => ?_)
            refine goes_ Try.func62 (by kernel_rfl) rfl #[.agg #[.int .i64 a0_0, .slice A0_1 l0_1.length c0_1], .slice Ao26 x6_1.length co26] (by rfl) rfl rfl qB58 ?_
            with_reducible refine (spec_l01Product.calls k1 a0_0 _ _ l0_1 _ _ x6_1 t209 t210 _ ?side1 ?side2 ?side3 ?side4 A20.out).mono ?_
            (case side1 => repeat (first | exact (Kd.C_below HR0_1.out HB.out) | (with_reducible refine Kd.C_alloc ?_ _) | (with_reducible refine Kd.C_drewN ?_ _) | (with_reducible refine Kd.C_drew ?_)))
            (case side2 => exact HC0_1.out)
            (case side3 => repeat (first | exact (Kd.R_reads' HO_6.out).2.2 | (with_reducible refine Kd.C_alloc ?_ _) | (with_reducible refine Kd.C_drewN ?_ _) | (with_reducible refine Kd.C_drew ?_)))
            (case side4 => exact (Kd.R_reads' HO_6.out).2.1)
            rintro e w32 ⟨v211, rfl, ho0, hb⟩
            refine ⟨_, rfl, ?_⟩
            have n0_ := Aside0.mk (Kd.R_elder' qB114 (Kd.R_base ho0) hb)
            have n1_ := Aside0.mk (Kd.R_elder' qB115 (Kd.R_base ho0) hb)
            have n2_ := Aside0.mk (Kd.R_lower (Kd.R_new' (Kd.R_new' ho0 (Kd.R_lt qB114)) (Kd.R_lt qB115)) (below_size qB11))
            have n3_ := Aside0.mk (blk_below (g := gb192) (o := .cells #[.int .i64 a0_0, .slice A0_1 l0_1.length c0_1] 26 (0, 0)) qB69 hb)
            have n4_ := Aside0.mk (blk_below (g := gb193) (o := .cells #[.int .i64 a1_0, .slice A1_1 l1_1.length c1_1] 26 (0, 0)) qB70 hb)
            have n5_ := Aside0.mk (blk_below (g := gb194) (o := .cells #[.int .i64 0, .slice none 0 0] 26 (0, 0)) qB71 hb)
            have n6_ := Aside0.mk (blk_below (g := gb217) (o := .cells #[.int .i64 0, .slice none 0 0] 26 (0, 0)) qB72 hb)
            have n7_ := Aside0.mk (blk_below (g := gb218) (o := .cells #[.int .i64 0, .slice none 0 0] 26 (0, 0)) qB73 hb)
            have n8_ := Aside0.mk (below_step qB11 hb)
            clear HO_6
            clear HO_7
            clear BK192
            clear BK193
            clear BK194
            clear BK217
            clear BK218
            clear HB
            have HO_6 := n0_
            have HO_7 := n1_
            have HO212 := n2_
            have BK192 := n3_
            have BK193 := n4_
            have BK194 := n5_
            have BK217 := n6_
            have BK218 := n7_
            have HB := n8_
            clear n0_ n1_ n2_ n3_ n4_ n5_ n6_ n7_ n8_
            (try clear hb)
            (try clear hb2)
            (try clear hk)
            (try clear hi)
            (try clear ho0)
            refine hK.out _ _ ⟨(blk_cell BK192.out 0).trans rfl, (blk_cell BK192.out 1).trans rfl⟩ (fun hHeld => ?_)
            clear hK K
            refine norm_ (a' := ?_) ?_ ?_
            rotate_left
            ·show Act.put _ (some 42) _ = _
             simp only [Act.put, List.setIfInBounds_toArray, List.set_cons_zero, List.set_cons_succ, i64_w, i32_w]
             rfl
            exact norm_ qB18 (hJ2_6_7 (v211, gb217, gb218) _ ⟨hHeld, qB53, qB56, qB57, qB69, qB70, qB71, qB72, qB73, GW217.out, GE217.out, NB192_217.out, NB217_192.out, NB193_217.out, NB217_193.out, NB194_217.out, NB217_194.out, NB218_217.out, NB217_218.out, GW218.out, GE218.out, NB192_218.out, NB218_192.out, NB193_218.out, NB218_193.out, NB194_218.out, NB218_194.out, qB11⟩)
          ·skip
           rintro ⟨v211, gb218⟩ w31 ⟨hS_, h0_, h1_, h2_, h3_, h4_, h5_, h6_, h7_, h8_, h9_, h10_, h11_, h12_, h13_, h14_, h15_⟩
           have n0_ : Aside0 (Kd.R (Kd.int .i64) 2 w31 w.heap.size (fun k_ => some k_ ≠ (.slice Ao26 x6_1.length co26 : Value).ownBlock ∧ some k_ ≠ (.slice Ao27 x7_1.length co27 : Value).ownBlock) v211 t210) := ⟨h0_⟩
           have n1_ : Aside0 (Kd.R (Kd.int .i64) 2 w31 w.heap.size (fun k_ => some k_ ≠ (v211 : Value).ownBlock ∧ some k_ ≠ (.slice Ao27 x7_1.length co27 : Value).ownBlock) (.slice Ao26 x6_1.length co26) x6_1) := ⟨h1_⟩
           have n2_ : Aside0 (Kd.R (Kd.int .i64) 2 w31 w.heap.size (fun k_ => some k_ ≠ (v211 : Value).ownBlock ∧ some k_ ≠ (.slice Ao26 x6_1.length co26 : Value).ownBlock) (.slice Ao27 x7_1.length co27) x7_1) := ⟨h2_⟩
           have n3_ : Aside0 (w31.heap[gb192]? = some (.cells #[.int .i64 a0_0, .slice A0_1 l0_1.length c0_1] 26 (0, 0))) := ⟨h3_⟩
           have n4_ : Aside0 (w31.heap[gb193]? = some (.cells #[.int .i64 a1_0, .slice A1_1 l1_1.length c1_1] 26 (0, 0))) := ⟨h4_⟩
           have n5_ : Aside0 (w31.heap[gb194]? = some (.cells #[.int .i64 0, .slice none 0 0] 26 (0, 0))) := ⟨h5_⟩
           have n6_ : Aside0 (w31.heap[gb218]? = some (.cells #[.int .i64 0, .slice none 0 0] 26 (0, 0))) := ⟨h6_⟩
           have n7_ : Aside0 (w.heap.size ≤ gb218) := ⟨h7_⟩
           have n8_ : Aside0 (w.heap.size ≤ gb218) := ⟨h8_⟩
           have n9_ : Aside0 (gb192 ≠ gb218) := ⟨h9_⟩
           have n10_ : Aside0 (gb218 ≠ gb192) := ⟨h10_⟩
           have n11_ : Aside0 (gb193 ≠ gb218) := ⟨h11_⟩
           have n12_ : Aside0 (gb218 ≠ gb193) := ⟨h12_⟩
           have n13_ : Aside0 (gb194 ≠ gb218) := ⟨h13_⟩
           have n14_ : Aside0 (gb218 ≠ gb194) := ⟨h14_⟩
           have n15_ : Aside0 (Below w.heap.size w w31) := ⟨h15_⟩
           clear HO_6
           clear HO_7
           clear BK192
           clear BK193
           clear BK194
           clear HB
           clear h0_ h1_ h2_ h3_ h4_ h5_ h6_ h7_ h8_ h9_ h10_ h11_ h12_ h13_ h14_ h15_
           have HO212 := n0_
           have HO_6 := n1_
           have HO_7 := n2_
           have BK192 := n3_
           have BK193 := n4_
           have BK194 := n5_
           have BK218 := n6_
           have GW218 := n7_
           have GE218 := n8_
           have NB192_218 := n9_
           have NB218_192 := n10_
           have NB193_218 := n11_
           have NB218_193 := n12_
           have NB194_218 := n13_
           have NB218_194 := n14_
           have HB := n15_
           clear n0_ n1_ n2_ n3_ n4_ n5_ n6_ n7_ n8_ n9_ n10_ n11_ n12_ n13_ n14_ n15_
           have hHeld : w31.cell? ⟨gb192, 0, none⟩ = some (.int .i64 a0_0) ∧ w31.cell? ⟨gb192, 1, none⟩ = some (.slice A0_1 l0_1.length c0_1) := hS_
           refine norm_ (a' := ?_) ?_ ?_
           rotate_left
           ·simp only [putAll, Act.put, List.setIfInBounds_toArray, List.set_cons_zero, List.set_cons_succ]
            rfl
           refine two_ (i := 5) (j := 6) (Ni := some 45) (Nj := some 9) #[true, true, true, true, true, true, false, true, false, false] #[true, true, true, true, true, false, true, true, false, false] rfl rfl rfl rfl (two_of HT_.out (by kernel_rfl)) (by decide) (by decide) (fun K hK => ?_) (fun K hK => ?_)
           ·skip
            refine goes_ Try.func62 (by kernel_rfl) rfl #[.agg #[.int .i64 a0_0, .slice A0_1 l0_1.length c0_1], .slice Ao27 x7_1.length co27] (by rfl) rfl rfl qB58 ?_
            with_reducible refine (spec_l01Product.calls k1 a0_0 _ _ l0_1 _ _ x7_1 t213 t214 _ ?side1 ?side2 ?side3 ?side4 A21.out).mono ?_
            (case side1 => repeat (first | exact (Kd.C_below HR0_1.out HB.out) | (with_reducible refine Kd.C_alloc ?_ _) | (with_reducible refine Kd.C_drewN ?_ _) | (with_reducible refine Kd.C_drew ?_)))
            (case side2 => exact HC0_1.out)
            (case side3 => repeat (first | exact (Kd.R_reads' HO_7.out).2.2 | (with_reducible refine Kd.C_alloc ?_ _) | (with_reducible refine Kd.C_drewN ?_ _) | (with_reducible refine Kd.C_drew ?_)))
            (case side4 => exact (Kd.R_reads' HO_7.out).2.1)
            rintro e w32 ⟨v215, rfl, ho0, hb⟩
            refine ⟨_, rfl, ?_⟩
            have n0_ := Aside0.mk (Kd.R_elder' qB114 (Kd.R_base ho0) hb)
            have n1_ := Aside0.mk (Kd.R_elder' qB115 (Kd.R_base ho0) hb)
            have n2_ := Aside0.mk (Kd.R_elder' qB98 (Kd.R_base ho0) hb)
            have n3_ := Aside0.mk (Kd.R_lower (Kd.R_new' (Kd.R_new' (Kd.R_new' ho0 (Kd.R_lt qB114)) (Kd.R_lt qB115)) (Kd.R_lt qB98)) (below_size qB13))
            have n4_ := Aside0.mk (blk_below (g := gb192) (o := .cells #[.int .i64 a0_0, .slice A0_1 l0_1.length c0_1] 26 (0, 0)) qB69 hb)
            have n5_ := Aside0.mk (blk_below (g := gb193) (o := .cells #[.int .i64 a1_0, .slice A1_1 l1_1.length c1_1] 26 (0, 0)) qB70 hb)
            have n6_ := Aside0.mk (blk_below (g := gb194) (o := .cells #[.int .i64 0, .slice none 0 0] 26 (0, 0)) qB71 hb)
            have n7_ := Aside0.mk (blk_below (g := gb218) (o := .cells #[.int .i64 0, .slice none 0 0] 26 (0, 0)) qB73 hb)
            have n8_ := Aside0.mk (below_step qB13 hb)
            clear HO_6
            clear HO_7
            clear HO212
            clear BK192
            clear BK193
            clear BK194
            clear BK218
            clear HB
            have HO_6 := n0_
            have HO_7 := n1_
            have HO212 := n2_
            have HO216 := n3_
            have BK192 := n4_
            have BK193 := n5_
            have BK194 := n6_
            have BK218 := n7_
            have HB := n8_
            clear n0_ n1_ n2_ n3_ n4_ n5_ n6_ n7_ n8_
            (try clear hb)
            (try clear hb2)
            (try clear hk)
            (try clear hi)
            (try clear ho0)
            refine hK.out _ _ ⟨(blk_cell BK192.out 0).trans rfl, (blk_cell BK192.out 1).trans rfl⟩ (fun hHeld => ?_)
            clear hK K
            refine norm_ (a' := ?_) ?_ ?_
            rotate_left
            ·show Act.put _ (some 45) _ = _
             simp only [Act.put, List.setIfInBounds_toArray, List.set_cons_zero, List.set_cons_succ, i64_w, i32_w]
             rfl
            exact norm_ qB18 (hJ2_5_7 (v211, v215, gb218) _ ⟨hHeld, qB48, qB47, qB49, qB50, qB69, qB70, qB71, qB73, GW218.out, GE218.out, NB192_218.out, NB218_192.out, NB193_218.out, NB218_193.out, NB194_218.out, NB218_194.out, qB13⟩)
           ·skip
            refine box_step ?hg (N := 9) ?hd (cs := #[.int .i64 0, .slice none 0 0]) (t := 26) ?hr ?_; (case hd => rfl); (case hg => rfl); (case hr => first | (go_simp; done) | (go_simp; rfl))
            intro gb217 hg w32 hbox hb
            have n0_ := Aside0.mk (Kd.R_below qB114 hb)
            have n1_ := Aside0.mk (Kd.R_below qB115 hb)
            have n2_ := Aside0.mk (Kd.R_below qB98 hb)
            have n3_ := Aside0.mk (blk_below (g := gb192) (o := .cells #[.int .i64 a0_0, .slice A0_1 l0_1.length c0_1] 26 (0, 0)) qB69 hb)
            have n4_ := Aside0.mk (blk_below (g := gb193) (o := .cells #[.int .i64 a1_0, .slice A1_1 l1_1.length c1_1] 26 (0, 0)) qB70 hb)
            have n5_ := Aside0.mk (blk_below (g := gb194) (o := .cells #[.int .i64 0, .slice none 0 0] 26 (0, 0)) qB71 hb)
            have n6_ := Aside0.mk (blk_below (g := gb218) (o := .cells #[.int .i64 0, .slice none 0 0] 26 (0, 0)) qB73 hb)
            have n7_ := Aside0.mk (below_step qB13 hb)
            have n8_ := Aside0.mk (hbox)
            have n9_ := Aside0.mk ((by rw [hg]; exact (below_size qB13) : w.heap.size ≤ gb217))
            have n10_ := Aside0.mk ((by rw [hg]; exact (below_size qB13) : w.heap.size ≤ gb217))
            have n11_ := Aside0.mk ((by rw [hg]; exact Nat.ne_of_lt (blk_lt (g := gb192) (o := .cells #[.int .i64 a0_0, .slice A0_1 l0_1.length c0_1] 26 (0, 0)) qB69) : gb192 ≠ gb217))
            have n12_ := Aside0.mk ((by rw [hg]; exact Nat.ne_of_gt (blk_lt (g := gb192) (o := .cells #[.int .i64 a0_0, .slice A0_1 l0_1.length c0_1] 26 (0, 0)) qB69) : gb217 ≠ gb192))
            have n13_ := Aside0.mk ((by rw [hg]; exact Nat.ne_of_lt (blk_lt (g := gb193) (o := .cells #[.int .i64 a1_0, .slice A1_1 l1_1.length c1_1] 26 (0, 0)) qB70) : gb193 ≠ gb217))
            have n14_ := Aside0.mk ((by rw [hg]; exact Nat.ne_of_gt (blk_lt (g := gb193) (o := .cells #[.int .i64 a1_0, .slice A1_1 l1_1.length c1_1] 26 (0, 0)) qB70) : gb217 ≠ gb193))
            have n15_ := Aside0.mk ((by rw [hg]; exact Nat.ne_of_lt (blk_lt (g := gb194) (o := .cells #[.int .i64 0, .slice none 0 0] 26 (0, 0)) qB71) : gb194 ≠ gb217))
            have n16_ := Aside0.mk ((by rw [hg]; exact Nat.ne_of_gt (blk_lt (g := gb194) (o := .cells #[.int .i64 0, .slice none 0 0] 26 (0, 0)) qB71) : gb217 ≠ gb194))
            have n17_ := Aside0.mk ((by rw [hg]; exact Nat.ne_of_lt (blk_lt (g := gb218) (o := .cells #[.int .i64 0, .slice none 0 0] 26 (0, 0)) qB73) : gb218 ≠ gb217))
            have n18_ := Aside0.mk ((by rw [hg]; exact Nat.ne_of_gt (blk_lt (g := gb218) (o := .cells #[.int .i64 0, .slice none 0 0] 26 (0, 0)) qB73) : gb217 ≠ gb218))
            clear HO_6
            clear HO_7
            clear HO212
            clear BK192
            clear BK193
            clear BK194
            clear BK218
            clear HB
            have HO_6 := n0_
            have HO_7 := n1_
            have HO212 := n2_
            have BK192 := n3_
            have BK193 := n4_
            have BK194 := n5_
            have BK218 := n6_
            have HB := n7_
            have BK217 := n8_
            have GW217 := n9_
            have GE217 := n10_
            have NB192_217 := n11_
            have NB217_192 := n12_
            have NB193_217 := n13_
            have NB217_193 := n14_
            have NB194_217 := n15_
            have NB217_194 := n16_
            have NB218_217 := n17_
            have NB217_218 := n18_
            clear n0_ n1_ n2_ n3_ n4_ n5_ n6_ n7_ n8_ n9_ n10_ n11_ n12_ n13_ n14_ n15_ n16_ n17_ n18_
            clear hb hbox hg
            refine hK.out _ _ ⟨(blk_cell BK192.out 0).trans rfl, (blk_cell BK192.out 1).trans rfl⟩ (fun hHeld => ?_)
            clear hK K
            refine norm_ (a' := ?_) ?_ ?_
            rotate_left
            ·show Act.put _ (some 9) _ = _
             simp only [Act.put, List.setIfInBounds_toArray, List.set_cons_zero, List.set_cons_succ, i64_w, i32_w]
             rfl
            exact norm_ qB18 (hJ2_6_7 (v211, gb217, gb218) _ ⟨hHeld, qB98, qB114, qB115, qB69, qB70, qB71, qB72, qB73, GW217.out, GE217.out, NB192_217.out, NB217_192.out, NB193_217.out, NB217_193.out, NB194_217.out, NB217_194.out, NB218_217.out, NB217_218.out, GW218.out, GE218.out, NB192_218.out, NB218_192.out, NB193_218.out, NB218_193.out, NB194_218.out, NB218_194.out, qB10⟩)
         ·skip
          rintro ⟨v211, gb217⟩ w31 ⟨hS_, h0_, h1_, h2_, h3_, h4_, h5_, h6_, h7_, h8_, h9_, h10_, h11_, h12_, h13_, h14_, h15_⟩
          have n0_ : Aside0 (Kd.R (Kd.int .i64) 2 w31 w.heap.size (fun k_ => some k_ ≠ (.slice Ao26 x6_1.length co26 : Value).ownBlock ∧ some k_ ≠ (.slice Ao27 x7_1.length co27 : Value).ownBlock) v211 t210) := ⟨h0_⟩
          have n1_ : Aside0 (Kd.R (Kd.int .i64) 2 w31 w.heap.size (fun k_ => some k_ ≠ (v211 : Value).ownBlock ∧ some k_ ≠ (.slice Ao27 x7_1.length co27 : Value).ownBlock) (.slice Ao26 x6_1.length co26) x6_1) := ⟨h1_⟩
          have n2_ : Aside0 (Kd.R (Kd.int .i64) 2 w31 w.heap.size (fun k_ => some k_ ≠ (v211 : Value).ownBlock ∧ some k_ ≠ (.slice Ao26 x6_1.length co26 : Value).ownBlock) (.slice Ao27 x7_1.length co27) x7_1) := ⟨h2_⟩
          have n3_ : Aside0 (w31.heap[gb192]? = some (.cells #[.int .i64 a0_0, .slice A0_1 l0_1.length c0_1] 26 (0, 0))) := ⟨h3_⟩
          have n4_ : Aside0 (w31.heap[gb193]? = some (.cells #[.int .i64 a1_0, .slice A1_1 l1_1.length c1_1] 26 (0, 0))) := ⟨h4_⟩
          have n5_ : Aside0 (w31.heap[gb194]? = some (.cells #[.int .i64 0, .slice none 0 0] 26 (0, 0))) := ⟨h5_⟩
          have n6_ : Aside0 (w31.heap[gb217]? = some (.cells #[.int .i64 0, .slice none 0 0] 26 (0, 0))) := ⟨h6_⟩
          have n7_ : Aside0 (w.heap.size ≤ gb217) := ⟨h7_⟩
          have n8_ : Aside0 (w.heap.size ≤ gb217) := ⟨h8_⟩
          have n9_ : Aside0 (gb192 ≠ gb217) := ⟨h9_⟩
          have n10_ : Aside0 (gb217 ≠ gb192) := ⟨h10_⟩
          have n11_ : Aside0 (gb193 ≠ gb217) := ⟨h11_⟩
          have n12_ : Aside0 (gb217 ≠ gb193) := ⟨h12_⟩
          have n13_ : Aside0 (gb194 ≠ gb217) := ⟨h13_⟩
          have n14_ : Aside0 (gb217 ≠ gb194) := ⟨h14_⟩
          have n15_ : Aside0 (Below w.heap.size w w31) := ⟨h15_⟩
          clear HO_6
          clear HO_7
          clear BK192
          clear BK193
          clear BK194
          clear HB
          clear h0_ h1_ h2_ h3_ h4_ h5_ h6_ h7_ h8_ h9_ h10_ h11_ h12_ h13_ h14_ h15_
          have HO212 := n0_
          have HO_6 := n1_
          have HO_7 := n2_
          have BK192 := n3_
          have BK193 := n4_
          have BK194 := n5_
          have BK217 := n6_
          have GW217 := n7_
          have GE217 := n8_
          have NB192_217 := n9_
          have NB217_192 := n10_
          have NB193_217 := n11_
          have NB217_193 := n12_
          have NB194_217 := n13_
          have NB217_194 := n14_
          have HB := n15_
          clear n0_ n1_ n2_ n3_ n4_ n5_ n6_ n7_ n8_ n9_ n10_ n11_ n12_ n13_ n14_ n15_
          have hHeld : w31.cell? ⟨gb192, 0, none⟩ = some (.int .i64 a0_0) ∧ w31.cell? ⟨gb192, 1, none⟩ = some (.slice A0_1 l0_1.length c0_1) := hS_
          refine norm_ (a' := ?_) ?_ ?_
          rotate_left
          ·simp only [putAll, Act.put, List.setIfInBounds_toArray, List.set_cons_zero, List.set_cons_succ]
           rfl
          refine two_ (i := 5) (j := 7) (Ni := some 45) (Nj := some 10) #[true, true, true, true, true, true, true, false, false, false] #[true, true, true, true, true, false, true, true, false, false] rfl rfl rfl rfl (two_of HT_.out (by kernel_rfl)) (by decide) (by decide) (fun K hK => ?_) (fun K hK => ?_)
          ·skip
           refine goes_ Try.func62 (by kernel_rfl) rfl #[.agg #[.int .i64 a0_0, .slice A0_1 l0_1.length c0_1], .slice Ao27 x7_1.length co27] (by rfl) rfl rfl qB58 ?_
           with_reducible refine (spec_l01Product.calls k1 a0_0 _ _ l0_1 _ _ x7_1 t213 t214 _ ?side1 ?side2 ?side3 ?side4 A21.out).mono ?_
           (case side1 => repeat (first | exact (Kd.C_below HR0_1.out HB.out) | (with_reducible refine Kd.C_alloc ?_ _) | (with_reducible refine Kd.C_drewN ?_ _) | (with_reducible refine Kd.C_drew ?_)))
           (case side2 => exact HC0_1.out)
           (case side3 => repeat (first | exact (Kd.R_reads' HO_7.out).2.2 | (with_reducible refine Kd.C_alloc ?_ _) | (with_reducible refine Kd.C_drewN ?_ _) | (with_reducible refine Kd.C_drew ?_)))
           (case side4 => exact (Kd.R_reads' HO_7.out).2.1)
           rintro e w32 ⟨v215, rfl, ho0, hb⟩
           refine ⟨_, rfl, ?_⟩
           have n0_ := Aside0.mk (Kd.R_elder' qB114 (Kd.R_base ho0) hb)
           have n1_ := Aside0.mk (Kd.R_elder' qB115 (Kd.R_base ho0) hb)
           have n2_ := Aside0.mk (Kd.R_elder' qB98 (Kd.R_base ho0) hb)
           have n3_ := Aside0.mk (Kd.R_lower (Kd.R_new' (Kd.R_new' (Kd.R_new' ho0 (Kd.R_lt qB114)) (Kd.R_lt qB115)) (Kd.R_lt qB98)) (below_size qB12))
           have n4_ := Aside0.mk (blk_below (g := gb192) (o := .cells #[.int .i64 a0_0, .slice A0_1 l0_1.length c0_1] 26 (0, 0)) qB69 hb)
           have n5_ := Aside0.mk (blk_below (g := gb193) (o := .cells #[.int .i64 a1_0, .slice A1_1 l1_1.length c1_1] 26 (0, 0)) qB70 hb)
           have n6_ := Aside0.mk (blk_below (g := gb194) (o := .cells #[.int .i64 0, .slice none 0 0] 26 (0, 0)) qB71 hb)
           have n7_ := Aside0.mk (blk_below (g := gb217) (o := .cells #[.int .i64 0, .slice none 0 0] 26 (0, 0)) qB72 hb)
           have n8_ := Aside0.mk (below_step qB12 hb)
           clear HO_6
           clear HO_7
           clear HO212
           clear BK192
           clear BK193
           clear BK194
           clear BK217
           clear HB
           have HO_6 := n0_
           have HO_7 := n1_
           have HO212 := n2_
           have HO216 := n3_
           have BK192 := n4_
           have BK193 := n5_
           have BK194 := n6_
           have BK217 := n7_
           have HB := n8_
           clear n0_ n1_ n2_ n3_ n4_ n5_ n6_ n7_ n8_
           (try clear hb)
           (try clear hb2)
           (try clear hk)
           (try clear hi)
           (try clear ho0)
           refine hK.out _ _ ⟨(blk_cell BK192.out 0).trans rfl, (blk_cell BK192.out 1).trans rfl⟩ (fun hHeld => ?_)
           clear hK K
           refine norm_ (a' := ?_) ?_ ?_
           rotate_left
           ·show Act.put _ (some 45) _ = _
            simp only [Act.put, List.setIfInBounds_toArray, List.set_cons_zero, List.set_cons_succ, i64_w, i32_w]
            rfl
           exact norm_ qB18 (hJ2_5_6 (v211, v215, gb217) _ ⟨hHeld, qB48, qB47, qB49, qB50, qB69, qB70, qB71, qB72, GW217.out, GE217.out, NB192_217.out, NB217_192.out, NB193_217.out, NB217_193.out, NB194_217.out, NB217_194.out, qB12⟩)
          ·skip
           refine box_step ?hg (N := 10) ?hd (cs := #[.int .i64 0, .slice none 0 0]) (t := 26) ?hr ?_; (case hd => rfl); (case hg => rfl); (case hr => first | (go_simp; done) | (go_simp; rfl))
           intro gb218 hg w32 hbox hb
           have n0_ := Aside0.mk (Kd.R_below qB114 hb)
           have n1_ := Aside0.mk (Kd.R_below qB115 hb)
           have n2_ := Aside0.mk (Kd.R_below qB98 hb)
           have n3_ := Aside0.mk (blk_below (g := gb192) (o := .cells #[.int .i64 a0_0, .slice A0_1 l0_1.length c0_1] 26 (0, 0)) qB69 hb)
           have n4_ := Aside0.mk (blk_below (g := gb193) (o := .cells #[.int .i64 a1_0, .slice A1_1 l1_1.length c1_1] 26 (0, 0)) qB70 hb)
           have n5_ := Aside0.mk (blk_below (g := gb194) (o := .cells #[.int .i64 0, .slice none 0 0] 26 (0, 0)) qB71 hb)
           have n6_ := Aside0.mk (blk_below (g := gb217) (o := .cells #[.int .i64 0, .slice none 0 0] 26 (0, 0)) qB72 hb)
           have n7_ := Aside0.mk (below_step qB12 hb)
           have n8_ := Aside0.mk (hbox)
           have n9_ := Aside0.mk ((by rw [hg]; exact (below_size qB12) : w.heap.size ≤ gb218))
           have n10_ := Aside0.mk ((by rw [hg]; exact (below_size qB12) : w.heap.size ≤ gb218))
           have n11_ := Aside0.mk ((by rw [hg]; exact Nat.ne_of_lt (blk_lt (g := gb192) (o := .cells #[.int .i64 a0_0, .slice A0_1 l0_1.length c0_1] 26 (0, 0)) qB69) : gb192 ≠ gb218))
           have n12_ := Aside0.mk ((by rw [hg]; exact Nat.ne_of_gt (blk_lt (g := gb192) (o := .cells #[.int .i64 a0_0, .slice A0_1 l0_1.length c0_1] 26 (0, 0)) qB69) : gb218 ≠ gb192))
           have n13_ := Aside0.mk ((by rw [hg]; exact Nat.ne_of_lt (blk_lt (g := gb193) (o := .cells #[.int .i64 a1_0, .slice A1_1 l1_1.length c1_1] 26 (0, 0)) qB70) : gb193 ≠ gb218))
           have n14_ := Aside0.mk ((by rw [hg]; exact Nat.ne_of_gt (blk_lt (g := gb193) (o := .cells #[.int .i64 a1_0, .slice A1_1 l1_1.length c1_1] 26 (0, 0)) qB70) : gb218 ≠ gb193))
           have n15_ := Aside0.mk ((by rw [hg]; exact Nat.ne_of_lt (blk_lt (g := gb194) (o := .cells #[.int .i64 0, .slice none 0 0] 26 (0, 0)) qB71) : gb194 ≠ gb218))
           have n16_ := Aside0.mk ((by rw [hg]; exact Nat.ne_of_gt (blk_lt (g := gb194) (o := .cells #[.int .i64 0, .slice none 0 0] 26 (0, 0)) qB71) : gb218 ≠ gb194))
           have n17_ := Aside0.mk ((by rw [hg]; exact Nat.ne_of_lt (blk_lt (g := gb217) (o := .cells #[.int .i64 0, .slice none 0 0] 26 (0, 0)) qB72) : gb217 ≠ gb218))
           have n18_ := Aside0.mk ((by rw [hg]; exact Nat.ne_of_gt (blk_lt (g := gb217) (o := .cells #[.int .i64 0, .slice none 0 0] 26 (0, 0)) qB72) : gb218 ≠ gb217))
           clear HO_6
           clear HO_7
           clear HO212
           clear BK192
           clear BK193
           clear BK194
           clear BK217
           clear HB
           have HO_6 := n0_
           have HO_7 := n1_
           have HO212 := n2_
           have BK192 := n3_
           have BK193 := n4_
           have BK194 := n5_
           have BK217 := n6_
           have HB := n7_
           have BK218 := n8_
           have GW218 := n9_
           have GE218 := n10_
           have NB192_218 := n11_
           have NB218_192 := n12_
           have NB193_218 := n13_
           have NB218_193 := n14_
           have NB194_218 := n15_
           have NB218_194 := n16_
           have NB217_218 := n17_
           have NB218_217 := n18_
           clear n0_ n1_ n2_ n3_ n4_ n5_ n6_ n7_ n8_ n9_ n10_ n11_ n12_ n13_ n14_ n15_ n16_ n17_ n18_
           clear hb hbox hg
           refine hK.out _ _ ⟨(blk_cell BK192.out 0).trans rfl, (blk_cell BK192.out 1).trans rfl⟩ (fun hHeld => ?_)
           clear hK K
           refine norm_ (a' := ?_) ?_ ?_
           rotate_left
           ·show Act.put _ (some 10) _ = _
            simp only [Act.put, List.setIfInBounds_toArray, List.set_cons_zero, List.set_cons_succ, i64_w, i32_w]
            rfl
           exact norm_ qB18 (hJ2_6_7 (v211, gb217, gb218) _ ⟨hHeld, qB98, qB114, qB115, qB69, qB70, qB71, qB72, qB73, GW217.out, GE217.out, NB192_217.out, NB217_192.out, NB193_217.out, NB217_193.out, NB194_217.out, NB217_194.out, NB218_217.out, NB217_218.out, GW218.out, GE218.out, NB192_218.out, NB218_192.out, NB193_218.out, NB218_193.out, NB194_218.out, NB218_194.out, qB11⟩)
        ·skip
         rintro ⟨v211, v215⟩ w31 ⟨hS_, h0_, h1_, h2_, h3_, h4_, h5_, h6_, h7_⟩
         have n0_ : Aside0 (Kd.R (Kd.int .i64) 2 w31 w.heap.size (fun k_ => some k_ ≠ (v215 : Value).ownBlock ∧ some k_ ≠ (.slice Ao26 x6_1.length co26 : Value).ownBlock ∧ some k_ ≠ (.slice Ao27 x7_1.length co27 : Value).ownBlock) v211 t210) := ⟨h0_⟩
         have n1_ : Aside0 (Kd.R (Kd.int .i64) 2 w31 w.heap.size (fun k_ => some k_ ≠ (v211 : Value).ownBlock ∧ some k_ ≠ (.slice Ao26 x6_1.length co26 : Value).ownBlock ∧ some k_ ≠ (.slice Ao27 x7_1.length co27 : Value).ownBlock) v215 t214) := ⟨h1_⟩
         have n2_ : Aside0 (Kd.R (Kd.int .i64) 2 w31 w.heap.size (fun k_ => some k_ ≠ (v211 : Value).ownBlock ∧ some k_ ≠ (v215 : Value).ownBlock ∧ some k_ ≠ (.slice Ao27 x7_1.length co27 : Value).ownBlock) (.slice Ao26 x6_1.length co26) x6_1) := ⟨h2_⟩
         have n3_ : Aside0 (Kd.R (Kd.int .i64) 2 w31 w.heap.size (fun k_ => some k_ ≠ (v211 : Value).ownBlock ∧ some k_ ≠ (v215 : Value).ownBlock ∧ some k_ ≠ (.slice Ao26 x6_1.length co26 : Value).ownBlock) (.slice Ao27 x7_1.length co27) x7_1) := ⟨h3_⟩
         have n4_ : Aside0 (w31.heap[gb192]? = some (.cells #[.int .i64 a0_0, .slice A0_1 l0_1.length c0_1] 26 (0, 0))) := ⟨h4_⟩
         have n5_ : Aside0 (w31.heap[gb193]? = some (.cells #[.int .i64 a1_0, .slice A1_1 l1_1.length c1_1] 26 (0, 0))) := ⟨h5_⟩
         have n6_ : Aside0 (w31.heap[gb194]? = some (.cells #[.int .i64 0, .slice none 0 0] 26 (0, 0))) := ⟨h6_⟩
         have n7_ : Aside0 (Below w.heap.size w w31) := ⟨h7_⟩
         clear HO_6
         clear HO_7
         clear BK192
         clear BK193
         clear BK194
         clear HB
         clear h0_ h1_ h2_ h3_ h4_ h5_ h6_ h7_
         have HO212 := n0_
         have HO216 := n1_
         have HO_6 := n2_
         have HO_7 := n3_
         have BK192 := n4_
         have BK193 := n5_
         have BK194 := n6_
         have HB := n7_
         clear n0_ n1_ n2_ n3_ n4_ n5_ n6_ n7_
         have hHeld : w31.cell? ⟨gb192, 0, none⟩ = some (.int .i64 a0_0) ∧ w31.cell? ⟨gb192, 1, none⟩ = some (.slice A0_1 l0_1.length c0_1) := hS_
         refine norm_ (a' := ?_) ?_ ?_
         rotate_left
         ·simp only [putAll, Act.put, List.setIfInBounds_toArray, List.set_cons_zero, List.set_cons_succ]
          rfl
         refine two_ (i := 6) (j := 7) (Ni := some 9) (Nj := some 10) #[true, true, true, true, true, true, true, false, false, false] #[true, true, true, true, true, true, false, true, false, false] rfl rfl rfl rfl (two_of HT_.out (by kernel_rfl)) (by decide) (by decide) (fun K hK => ?_) (fun K hK => ?_)
         ·skip
          refine box_step ?hg (N := 9) ?hd (cs := #[.int .i64 0, .slice none 0 0]) (t := 26) ?hr ?_; (case hd => rfl); (case hg => rfl); (case hr => first | (go_simp; done) | (go_simp; rfl))
          intro gb217 hg w32 hbox hb
          have n0_ := Aside0.mk (Kd.R_below qB114 hb)
          have n1_ := Aside0.mk (Kd.R_below qB115 hb)
          have n2_ := Aside0.mk (Kd.R_below qB98 hb)
          have n3_ := Aside0.mk (Kd.R_below qB99 hb)
          have n4_ := Aside0.mk (blk_below (g := gb192) (o := .cells #[.int .i64 a0_0, .slice A0_1 l0_1.length c0_1] 26 (0, 0)) qB69 hb)
          have n5_ := Aside0.mk (blk_below (g := gb193) (o := .cells #[.int .i64 a1_0, .slice A1_1 l1_1.length c1_1] 26 (0, 0)) qB70 hb)
          have n6_ := Aside0.mk (blk_below (g := gb194) (o := .cells #[.int .i64 0, .slice none 0 0] 26 (0, 0)) qB71 hb)
          have n7_ := Aside0.mk (below_step qB16 hb)
          have n8_ := Aside0.mk (hbox)
          have n9_ := Aside0.mk ((by rw [hg]; exact (below_size qB16) : w.heap.size ≤ gb217))
          have n10_ := Aside0.mk ((by rw [hg]; exact (below_size qB16) : w.heap.size ≤ gb217))
          have n11_ := Aside0.mk ((by rw [hg]; exact Nat.ne_of_lt (blk_lt (g := gb192) (o := .cells #[.int .i64 a0_0, .slice A0_1 l0_1.length c0_1] 26 (0, 0)) qB69) : gb192 ≠ gb217))
          have n12_ := Aside0.mk ((by rw [hg]; exact Nat.ne_of_gt (blk_lt (g := gb192) (o := .cells #[.int .i64 a0_0, .slice A0_1 l0_1.length c0_1] 26 (0, 0)) qB69) : gb217 ≠ gb192))
          have n13_ := Aside0.mk ((by rw [hg]; exact Nat.ne_of_lt (blk_lt (g := gb193) (o := .cells #[.int .i64 a1_0, .slice A1_1 l1_1.length c1_1] 26 (0, 0)) qB70) : gb193 ≠ gb217))
          have n14_ := Aside0.mk ((by rw [hg]; exact Nat.ne_of_gt (blk_lt (g := gb193) (o := .cells #[.int .i64 a1_0, .slice A1_1 l1_1.length c1_1] 26 (0, 0)) qB70) : gb217 ≠ gb193))
          have n15_ := Aside0.mk ((by rw [hg]; exact Nat.ne_of_lt (blk_lt (g := gb194) (o := .cells #[.int .i64 0, .slice none 0 0] 26 (0, 0)) qB71) : gb194 ≠ gb217))
          have n16_ := Aside0.mk ((by rw [hg]; exact Nat.ne_of_gt (blk_lt (g := gb194) (o := .cells #[.int .i64 0, .slice none 0 0] 26 (0, 0)) qB71) : gb217 ≠ gb194))
          clear HO_6
          clear HO_7
          clear HO212
          clear HO216
          clear BK192
          clear BK193
          clear BK194
          clear HB
          have HO_6 := n0_
          have HO_7 := n1_
          have HO212 := n2_
          have HO216 := n3_
          have BK192 := n4_
          have BK193 := n5_
          have BK194 := n6_
          have HB := n7_
          have BK217 := n8_
          have GW217 := n9_
          have GE217 := n10_
          have NB192_217 := n11_
          have NB217_192 := n12_
          have NB193_217 := n13_
          have NB217_193 := n14_
          have NB194_217 := n15_
          have NB217_194 := n16_
          clear n0_ n1_ n2_ n3_ n4_ n5_ n6_ n7_ n8_ n9_ n10_ n11_ n12_ n13_ n14_ n15_ n16_
          clear hb hbox hg
          refine hK.out _ _ ⟨(blk_cell BK192.out 0).trans rfl, (blk_cell BK192.out 1).trans rfl⟩ (fun hHeld => ?_)
          clear hK K
          refine norm_ (a' := ?_) ?_ ?_
          rotate_left
          ·show Act.put _ (some 9) _ = _
           simp only [Act.put, List.setIfInBounds_toArray, List.set_cons_zero, List.set_cons_succ, i64_w, i32_w]
           rfl
          exact norm_ qB18 (hJ2_5_6 (v211, v215, gb217) _ ⟨hHeld, qB98, qB99, qB114, qB115, qB69, qB70, qB71, qB72, GW217.out, GE217.out, NB192_217.out, NB217_192.out, NB193_217.out, NB217_193.out, NB194_217.out, NB217_194.out, qB12⟩)
         ·skip
          refine box_step ?hg (N := 10) ?hd (cs := #[.int .i64 0, .slice none 0 0]) (t := 26) ?hr ?_; (case hd => rfl); (case hg => rfl); (case hr => first | (go_simp; done) | (go_simp; rfl))
          intro gb218 hg w32 hbox hb
          have n0_ := Aside0.mk (Kd.R_below qB114 hb)
          have n1_ := Aside0.mk (Kd.R_below qB115 hb)
          have n2_ := Aside0.mk (Kd.R_below qB98 hb)
          have n3_ := Aside0.mk (Kd.R_below qB99 hb)
          have n4_ := Aside0.mk (blk_below (g := gb192) (o := .cells #[.int .i64 a0_0, .slice A0_1 l0_1.length c0_1] 26 (0, 0)) qB69 hb)
          have n5_ := Aside0.mk (blk_below (g := gb193) (o := .cells #[.int .i64 a1_0, .slice A1_1 l1_1.length c1_1] 26 (0, 0)) qB70 hb)
          have n6_ := Aside0.mk (blk_below (g := gb194) (o := .cells #[.int .i64 0, .slice none 0 0] 26 (0, 0)) qB71 hb)
          have n7_ := Aside0.mk (below_step qB16 hb)
          have n8_ := Aside0.mk (hbox)
          have n9_ := Aside0.mk ((by rw [hg]; exact (below_size qB16) : w.heap.size ≤ gb218))
          have n10_ := Aside0.mk ((by rw [hg]; exact (below_size qB16) : w.heap.size ≤ gb218))
          have n11_ := Aside0.mk ((by rw [hg]; exact Nat.ne_of_lt (blk_lt (g := gb192) (o := .cells #[.int .i64 a0_0, .slice A0_1 l0_1.length c0_1] 26 (0, 0)) qB69) : gb192 ≠ gb218))
          have n12_ := Aside0.mk ((by rw [hg]; exact Nat.ne_of_gt (blk_lt (g := gb192) (o := .cells #[.int .i64 a0_0, .slice A0_1 l0_1.length c0_1] 26 (0, 0)) qB69) : gb218 ≠ gb192))
          have n13_ := Aside0.mk ((by rw [hg]; exact Nat.ne_of_lt (blk_lt (g := gb193) (o := .cells #[.int .i64 a1_0, .slice A1_1 l1_1.length c1_1] 26 (0, 0)) qB70) : gb193 ≠ gb218))
          have n14_ := Aside0.mk ((by rw [hg]; exact Nat.ne_of_gt (blk_lt (g := gb193) (o := .cells #[.int .i64 a1_0, .slice A1_1 l1_1.length c1_1] 26 (0, 0)) qB70) : gb218 ≠ gb193))
          have n15_ := Aside0.mk ((by rw [hg]; exact Nat.ne_of_lt (blk_lt (g := gb194) (o := .cells #[.int .i64 0, .slice none 0 0] 26 (0, 0)) qB71) : gb194 ≠ gb218))
          have n16_ := Aside0.mk ((by rw [hg]; exact Nat.ne_of_gt (blk_lt (g := gb194) (o := .cells #[.int .i64 0, .slice none 0 0] 26 (0, 0)) qB71) : gb218 ≠ gb194))
          clear HO_6
          clear HO_7
          clear HO212
          clear HO216
          clear BK192
          clear BK193
          clear BK194
          clear HB
          have HO_6 := n0_
          have HO_7 := n1_
          have HO212 := n2_
          have HO216 := n3_
          have BK192 := n4_
          have BK193 := n5_
          have BK194 := n6_
          have HB := n7_
          have BK218 := n8_
          have GW218 := n9_
          have GE218 := n10_
          have NB192_218 := n11_
          have NB218_192 := n12_
          have NB193_218 := n13_
          have NB218_193 := n14_
          have NB194_218 := n15_
          have NB218_194 := n16_
          clear n0_ n1_ n2_ n3_ n4_ n5_ n6_ n7_ n8_ n9_ n10_ n11_ n12_ n13_ n14_ n15_ n16_
          clear hb hbox hg
          refine hK.out _ _ ⟨(blk_cell BK192.out 0).trans rfl, (blk_cell BK192.out 1).trans rfl⟩ (fun hHeld => ?_)
          clear hK K
          refine norm_ (a' := ?_) ?_ ?_
          rotate_left
          ·show Act.put _ (some 10) _ = _
           simp only [Act.put, List.setIfInBounds_toArray, List.set_cons_zero, List.set_cons_succ, i64_w, i32_w]
           rfl
          exact norm_ qB18 (hJ2_5_7 (v211, v215, gb218) _ ⟨hHeld, qB98, qB99, qB114, qB115, qB69, qB70, qB71, qB73, GW218.out, GE218.out, NB192_218.out, NB218_192.out, NB193_218.out, NB218_193.out, NB194_218.out, NB218_194.out, qB13⟩)
       ·skip
        rintro ⟨v211, gb217, gb218⟩ w32 ⟨hS_, h0_, h1_, h2_, h3_, h4_, h5_, h6_, h7_, h8_, h9_, h10_, h11_, h12_, h13_, h14_, h15_, h16_, h17_, h18_, h19_, h20_, h21_, h22_, h23_, h24_, h25_, h26_⟩
        have n0_ : Aside0 (Kd.R (Kd.int .i64) 2 w32 w.heap.size (fun k_ => some k_ ≠ (.slice Ao26 x6_1.length co26 : Value).ownBlock ∧ some k_ ≠ (.slice Ao27 x7_1.length co27 : Value).ownBlock) v211 t210) := ⟨h0_⟩
        have n1_ : Aside0 (Kd.R (Kd.int .i64) 2 w32 w.heap.size (fun k_ => some k_ ≠ (v211 : Value).ownBlock ∧ some k_ ≠ (.slice Ao27 x7_1.length co27 : Value).ownBlock) (.slice Ao26 x6_1.length co26) x6_1) := ⟨h1_⟩
        have n2_ : Aside0 (Kd.R (Kd.int .i64) 2 w32 w.heap.size (fun k_ => some k_ ≠ (v211 : Value).ownBlock ∧ some k_ ≠ (.slice Ao26 x6_1.length co26 : Value).ownBlock) (.slice Ao27 x7_1.length co27) x7_1) := ⟨h2_⟩
        have n3_ : Aside0 (w32.heap[gb192]? = some (.cells #[.int .i64 a0_0, .slice A0_1 l0_1.length c0_1] 26 (0, 0))) := ⟨h3_⟩
        have n4_ : Aside0 (w32.heap[gb193]? = some (.cells #[.int .i64 a1_0, .slice A1_1 l1_1.length c1_1] 26 (0, 0))) := ⟨h4_⟩
        have n5_ : Aside0 (w32.heap[gb194]? = some (.cells #[.int .i64 0, .slice none 0 0] 26 (0, 0))) := ⟨h5_⟩
        have n6_ : Aside0 (w32.heap[gb217]? = some (.cells #[.int .i64 0, .slice none 0 0] 26 (0, 0))) := ⟨h6_⟩
        have n7_ : Aside0 (w32.heap[gb218]? = some (.cells #[.int .i64 0, .slice none 0 0] 26 (0, 0))) := ⟨h7_⟩
        have n8_ : Aside0 (w.heap.size ≤ gb217) := ⟨h8_⟩
        have n9_ : Aside0 (w.heap.size ≤ gb217) := ⟨h9_⟩
        have n10_ : Aside0 (gb192 ≠ gb217) := ⟨h10_⟩
        have n11_ : Aside0 (gb217 ≠ gb192) := ⟨h11_⟩
        have n12_ : Aside0 (gb193 ≠ gb217) := ⟨h12_⟩
        have n13_ : Aside0 (gb217 ≠ gb193) := ⟨h13_⟩
        have n14_ : Aside0 (gb194 ≠ gb217) := ⟨h14_⟩
        have n15_ : Aside0 (gb217 ≠ gb194) := ⟨h15_⟩
        have n16_ : Aside0 (gb218 ≠ gb217) := ⟨h16_⟩
        have n17_ : Aside0 (gb217 ≠ gb218) := ⟨h17_⟩
        have n18_ : Aside0 (w.heap.size ≤ gb218) := ⟨h18_⟩
        have n19_ : Aside0 (w.heap.size ≤ gb218) := ⟨h19_⟩
        have n20_ : Aside0 (gb192 ≠ gb218) := ⟨h20_⟩
        have n21_ : Aside0 (gb218 ≠ gb192) := ⟨h21_⟩
        have n22_ : Aside0 (gb193 ≠ gb218) := ⟨h22_⟩
        have n23_ : Aside0 (gb218 ≠ gb193) := ⟨h23_⟩
        have n24_ : Aside0 (gb194 ≠ gb218) := ⟨h24_⟩
        have n25_ : Aside0 (gb218 ≠ gb194) := ⟨h25_⟩
        have n26_ : Aside0 (Below w.heap.size w w32) := ⟨h26_⟩
        clear HO_6
        clear HO_7
        clear BK192
        clear BK193
        clear BK194
        clear HB
        clear h0_ h1_ h2_ h3_ h4_ h5_ h6_ h7_ h8_ h9_ h10_ h11_ h12_ h13_ h14_ h15_ h16_ h17_ h18_ h19_ h20_ h21_ h22_ h23_ h24_ h25_ h26_
        have HO212 := n0_
        have HO_6 := n1_
        have HO_7 := n2_
        have BK192 := n3_
        have BK193 := n4_
        have BK194 := n5_
        have BK217 := n6_
        have BK218 := n7_
        have GW217 := n8_
        have GE217 := n9_
        have NB192_217 := n10_
        have NB217_192 := n11_
        have NB193_217 := n12_
        have NB217_193 := n13_
        have NB194_217 := n14_
        have NB217_194 := n15_
        have NB218_217 := n16_
        have NB217_218 := n17_
        have GW218 := n18_
        have GE218 := n19_
        have NB192_218 := n20_
        have NB218_192 := n21_
        have NB193_218 := n22_
        have NB218_193 := n23_
        have NB194_218 := n24_
        have NB218_194 := n25_
        have HB := n26_
        clear n0_ n1_ n2_ n3_ n4_ n5_ n6_ n7_ n8_ n9_ n10_ n11_ n12_ n13_ n14_ n15_ n16_ n17_ n18_ n19_ n20_ n21_ n22_ n23_ n24_ n25_ n26_
        have hHeld : w32.cell? ⟨gb192, 0, none⟩ = some (.int .i64 a0_0) ∧ w32.cell? ⟨gb192, 1, none⟩ = some (.slice A0_1 l0_1.length c0_1) := hS_
        refine norm_ (a' := ?_) ?_ ?_
        rotate_left
        ·simp only [putAll, Act.put, List.setIfInBounds_toArray, List.set_cons_zero, List.set_cons_succ]
         rfl
        refine one_ (i := 5) (N := some 45) #[true, true, true, true, true, true, true, true, false, false] rfl rfl (one_of HT_.out (by kernel_rfl)) (by decide) (fun K hK => ?_)
        refine goes_ Try.func62 (by kernel_rfl) rfl #[.agg #[.int .i64 a0_0, .slice A0_1 l0_1.length c0_1], .slice Ao27 x7_1.length co27] (by rfl) rfl rfl qB58 ?_
        with_reducible refine (spec_l01Product.calls k1 a0_0 _ _ l0_1 _ _ x7_1 t213 t214 _ ?side1 ?side2 ?side3 ?side4 A21.out).mono ?_
        (case side1 => repeat (first | exact (Kd.C_below HR0_1.out HB.out) | (with_reducible refine Kd.C_alloc ?_ _) | (with_reducible refine Kd.C_drewN ?_ _) | (with_reducible refine Kd.C_drew ?_)))
        (case side2 => exact HC0_1.out)
        (case side3 => repeat (first | exact (Kd.R_reads' HO_7.out).2.2 | (with_reducible refine Kd.C_alloc ?_ _) | (with_reducible refine Kd.C_drewN ?_ _) | (with_reducible refine Kd.C_drew ?_)))
        (case side4 => exact (Kd.R_reads' HO_7.out).2.1)
        rintro e w33 ⟨v215, rfl, ho0, hb⟩
        refine ⟨_, rfl, ?_⟩
        have n0_ := Aside0.mk (Kd.R_elder' qB114 (Kd.R_base ho0) hb)
        have n1_ := Aside0.mk (Kd.R_elder' qB115 (Kd.R_base ho0) hb)
        have n2_ := Aside0.mk (Kd.R_elder' qB98 (Kd.R_base ho0) hb)
        have n3_ := Aside0.mk (Kd.R_lower (Kd.R_new' (Kd.R_new' (Kd.R_new' ho0 (Kd.R_lt qB114)) (Kd.R_lt qB115)) (Kd.R_lt qB98)) (below_size qB11))
        have n4_ := Aside0.mk (blk_below (g := gb192) (o := .cells #[.int .i64 a0_0, .slice A0_1 l0_1.length c0_1] 26 (0, 0)) qB69 hb)
        have n5_ := Aside0.mk (blk_below (g := gb193) (o := .cells #[.int .i64 a1_0, .slice A1_1 l1_1.length c1_1] 26 (0, 0)) qB70 hb)
        have n6_ := Aside0.mk (blk_below (g := gb194) (o := .cells #[.int .i64 0, .slice none 0 0] 26 (0, 0)) qB71 hb)
        have n7_ := Aside0.mk (blk_below (g := gb217) (o := .cells #[.int .i64 0, .slice none 0 0] 26 (0, 0)) qB72 hb)
        have n8_ := Aside0.mk (blk_below (g := gb218) (o := .cells #[.int .i64 0, .slice none 0 0] 26 (0, 0)) qB73 hb)
        have n9_ := Aside0.mk (below_step qB11 hb)
        clear HO_6
        clear HO_7
        clear HO212
        clear BK192
        clear BK193
        clear BK194
        clear BK217
        clear BK218
        clear HB
        have HO_6 := n0_
        have HO_7 := n1_
        have HO212 := n2_
        have HO216 := n3_
        have BK192 := n4_
        have BK193 := n5_
        have BK194 := n6_
        have BK217 := n7_
        have BK218 := n8_
        have HB := n9_
        clear n0_ n1_ n2_ n3_ n4_ n5_ n6_ n7_ n8_ n9_
        (try clear hb)
        (try clear hb2)
        (try clear hk)
        (try clear hi)
        (try clear ho0)
        refine hK.out _ _ ⟨(blk_cell BK192.out 0).trans rfl, (blk_cell BK192.out 1).trans rfl⟩ (fun hHeld => ?_)
        clear hK K
        refine norm_ (a' := ?_) ?_ ?_
        rotate_left
        ·show Act.put _ (some 45) _ = _
         simp only [Act.put, List.setIfInBounds_toArray, List.set_cons_zero, List.set_cons_succ, i64_w, i32_w]
         rfl
        exact norm_ qB18 (hJ2_5_6_7 (v211, v215, gb217, gb218) _ ⟨hHeld, qB48, qB47, qB49, qB50, qB69, qB70, qB71, qB72, qB73, GW217.out, GE217.out, NB192_217.out, NB217_192.out, NB193_217.out, NB217_193.out, NB194_217.out, NB217_194.out, NB218_217.out, NB217_218.out, GW218.out, GE218.out, NB192_218.out, NB218_192.out, NB193_218.out, NB218_193.out, NB194_218.out, NB218_194.out, qB11⟩)
      ·skip
       rintro ⟨v211, v215, gb218⟩ w32 ⟨hS_, h0_, h1_, h2_, h3_, h4_, h5_, h6_, h7_, h8_, h9_, h10_, h11_, h12_, h13_, h14_, h15_, h16_⟩
       have n0_ : Aside0 (Kd.R (Kd.int .i64) 2 w32 w.heap.size (fun k_ => some k_ ≠ (v215 : Value).ownBlock ∧ some k_ ≠ (.slice Ao26 x6_1.length co26 : Value).ownBlock ∧ some k_ ≠ (.slice Ao27 x7_1.length co27 : Value).ownBlock) v211 t210) := ⟨h0_⟩
       have n1_ : Aside0 (Kd.R (Kd.int .i64) 2 w32 w.heap.size (fun k_ => some k_ ≠ (v211 : Value).ownBlock ∧ some k_ ≠ (.slice Ao26 x6_1.length co26 : Value).ownBlock ∧ some k_ ≠ (.slice Ao27 x7_1.length co27 : Value).ownBlock) v215 t214) := ⟨h1_⟩
       have n2_ : Aside0 (Kd.R (Kd.int .i64) 2 w32 w.heap.size (fun k_ => some k_ ≠ (v211 : Value).ownBlock ∧ some k_ ≠ (v215 : Value).ownBlock ∧ some k_ ≠ (.slice Ao27 x7_1.length co27 : Value).ownBlock) (.slice Ao26 x6_1.length co26) x6_1) := ⟨h2_⟩
       have n3_ : Aside0 (Kd.R (Kd.int .i64) 2 w32 w.heap.size (fun k_ => some k_ ≠ (v211 : Value).ownBlock ∧ some k_ ≠ (v215 : Value).ownBlock ∧ some k_ ≠ (.slice Ao26 x6_1.length co26 : Value).ownBlock) (.slice Ao27 x7_1.length co27) x7_1) := ⟨h3_⟩
       have n4_ : Aside0 (w32.heap[gb192]? = some (.cells #[.int .i64 a0_0, .slice A0_1 l0_1.length c0_1] 26 (0, 0))) := ⟨h4_⟩
       have n5_ : Aside0 (w32.heap[gb193]? = some (.cells #[.int .i64 a1_0, .slice A1_1 l1_1.length c1_1] 26 (0, 0))) := ⟨h5_⟩
       have n6_ : Aside0 (w32.heap[gb194]? = some (.cells #[.int .i64 0, .slice none 0 0] 26 (0, 0))) := ⟨h6_⟩
       have n7_ : Aside0 (w32.heap[gb218]? = some (.cells #[.int .i64 0, .slice none 0 0] 26 (0, 0))) := ⟨h7_⟩
       have n8_ : Aside0 (w.heap.size ≤ gb218) := ⟨h8_⟩
       have n9_ : Aside0 (w.heap.size ≤ gb218) := ⟨h9_⟩
       have n10_ : Aside0 (gb192 ≠ gb218) := ⟨h10_⟩
       have n11_ : Aside0 (gb218 ≠ gb192) := ⟨h11_⟩
       have n12_ : Aside0 (gb193 ≠ gb218) := ⟨h12_⟩
       have n13_ : Aside0 (gb218 ≠ gb193) := ⟨h13_⟩
       have n14_ : Aside0 (gb194 ≠ gb218) := ⟨h14_⟩
       have n15_ : Aside0 (gb218 ≠ gb194) := ⟨h15_⟩
       have n16_ : Aside0 (Below w.heap.size w w32) := ⟨h16_⟩
       clear HO_6
       clear HO_7
       clear BK192
       clear BK193
       clear BK194
       clear HB
       clear h0_ h1_ h2_ h3_ h4_ h5_ h6_ h7_ h8_ h9_ h10_ h11_ h12_ h13_ h14_ h15_ h16_
       have HO212 := n0_
       have HO216 := n1_
       have HO_6 := n2_
       have HO_7 := n3_
       have BK192 := n4_
       have BK193 := n5_
       have BK194 := n6_
       have BK218 := n7_
       have GW218 := n8_
       have GE218 := n9_
       have NB192_218 := n10_
       have NB218_192 := n11_
       have NB193_218 := n12_
       have NB218_193 := n13_
       have NB194_218 := n14_
       have NB218_194 := n15_
       have HB := n16_
       clear n0_ n1_ n2_ n3_ n4_ n5_ n6_ n7_ n8_ n9_ n10_ n11_ n12_ n13_ n14_ n15_ n16_
       have hHeld : w32.cell? ⟨gb192, 0, none⟩ = some (.int .i64 a0_0) ∧ w32.cell? ⟨gb192, 1, none⟩ = some (.slice A0_1 l0_1.length c0_1) := hS_
       refine norm_ (a' := ?_) ?_ ?_
       rotate_left
       ·simp only [putAll, Act.put, List.setIfInBounds_toArray, List.set_cons_zero, List.set_cons_succ]
        rfl
       refine one_ (i := 6) (N := some 9) #[true, true, true, true, true, true, true, true, false, false] rfl rfl (one_of HT_.out (by kernel_rfl)) (by decide) (fun K hK => ?_)
       refine box_step ?hg (N := 9) ?hd (cs := #[.int .i64 0, .slice none 0 0]) (t := 26) ?hr ?_; (case hd => rfl); (case hg => rfl); (case hr => first | (go_simp; done) | (go_simp; rfl))
       intro gb217 hg w33 hbox hb
       have n0_ := Aside0.mk (Kd.R_below qB114 hb)
       have n1_ := Aside0.mk (Kd.R_below qB115 hb)
       have n2_ := Aside0.mk (Kd.R_below qB98 hb)
       have n3_ := Aside0.mk (Kd.R_below qB99 hb)
       have n4_ := Aside0.mk (blk_below (g := gb192) (o := .cells #[.int .i64 a0_0, .slice A0_1 l0_1.length c0_1] 26 (0, 0)) qB69 hb)
       have n5_ := Aside0.mk (blk_below (g := gb193) (o := .cells #[.int .i64 a1_0, .slice A1_1 l1_1.length c1_1] 26 (0, 0)) qB70 hb)
       have n6_ := Aside0.mk (blk_below (g := gb194) (o := .cells #[.int .i64 0, .slice none 0 0] 26 (0, 0)) qB71 hb)
       have n7_ := Aside0.mk (blk_below (g := gb218) (o := .cells #[.int .i64 0, .slice none 0 0] 26 (0, 0)) qB73 hb)
       have n8_ := Aside0.mk (below_step qB13 hb)
       have n9_ := Aside0.mk (hbox)
       have n10_ := Aside0.mk ((by rw [hg]; exact (below_size qB13) : w.heap.size ≤ gb217))
       have n11_ := Aside0.mk ((by rw [hg]; exact (below_size qB13) : w.heap.size ≤ gb217))
       have n12_ := Aside0.mk ((by rw [hg]; exact Nat.ne_of_lt (blk_lt (g := gb192) (o := .cells #[.int .i64 a0_0, .slice A0_1 l0_1.length c0_1] 26 (0, 0)) qB69) : gb192 ≠ gb217))
       have n13_ := Aside0.mk ((by rw [hg]; exact Nat.ne_of_gt (blk_lt (g := gb192) (o := .cells #[.int .i64 a0_0, .slice A0_1 l0_1.length c0_1] 26 (0, 0)) qB69) : gb217 ≠ gb192))
       have n14_ := Aside0.mk ((by rw [hg]; exact Nat.ne_of_lt (blk_lt (g := gb193) (o := .cells #[.int .i64 a1_0, .slice A1_1 l1_1.length c1_1] 26 (0, 0)) qB70) : gb193 ≠ gb217))
       have n15_ := Aside0.mk ((by rw [hg]; exact Nat.ne_of_gt (blk_lt (g := gb193) (o := .cells #[.int .i64 a1_0, .slice A1_1 l1_1.length c1_1] 26 (0, 0)) qB70) : gb217 ≠ gb193))
       have n16_ := Aside0.mk ((by rw [hg]; exact Nat.ne_of_lt (blk_lt (g := gb194) (o := .cells #[.int .i64 0, .slice none 0 0] 26 (0, 0)) qB71) : gb194 ≠ gb217))
       have n17_ := Aside0.mk ((by rw [hg]; exact Nat.ne_of_gt (blk_lt (g := gb194) (o := .cells #[.int .i64 0, .slice none 0 0] 26 (0, 0)) qB71) : gb217 ≠ gb194))
       have n18_ := Aside0.mk ((by rw [hg]; exact Nat.ne_of_lt (blk_lt (g := gb218) (o := .cells #[.int .i64 0, .slice none 0 0] 26 (0, 0)) qB73) : gb218 ≠ gb217))
       have n19_ := Aside0.mk ((by rw [hg]; exact Nat.ne_of_gt (blk_lt (g := gb218) (o := .cells #[.int .i64 0, .slice none 0 0] 26 (0, 0)) qB73) : gb217 ≠ gb218))
       clear HO_6
       clear HO_7
       clear HO212
       clear HO216
       clear BK192
       clear BK193
       clear BK194
       clear BK218
       clear HB
       have HO_6 := n0_
       have HO_7 := n1_
       have HO212 := n2_
       have HO216 := n3_
       have BK192 := n4_
       have BK193 := n5_
       have BK194 := n6_
       have BK218 := n7_
       have HB := n8_
       have BK217 := n9_
       have GW217 := n10_
       have GE217 := n11_
       have NB192_217 := n12_
       have NB217_192 := n13_
       have NB193_217 := n14_
       have NB217_193 := n15_
       have NB194_217 := n16_
       have NB217_194 := n17_
       have NB218_217 := n18_
       have NB217_218 := n19_
       clear n0_ n1_ n2_ n3_ n4_ n5_ n6_ n7_ n8_ n9_ n10_ n11_ n12_ n13_ n14_ n15_ n16_ n17_ n18_ n19_
       clear hb hbox hg
       refine hK.out _ _ ⟨(blk_cell BK192.out 0).trans rfl, (blk_cell BK192.out 1).trans rfl⟩ (fun hHeld => ?_)
       clear hK K
       refine norm_ (a' := ?_) ?_ ?_
       rotate_left
       ·show Act.put _ (some 9) _ = _
        simp only [Act.put, List.setIfInBounds_toArray, List.set_cons_zero, List.set_cons_succ, i64_w, i32_w]
        rfl
       exact norm_ qB18 (hJ2_5_6_7 (v211, v215, gb217, gb218) _ ⟨hHeld, qB98, qB99, qB114, qB115, qB69, qB70, qB71, qB72, qB73, GW217.out, GE217.out, NB192_217.out, NB217_192.out, NB193_217.out, NB217_193.out, NB194_217.out, NB217_194.out, NB218_217.out, NB217_218.out, GW218.out, GE218.out, NB192_218.out, NB218_192.out, NB193_218.out, NB218_193.out, NB194_218.out, NB218_194.out, qB10⟩)
     ·skip
      rintro ⟨v211, v215, gb217⟩ w32 ⟨hS_, h0_, h1_, h2_, h3_, h4_, h5_, h6_, h7_, h8_, h9_, h10_, h11_, h12_, h13_, h14_, h15_, h16_⟩
      have n0_ : Aside0 (Kd.R (Kd.int .i64) 2 w32 w.heap.size (fun k_ => some k_ ≠ (v215 : Value).ownBlock ∧ some k_ ≠ (.slice Ao26 x6_1.length co26 : Value).ownBlock ∧ some k_ ≠ (.slice Ao27 x7_1.length co27 : Value).ownBlock) v211 t210) := ⟨h0_⟩
      have n1_ : Aside0 (Kd.R (Kd.int .i64) 2 w32 w.heap.size (fun k_ => some k_ ≠ (v211 : Value).ownBlock ∧ some k_ ≠ (.slice Ao26 x6_1.length co26 : Value).ownBlock ∧ some k_ ≠ (.slice Ao27 x7_1.length co27 : Value).ownBlock) v215 t214) := ⟨h1_⟩
      have n2_ : Aside0 (Kd.R (Kd.int .i64) 2 w32 w.heap.size (fun k_ => some k_ ≠ (v211 : Value).ownBlock ∧ some k_ ≠ (v215 : Value).ownBlock ∧ some k_ ≠ (.slice Ao27 x7_1.length co27 : Value).ownBlock) (.slice Ao26 x6_1.length co26) x6_1) := ⟨h2_⟩
      have n3_ : Aside0 (Kd.R (Kd.int .i64) 2 w32 w.heap.size (fun k_ => some k_ ≠ (v211 : Value).ownBlock ∧ some k_ ≠ (v215 : Value).ownBlock ∧ some k_ ≠ (.slice Ao26 x6_1.length co26 : Value).ownBlock) (.slice Ao27 x7_1.length co27) x7_1) := ⟨h3_⟩
      have n4_ : Aside0 (w32.heap[gb192]? = some (.cells #[.int .i64 a0_0, .slice A0_1 l0_1.length c0_1] 26 (0, 0))) := ⟨h4_⟩
      have n5_ : Aside0 (w32.heap[gb193]? = some (.cells #[.int .i64 a1_0, .slice A1_1 l1_1.length c1_1] 26 (0, 0))) := ⟨h5_⟩
      have n6_ : Aside0 (w32.heap[gb194]? = some (.cells #[.int .i64 0, .slice none 0 0] 26 (0, 0))) := ⟨h6_⟩
      have n7_ : Aside0 (w32.heap[gb217]? = some (.cells #[.int .i64 0, .slice none 0 0] 26 (0, 0))) := ⟨h7_⟩
      have n8_ : Aside0 (w.heap.size ≤ gb217) := ⟨h8_⟩
      have n9_ : Aside0 (w.heap.size ≤ gb217) := ⟨h9_⟩
      have n10_ : Aside0 (gb192 ≠ gb217) := ⟨h10_⟩
      have n11_ : Aside0 (gb217 ≠ gb192) := ⟨h11_⟩
      have n12_ : Aside0 (gb193 ≠ gb217) := ⟨h12_⟩
      have n13_ : Aside0 (gb217 ≠ gb193) := ⟨h13_⟩
      have n14_ : Aside0 (gb194 ≠ gb217) := ⟨h14_⟩
      have n15_ : Aside0 (gb217 ≠ gb194) := ⟨h15_⟩
      have n16_ : Aside0 (Below w.heap.size w w32) := ⟨h16_⟩
      clear HO_6
      clear HO_7
      clear BK192
      clear BK193
      clear BK194
      clear HB
      clear h0_ h1_ h2_ h3_ h4_ h5_ h6_ h7_ h8_ h9_ h10_ h11_ h12_ h13_ h14_ h15_ h16_
      have HO212 := n0_
      have HO216 := n1_
      have HO_6 := n2_
      have HO_7 := n3_
      have BK192 := n4_
      have BK193 := n5_
      have BK194 := n6_
      have BK217 := n7_
      have GW217 := n8_
      have GE217 := n9_
      have NB192_217 := n10_
      have NB217_192 := n11_
      have NB193_217 := n12_
      have NB217_193 := n13_
      have NB194_217 := n14_
      have NB217_194 := n15_
      have HB := n16_
      clear n0_ n1_ n2_ n3_ n4_ n5_ n6_ n7_ n8_ n9_ n10_ n11_ n12_ n13_ n14_ n15_ n16_
      have hHeld : w32.cell? ⟨gb192, 0, none⟩ = some (.int .i64 a0_0) ∧ w32.cell? ⟨gb192, 1, none⟩ = some (.slice A0_1 l0_1.length c0_1) := hS_
      refine norm_ (a' := ?_) ?_ ?_
      rotate_left
      ·simp only [putAll, Act.put, List.setIfInBounds_toArray, List.set_cons_zero, List.set_cons_succ]
       rfl
      refine one_ (i := 7) (N := some 10) #[true, true, true, true, true, true, true, true, false, false] rfl rfl (one_of HT_.out (by kernel_rfl)) (by decide) (fun K hK => ?_)
      refine box_step ?hg (N := 10) ?hd (cs := #[.int .i64 0, .slice none 0 0]) (t := 26) ?hr ?_; (case hd => rfl); (case hg => rfl); (case hr => first | (go_simp; done) | (go_simp; rfl))
      intro gb218 hg w33 hbox hb
      have n0_ := Aside0.mk (Kd.R_below qB114 hb)
      have n1_ := Aside0.mk (Kd.R_below qB115 hb)
      have n2_ := Aside0.mk (Kd.R_below qB98 hb)
      have n3_ := Aside0.mk (Kd.R_below qB99 hb)
      have n4_ := Aside0.mk (blk_below (g := gb192) (o := .cells #[.int .i64 a0_0, .slice A0_1 l0_1.length c0_1] 26 (0, 0)) qB69 hb)
      have n5_ := Aside0.mk (blk_below (g := gb193) (o := .cells #[.int .i64 a1_0, .slice A1_1 l1_1.length c1_1] 26 (0, 0)) qB70 hb)
      have n6_ := Aside0.mk (blk_below (g := gb194) (o := .cells #[.int .i64 0, .slice none 0 0] 26 (0, 0)) qB71 hb)
      have n7_ := Aside0.mk (blk_below (g := gb217) (o := .cells #[.int .i64 0, .slice none 0 0] 26 (0, 0)) qB72 hb)
      have n8_ := Aside0.mk (below_step qB12 hb)
      have n9_ := Aside0.mk (hbox)
      have n10_ := Aside0.mk ((by rw [hg]; exact (below_size qB12) : w.heap.size ≤ gb218))
      have n11_ := Aside0.mk ((by rw [hg]; exact (below_size qB12) : w.heap.size ≤ gb218))
      have n12_ := Aside0.mk ((by rw [hg]; exact Nat.ne_of_lt (blk_lt (g := gb192) (o := .cells #[.int .i64 a0_0, .slice A0_1 l0_1.length c0_1] 26 (0, 0)) qB69) : gb192 ≠ gb218))
      have n13_ := Aside0.mk ((by rw [hg]; exact Nat.ne_of_gt (blk_lt (g := gb192) (o := .cells #[.int .i64 a0_0, .slice A0_1 l0_1.length c0_1] 26 (0, 0)) qB69) : gb218 ≠ gb192))
      have n14_ := Aside0.mk ((by rw [hg]; exact Nat.ne_of_lt (blk_lt (g := gb193) (o := .cells #[.int .i64 a1_0, .slice A1_1 l1_1.length c1_1] 26 (0, 0)) qB70) : gb193 ≠ gb218))
      have n15_ := Aside0.mk ((by rw [hg]; exact Nat.ne_of_gt (blk_lt (g := gb193) (o := .cells #[.int .i64 a1_0, .slice A1_1 l1_1.length c1_1] 26 (0, 0)) qB70) : gb218 ≠ gb193))
      have n16_ := Aside0.mk ((by rw [hg]; exact Nat.ne_of_lt (blk_lt (g := gb194) (o := .cells #[.int .i64 0, .slice none 0 0] 26 (0, 0)) qB71) : gb194 ≠ gb218))
      have n17_ := Aside0.mk ((by rw [hg]; exact Nat.ne_of_gt (blk_lt (g := gb194) (o := .cells #[.int .i64 0, .slice none 0 0] 26 (0, 0)) qB71) : gb218 ≠ gb194))
      have n18_ := Aside0.mk ((by rw [hg]; exact Nat.ne_of_lt (blk_lt (g := gb217) (o := .cells #[.int .i64 0, .slice none 0 0] 26 (0, 0)) qB72) : gb217 ≠ gb218))
      have n19_ := Aside0.mk ((by rw [hg]; exact Nat.ne_of_gt (blk_lt (g := gb217) (o := .cells #[.int .i64 0, .slice none 0 0] 26 (0, 0)) qB72) : gb218 ≠ gb217))
      clear HO_6
      clear HO_7
      clear HO212
      clear HO216
      clear BK192
      clear BK193
      clear BK194
      clear BK217
      clear HB
      have HO_6 := n0_
      have HO_7 := n1_
      have HO212 := n2_
      have HO216 := n3_
      have BK192 := n4_
      have BK193 := n5_
      have BK194 := n6_
      have BK217 := n7_
      have HB := n8_
      have BK218 := n9_
      have GW218 := n10_
      have GE218 := n11_
      have NB192_218 := n12_
      have NB218_192 := n13_
      have NB193_218 := n14_
      have NB218_193 := n15_
      have NB194_218 := n16_
      have NB218_194 := n17_
      have NB217_218 := n18_
      have NB218_217 := n19_
      clear n0_ n1_ n2_ n3_ n4_ n5_ n6_ n7_ n8_ n9_ n10_ n11_ n12_ n13_ n14_ n15_ n16_ n17_ n18_ n19_
      clear hb hbox hg
      refine hK.out _ _ ⟨(blk_cell BK192.out 0).trans rfl, (blk_cell BK192.out 1).trans rfl⟩ (fun hHeld => ?_)
      clear hK K
      refine norm_ (a' := ?_) ?_ ?_
      rotate_left
      ·show Act.put _ (some 10) _ = _
       simp only [Act.put, List.setIfInBounds_toArray, List.set_cons_zero, List.set_cons_succ, i64_w, i32_w]
       rfl
      exact norm_ qB18 (hJ2_5_6_7 (v211, v215, gb217, gb218) _ ⟨hHeld, qB98, qB99, qB114, qB115, qB69, qB70, qB71, qB72, qB73, GW217.out, GE217.out, NB192_217.out, NB217_192.out, NB193_217.out, NB217_193.out, NB194_217.out, NB217_194.out, NB218_217.out, NB217_218.out, GW218.out, GE218.out, NB192_218.out, NB218_192.out, NB193_218.out, NB218_193.out, NB194_218.out, NB218_194.out, qB11⟩)
    rintro ⟨v211, v215, gb217, gb218⟩ w33 ⟨hS_, h0_, h1_, h2_, h3_, h4_, h5_, h6_, h7_, h8_, h9_, h10_, h11_, h12_, h13_, h14_, h15_, h16_, h17_, h18_, h19_, h20_, h21_, h22_, h23_, h24_, h25_, h26_, h27_⟩
    have n0_ : Aside0 (Kd.R (Kd.int .i64) 2 w33 w.heap.size (fun k_ => some k_ ≠ (v215 : Value).ownBlock ∧ some k_ ≠ (.slice Ao26 x6_1.length co26 : Value).ownBlock ∧ some k_ ≠ (.slice Ao27 x7_1.length co27 : Value).ownBlock) v211 t210) := ⟨h0_⟩
    have n1_ : Aside0 (Kd.R (Kd.int .i64) 2 w33 w.heap.size (fun k_ => some k_ ≠ (v211 : Value).ownBlock ∧ some k_ ≠ (.slice Ao26 x6_1.length co26 : Value).ownBlock ∧ some k_ ≠ (.slice Ao27 x7_1.length co27 : Value).ownBlock) v215 t214) := ⟨h1_⟩
    have n2_ : Aside0 (Kd.R (Kd.int .i64) 2 w33 w.heap.size (fun k_ => some k_ ≠ (v211 : Value).ownBlock ∧ some k_ ≠ (v215 : Value).ownBlock ∧ some k_ ≠ (.slice Ao27 x7_1.length co27 : Value).ownBlock) (.slice Ao26 x6_1.length co26) x6_1) := ⟨h2_⟩
    have n3_ : Aside0 (Kd.R (Kd.int .i64) 2 w33 w.heap.size (fun k_ => some k_ ≠ (v211 : Value).ownBlock ∧ some k_ ≠ (v215 : Value).ownBlock ∧ some k_ ≠ (.slice Ao26 x6_1.length co26 : Value).ownBlock) (.slice Ao27 x7_1.length co27) x7_1) := ⟨h3_⟩
    have n4_ : Aside0 (w33.heap[gb192]? = some (.cells #[.int .i64 a0_0, .slice A0_1 l0_1.length c0_1] 26 (0, 0))) := ⟨h4_⟩
    have n5_ : Aside0 (w33.heap[gb193]? = some (.cells #[.int .i64 a1_0, .slice A1_1 l1_1.length c1_1] 26 (0, 0))) := ⟨h5_⟩
    have n6_ : Aside0 (w33.heap[gb194]? = some (.cells #[.int .i64 0, .slice none 0 0] 26 (0, 0))) := ⟨h6_⟩
    have n7_ : Aside0 (w33.heap[gb217]? = some (.cells #[.int .i64 0, .slice none 0 0] 26 (0, 0))) := ⟨h7_⟩
    have n8_ : Aside0 (w33.heap[gb218]? = some (.cells #[.int .i64 0, .slice none 0 0] 26 (0, 0))) := ⟨h8_⟩
    have n9_ : Aside0 (w.heap.size ≤ gb217) := ⟨h9_⟩
    have n10_ : Aside0 (w.heap.size ≤ gb217) := ⟨h10_⟩
    have n11_ : Aside0 (gb192 ≠ gb217) := ⟨h11_⟩
    have n12_ : Aside0 (gb217 ≠ gb192) := ⟨h12_⟩
    have n13_ : Aside0 (gb193 ≠ gb217) := ⟨h13_⟩
    have n14_ : Aside0 (gb217 ≠ gb193) := ⟨h14_⟩
    have n15_ : Aside0 (gb194 ≠ gb217) := ⟨h15_⟩
    have n16_ : Aside0 (gb217 ≠ gb194) := ⟨h16_⟩
    have n17_ : Aside0 (gb218 ≠ gb217) := ⟨h17_⟩
    have n18_ : Aside0 (gb217 ≠ gb218) := ⟨h18_⟩
    have n19_ : Aside0 (w.heap.size ≤ gb218) := ⟨h19_⟩
    have n20_ : Aside0 (w.heap.size ≤ gb218) := ⟨h20_⟩
    have n21_ : Aside0 (gb192 ≠ gb218) := ⟨h21_⟩
    have n22_ : Aside0 (gb218 ≠ gb192) := ⟨h22_⟩
    have n23_ : Aside0 (gb193 ≠ gb218) := ⟨h23_⟩
    have n24_ : Aside0 (gb218 ≠ gb193) := ⟨h24_⟩
    have n25_ : Aside0 (gb194 ≠ gb218) := ⟨h25_⟩
    have n26_ : Aside0 (gb218 ≠ gb194) := ⟨h26_⟩
    have n27_ : Aside0 (Below w.heap.size w w33) := ⟨h27_⟩
    clear HO_6
    clear HO_7
    clear BK192
    clear BK193
    clear BK194
    clear HB
    clear h0_ h1_ h2_ h3_ h4_ h5_ h6_ h7_ h8_ h9_ h10_ h11_ h12_ h13_ h14_ h15_ h16_ h17_ h18_ h19_ h20_ h21_ h22_ h23_ h24_ h25_ h26_ h27_
    have HO212 := n0_
    have HO216 := n1_
    have HO_6 := n2_
    have HO_7 := n3_
    have BK192 := n4_
    have BK193 := n5_
    have BK194 := n6_
    have BK217 := n7_
    have BK218 := n8_
    have GW217 := n9_
    have GE217 := n10_
    have NB192_217 := n11_
    have NB217_192 := n12_
    have NB193_217 := n13_
    have NB217_193 := n14_
    have NB194_217 := n15_
    have NB217_194 := n16_
    have NB218_217 := n17_
    have NB217_218 := n18_
    have GW218 := n19_
    have GE218 := n20_
    have NB192_218 := n21_
    have NB218_192 := n22_
    have NB193_218 := n23_
    have NB218_193 := n24_
    have NB194_218 := n25_
    have NB218_194 := n26_
    have HB := n27_
    clear n0_ n1_ n2_ n3_ n4_ n5_ n6_ n7_ n8_ n9_ n10_ n11_ n12_ n13_ n14_ n15_ n16_ n17_ n18_ n19_ n20_ n21_ n22_ n23_ n24_ n25_ n26_ n27_
    have hHeld : w33.cell? ⟨gb192, 0, none⟩ = some (.int .i64 a0_0) ∧ w33.cell? ⟨gb192, 1, none⟩ = some (.slice A0_1 l0_1.length c0_1) := hS_
    obtain ⟨Ao35, co35, eo35⟩ := Kd.R_slice HO212.out
    (first | subst eo35 | (injection eo35 with f1_ f2_ f3_; have f4_ := f1_.symm; have f5_ := f3_.symm; clear f1_ f2_ f3_; subst f4_; subst f5_))
    obtain ⟨Ao38, co38, eo38⟩ := Kd.R_slice HO216.out
    (first | subst eo38 | (injection eo38 with f1_ f2_ f3_; have f4_ := f1_.symm; have f5_ := f3_.symm; clear f1_ f2_ f3_; subst f4_; subst f5_))
    refine norm_ (a' := ?_) ?_ ?_
    rotate_left
    ·simp only [putAll, Act.put, List.setIfInBounds_toArray, List.set_cons_zero, List.set_cons_succ]
     rfl
    refine one_ (i := 8) (N := none) #[true, true, true, true, true, true, true, true, true, false] rfl rfl (one_of HT_.out (by kernel_rfl)) (by decide) (fun K hK => ?_)
    have hs34 : w33.cell? ⟨gb217, 0, none⟩ = some (.int .i64 0) := (blk_cell BK217.out 0).trans rfl
    have hfs34 := blk_frozen BK217.out 0
    have hns34_0 := NB192_217.out
    have hns34_1 := NB193_217.out
    have hns34_2 := NB194_217.out
    have hns34_4 := NB218_217.out
    have hms34_0 := NB217_192.out
    have hms34_1 := NB217_193.out
    have hms34_2 := NB217_194.out
    have hms34_4 := NB217_218.out
    have hs36 : w33.cell? ⟨gb217, 1, none⟩ = some (.slice none 0 0) := (blk_cell BK217.out 1).trans rfl
    have hfs36 := blk_frozen BK217.out 1
    have hns36_0 := NB192_217.out
    have hns36_1 := NB193_217.out
    have hns36_2 := NB194_217.out
    have hns36_4 := NB218_217.out
    have hms36_0 := NB217_192.out
    have hms36_1 := NB217_193.out
    have hms36_2 := NB217_194.out
    have hms36_4 := NB217_218.out
    refine skip_ (w1 := ?_) (by rfl) rfl ?_ ?_
    rotate_left
    ·go_simp
     rfl
    refine hK.out _ _ ⟨((cell_far (p := ⟨gb217, _, none⟩) NB192_217.out _).trans (((cell_far (p := ⟨gb217, _, none⟩) NB192_217.out _).trans (hHeld.1)))), ((cell_far (p := ⟨gb217, _, none⟩) NB192_217.out _).trans (((cell_far (p := ⟨gb217, _, none⟩) NB192_217.out _).trans (hHeld.2))))⟩ (fun hHeld => ?_)
    clear hK K
    refine one_ (i := 9) (N := none) #[true, true, true, true, true, true, true, true, true, true] rfl rfl (one_of HT_.out (by kernel_rfl)) (by decide) (fun K hK => ?_)
    have hs37 : w33.cell? ⟨gb218, 0, none⟩ = some (.int .i64 0) := (blk_cell BK218.out 0).trans rfl
    have hfs37 := blk_frozen BK218.out 0
    have hns37_0 := NB192_218.out
    have hns37_1 := NB193_218.out
    have hns37_2 := NB194_218.out
    have hns37_3 := NB217_218.out
    have hms37_0 := NB218_192.out
    have hms37_1 := NB218_193.out
    have hms37_2 := NB218_194.out
    have hms37_3 := NB218_217.out
    have hs39 : w33.cell? ⟨gb218, 1, none⟩ = some (.slice none 0 0) := (blk_cell BK218.out 1).trans rfl
    have hfs39 := blk_frozen BK218.out 1
    have hns39_0 := NB192_218.out
    have hns39_1 := NB193_218.out
    have hns39_2 := NB194_218.out
    have hns39_3 := NB217_218.out
    have hms39_0 := NB218_192.out
    have hms39_1 := NB218_193.out
    have hms39_2 := NB218_194.out
    have hms39_3 := NB218_217.out
    refine skip_ (w1 := ?_) (by rfl) rfl ?_ ?_
    rotate_left
    ·go_simp
     rfl
    refine hK.out _ _ ⟨((cell_far (p := ⟨gb218, _, none⟩) NB192_218.out _).trans (((cell_far (p := ⟨gb218, _, none⟩) NB192_218.out _).trans (hHeld.1)))), ((cell_far (p := ⟨gb218, _, none⟩) NB192_218.out _).trans (((cell_far (p := ⟨gb218, _, none⟩) NB192_218.out _).trans (hHeld.2))))⟩ (fun hHeld => ?_)
    clear hK K
    refine done_ (done_of HT_.out (by kernel_rfl)) ?_
    have hnb40 := NB192_194.out
    have hnc40 := NB194_192.out
    have hnb41 := NB192_217.out
    have hnc41 := NB217_192.out
    have hnb42 := NB192_218.out
    have hnc42 := NB218_192.out
    have hcz43_0 : w33.cell? ⟨gb192, 0, none⟩ = some (.int .i64 a0_0) := (blk_cell BK192.out 0).trans rfl
    have hcz43_1 : w33.cell? ⟨gb192, 1, none⟩ = some (.slice A0_1 l0_1.length c0_1) := (blk_cell BK192.out 1).trans rfl
    have hfz43_0 := blk_frozen BK192.out 0
    have hfz43_1 := blk_frozen BK192.out 1
    try go_wp2_with (first | ((with_reducible refine gate_callee (f := 63) rfl ?_); refine goesL_ (some 48) rfl rfl Try.func63 (by kernel_rfl) rfl #[.int .i64 a0_0] rfl qB58 ?_; (with_reducible refine (spec_l01Zero.calls k1 a0_0 t219 t220 _ A22.out).mono ?_); rintro e w44 ⟨v221, rfl, ho0, hb⟩; refine ⟨_, rfl, ?_⟩; have n0_ := Aside0.mk (Kd.R_elder' qB3 (Kd.R_base ho0) hb); have n1_ := Aside0.mk (Kd.R_elder' qB4 (Kd.R_base ho0) hb); have n2_ := Aside0.mk (Kd.R_elder' qB1 (Kd.R_base ho0) hb); have n3_ := Aside0.mk (Kd.R_elder' qB2 (Kd.R_base ho0) hb); have n4_ := Aside0.mk (Kd.R_lower (Kd.R_new' (Kd.R_new' (Kd.R_new' (Kd.R_new' ho0 (Kd.R_lt qB3)) (Kd.R_lt qB4)) (Kd.R_lt qB1)) (Kd.R_lt qB2)) (below_size qB11)); have n5_ := Aside0.mk (blk_below (g := gb192) (o := .cells #[.int .i64 a0_0, .slice A0_1 l0_1.length c0_1] 26 (0, 0)) (by (with_reducible repeat (first | refine blk_drewN ?_ _ | refine blk_drew ?_ | refine blk_alloc ?_ _)); refine blk_far ?_ NB192_218.out _; (with_reducible repeat (first | refine blk_drewN ?_ _ | refine blk_drew ?_ | refine blk_alloc ?_ _)); refine blk_far ?_ NB192_218.out _; (with_reducible repeat (first | refine blk_drewN ?_ _ | refine blk_drew ?_ | refine blk_alloc ?_ _)); refine blk_far ?_ NB192_217.out _; (with_reducible repeat (first | refine blk_drewN ?_ _ | refine blk_drew ?_ | refine blk_alloc ?_ _)); refine blk_far ?_ NB192_217.out _; (with_reducible repeat (first | refine blk_drewN ?_ _ | refine blk_drew ?_ | refine blk_alloc ?_ _)); exact BK192.out) hb); have n6_ := Aside0.mk (blk_below (g := gb193) (o := .cells #[.int .i64 a1_0, .slice A1_1 l1_1.length c1_1] 26 (0, 0)) (by (with_reducible repeat (first | refine blk_drewN ?_ _ | refine blk_drew ?_ | refine blk_alloc ?_ _)); refine blk_far ?_ NB193_218.out _; (with_reducible repeat (first | refine blk_drewN ?_ _ | refine blk_drew ?_ | refine blk_alloc ?_ _)); refine blk_far ?_ NB193_218.out _; (with_reducible repeat (first | refine blk_drewN ?_ _ | refine blk_drew ?_ | refine blk_alloc ?_ _)); refine blk_far ?_ NB193_217.out _; (with_reducible repeat (first | refine blk_drewN ?_ _ | refine blk_drew ?_ | refine blk_alloc ?_ _)); refine blk_far ?_ NB193_217.out _; (with_reducible repeat (first | refine blk_drewN ?_ _ | refine blk_drew ?_ | refine blk_alloc ?_ _)); exact BK193.out) hb); have n7_ := Aside0.mk (blk_below (g := gb194) (o := .cells #[.int .i64 0, .slice none 0 0] 26 (0, 0)) (by (with_reducible repeat (first | refine blk_drewN ?_ _ | refine blk_drew ?_ | refine blk_alloc ?_ _)); refine blk_far ?_ NB194_218.out _; (with_reducible repeat (first | refine blk_drewN ?_ _ | refine blk_drew ?_ | refine blk_alloc ?_ _)); refine blk_far ?_ NB194_218.out _; (with_reducible repeat (first | refine blk_drewN ?_ _ | refine blk_drew ?_ | refine blk_alloc ?_ _)); refine blk_far ?_ NB194_217.out _; (with_reducible repeat (first | refine blk_drewN ?_ _ | refine blk_drew ?_ | refine blk_alloc ?_ _)); refine blk_far ?_ NB194_217.out _; (with_reducible repeat (first | refine blk_drewN ?_ _ | refine blk_drew ?_ | refine blk_alloc ?_ _)); exact BK194.out) hb); have n8_ := Aside0.mk (blk_below (g := gb217) (o := .cells #[.int .i64 t209, .slice Ao35 t210.length co35] 26 (0, 0)) (by (with_reducible repeat (first | refine blk_drewN ?_ _ | refine blk_drew ?_ | refine blk_alloc ?_ _)); refine blk_far ?_ NB217_218.out _; (with_reducible repeat (first | refine blk_drewN ?_ _ | refine blk_drew ?_ | refine blk_alloc ?_ _)); refine blk_far ?_ NB217_218.out _; (with_reducible repeat (first | refine blk_drewN ?_ _ | refine blk_drew ?_ | refine blk_alloc ?_ _)); refine blk_put (cs := #[.int .i64 t209, .slice none 0 0]) ?_ 1 _ rfl; (with_reducible repeat (first | refine blk_drewN ?_ _ | refine blk_drew ?_ | refine blk_alloc ?_ _)); refine blk_put (cs := #[.int .i64 0, .slice none 0 0]) ?_ 0 _ rfl; (with_reducible repeat (first | refine blk_drewN ?_ _ | refine blk_drew ?_ | refine blk_alloc ?_ _)); exact BK217.out) hb); have n9_ := Aside0.mk (blk_below (g := gb218) (o := .cells #[.int .i64 t213, .slice Ao38 t214.length co38] 26 (0, 0)) (by (with_reducible repeat (first | refine blk_drewN ?_ _ | refine blk_drew ?_ | refine blk_alloc ?_ _)); refine blk_put (cs := #[.int .i64 t213, .slice none 0 0]) ?_ 1 _ rfl; (with_reducible repeat (first | refine blk_drewN ?_ _ | refine blk_drew ?_ | refine blk_alloc ?_ _)); refine blk_put (cs := #[.int .i64 0, .slice none 0 0]) ?_ 0 _ rfl; (with_reducible repeat (first | refine blk_drewN ?_ _ | refine blk_drew ?_ | refine blk_alloc ?_ _)); refine blk_far ?_ NB218_217.out _; (with_reducible repeat (first | refine blk_drewN ?_ _ | refine blk_drew ?_ | refine blk_alloc ?_ _)); refine blk_far ?_ NB218_217.out _; (with_reducible repeat (first | refine blk_drewN ?_ _ | refine blk_drew ?_ | refine blk_alloc ?_ _)); exact BK218.out) hb); have n10_ := Aside0.mk (below_step qB11 hb); clear HO_6; clear HO_7; clear HO212; clear HO216; clear BK192; clear BK193; clear BK194; clear BK217; clear BK218; clear HB; have HO_6 := n0_; have HO_7 := n1_; have HO212 := n2_; have HO216 := n3_; have HO222 := n4_; have BK192 := n5_; have BK193 := n6_; have BK194 := n7_; have BK217 := n8_; have BK218 := n9_; have HB := n10_; clear n0_ n1_ n2_ n3_ n4_ n5_ n6_ n7_ n8_ n9_ n10_; (try clear hb); (try clear hb2); (try clear hk); (try clear hi); (try clear ho0)) | ((with_reducible refine gate_dst (N := 11) rfl ?_); refine box_event ?hg (N := 11) ?hd (cs := #[.int .i64 0, .slice none 0 0]) (t := 26) ?hr ?_; (case hd => rfl); (case hg => rfl); (case hr => first | (go_simp; done) | (go_simp; rfl)); intro gb223 hg w45 hbox hb; have n0_ := Aside0.mk (Kd.R_below qB114 hb); have n1_ := Aside0.mk (Kd.R_below qB115 hb); have n2_ := Aside0.mk (Kd.R_below qB98 hb); have n3_ := Aside0.mk (Kd.R_below qB99 hb); have n4_ := Aside0.mk (Kd.R_below (by (with_reducible repeat (first | apply Kd.R_alloc | apply Kd.R_drewN | apply Kd.R_drew)); exact HO222.out) hb); have n5_ := Aside0.mk (blk_below (g := gb192) (o := .cells #[.int .i64 a0_0, .slice A0_1 l0_1.length c0_1] 26 (0, 0)) qB69 hb); have n6_ := Aside0.mk (blk_below (g := gb193) (o := .cells #[.int .i64 a1_0, .slice A1_1 l1_1.length c1_1] 26 (0, 0)) qB70 hb); have n7_ := Aside0.mk (blk_below (g := gb194) (o := .cells #[.int .i64 0, .slice none 0 0] 26 (0, 0)) qB71 hb); have n8_ := Aside0.mk (blk_below (g := gb217) (o := .cells #[.int .i64 t209, .slice Ao35 t210.length co35] 26 (0, 0)) qB72 hb); have n9_ := Aside0.mk (blk_below (g := gb218) (o := .cells #[.int .i64 t213, .slice Ao38 t214.length co38] 26 (0, 0)) qB73 hb); have n10_ := Aside0.mk (below_step qB11 hb); have n11_ := Aside0.mk (hbox); have n12_ := Aside0.mk ((by rw [hg]; exact (below_size qB11) : w.heap.size ≤ gb223)); have n13_ := Aside0.mk ((by rw [hg]; exact (below_size qB11) : w.heap.size ≤ gb223)); have n14_ := Aside0.mk ((by rw [hg]; exact Nat.ne_of_lt (blk_lt (g := gb192) (o := .cells #[.int .i64 a0_0, .slice A0_1 l0_1.length c0_1] 26 (0, 0)) qB69) : gb192 ≠ gb223)); have n15_ := Aside0.mk ((by rw [hg]; exact Nat.ne_of_gt (blk_lt (g := gb192) (o := .cells #[.int .i64 a0_0, .slice A0_1 l0_1.length c0_1] 26 (0, 0)) qB69) : gb223 ≠ gb192)); have n16_ := Aside0.mk ((by rw [hg]; exact Nat.ne_of_lt (blk_lt (g := gb193) (o := .cells #[.int .i64 a1_0, .slice A1_1 l1_1.length c1_1] 26 (0, 0)) qB70) : gb193 ≠ gb223)); have n17_ := Aside0.mk ((by rw [hg]; exact Nat.ne_of_gt (blk_lt (g := gb193) (o := .cells #[.int .i64 a1_0, .slice A1_1 l1_1.length c1_1] 26 (0, 0)) qB70) : gb223 ≠ gb193)); have n18_ := Aside0.mk ((by rw [hg]; exact Nat.ne_of_lt (blk_lt (g := gb194) (o := .cells #[.int .i64 0, .slice none 0 0] 26 (0, 0)) qB71) : gb194 ≠ gb223)); have n19_ := Aside0.mk ((by rw [hg]; exact Nat.ne_of_gt (blk_lt (g := gb194) (o := .cells #[.int .i64 0, .slice none 0 0] 26 (0, 0)) qB71) : gb223 ≠ gb194)); have n20_ := Aside0.mk ((by rw [hg]; exact Nat.ne_of_lt (blk_lt (g := gb217) (o := .cells #[.int .i64 t209, .slice Ao35 t210.length co35] 26 (0, 0)) qB72) : gb217 ≠ gb223)); have n21_ := Aside0.mk ((by rw [hg]; exact Nat.ne_of_gt (blk_lt (g := gb217) (o := .cells #[.int .i64 t209, .slice Ao35 t210.length co35] 26 (0, 0)) qB72) : gb223 ≠ gb217)); have n22_ := Aside0.mk ((by rw [hg]; exact Nat.ne_of_lt (blk_lt (g := gb218) (o := .cells #[.int .i64 t213, .slice Ao38 t214.length co38] 26 (0, 0)) qB73) : gb218 ≠ gb223)); have n23_ := Aside0.mk ((by rw [hg]; exact Nat.ne_of_gt (blk_lt (g := gb218) (o := .cells #[.int .i64 t213, .slice Ao38 t214.length co38] 26 (0, 0)) qB73) : gb223 ≠ gb218)); clear HO_6; clear HO_7; clear HO212; clear HO216; clear HO222; clear BK192; clear BK193; clear BK194; clear BK217; clear BK218; clear HB; have HO_6 := n0_; have HO_7 := n1_; have HO212 := n2_; have HO216 := n3_; have HO222 := n4_; have BK192 := n5_; have BK193 := n6_; have BK194 := n7_; have BK217 := n8_; have BK218 := n9_; have HB := n10_; have BK223 := n11_; have GW223 := n12_; have GE223 := n13_; have NB192_223 := n14_; have NB223_192 := n15_; have NB193_223 := n16_; have NB223_193 := n17_; have NB194_223 := n18_; have NB223_194 := n19_; have NB217_223 := n20_; have NB223_217 := n21_; have NB218_223 := n22_; have NB223_218 := n23_; clear n0_ n1_ n2_ n3_ n4_ n5_ n6_ n7_ n8_ n9_ n10_ n11_ n12_ n13_ n14_ n15_ n16_ n17_ n18_ n19_ n20_ n21_ n22_ n23_; clear hb hbox hg; have hnb46 := NB223_192.out; have hnc46 := NB192_223.out; have hnb47 := NB223_193.out; have hnc47 := NB193_223.out; have hnb48 := NB223_194.out; have hnc48 := NB194_223.out; have hnb49 := NB223_217.out; have hnc49 := NB217_223.out; have hnb50 := NB223_218.out; have hnc50 := NB218_223.out; have hcz51_0 : w45.cell? ⟨gb223, 0, none⟩ = some (.int .i64 0) := (blk_cell BK223.out 0).trans rfl; have hcz51_1 : w45.cell? ⟨gb223, 1, none⟩ = some (.slice none 0 0) := (blk_cell BK223.out 1).trans rfl; have hfz51_0 := blk_frozen BK223.out 0; have hfz51_1 := blk_frozen BK223.out 1; obtain ⟨Ao52, co52, eo52⟩ := Kd.R_slice HO222.out; subst eo52))
    try simp only [Act.put, List.setIfInBounds_toArray, List.set_cons_succ, List.set_cons_zero]
    go_loopg [12] k1 (fun kq v12 w' => ∃ (x12_2 : Int) (x195000_2 : Int) (x218001_2 : List Int) (x219001_2 : List Int) (x224001_2 : List Int) (u218001 : Value) (u219001 : Value) (u224001 : Value), v12 = .int .i64 x12_2 ∧ Aside0 (spec_l01Times.l1 kq x12_2 t209 x218001_2 t213 x219001_2 t219 x224001_2 = some (r1, r2, r3)) ∧ Aside0 (kq ≤ k1) ∧ Aside0 (Kd.R (Kd.int .i64) 2 w' w.heap.size (fun k_ => some k_ ≠ (u219001 : Value).ownBlock ∧ some k_ ≠ (u224001 : Value).ownBlock) u218001 x218001_2) ∧ Aside0 (Kd.R (Kd.int .i64) 2 w' w.heap.size (fun k_ => some k_ ≠ (u218001 : Value).ownBlock ∧ some k_ ≠ (u224001 : Value).ownBlock) u219001 x219001_2) ∧ Aside0 (Kd.R (Kd.int .i64) 2 w' w.heap.size (fun k_ => some k_ ≠ (u218001 : Value).ownBlock ∧ some k_ ≠ (u219001 : Value).ownBlock) u224001 x224001_2) ∧ Aside0 (w'.heap[gb192]? = some (.cells #[.int .i64 a0_0, (.slice A0_1 l0_1.length c0_1)] 26 (0, 0))) ∧ Aside0 (w'.heap[gb193]? = some (.cells #[.int .i64 a1_0, (.slice A1_1 l1_1.length c1_1)] 26 (0, 0))) ∧ Aside0 (w'.heap[gb194]? = some (.cells #[.int .i64 x195000_2, (.slice none 0 0)] 26 (0, 0))) ∧ Aside0 (w'.heap[gb217]? = some (.cells #[.int .i64 t209, u218001] 26 (0, 0))) ∧ Aside0 (w'.heap[gb218]? = some (.cells #[.int .i64 t213, u219001] 26 (0, 0))) ∧ Aside0 (w'.heap[gb223]? = some (.cells #[.int .i64 t219, u224001] 26 (0, 0))) ∧ Aside0 (Below w.heap.size w w'))
    case atStart => exact ⟨(0), (0), (t210), (t214), (t220), (.slice Ao35 t210.length co35), (.slice Ao38 t214.length co38), (.slice Ao52 t220.length co52), qB123, H', ⟨Nat.le_refl _⟩, ⟨by (with_reducible repeat (first | apply Kd.R_alloc | apply Kd.R_drewN | apply Kd.R_drew)); exact Kd.R_mono (Kd.R_far (p := ⟨gb223, 1, none⟩) (Kd.R_far (p := ⟨gb223, 0, none⟩) (Kd.R_types HO212.out BK223.out (by decide)) (fun _ hk => hk.2) (.int .i64 t219)) (fun _ hk => hk.2) (.slice Ao52 t220.length co52)) (fun _ hk => ⟨hk.1.1.1, hk.1.2⟩)⟩, ⟨by (with_reducible repeat (first | apply Kd.R_alloc | apply Kd.R_drewN | apply Kd.R_drew)); exact Kd.R_mono (Kd.R_far (p := ⟨gb223, 1, none⟩) (Kd.R_far (p := ⟨gb223, 0, none⟩) (Kd.R_types HO216.out BK223.out (by decide)) (fun _ hk => hk.2) (.int .i64 t219)) (fun _ hk => hk.2) (.slice Ao52 t220.length co52)) (fun _ hk => ⟨hk.1.1.1, hk.1.2⟩)⟩, ⟨by (with_reducible repeat (first | apply Kd.R_alloc | apply Kd.R_drewN | apply Kd.R_drew)); exact Kd.R_mono (Kd.R_far (p := ⟨gb223, 1, none⟩) (Kd.R_far (p := ⟨gb223, 0, none⟩) (Kd.R_types HO222.out BK223.out (by decide)) (fun _ hk => hk.2) (.int .i64 t219)) (fun _ hk => hk.2) (.slice Ao52 t220.length co52)) (fun _ hk => ⟨hk.1.1.2, hk.1.2⟩)⟩, ⟨by (with_reducible repeat (first | refine blk_drewN ?_ _ | refine blk_drew ?_ | refine blk_alloc ?_ _)); refine blk_far ?_ NB192_223.out _; (with_reducible repeat (first | refine blk_drewN ?_ _ | refine blk_drew ?_ | refine blk_alloc ?_ _)); refine blk_far ?_ NB192_223.out _; (with_reducible repeat (first | refine blk_drewN ?_ _ | refine blk_drew ?_ | refine blk_alloc ?_ _)); exact BK192.out⟩, ⟨by (with_reducible repeat (first | refine blk_drewN ?_ _ | refine blk_drew ?_ | refine blk_alloc ?_ _)); refine blk_far ?_ NB193_223.out _; (with_reducible repeat (first | refine blk_drewN ?_ _ | refine blk_drew ?_ | refine blk_alloc ?_ _)); refine blk_far ?_ NB193_223.out _; (with_reducible repeat (first | refine blk_drewN ?_ _ | refine blk_drew ?_ | refine blk_alloc ?_ _)); exact BK193.out⟩, ⟨by (with_reducible repeat (first | refine blk_drewN ?_ _ | refine blk_drew ?_ | refine blk_alloc ?_ _)); refine blk_far ?_ NB194_223.out _; (with_reducible repeat (first | refine blk_drewN ?_ _ | refine blk_drew ?_ | refine blk_alloc ?_ _)); refine blk_far ?_ NB194_223.out _; (with_reducible repeat (first | refine blk_drewN ?_ _ | refine blk_drew ?_ | refine blk_alloc ?_ _)); exact BK194.out⟩, ⟨by (with_reducible repeat (first | refine blk_drewN ?_ _ | refine blk_drew ?_ | refine blk_alloc ?_ _)); refine blk_far ?_ NB217_223.out _; (with_reducible repeat (first | refine blk_drewN ?_ _ | refine blk_drew ?_ | refine blk_alloc ?_ _)); refine blk_far ?_ NB217_223.out _; (with_reducible repeat (first | refine blk_drewN ?_ _ | refine blk_drew ?_ | refine blk_alloc ?_ _)); exact BK217.out⟩, ⟨by (with_reducible repeat (first | refine blk_drewN ?_ _ | refine blk_drew ?_ | refine blk_alloc ?_ _)); refine blk_far ?_ NB218_223.out _; (with_reducible repeat (first | refine blk_drewN ?_ _ | refine blk_drew ?_ | refine blk_alloc ?_ _)); refine blk_far ?_ NB218_223.out _; (with_reducible repeat (first | refine blk_drewN ?_ _ | refine blk_drew ?_ | refine blk_alloc ?_ _)); exact BK218.out⟩, ⟨by (with_reducible repeat (first | refine blk_drewN ?_ _ | refine blk_drew ?_ | refine blk_alloc ?_ _)); refine blk_put (cs := #[.int .i64 t219, .slice none 0 0]) ?_ 1 _ rfl; (with_reducible repeat (first | refine blk_drewN ?_ _ | refine blk_drew ?_ | refine blk_alloc ?_ _)); refine blk_put (cs := #[.int .i64 0, .slice none 0 0]) ?_ 0 _ rfl; (with_reducible repeat (first | refine blk_drewN ?_ _ | refine blk_drew ?_ | refine blk_alloc ?_ _)); exact BK223.out⟩, ⟨by repeat (first | (with_reducible first | exact HB.out | apply below_alloc | apply pw_below_drewN | apply below_drew1 | refine below_set ?_ GE192.out | refine below_set ?_ GE193.out | refine below_set ?_ GE194.out | refine below_set ?_ GE217.out | refine below_set ?_ GE218.out | refine below_set ?_ GE223.out) | exact HB.out)⟩⟩
    case round =>
     clear H'
     try clear c1
     try clear p2
     try clear c4
     try clear c5
     try clear c6
     try clear c40
     try clear c41
     try clear c42
     try clear c46
     try clear c47
     try clear c48
     try clear c49
     try clear c50
     try clear hcz43_0
     try clear hcz43_1
     try clear hcz51_0
     try clear hcz51_1
     try clear hfz43_0
     try clear hfz43_1
     try clear hfz51_0
     try clear hfz51_1
     obtain ⟨x12_2, x195000_2, x218001_2, x219001_2, x224001_2, u218001, u219001, u224001, rfl, HA, HK2, HO_218001, HO_219001, HO_224001, BK192, BK193, BK194, BK217, BK218, BK223, HB⟩ := hrel
     cases gk with
     | zero => exact absurd HA.out (by simp [spec_l01Times.l1])
     | succ k2 =>
      have H := HA.out
      clear HA
      simp only [spec_l01Times.l1] at H
      by_cases c53 : x12_2 < (x224001_2.length : Int)
      ·rw [if_pos c53] at H
       have c53b0 : decide (x12_2 < (x224001_2.length : Int)) = true := decide_eq_true c53
       clear c53
       by_cases c54 : 0 ≤ x12_2
       ·rw [if_pos c54] at H
        have c54b0 : decide (0 ≤ x12_2) = true := decide_eq_true c54
        clear c54
        by_cases c55 : x12_2 < (x219001_2.length : Int)
        ·rw [if_pos c55] at H
         have c55b0 : decide (x12_2 < (x219001_2.length : Int)) = true := decide_eq_true c55
         clear c55
         replace H := Option.bind_eq_some_iff.mp H
         obtain ⟨t225, A560, H⟩ := H
         replace H : (if t225 = true then (if x12_2 < (x218001_2.length : Int) then (spec_l01Times.l1 k2 (wrap64 (x12_2 + 1)) t209 x218001_2 t213 x219001_2 t219 (x224001_2.set (x12_2 : Int).toNat (wrap64 ((wrap64 ((rd x219001_2 x12_2) * 100000)) + (rd x218001_2 x12_2))))) else (none)) else (some (t219, x224001_2, false))) = some (r1, r2, r3) := H
         have A56 := Aside0.mk A560
         clear A560
         by_cases c57 : t225 = true
         ·subst c57
          have H1 : (if x12_2 < (x218001_2.length : Int) then (spec_l01Times.l1 k2 (wrap64 (x12_2 + 1)) t209 x218001_2 t213 x219001_2 t219 (x224001_2.set (x12_2 : Int).toNat (wrap64 ((wrap64 ((rd x219001_2 x12_2) * 100000)) + (rd x218001_2 x12_2))))) else (none)) = some (r1, r2, r3) := by rw [if_pos rfl] at H; exact H
          clear H
          have H := H1
          clear H1
          by_cases c58 : x12_2 < (x218001_2.length : Int)
          ·rw [if_pos c58] at H
           have c58b0 : decide (x12_2 < (x218001_2.length : Int)) = true := decide_eq_true c58
           clear c58
           obtain ⟨y228, hy228⟩ : ∃ y_ : List Int, y_ = (x224001_2.set (x12_2 : Int).toNat (wrap64 ((wrap64 ((rd x219001_2 x12_2) * 100000)) + (rd x218001_2 x12_2)))) := ⟨_, rfl⟩
           replace H : (spec_l01Times.l1 k2 (wrap64 (x12_2 + 1)) t209 x218001_2 t213 x219001_2 t219 y228) = some (r1, r2, r3) := by first | (rw [hy228]; with_reducible exact H) | (have H2_ := (Option.bind_some _ _).symm.trans H; rw [hy228]; with_reducible exact H2_) | (have H2_ := (Option.bind_some _ _).symm.trans H; with_reducible exact H2_) | with_reducible exact H | (rw [hy228]; exact H) | exact H
           have Ny228 := Aside0.mk hy228
           clear hy228
           have H' := Aside0.mk H
           clear H
           have hnb60 := NB223_192.out
           have hnc60 := NB192_223.out
           have hnb61 := NB223_193.out
           have hnc61 := NB193_223.out
           have hnb62 := NB223_194.out
           have hnc62 := NB194_223.out
           have hnb63 := NB223_217.out
           have hnc63 := NB217_223.out
           have hnb64 := NB223_218.out
           have hnc64 := NB218_223.out
           have hcz65_0 : wr.cell? ⟨gb223, 0, none⟩ = some (.int .i64 t219) := (blk_cell BK223.out 0).trans rfl
           have hcz65_1 : wr.cell? ⟨gb223, 1, none⟩ = some (u224001) := (blk_cell BK223.out 1).trans rfl
           have hfz65_0 := blk_frozen BK223.out 0
           have hfz65_1 := blk_frozen BK223.out 1
           obtain ⟨Ao66, co66, eo66⟩ := Kd.R_slice HO_224001.out
           subst eo66
           have hnb67 := NB218_192.out
           have hnc67 := NB192_218.out
           have hnb68 := NB218_193.out
           have hnc68 := NB193_218.out
           have hnb69 := NB218_194.out
           have hnc69 := NB194_218.out
           have hnb70 := NB218_217.out
           have hnc70 := NB217_218.out
           have hcz71_0 : wr.cell? ⟨gb218, 0, none⟩ = some (.int .i64 t213) := (blk_cell BK218.out 0).trans rfl
           have hcz71_1 : wr.cell? ⟨gb218, 1, none⟩ = some (u219001) := (blk_cell BK218.out 1).trans rfl
           have hfz71_0 := blk_frozen BK218.out 0
           have hfz71_1 := blk_frozen BK218.out 1
           obtain ⟨Ao72, co72, eo72⟩ := Kd.R_slice HO_219001.out
           subst eo72
           have p224 : 0 ≤ (x12_2 : Int) := of_decide_eq_true qB122
           have q224 : x12_2 < (x219001_2.length : Int) := of_decide_eq_true qB122
           obtain ⟨ad224, e224, hx224_0⟩ := Kd.at_int (Kd.R_reads' HO_219001.out).2.2 x12_2 p224 q224
           cases e224
           replace p224 := eq_true p224
           replace q224 := eq_true q224
           try go_wp2_with (first | ((with_reducible refine gate_callee (f := 44) rfl ?_); refine goesL_ (some 61) rfl rfl Try.func44 (by kernel_rfl) rfl #[.int .i64 (rd x219001_2 x12_2), .int .i64 (-10000000000000), .int .i64 10000000000000] rfl qB58 ?_; (with_reducible refine (spec_l01In.calls (rd x219001_2 x12_2) (-10000000000000) 10000000000000 true _ A56.out).mono ?_); rintro e w' ⟨rfl, ⟨nd, rfl⟩⟩; refine ⟨_, rfl, ?_⟩; (try (rw [drewN_self wr]; generalize hq_ : World.drewN wr _ = wr; have n0_ : Aside0 (Kd.R (Kd.int .i64) 2 wr w.heap.size (fun k_ => some k_ ≠ (.slice (some ad224) x219001_2.length co72 : Value).ownBlock ∧ some k_ ≠ (.slice Ao66 x224001_2.length co66 : Value).ownBlock) u218001 x218001_2) := ⟨by rw [← hq_]; exact qB88⟩; have n1_ : Aside0 (Kd.R (Kd.int .i64) 2 wr w.heap.size (fun k_ => some k_ ≠ (u218001 : Value).ownBlock ∧ some k_ ≠ (.slice Ao66 x224001_2.length co66 : Value).ownBlock) (.slice (some ad224) x219001_2.length co72) x219001_2) := ⟨by rw [← hq_]; exact qB89⟩; have n2_ : Aside0 (Kd.R (Kd.int .i64) 2 wr w.heap.size (fun k_ => some k_ ≠ (u218001 : Value).ownBlock ∧ some k_ ≠ (.slice (some ad224) x219001_2.length co72 : Value).ownBlock) (.slice Ao66 x224001_2.length co66) x224001_2) := ⟨by rw [← hq_]; exact qB90⟩; have n3_ : Aside0 (wr.heap[gb192]? = some (.cells #[.int .i64 a0_0, .slice A0_1 l0_1.length c0_1] 26 (0, 0))) := ⟨by rw [← hq_]; exact qB69⟩; have n4_ : Aside0 (wr.heap[gb193]? = some (.cells #[.int .i64 a1_0, .slice A1_1 l1_1.length c1_1] 26 (0, 0))) := ⟨by rw [← hq_]; exact qB70⟩; have n5_ : Aside0 (wr.heap[gb194]? = some (.cells #[.int .i64 x195000_2, .slice none 0 0] 26 (0, 0))) := ⟨by rw [← hq_]; exact qB71⟩; have n6_ : Aside0 (wr.heap[gb217]? = some (.cells #[.int .i64 t209, u218001] 26 (0, 0))) := ⟨by rw [← hq_]; exact qB72⟩; have n7_ : Aside0 (wr.heap[gb218]? = some (.cells #[.int .i64 t213, .slice (some ad224) x219001_2.length co72] 26 (0, 0))) := ⟨by rw [← hq_]; exact qB73⟩; have n8_ : Aside0 (wr.heap[gb223]? = some (.cells #[.int .i64 t219, .slice Ao66 x224001_2.length co66] 26 (0, 0))) := ⟨by rw [← hq_]; exact qB74⟩; have n9_ : Aside0 (Below w.heap.size w wr) := ⟨by rw [← hq_]; exact qB9⟩; clear HO_218001 HO_219001 HO_224001 BK192 BK193 BK194 BK217 BK218 BK223 HB hq_; have HO_218001 := n0_; have HO_219001 := n1_; have HO_224001 := n2_; have BK192 := n3_; have BK193 := n4_; have BK194 := n5_; have BK217 := n6_; have BK218 := n7_; have BK223 := n8_; have HB := n9_; clear n0_ n1_ n2_ n3_ n4_ n5_ n6_ n7_ n8_ n9_))))
           have n0_ := Aside0.mk (Kd.R_drew HO_218001.out)
           have n1_ := Aside0.mk (Kd.R_drew HO_219001.out)
           have n2_ := Aside0.mk (Kd.R_drew HO_224001.out)
           have n3_ := Aside0.mk (blk_drew BK192.out)
           have n4_ := Aside0.mk (blk_drew BK193.out)
           have n5_ := Aside0.mk (blk_drew BK194.out)
           have n6_ := Aside0.mk (blk_drew BK217.out)
           have n7_ := Aside0.mk (blk_drew BK218.out)
           have n8_ := Aside0.mk (blk_drew BK223.out)
           have n9_ := Aside0.mk (below_drew1 HB.out)
           clear HO_218001
           clear HO_219001
           clear HO_224001
           clear BK192
           clear BK193
           clear BK194
           clear BK217
           clear BK218
           clear BK223
           clear HB
           have HO_218001 := n0_
           have HO_219001 := n1_
           have HO_224001 := n2_
           have BK192 := n3_
           have BK193 := n4_
           have BK194 := n5_
           have BK217 := n6_
           have BK218 := n7_
           have BK223 := n8_
           have HB := n9_
           clear n0_ n1_ n2_ n3_ n4_ n5_ n6_ n7_ n8_ n9_
           have p226 : 0 ≤ (x12_2 : Int) := of_decide_eq_true qB122
           have q226 : x12_2 < (x219001_2.length : Int) := of_decide_eq_true qB122
           obtain ⟨ad226, e226, hx226_0⟩ := Kd.at_int (Kd.R_reads' HO_219001.out).2.2 x12_2 p226 q226
           obtain rfl : ad224 = ad226 := (by injection e226)
           replace p226 := eq_true p226
           replace q226 := eq_true q226
           obtain ⟨Ao74, co74, eo74⟩ := Kd.R_slice HO_218001.out
           (first | subst eo74 | (injection eo74 with f1_ f2_ f3_; have f4_ := f1_.symm; have f5_ := f3_.symm; clear f1_ f2_ f3_; subst f4_; subst f5_))
           have p227 : 0 ≤ (x12_2 : Int) := of_decide_eq_true qB122
           have q227 : x12_2 < (x218001_2.length : Int) := of_decide_eq_true qB122
           obtain ⟨ad227, e227, hx227_0⟩ := Kd.at_int (Kd.R_reads' HO_218001.out).2.2 x12_2 p227 q227
           cases e227
           replace p227 := eq_true p227
           replace q227 := eq_true q227
           have p59 : 0 ≤ (x12_2 : Int) := of_decide_eq_true qB122
           have q59 : (x12_2 : Int) < ((x224001_2.length : Int) : Int) := of_decide_eq_true qB122
           obtain ⟨go59, co59, eo59, gb59, gl59, cl59, HG59⟩ := Kd.R_form HO_224001.out (by omega)
           (first | cases eo59 | (injection eo59 with ea_ en_ ec_; (first | subst ea_ | (injection ea_ with ea_; subst ea_)); subst ec_; clear en_))
           have GB59 := Aside0.mk gb59
           have GG59 := Aside0.mk HG59
           clear gb59 gl59 HG59
           obtain ⟨hx59_0, hf59_0⟩ := Kd.R_celln 0 HO_224001.out (x12_2 : Int) p59 q59
           replace p59 := eq_true p59
           replace q59 := eq_true q59
           have HP75 := Kd.R_putn HO_224001.out (x12_2 : Int) (wrap64 ((wrap64 ((rd x219001_2 x12_2) * 100000)) + (rd x218001_2 x12_2)))
           rw [← Ny228.out] at HP75
           have HQ75 := Aside0.mk HP75
           clear HP75
           refine start_ (n := 17) (S := fun w' => w'.cell? ⟨gb223, 0, none⟩ = some (.int .i64 t219) ∧ w'.cell? ⟨gb223, 1, none⟩ = some (.slice (some ⟨go59, 0, none⟩) x224001_2.length co66) ∧ w'.cell? ⟨gb218, 0, none⟩ = some (.int .i64 t213) ∧ w'.cell? ⟨gb218, 1, none⟩ = some (.slice (some ad224) x219001_2.length co72) ∧ w'.cell? ⟨gb217, 0, none⟩ = some (.int .i64 t209) ∧ w'.cell? ⟨gb217, 1, none⟩ = some (.slice (some ad227) x218001_2.length co74) ∧ w'.cell? (ad224.add (x12_2).toNat) = some (.int .i64 (rd x219001_2 x12_2)) ∧ w'.cell? (ad227.add (x12_2).toNat) = some (.int .i64 (rd x218001_2 x12_2))) (ds := [16]) #[false, false, false, false, false, false, false, false, false, false, false, false, false, false, false, false, false] (by kernel_rfl) rfl rfl ⟨(blk_cell BK223.out 0).trans rfl, (blk_cell BK223.out 1).trans rfl, (blk_cell BK218.out 0).trans rfl, (blk_cell BK218.out 1).trans rfl, (blk_cell BK217.out 0).trans rfl, (blk_cell BK217.out 1).trans rfl, hx226_0, hx227_0⟩ (fun hHeld => ?_); refine with_tabW spec_l01Times.tab14 spec_l01Times.bits14 (fun HT_ HW_ => ?_)
           generalize wr.drew = w73 at HO_218001 HO_219001 HO_224001 BK192 BK193 BK194 BK217 BK218 BK223 HB GG59 HQ75 hf59_0 hx226_0 hx227_0 hx59_0 hHeld ⊢
           refine pure_ (i := 0) (N := some 64) (v := ?_) (a' := ?_) #[true, false, false, false, false, false, false, false, false, false, false, false, false, false, false, false, false] rfl rfl (any_of HT_.out (by kernel_rfl)) (fun _ _ _ h => h) (Or.inl ⟨by rfl, ?_⟩) ?_ ?_
           rotate_left
           ·intro w'
            go_simp
            with_reducible rfl
           rotate_left
           ·simp only [Act.put, List.setIfInBounds_toArray, List.set_cons_zero, List.set_cons_succ, i64_w, i32_w]
            rfl
           refine pure_ (i := 2) (N := some 66) (v := ?_) (a' := ?_) #[true, false, true, false, false, false, false, false, false, false, false, false, false, false, false, false, false] rfl rfl (any_of HT_.out (by kernel_rfl)) (fun _ _ _ h => h) (Or.inl ⟨by rfl, ?_⟩) ?_ ?_
           rotate_left
           ·intro w'
            go_simp
            with_reducible rfl
           rotate_left
           ·simp only [Act.put, List.setIfInBounds_toArray, List.set_cons_zero, List.set_cons_succ, i64_w, i32_w]
            rfl
           refine pure_ (i := 3) (N := some 67) (v := ?_) (a' := ?_) #[true, false, true, true, false, false, false, false, false, false, false, false, false, false, false, false, false] rfl rfl (any_of HT_.out (by kernel_rfl)) (fun _ _ _ h => h) (Or.inl ⟨by rfl, ?_⟩) ?_ ?_
           rotate_left
           ·intro w'
            go_simp
            with_reducible rfl
           rotate_left
           ·simp only [Act.put, List.setIfInBounds_toArray, List.set_cons_zero, List.set_cons_succ, i64_w, i32_w]
            rfl
           refine pure_ (i := 5) (N := some 69) (v := ?_) (a' := ?_) #[true, false, true, true, false, true, false, false, false, false, false, false, false, false, false, false, false] rfl rfl (any_of HT_.out (by kernel_rfl)) (fun _ _ _ h => h) (Or.inl ⟨by rfl, ?_⟩) ?_ ?_
           rotate_left
           ·intro w'
            go_simp
            with_reducible rfl
           rotate_left
           ·simp only [Act.put, List.setIfInBounds_toArray, List.set_cons_zero, List.set_cons_succ, i64_w, i32_w]
            rfl
           refine pure_ (i := 9) (N := some 73) (v := ?_) (a' := ?_) #[true, false, true, true, false, true, false, false, false, true, false, false, false, false, false, false, false] rfl rfl (any_of HT_.out (by kernel_rfl)) (fun _ _ _ h => h) (Or.inl ⟨by rfl, ?_⟩) ?_ ?_
           rotate_left
           ·intro w'
            go_simp
            with_reducible rfl
           rotate_left
           ·simp only [Act.put, List.setIfInBounds_toArray, List.set_cons_zero, List.set_cons_succ, i64_w, i32_w]
            rfl
           refine pure_ (i := 11) (N := some 75) (v := ?_) (a' := ?_) #[true, false, true, true, false, true, false, false, false, true, false, true, false, false, false, false, false] rfl rfl (any_of HT_.out (by kernel_rfl)) (fun _ _ _ h => h) (Or.inl ⟨by rfl, ?_⟩) ?_ ?_
           rotate_left
           ·intro w'
            go_simp
            with_reducible rfl
           rotate_left
           ·simp only [Act.put, List.setIfInBounds_toArray, List.set_cons_zero, List.set_cons_succ, i64_w, i32_w]
            rfl
           refine take_ (i := 1) (N := some 65) (v := ?_) (a' := ?_) #[true, true, true, true, false, true, false, false, false, true, false, true, false, false, false, false, false] rfl rfl (take_ofW HT_.out HW_.out (by kernel_rfl)) (fun _ _ _ h => h) (Or.inl ⟨by rfl, ?_⟩) hHeld ?_ ?_
           rotate_left
           ·rintro w' ⟨s0, s1, s2, s3, s4, s5, s6, s7⟩
            go_simp
            with_reducible rfl
           rotate_left
           ·simp only [Act.put, List.setIfInBounds_toArray, List.set_cons_zero, List.set_cons_succ, i64_w, i32_w]
            rfl
           refine take_ (i := 4) (N := some 68) (v := ?_) (a' := ?_) #[true, true, true, true, true, true, false, false, false, true, false, true, false, false, false, false, false] rfl rfl (take_ofW HT_.out HW_.out (by kernel_rfl)) (fun _ _ _ h => h) (Or.inl ⟨by rfl, ?_⟩) hHeld ?_ ?_
           rotate_left
           ·rintro w' ⟨s0, s1, s2, s3, s4, s5, s6, s7⟩
            go_simp
            with_reducible rfl
           rotate_left
           ·simp only [Act.put, List.setIfInBounds_toArray, List.set_cons_zero, List.set_cons_succ, i64_w, i32_w]
            rfl
           refine pure_ (i := 6) (N := some 70) (v := ?_) (a' := ?_) #[true, true, true, true, true, true, true, false, false, true, false, true, false, false, false, false, false] rfl rfl (any_of HT_.out (by kernel_rfl)) (fun _ _ _ h => h) (Or.inl ⟨by rfl, ?_⟩) ?_ ?_
           rotate_left
           ·intro w'
            go_simp
            with_reducible rfl
           rotate_left
           ·simp only [Act.put, List.setIfInBounds_toArray, List.set_cons_zero, List.set_cons_succ, i64_w, i32_w]
            rfl
           refine take_ (i := 7) (N := some 71) (v := ?_) (a' := ?_) #[true, true, true, true, true, true, true, true, false, true, false, true, false, false, false, false, false] rfl rfl (take_ofW HT_.out HW_.out (by kernel_rfl)) (fun _ _ _ h => h) (Or.inl ⟨by rfl, ?_⟩) hHeld ?_ ?_
           rotate_left
           ·rintro w' ⟨s0, s1, s2, s3, s4, s5, s6, s7⟩
            go_simp
            with_reducible rfl
           rotate_left
           ·simp only [Act.put, List.setIfInBounds_toArray, List.set_cons_zero, List.set_cons_succ, i64_w, i32_w]
            rfl
           refine pure_ (i := 8) (N := some 72) (v := ?_) (a' := ?_) #[true, true, true, true, true, true, true, true, true, true, false, true, false, false, false, false, false] rfl rfl (any_of HT_.out (by kernel_rfl)) (fun _ _ _ h => h) (Or.inl ⟨by rfl, ?_⟩) ?_ ?_
           rotate_left
           ·intro w'
            go_simp
            with_reducible rfl
           rotate_left
           ·simp only [Act.put, List.setIfInBounds_toArray, List.set_cons_zero, List.set_cons_succ, i64_w, i32_w]
            rfl
           refine take_ (i := 10) (N := some 74) (v := ?_) (a' := ?_) #[true, true, true, true, true, true, true, true, true, true, true, true, false, false, false, false, false] rfl rfl (take_ofW HT_.out HW_.out (by kernel_rfl)) (fun _ _ _ h => h) (Or.inl ⟨by rfl, ?_⟩) hHeld ?_ ?_
           rotate_left
           ·rintro w' ⟨s0, s1, s2, s3, s4, s5, s6, s7⟩
            go_simp
            with_reducible rfl
           rotate_left
           ·simp only [Act.put, List.setIfInBounds_toArray, List.set_cons_zero, List.set_cons_succ, i64_w, i32_w]
            rfl
           refine pure_ (i := 12) (N := some 76) (v := ?_) (a' := ?_) #[true, true, true, true, true, true, true, true, true, true, true, true, true, false, false, false, false] rfl rfl (any_of HT_.out (by kernel_rfl)) (fun _ _ _ h => h) (Or.inl ⟨by rfl, ?_⟩) ?_ ?_
           rotate_left
           ·intro w'
            go_simp
            with_reducible rfl
           rotate_left
           ·simp only [Act.put, List.setIfInBounds_toArray, List.set_cons_zero, List.set_cons_succ, i64_w, i32_w]
            rfl
           refine take_ (i := 13) (N := some 77) (v := ?_) (a' := ?_) #[true, true, true, true, true, true, true, true, true, true, true, true, true, true, false, false, false] rfl rfl (take_ofW HT_.out HW_.out (by kernel_rfl)) (fun _ _ _ h => h) (Or.inl ⟨by rfl, ?_⟩) hHeld ?_ ?_
           rotate_left
           ·rintro w' ⟨s0, s1, s2, s3, s4, s5, s6, s7⟩
            go_simp
            with_reducible rfl
           rotate_left
           ·simp only [Act.put, List.setIfInBounds_toArray, List.set_cons_zero, List.set_cons_succ, i64_w, i32_w]
            rfl
           refine pure_ (i := 14) (N := some 78) (v := ?_) (a' := ?_) #[true, true, true, true, true, true, true, true, true, true, true, true, true, true, true, false, false] rfl rfl (any_of HT_.out (by kernel_rfl)) (fun _ _ _ h => h) (Or.inl ⟨by rfl, ?_⟩) ?_ ?_
           rotate_left
           ·intro w'
            go_simp
            with_reducible rfl
           rotate_left
           ·simp only [Act.put, List.setIfInBounds_toArray, List.set_cons_zero, List.set_cons_succ, i64_w, i32_w]
            rfl
           refine pure_ (i := 15) (N := some 79) (v := ?_) (a' := ?_) #[true, true, true, true, true, true, true, true, true, true, true, true, true, true, true, true, false] rfl rfl (any_of HT_.out (by kernel_rfl)) (fun _ _ _ h => h) (Or.inl ⟨by rfl, ?_⟩) ?_ ?_
           rotate_left
           ·intro w'
            go_simp
            with_reducible rfl
           rotate_left
           ·simp only [Act.put, List.setIfInBounds_toArray, List.set_cons_zero, List.set_cons_succ, i64_w, i32_w]
            rfl
           refine last_ (i := 16) (N := none) #[true, true, true, true, true, true, true, true, true, true, true, true, true, true, true, true, true] rfl rfl (one_of HT_.out (by kernel_rfl)) (by decide) (fun K hK => ?_)
           refine skip_ (w1 := ?_) (by rfl) rfl ?_ ?_
           rotate_left
           ·go_simp
            rfl
           refine hK.out _ _ ?_
           clear hK K
           refine done_ (done_of HT_.out (by kernel_rfl)) ?_
           try go_wp2
           (first | go_roundg k2 | ((try simp only [add_plain] at *); go_roundg k2))
           case measure => have := HK1.out; have := HK2.out; omega
           case rel => exact ⟨(wrap64 (x12_2 + 1)), (x195000_2), (x218001_2), (x219001_2), (y228), (.slice (some ad227) x218001_2.length co74), (.slice (some ad224) x219001_2.length co72), (.slice (some ⟨go59, 0, none⟩) x224001_2.length co66), qB123, H', ⟨by have := HK1.out; have := HK2.out; omega⟩, ⟨by (with_reducible repeat (first | apply Kd.R_alloc | apply Kd.R_drewN | apply Kd.R_drew)); exact Kd.R_mono (Kd.R_far (p := ⟨go59, (x12_2 : Int).toNat, none⟩) (Kd.R_mono HO_218001.out (fun k_ hk => (⟨hk, fun e_ => hk.2 (by rw [e_]; rfl)⟩ : _ ∧ k_ ≠ go59))) (fun _ hk => hk.2) (.int .i64 (wrap64 ((wrap64 ((rd x219001_2 x12_2) * 100000)) + (rd x218001_2 x12_2))))) (fun _ hk => ⟨hk.1.1, hk.1.2⟩)⟩, ⟨by (with_reducible repeat (first | apply Kd.R_alloc | apply Kd.R_drewN | apply Kd.R_drew)); exact Kd.R_mono (Kd.R_far (p := ⟨go59, (x12_2 : Int).toNat, none⟩) (Kd.R_mono HO_219001.out (fun k_ hk => (⟨hk, fun e_ => hk.2 (by rw [e_]; rfl)⟩ : _ ∧ k_ ≠ go59))) (fun _ hk => hk.2) (.int .i64 (wrap64 ((wrap64 ((rd x219001_2 x12_2) * 100000)) + (rd x218001_2 x12_2))))) (fun _ hk => ⟨hk.1.1, hk.1.2⟩)⟩, ⟨by (with_reducible repeat (first | apply Kd.R_alloc | apply Kd.R_drewN | apply Kd.R_drew)); exact HQ75.out⟩, ⟨by (with_reducible repeat (first | refine blk_drewN ?_ _ | refine blk_drew ?_ | refine blk_alloc ?_ _)); refine blk_far ?_ (by have h_ := Kd.R_ne HO_224001.out BK192.out (by decide); intro e_; exact h_ (by rw [e_]; rfl)) _; (with_reducible repeat (first | refine blk_drewN ?_ _ | refine blk_drew ?_ | refine blk_alloc ?_ _)); exact BK192.out⟩, ⟨by (with_reducible repeat (first | refine blk_drewN ?_ _ | refine blk_drew ?_ | refine blk_alloc ?_ _)); refine blk_far ?_ (by have h_ := Kd.R_ne HO_224001.out BK193.out (by decide); intro e_; exact h_ (by rw [e_]; rfl)) _; (with_reducible repeat (first | refine blk_drewN ?_ _ | refine blk_drew ?_ | refine blk_alloc ?_ _)); exact BK193.out⟩, ⟨by (with_reducible repeat (first | refine blk_drewN ?_ _ | refine blk_drew ?_ | refine blk_alloc ?_ _)); refine blk_far ?_ (by have h_ := Kd.R_ne HO_224001.out BK194.out (by decide); intro e_; exact h_ (by rw [e_]; rfl)) _; (with_reducible repeat (first | refine blk_drewN ?_ _ | refine blk_drew ?_ | refine blk_alloc ?_ _)); exact BK194.out⟩, ⟨by (with_reducible repeat (first | refine blk_drewN ?_ _ | refine blk_drew ?_ | refine blk_alloc ?_ _)); refine blk_far ?_ (by have h_ := Kd.R_ne HO_224001.out BK217.out (by decide); intro e_; exact h_ (by rw [e_]; rfl)) _; (with_reducible repeat (first | refine blk_drewN ?_ _ | refine blk_drew ?_ | refine blk_alloc ?_ _)); exact BK217.out⟩, ⟨by (with_reducible repeat (first | refine blk_drewN ?_ _ | refine blk_drew ?_ | refine blk_alloc ?_ _)); refine blk_far ?_ (by have h_ := Kd.R_ne HO_224001.out BK218.out (by decide); intro e_; exact h_ (by rw [e_]; rfl)) _; (with_reducible repeat (first | refine blk_drewN ?_ _ | refine blk_drew ?_ | refine blk_alloc ?_ _)); exact BK218.out⟩, ⟨by (with_reducible repeat (first | refine blk_drewN ?_ _ | refine blk_drew ?_ | refine blk_alloc ?_ _)); refine blk_far ?_ (by have h_ := Kd.R_ne HO_224001.out BK223.out (by decide); intro e_; exact h_ (by rw [e_]; rfl)) _; (with_reducible repeat (first | refine blk_drewN ?_ _ | refine blk_drew ?_ | refine blk_alloc ?_ _)); exact BK223.out⟩, ⟨by repeat (first | (with_reducible first | exact HB.out | apply below_alloc | apply pw_below_drewN | apply below_drew1 | refine below_set ?_ GB59.out | refine below_set ?_ GE192.out | refine below_set ?_ GE193.out | refine below_set ?_ GE194.out | refine below_set ?_ GE217.out | refine below_set ?_ GE218.out | refine below_set ?_ GE223.out) | exact HB.out)⟩⟩
          ·rw [if_neg c58] at H
           exact absurd H (by simp)
         ·replace c57 := Bool.eq_false_iff.mpr c57
          subst c57
          have H1 : (some (t219, x224001_2, false)) = some (r1, r2, r3) := by rw [if_neg (show ¬ (false = true) by decide)] at H; exact H
          clear H
          have H := H1
          clear H1
          simp only [Option.some.injEq, Prod.mk.injEq] at H
          obtain ⟨rfl, rfl, rfl⟩ := H
          have hnb76 := NB223_192.out
          have hnc76 := NB192_223.out
          have hnb77 := NB223_193.out
          have hnc77 := NB193_223.out
          have hnb78 := NB223_194.out
          have hnc78 := NB194_223.out
          have hnb79 := NB223_217.out
          have hnc79 := NB217_223.out
          have hnb80 := NB223_218.out
          have hnc80 := NB218_223.out
          have hcz81_0 : wr.cell? ⟨gb223, 0, none⟩ = some (.int .i64 t219) := (blk_cell BK223.out 0).trans rfl
          have hcz81_1 : wr.cell? ⟨gb223, 1, none⟩ = some (u224001) := (blk_cell BK223.out 1).trans rfl
          have hfz81_0 := blk_frozen BK223.out 0
          have hfz81_1 := blk_frozen BK223.out 1
          obtain ⟨Ao82, co82, eo82⟩ := Kd.R_slice HO_224001.out
          subst eo82
          have hnb83 := NB218_192.out
          have hnc83 := NB192_218.out
          have hnb84 := NB218_193.out
          have hnc84 := NB193_218.out
          have hnb85 := NB218_194.out
          have hnc85 := NB194_218.out
          have hnb86 := NB218_217.out
          have hnc86 := NB217_218.out
          have hcz87_0 : wr.cell? ⟨gb218, 0, none⟩ = some (.int .i64 t213) := (blk_cell BK218.out 0).trans rfl
          have hcz87_1 : wr.cell? ⟨gb218, 1, none⟩ = some (u219001) := (blk_cell BK218.out 1).trans rfl
          have hfz87_0 := blk_frozen BK218.out 0
          have hfz87_1 := blk_frozen BK218.out 1
          obtain ⟨Ao88, co88, eo88⟩ := Kd.R_slice HO_219001.out
          subst eo88
          have p224 : 0 ≤ (x12_2 : Int) := of_decide_eq_true qB122
          have q224 : x12_2 < (x219001_2.length : Int) := of_decide_eq_true qB122
          obtain ⟨ad224, e224, hx224_0⟩ := Kd.at_int (Kd.R_reads' HO_219001.out).2.2 x12_2 p224 q224
          cases e224
          replace p224 := eq_true p224
          replace q224 := eq_true q224
          go_wp2_with (first | ((with_reducible refine gate_callee (f := 44) rfl ?_); refine goesL_ (some 61) rfl rfl Try.func44 (by kernel_rfl) rfl #[.int .i64 (rd x219001_2 x12_2), .int .i64 (-10000000000000), .int .i64 10000000000000] rfl qB58 ?_; (with_reducible refine (spec_l01In.calls (rd x219001_2 x12_2) (-10000000000000) 10000000000000 false _ A56.out).mono ?_); rintro e w' ⟨rfl, ⟨nd, rfl⟩⟩; refine ⟨_, rfl, ?_⟩; (try (rw [drewN_self wr]; generalize hq_ : World.drewN wr _ = wr; have n0_ : Aside0 (Kd.R (Kd.int .i64) 2 wr w.heap.size (fun k_ => some k_ ≠ (.slice (some ad224) x219001_2.length co88 : Value).ownBlock ∧ some k_ ≠ (.slice Ao82 x224001_2.length co82 : Value).ownBlock) u218001 x218001_2) := ⟨by rw [← hq_]; exact qB88⟩; have n1_ : Aside0 (Kd.R (Kd.int .i64) 2 wr w.heap.size (fun k_ => some k_ ≠ (u218001 : Value).ownBlock ∧ some k_ ≠ (.slice Ao82 x224001_2.length co82 : Value).ownBlock) (.slice (some ad224) x219001_2.length co88) x219001_2) := ⟨by rw [← hq_]; exact qB89⟩; have n2_ : Aside0 (Kd.R (Kd.int .i64) 2 wr w.heap.size (fun k_ => some k_ ≠ (u218001 : Value).ownBlock ∧ some k_ ≠ (.slice (some ad224) x219001_2.length co88 : Value).ownBlock) (.slice Ao82 x224001_2.length co82) x224001_2) := ⟨by rw [← hq_]; exact qB90⟩; have n3_ : Aside0 (wr.heap[gb192]? = some (.cells #[.int .i64 a0_0, .slice A0_1 l0_1.length c0_1] 26 (0, 0))) := ⟨by rw [← hq_]; exact qB69⟩; have n4_ : Aside0 (wr.heap[gb193]? = some (.cells #[.int .i64 a1_0, .slice A1_1 l1_1.length c1_1] 26 (0, 0))) := ⟨by rw [← hq_]; exact qB70⟩; have n5_ : Aside0 (wr.heap[gb194]? = some (.cells #[.int .i64 x195000_2, .slice none 0 0] 26 (0, 0))) := ⟨by rw [← hq_]; exact qB71⟩; have n6_ : Aside0 (wr.heap[gb217]? = some (.cells #[.int .i64 t209, u218001] 26 (0, 0))) := ⟨by rw [← hq_]; exact qB72⟩; have n7_ : Aside0 (wr.heap[gb218]? = some (.cells #[.int .i64 t213, .slice (some ad224) x219001_2.length co88] 26 (0, 0))) := ⟨by rw [← hq_]; exact qB73⟩; have n8_ : Aside0 (wr.heap[gb223]? = some (.cells #[.int .i64 t219, .slice Ao82 x224001_2.length co82] 26 (0, 0))) := ⟨by rw [← hq_]; exact qB74⟩; have n9_ : Aside0 (Below w.heap.size w wr) := ⟨by rw [← hq_]; exact qB9⟩; clear HO_218001 HO_219001 HO_224001 BK192 BK193 BK194 BK217 BK218 BK223 HB hq_; have HO_218001 := n0_; have HO_219001 := n1_; have HO_224001 := n2_; have BK192 := n3_; have BK193 := n4_; have BK194 := n5_; have BK217 := n6_; have BK218 := n7_; have BK223 := n8_; have HB := n9_; clear n0_ n1_ n2_ n3_ n4_ n5_ n6_ n7_ n8_ n9_)); have hnb89 := NB194_192.out; have hnc89 := NB192_194.out; have hnb90 := NB194_193.out; have hnc90 := NB193_194.out; have hnb91 := NB194_217.out; have hnc91 := NB217_194.out; have hcz92_0 : wr.cell? ⟨gb194, 0, none⟩ = some (.int .i64 x195000_2) := (blk_cell BK194.out 0).trans rfl; have hcz92_1 : wr.cell? ⟨gb194, 1, none⟩ = some (.slice none 0 0) := (blk_cell BK194.out 1).trans rfl; have hfz92_0 := blk_frozen BK194.out 0; have hfz92_1 := blk_frozen BK194.out 1; (try have hcz981_0 : wr.cell? ⟨gb223, 0, none⟩ = some (_) := (blk_cell BK223.out 0).trans rfl); (try have hcz981_1 : wr.cell? ⟨gb223, 1, none⟩ = some (_) := (blk_cell BK223.out 1).trans rfl); (try have hfz981_0 := blk_frozen BK223.out 0); (try have hfz981_1 := blk_frozen BK223.out 1); (try have hcz987_0 : wr.cell? ⟨gb218, 0, none⟩ = some (_) := (blk_cell BK218.out 0).trans rfl); (try have hcz987_1 : wr.cell? ⟨gb218, 1, none⟩ = some (_) := (blk_cell BK218.out 1).trans rfl); (try have hfz987_0 := blk_frozen BK218.out 0); (try have hfz987_1 := blk_frozen BK218.out 1)))
          refine bodyPost_ret (results_ct rfl _ _ gb194 26 #[.int .i64 t219, .slice Ao82 x224001_2.length co82] (0, 0) _ rfl qB5 Try.underlying26 rfl (by kernel_rfl)) rfl ?_
          exact ⟨_, by first | rfl | (simp [errW_none, errW_some] <;> rfl) | (simp [*, errW_none, errW_some] <;> rfl), by (with_reducible repeat (first | apply Kd.R_alloc | apply Kd.R_drewN | apply Kd.R_drew)); exact Kd.R_mono (Kd.R_far (p := ⟨gb194, 1, none⟩) (Kd.R_far (p := ⟨gb194, 0, none⟩) (Kd.R_types HO_224001.out BK194.out (by decide)) (fun _ hk => hk.2) (.int .i64 t219)) (fun _ hk => hk.2) (.slice Ao82 x224001_2.length co82)) (fun _ hk => trivial), by repeat (first | (with_reducible first | exact HB.out | apply below_alloc | apply pw_below_drewN | apply below_drew1 | refine below_set ?_ GE192.out | refine below_set ?_ GE193.out | refine below_set ?_ GE194.out | refine below_set ?_ GE217.out | refine below_set ?_ GE218.out | refine below_set ?_ GE223.out) | exact HB.out)⟩
        ·rw [if_neg c55] at H
         exact absurd H (by simp)
       ·rw [if_neg c54] at H
        exact absurd H (by simp)
      ·rw [if_neg c53] at H
       have c53b0 : decide (x12_2 < (x224001_2.length : Int)) = false := decide_eq_false c53
       clear c53
       replace H := Option.bind_eq_some_iff.mp H
       obtain ⟨t229, A930, H⟩ := H
       replace H : (some (t219, x224001_2, t229)) = some (r1, r2, r3) := H
       have A93 := Aside0.mk A930
       clear A930
       simp only [Option.some.injEq, Prod.mk.injEq] at H
       obtain ⟨rfl, rfl, rfl⟩ := H
       have hnb94 := NB223_192.out
       have hnc94 := NB192_223.out
       have hnb95 := NB223_193.out
       have hnc95 := NB193_223.out
       have hnb96 := NB223_194.out
       have hnc96 := NB194_223.out
       have hnb97 := NB223_217.out
       have hnc97 := NB217_223.out
       have hnb98 := NB223_218.out
       have hnc98 := NB218_223.out
       have hcz99_0 : wr.cell? ⟨gb223, 0, none⟩ = some (.int .i64 t219) := (blk_cell BK223.out 0).trans rfl
       have hcz99_1 : wr.cell? ⟨gb223, 1, none⟩ = some (u224001) := (blk_cell BK223.out 1).trans rfl
       have hfz99_0 := blk_frozen BK223.out 0
       have hfz99_1 := blk_frozen BK223.out 1
       obtain ⟨Ao100, co100, eo100⟩ := Kd.R_slice HO_224001.out
       subst eo100
       try go_wp2
       have n0_ := Aside0.mk (Kd.R_drew HO_218001.out)
       have n1_ := Aside0.mk (Kd.R_drew HO_219001.out)
       have n2_ := Aside0.mk (Kd.R_drew HO_224001.out)
       have n3_ := Aside0.mk (blk_drew BK192.out)
       have n4_ := Aside0.mk (blk_drew BK193.out)
       have n5_ := Aside0.mk (blk_drew BK194.out)
       have n6_ := Aside0.mk (blk_drew BK217.out)
       have n7_ := Aside0.mk (blk_drew BK218.out)
       have n8_ := Aside0.mk (blk_drew BK223.out)
       have n9_ := Aside0.mk (below_drew1 HB.out)
       clear HO_218001
       clear HO_219001
       clear HO_224001
       clear BK192
       clear BK193
       clear BK194
       clear BK217
       clear BK218
       clear BK223
       clear HB
       have HO_218001 := n0_
       have HO_219001 := n1_
       have HO_224001 := n2_
       have BK192 := n3_
       have BK193 := n4_
       have BK194 := n5_
       have BK217 := n6_
       have BK218 := n7_
       have BK223 := n8_
       have HB := n9_
       clear n0_ n1_ n2_ n3_ n4_ n5_ n6_ n7_ n8_ n9_
       refine start_ (n := 5) (S := fun w' => w'.cell? ⟨gb223, 0, none⟩ = some (.int .i64 t219) ∧ w'.cell? ⟨gb223, 1, none⟩ = some (.slice Ao100 x224001_2.length co100)) (ds := []) #[false, false, false, false, false] (by kernel_rfl) rfl rfl ⟨(blk_cell BK223.out 0).trans rfl, (blk_cell BK223.out 1).trans rfl⟩ (fun hHeld => ?_)
       generalize wr.drew = w101 at HO_218001 HO_219001 HO_224001 BK192 BK193 BK194 BK217 BK218 BK223 HB hHeld ⊢
       refine take_ (i := 0) (N := some 80) (v := ?_) (a' := ?_) #[true, false, false, false, false] rfl rfl (by kernel_rfl) (fun _ _ _ h => h) (Or.inl ⟨by rfl, ?_⟩) hHeld ?_ ?_
       rotate_left
       ·rintro w' ⟨s0, s1⟩
        go_simp
        with_reducible rfl
       rotate_left
       ·simp only [Act.put, List.setIfInBounds_toArray, List.set_cons_zero, List.set_cons_succ, i64_w, i32_w]
        rfl
       refine take_ (i := 1) (N := some 81) (v := ?_) (a' := ?_) #[true, true, false, false, false] rfl rfl (by kernel_rfl) (fun _ _ _ h => h) (Or.inl ⟨by rfl, ?_⟩) hHeld ?_ ?_
       rotate_left
       ·rintro w' ⟨s0, s1⟩
        go_simp
        with_reducible rfl
       rotate_left
       ·simp only [Act.put, List.setIfInBounds_toArray, List.set_cons_zero, List.set_cons_succ, i64_w, i32_w]
        rfl
       refine one_ (i := 2) (N := some 82) #[true, true, true, false, false] rfl rfl (by kernel_rfl) (by decide) (fun K hK => ?_)
       refine goes_ Try.func64 (by kernel_rfl) rfl #[.agg #[.int .i64 t219, .slice Ao100 x224001_2.length co100]] (by rfl) rfl rfl qB58 ?_
       with_reducible refine (spec_l01Fits.calls k2 t219 _ _ x224001_2 t229 _ ?side1 ?side2 A93.out).mono ?_
       (case side1 => repeat (first | exact (Kd.R_reads' HO_224001.out).2.2 | (with_reducible refine Kd.C_alloc ?_ _) | (with_reducible refine Kd.C_drewN ?_ _) | (with_reducible refine Kd.C_drew ?_)))
       (case side2 => exact (Kd.R_reads' HO_224001.out).2.1)
       rintro e w102 ⟨rfl, hb⟩
       refine ⟨_, rfl, ?_⟩
       have n0_ := Aside0.mk (Kd.R_below qB88 hb)
       have n1_ := Aside0.mk (Kd.R_below qB89 hb)
       have n2_ := Aside0.mk (Kd.R_below qB90 hb)
       have n3_ := Aside0.mk (blk_below (g := gb192) (o := .cells #[.int .i64 a0_0, .slice A0_1 l0_1.length c0_1] 26 (0, 0)) qB69 hb)
       have n4_ := Aside0.mk (blk_below (g := gb193) (o := .cells #[.int .i64 a1_0, .slice A1_1 l1_1.length c1_1] 26 (0, 0)) qB70 hb)
       have n5_ := Aside0.mk (blk_below (g := gb194) (o := .cells #[.int .i64 x195000_2, .slice none 0 0] 26 (0, 0)) qB71 hb)
       have n6_ := Aside0.mk (blk_below (g := gb217) (o := .cells #[.int .i64 t209, u218001] 26 (0, 0)) qB72 hb)
       have n7_ := Aside0.mk (blk_below (g := gb218) (o := .cells #[.int .i64 t213, u219001] 26 (0, 0)) qB73 hb)
       have n8_ := Aside0.mk (blk_below (g := gb223) (o := .cells #[.int .i64 t219, .slice Ao100 x224001_2.length co100] 26 (0, 0)) qB74 hb)
       have n9_ := Aside0.mk (below_step qB9 hb)
       clear HO_218001
       clear HO_219001
       clear HO_224001
       clear BK192
       clear BK193
       clear BK194
       clear BK217
       clear BK218
       clear BK223
       clear HB
       have HO_218001 := n0_
       have HO_219001 := n1_
       have HO_224001 := n2_
       have BK192 := n3_
       have BK193 := n4_
       have BK194 := n5_
       have BK217 := n6_
       have BK218 := n7_
       have BK223 := n8_
       have HB := n9_
       clear n0_ n1_ n2_ n3_ n4_ n5_ n6_ n7_ n8_ n9_
       (try clear hb)
       (try clear hb2)
       (try clear hk)
       (try clear hi)
       refine hK.out _ _ ⟨(blk_cell BK223.out 0).trans rfl, (blk_cell BK223.out 1).trans rfl⟩ (fun hHeld => ?_)
       clear hK K
       refine norm_ (a' := ?_) ?_ ?_
       rotate_left
       ·show Act.put _ (some 82) _ = _
        simp only [Act.put, List.setIfInBounds_toArray, List.set_cons_zero, List.set_cons_succ, i64_w, i32_w]
        rfl
       refine one_ (i := 3) (N := none) #[true, true, true, true, false] rfl rfl (by kernel_rfl) (by decide) (fun K hK => ?_)
       have hs103 : w102.cell? ⟨gb194, 0, none⟩ = some (.int .i64 x195000_2) := (blk_cell BK194.out 0).trans rfl
       have hfs103 := blk_frozen BK194.out 0
       have hns103_0 := NB192_194.out
       have hns103_1 := NB193_194.out
       have hns103_3 := NB217_194.out
       have hns103_4 := NB218_194.out
       have hns103_5 := NB223_194.out
       have hms103_0 := NB194_192.out
       have hms103_1 := NB194_193.out
       have hms103_3 := NB194_217.out
       have hms103_4 := NB194_218.out
       have hms103_5 := NB194_223.out
       have hs104 : w102.cell? ⟨gb194, 1, none⟩ = some (.slice none 0 0) := (blk_cell BK194.out 1).trans rfl
       have hfs104 := blk_frozen BK194.out 1
       have hns104_0 := NB192_194.out
       have hns104_1 := NB193_194.out
       have hns104_3 := NB217_194.out
       have hns104_4 := NB218_194.out
       have hns104_5 := NB223_194.out
       have hms104_0 := NB194_192.out
       have hms104_1 := NB194_193.out
       have hms104_3 := NB194_217.out
       have hms104_4 := NB194_218.out
       have hms104_5 := NB194_223.out
       refine skip_ (w1 := ?_) (by rfl) rfl ?_ ?_
       rotate_left
       ·go_simp
        rfl
       refine hK.out _ _ ⟨((cell_far (p := ⟨gb194, _, none⟩) NB223_194.out _).trans (((cell_far (p := ⟨gb194, _, none⟩) NB223_194.out _).trans (hHeld.1)))), ((cell_far (p := ⟨gb194, _, none⟩) NB223_194.out _).trans (((cell_far (p := ⟨gb194, _, none⟩) NB223_194.out _).trans (hHeld.2))))⟩ (fun hHeld => ?_)
       clear hK K
       refine pure_ (i := 4) (N := some 5) (v := ?_) (a' := ?_) #[true, true, true, true, true] rfl rfl (by kernel_rfl) (fun _ _ _ h => h) (Or.inl ⟨by rfl, ?_⟩) ?_ ?_
       rotate_left
       ·intro w'
        go_simp
        with_reducible rfl
       rotate_left
       ·simp only [Act.put, List.setIfInBounds_toArray, List.set_cons_zero, List.set_cons_succ, i64_w, i32_w]
        rfl
       refine done_ (by kernel_rfl) ?_
       try go_wp2
       refine bodyPost_ret (results_ct rfl _ _ gb194 26 #[.int .i64 t219, .slice Ao100 x224001_2.length co100] (0, 0) _ rfl qB5 Try.underlying26 rfl (by kernel_rfl)) rfl ?_
       exact ⟨_, by first | rfl | (simp [errW_none, errW_some] <;> rfl) | (simp [*, errW_none, errW_some] <;> rfl), by (with_reducible repeat (first | apply Kd.R_alloc | apply Kd.R_drewN | apply Kd.R_drew)); exact Kd.R_mono (Kd.R_far (p := ⟨gb194, 1, none⟩) (Kd.R_far (p := ⟨gb194, 0, none⟩) (Kd.R_types HO_224001.out BK194.out (by decide)) (fun _ hk => hk.2) (.int .i64 t219)) (fun _ hk => hk.2) (.slice Ao100 x224001_2.length co100)) (fun _ hk => trivial), by repeat (first | (with_reducible first | exact HB.out | apply below_alloc | apply pw_below_drewN | apply below_drew1 | refine below_set ?_ GE192.out | refine below_set ?_ GE193.out | refine below_set ?_ GE194.out | refine below_set ?_ GE217.out | refine below_set ?_ GE218.out | refine below_set ?_ GE223.out) | exact HB.out)⟩

end Go.Proofs.Ythljmbobccaalaa.PFnExactNormOf
