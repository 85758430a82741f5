/- The functions that the law reaches, as plain functions, each with the proof that the program comes to it; no condition. Written by a program of this session (wip/mp.py) over the printing of the kit; what is marked HAND is told by hand. -/
import Derived.Test.YthdpdiahkphklabPFnExactJacobiRowx0
import Derived.Test.YthdpdiahkphklabPFnExactJacobiRowx6
import Derived.Test.YthdpdiahkphklabPFnExactJacobiRowx9
namespace Go.Proofs.Ythdpdiahkphklab.PFnExactJacobiRow
open Go.RowKit Go.Proofs.YthdpdiahkphklabW.PrintWords Go.Proofs.YthdpdiahkphklabW.PrintLast Go.Proofs.YthdpdiahkphklabW.PrintMore
attribute [local go_sem] max2_int min2_int max_two min_two max_three min_three max_four min_four   -- for this text's walks alone
set_option linter.unusedVariables false
set_option linter.unusedSimpArgs false

/-! ### impl_sumOver: function 43 -/
mutual
def impl_sumOver.l0 : Nat → List (S33) → Int → Int → Int → List (List Int) → Int → Int → Option (Int × List Int)
  | 0, _, _, _, _, _, _, _ => none
  | k + 1, x0, x1, x5, x6, x7, x31, x32 => if x32 < x31 then (if 0 ≤ x6 then (if (x6 : Int).toNat ≤ 35184372088832 then (if 0 ≤ x32 then (if x32 < (x7.length : Int) then (impl_sumOver.l0 k x0 x1 x5 x6 (x7.set (x32 : Int).toNat (List.replicate (x6 : Int).toNat 0)) x31 (wrap64 (x32 + 1))) else (none)) else (none)) else (none)) else (none)) else (if 0 < (x7.length : Int) then (if 0 < ((rd_L2 x7 0).length : Int) then (impl_sumOver.l1 k x1 x5 x6 (x7.set (0 : Int).toNat ((rd_L2 x7 0).set (0 : Int).toNat 1)) x0 (x0.length : Int) 0) else (none)) else (none))
def impl_sumOver.l1 : Nat → Int → Int → Int → List (List Int) → List (S33) → Int → Int → Option (Int × List Int)
  | 0, _, _, _, _, _, _, _ => none
  | k + 1, x1, x5, x6, x7, x45, x46, x47 => if x47 < x46 then ((impl_sumOver_body.f k x45 x47 x7 x5 x6).bind fun t377 => (impl_sumOver.l1 k x1 x5 x6 t377 x45 x46 (wrap64 (x47 + 1)))) else (if 0 ≤ x1 then (if x1 < (x7.length : Int) then ((impl_counted.f k x6 (rd_L2 x7 x1)).bind fun t381 => (some (x6, t381))) else (none)) else (none))
end
def impl_sumOver.f (k : Nat) (l0 : List (S33)) (a1 : Int) : Option (Int × List Int) := if 0 < (l0.length : Int) then (if 0 ≤ ((rd_T33 l0 0).f0) then (if ((rd_T33 l0 0).f0 : Int).toNat ≤ 11728124029610 then ((some (List.replicate ((rd_T33 l0 0).f0 : Int).toNat [] : List (List Int))).bind fun y366 => (impl_sumOver.l0 k l0 a1 ((rd_T33 l0 0).f0) ((rd_T33 l0 0).f1) y366 (y366.length : Int) 0)) else (none)) else (none)) else (none)
theorem impl_sumOver.mono_l : ∀ k, (∀ y0 y1 y2 y3 y4 y5 y6, LeO (impl_sumOver.l0 k y0 y1 y2 y3 y4 y5 y6) (impl_sumOver.l0 (k + 1) y0 y1 y2 y3 y4 y5 y6)) ∧ (∀ y0 y1 y2 y3 y4 y5 y6, LeO (impl_sumOver.l1 k y0 y1 y2 y3 y4 y5 y6) (impl_sumOver.l1 (k + 1) y0 y1 y2 y3 y4 y5 y6))
  | 0 => ⟨fun _ _ _ _ _ _ _ r h => by simp [impl_sumOver.l0] at h, fun _ _ _ _ _ _ _ r h => by simp [impl_sumOver.l1] at h⟩
  | k + 1 => by
    obtain ⟨ih0, ih1⟩ := impl_sumOver.mono_l k
    refine ⟨?_, ?_⟩
    · intro y0 y1 y2 y3 y4 y5 y6
      unfold impl_sumOver.l0
      repeat' first
      | (with_reducible exact ih0 _ _ _ _ _ _ _)
      | (with_reducible exact ih1 _ _ _ _ _ _ _)
      | (with_reducible exact impl_counted.mono _ _ _)
      | (with_reducible exact impl_sumOver_body.mono _ _ _ _ _ _)
      | (with_reducible exact LeO.refl _)
      | (with_reducible exact LeO.none _)
      | (with_reducible refine LeO.ite ?_ ?_)
      | (with_reducible refine LeO.bind ?_ (fun _ => ?_))
      | exact ih0 _ _ _ _ _ _ _
      | exact ih1 _ _ _ _ _ _ _
      | exact impl_counted.mono _ _ _
      | exact impl_sumOver_body.mono _ _ _ _ _ _
      | exact LeO.none _
      | refine LeO.ite ?_ ?_
      | refine LeO.bind ?_ (fun _ => ?_)
    · intro y0 y1 y2 y3 y4 y5 y6
      unfold impl_sumOver.l1
      repeat' first
      | (with_reducible exact ih0 _ _ _ _ _ _ _)
      | (with_reducible exact ih1 _ _ _ _ _ _ _)
      | (with_reducible exact impl_counted.mono _ _ _)
      | (with_reducible exact impl_sumOver_body.mono _ _ _ _ _ _)
      | (with_reducible exact LeO.refl _)
      | (with_reducible exact LeO.none _)
      | (with_reducible refine LeO.ite ?_ ?_)
      | (with_reducible refine LeO.bind ?_ (fun _ => ?_))
      | exact ih0 _ _ _ _ _ _ _
      | exact ih1 _ _ _ _ _ _ _
      | exact impl_counted.mono _ _ _
      | exact impl_sumOver_body.mono _ _ _ _ _ _
      | exact LeO.none _
      | refine LeO.ite ?_ ?_
      | refine LeO.bind ?_ (fun _ => ?_)
theorem impl_sumOver.mono : ∀ a0 a1 k, LeO (impl_sumOver.f k a0 a1) (impl_sumOver.f (k + 1) a0 a1) := by
  intro a0 a1 k
  obtain ⟨ih0, ih1⟩ := impl_sumOver.mono_l k
  unfold impl_sumOver.f
  repeat' first
      | (with_reducible exact ih0 _ _ _ _ _ _ _)
      | (with_reducible exact ih1 _ _ _ _ _ _ _)
      | (with_reducible exact impl_counted.mono _ _ _)
      | (with_reducible exact impl_sumOver_body.mono _ _ _ _ _ _)
      | (with_reducible exact LeO.refl _)
      | (with_reducible exact LeO.none _)
      | (with_reducible refine LeO.ite ?_ ?_)
      | (with_reducible refine LeO.bind ?_ (fun _ => ?_))
      | exact ih0 _ _ _ _ _ _ _
      | exact ih1 _ _ _ _ _ _ _
      | exact impl_counted.mono _ _ _
      | exact impl_sumOver_body.mono _ _ _ _ _ _
      | exact LeO.none _
      | refine LeO.ite ?_ ?_
      | refine LeO.bind ?_ (fun _ => ?_)
-- HAND
set_option maxHeartbeats 8000000 in
set_option maxRecDepth 100000 in
theorem impl_sumOver.calls (k : Nat) (A0 : Option Addr) (c0 : Nat) (l0 : List (S33)) (a1 : Int) (r1 : Int) (r2 : List Int) (w : World) (hr0 : Kd.C k33 w A0 l0.length l0) (hc0 : l0.length ≤ c0) (h : impl_sumOver.f k l0 a1 = some (r1, r2)) :
    Calls Try.prog 43 #[.slice A0 l0.length c0, .int .i64 a1] w fun e w' => ∃ v1_ : Value, e = .returned (.agg #[.int .i64 r1, v1_]) ∧ Kd.R (Kd.int .i64) 2 w' w.heap.size (fun _ => True) v1_ r2 ∧ Below w.heap.size w w' := by
  have hu43 := Try.underlying43
  have HR0 := Aside0.mk hr0
  have HC0 := Aside0.mk hc0
  clear hr0 hc0
  have HB := Aside0.mk (Below.refl w.heap.size w)
  have H : (if 0 < (l0.length : Int) then (if 0 ≤ ((rd_T33 l0 0).f0) then (if ((rd_T33 l0 0).f0 : Int).toNat ≤ 11728124029610 then ((some (List.replicate ((rd_T33 l0 0).f0 : Int).toNat [] : List (List Int))).bind fun y366 => (impl_sumOver.l0 k l0 a1 ((rd_T33 l0 0).f0) ((rd_T33 l0 0).f1) y366 (y366.length : Int) 0)) else (none)) else (none)) else (none)) = some (r1, r2) := h
  clear h
  by_cases c3 : 0 < (l0.length : Int)
  · rw [if_pos c3] at H
    have c3b0 : decide (0 < (l0.length : Int)) = true := decide_eq_true c3
    have c3b1 : decide (0 < l0.length) = true := decide_eq_true (by omega)
    clear c3
    by_cases c4 : 0 ≤ ((rd_T33 l0 0).f0)
    · rw [if_pos c4] at H
      have c4b0 := eq_true c4
      have c4b1 : decide (0 ≤ ((rd_T33 l0 0).f0)) = true := decide_eq_true c4
      clear c4
      by_cases c5 : ((rd_T33 l0 0).f0 : Int).toNat ≤ 11728124029610
      · rw [if_pos c5] at H
        have c5b0 := eq_true c5
        have c5b1 : decide (((rd_T33 l0 0).f0 : Int).toNat ≤ 11728124029610) = true := decide_eq_true c5
        clear c5
        obtain ⟨y366, hy366⟩ : ∃ y_ : List (List Int), y_ = (List.replicate ((rd_T33 l0 0).f0 : Int).toNat []) := ⟨_, rfl⟩
        replace H : (impl_sumOver.l0 k l0 a1 ((rd_T33 l0 0).f0) ((rd_T33 l0 0).f1) y366 (y366.length : Int) 0) = some (r1, r2) := by first | (rw [hy366]; with_reducible exact H) | (have H2_ := (Option.bind_some _ _).symm.trans H; rw [hy366]; with_reducible exact H2_) | (have H2_ := (Option.bind_some _ _).symm.trans H; with_reducible exact H2_) | with_reducible exact H | (rw [hy366]; exact H) | exact H
        have Ny366 := Aside0.mk hy366
        clear hy366
        have H' := Aside0.mk H
        clear H
        go_enter Try.func43, Try.ntmps43
        go_wp2_with (first | ((with_reducible refine gate_dst (N := 4) rfl ?_); refine box_event ?hg (N := 4) ?hd (cs := #[.int .i64 0, .slice none 0 0]) (t := 43) ?hr ?_; (case hd => rfl); (case hg => rfl); (case hr => first | (go_simp; done) | (go_simp; rfl)); intro gb363 hg w6 hbox hb; have n0_ := Aside0.mk (below_step qB33 hb); have n1_ := Aside0.mk (hbox); have n2_ := Aside0.mk ((by rw [hg]; exact (below_size qB33) : w.heap.size ≤ gb363)); have n3_ := Aside0.mk ((by rw [hg]; exact (below_size qB33) : w.heap.size ≤ gb363)); clear HB; have HB := n0_; have BK363 := n1_; have GW363 := n2_; have GE363 := n3_; clear n0_ n1_ n2_ n3_; clear hb hbox hg; have p364 : 0 ≤ (0 : Int) := (by omega); have q364 : 0 < (l0.length : Int) := of_decide_eq_true qB82; obtain ⟨ad364, e364, hx364_0, hx364_1, hx364_2⟩ := at_T33 HR0.out 0 p364 q364; cases e364; have qi364 : (0 < l0.length) = True := eq_true (by omega); (try rw [show ((0 : Int)).toNat = 0 from rfl] at hx364_0); (try rw [show 0 * 3 = 0 from rfl] at hx364_0); (try rw [Addr.add_zero'] at hx364_0); (try rw [show ((0 : Int)).toNat = 0 from rfl] at hx364_1); (try rw [show 0 * 3 = 0 from rfl] at hx364_1); (try rw [Addr.add_zero'] at hx364_1); (try rw [show ((0 : Int)).toNat = 0 from rfl] at hx364_2); (try rw [show 0 * 3 = 0 from rfl] at hx364_2); (try rw [Addr.add_zero'] at hx364_2); replace hx364_0 := (HB.out.cell (World.block_lt_of_cell? w _ hx364_0)).trans hx364_0; replace hx364_1 := (HB.out.cell (World.block_lt_of_cell? w _ hx364_1)).trans hx364_1; replace hx364_2 := (HB.out.cell (World.block_lt_of_cell? w _ hx364_2)).trans hx364_2; replace p364 := eq_true p364; replace q364 := eq_true q364; have p365 : 0 ≤ (0 : Int) := (by omega); have q365 : 0 < (l0.length : Int) := of_decide_eq_true qB82; obtain ⟨ad365, e365, hx365_0, hx365_1, hx365_2⟩ := at_T33 HR0.out 0 p365 q365; obtain rfl : ad364 = ad365 := (by injection e365); have qi365 : (0 < l0.length) = True := eq_true (by omega); (try rw [show ((0 : Int)).toNat = 0 from rfl] at hx365_0); (try rw [show 0 * 3 = 0 from rfl] at hx365_0); (try rw [Addr.add_zero'] at hx365_0); (try rw [show ((0 : Int)).toNat = 0 from rfl] at hx365_1); (try rw [show 0 * 3 = 0 from rfl] at hx365_1); (try rw [Addr.add_zero'] at hx365_1); (try rw [show ((0 : Int)).toNat = 0 from rfl] at hx365_2); (try rw [show 0 * 3 = 0 from rfl] at hx365_2); (try rw [Addr.add_zero'] at hx365_2); replace hx365_0 := (HB.out.cell (World.block_lt_of_cell? w _ hx365_0)).trans hx365_0; replace hx365_1 := (HB.out.cell (World.block_lt_of_cell? w _ hx365_1)).trans hx365_1; replace hx365_2 := (HB.out.cell (World.block_lt_of_cell? w _ hx365_2)).trans hx365_2; replace p365 := eq_true p365; replace q365 := eq_true q365) | ((with_reducible refine gate_dst (N := 29) rfl ?_); refine Kd.S_make (Kd.slice 2 (Kd.int .i64)) _ 22 rfl (N := 29) rfl 53 _ _ rfl ((rd_T33 l0 0).f0) rfl rfl Try.underlying53 (.slice none 0 0) 24 info22 rfl (by decide) (by omega) [] (ok := fun _ => True) (okp := fun _ => True) ⟨_, rfl, Kd.R_nil _ _ _ _ _⟩ (fun _ hk => hk) trivial (of_decide_eq_true qB82) (Nat.le_trans (Nat.mul_le_mul_right _ (of_decide_eq_true qB82 : ((rd_T33 l0 0).f0).toNat ≤ 11728124029610)) (by omega)) (Below.refl _ _) (Nat.le_refl _) ?_; intro v367 w7 ho8 hb hg_ hnew_; clear hg_ hnew_; (first | rw [← Ny366.out] at ho8 | (simp only [Int.reduceToNat] at ho8; rw [← Ny366.out] at ho8)); have n0_ := Aside0.mk (Kd.S_lower ho8 (below_size qB22)); have n1_ := Aside0.mk (blk_below (g := gb363) (o := .cells #[.int .i64 0, .slice none 0 0] 43 (0, 0)) qB45 hb); have n2_ := Aside0.mk (below_step qB22 hb); clear BK363; clear HB; have HO368 := n0_; have BK363 := n1_; have HB := n2_; clear n0_ n1_ n2_; clear hb ho8; obtain ⟨Ao9, co9, eo9⟩ := Kd.S_slice HO368.out; subst eo9))
        repeat (go_quiet (first | ((with_reducible refine gate_dst (N := 4) rfl ?_); refine box_event ?hg (N := 4) ?hd (cs := #[.int .i64 0, .slice none 0 0]) (t := 43) ?hr ?_; (case hd => rfl); (case hg => rfl); (case hr => first | (go_simp; done) | (go_simp; rfl)); intro gb363 hg w6 hbox hb; have n0_ := Aside0.mk (below_step qB33 hb); have n1_ := Aside0.mk (hbox); have n2_ := Aside0.mk ((by rw [hg]; exact (below_size qB33) : w.heap.size ≤ gb363)); have n3_ := Aside0.mk ((by rw [hg]; exact (below_size qB33) : w.heap.size ≤ gb363)); clear HB; have HB := n0_; have BK363 := n1_; have GW363 := n2_; have GE363 := n3_; clear n0_ n1_ n2_ n3_; clear hb hbox hg; have p364 : 0 ≤ (0 : Int) := (by omega); have q364 : 0 < (l0.length : Int) := of_decide_eq_true qB82; obtain ⟨ad364, e364, hx364_0, hx364_1, hx364_2⟩ := at_T33 HR0.out 0 p364 q364; cases e364; have qi364 : (0 < l0.length) = True := eq_true (by omega); (try rw [show ((0 : Int)).toNat = 0 from rfl] at hx364_0); (try rw [show 0 * 3 = 0 from rfl] at hx364_0); (try rw [Addr.add_zero'] at hx364_0); (try rw [show ((0 : Int)).toNat = 0 from rfl] at hx364_1); (try rw [show 0 * 3 = 0 from rfl] at hx364_1); (try rw [Addr.add_zero'] at hx364_1); (try rw [show ((0 : Int)).toNat = 0 from rfl] at hx364_2); (try rw [show 0 * 3 = 0 from rfl] at hx364_2); (try rw [Addr.add_zero'] at hx364_2); replace hx364_0 := (HB.out.cell (World.block_lt_of_cell? w _ hx364_0)).trans hx364_0; replace hx364_1 := (HB.out.cell (World.block_lt_of_cell? w _ hx364_1)).trans hx364_1; replace hx364_2 := (HB.out.cell (World.block_lt_of_cell? w _ hx364_2)).trans hx364_2; replace p364 := eq_true p364; replace q364 := eq_true q364; have p365 : 0 ≤ (0 : Int) := (by omega); have q365 : 0 < (l0.length : Int) := of_decide_eq_true qB82; obtain ⟨ad365, e365, hx365_0, hx365_1, hx365_2⟩ := at_T33 HR0.out 0 p365 q365; obtain rfl : ad364 = ad365 := (by injection e365); have qi365 : (0 < l0.length) = True := eq_true (by omega); (try rw [show ((0 : Int)).toNat = 0 from rfl] at hx365_0); (try rw [show 0 * 3 = 0 from rfl] at hx365_0); (try rw [Addr.add_zero'] at hx365_0); (try rw [show ((0 : Int)).toNat = 0 from rfl] at hx365_1); (try rw [show 0 * 3 = 0 from rfl] at hx365_1); (try rw [Addr.add_zero'] at hx365_1); (try rw [show ((0 : Int)).toNat = 0 from rfl] at hx365_2); (try rw [show 0 * 3 = 0 from rfl] at hx365_2); (try rw [Addr.add_zero'] at hx365_2); replace hx365_0 := (HB.out.cell (World.block_lt_of_cell? w _ hx365_0)).trans hx365_0; replace hx365_1 := (HB.out.cell (World.block_lt_of_cell? w _ hx365_1)).trans hx365_1; replace hx365_2 := (HB.out.cell (World.block_lt_of_cell? w _ hx365_2)).trans hx365_2; replace p365 := eq_true p365; replace q365 := eq_true q365) | ((with_reducible refine gate_dst (N := 29) rfl ?_); refine Kd.S_make (Kd.slice 2 (Kd.int .i64)) _ 22 rfl (N := 29) rfl 53 _ _ rfl ((rd_T33 l0 0).f0) rfl rfl Try.underlying53 (.slice none 0 0) 24 info22 rfl (by decide) (by omega) [] (ok := fun _ => True) (okp := fun _ => True) ⟨_, rfl, Kd.R_nil _ _ _ _ _⟩ (fun _ hk => hk) trivial (of_decide_eq_true qB82) (Nat.le_trans (Nat.mul_le_mul_right _ (of_decide_eq_true qB82 : ((rd_T33 l0 0).f0).toNat ≤ 11728124029610)) (by omega)) (Below.refl _ _) (Nat.le_refl _) ?_; intro v367 w7 ho8 hb hg_ hnew_; clear hg_ hnew_; (first | rw [← Ny366.out] at ho8 | (simp only [Int.reduceToNat] at ho8; rw [← Ny366.out] at ho8)); have n0_ := Aside0.mk (Kd.S_lower ho8 (below_size qB22)); have n1_ := Aside0.mk (blk_below (g := gb363) (o := .cells #[.int .i64 0, .slice none 0 0] 43 (0, 0)) qB45 hb); have n2_ := Aside0.mk (below_step qB22 hb); clear BK363; clear HB; have HO368 := n0_; have BK363 := n1_; have HB := n2_; clear n0_ n1_ n2_; clear hb ho8; obtain ⟨Ao9, co9, eo9⟩ := Kd.S_slice HO368.out; subst eo9)); try go_wp2_with (first | ((with_reducible refine gate_dst (N := 4) rfl ?_); refine box_event ?hg (N := 4) ?hd (cs := #[.int .i64 0, .slice none 0 0]) (t := 43) ?hr ?_; (case hd => rfl); (case hg => rfl); (case hr => first | (go_simp; done) | (go_simp; rfl)); intro gb363 hg w6 hbox hb; have n0_ := Aside0.mk (below_step qB33 hb); have n1_ := Aside0.mk (hbox); have n2_ := Aside0.mk ((by rw [hg]; exact (below_size qB33) : w.heap.size ≤ gb363)); have n3_ := Aside0.mk ((by rw [hg]; exact (below_size qB33) : w.heap.size ≤ gb363)); clear HB; have HB := n0_; have BK363 := n1_; have GW363 := n2_; have GE363 := n3_; clear n0_ n1_ n2_ n3_; clear hb hbox hg; have p364 : 0 ≤ (0 : Int) := (by omega); have q364 : 0 < (l0.length : Int) := of_decide_eq_true qB82; obtain ⟨ad364, e364, hx364_0, hx364_1, hx364_2⟩ := at_T33 HR0.out 0 p364 q364; cases e364; have qi364 : (0 < l0.length) = True := eq_true (by omega); (try rw [show ((0 : Int)).toNat = 0 from rfl] at hx364_0); (try rw [show 0 * 3 = 0 from rfl] at hx364_0); (try rw [Addr.add_zero'] at hx364_0); (try rw [show ((0 : Int)).toNat = 0 from rfl] at hx364_1); (try rw [show 0 * 3 = 0 from rfl] at hx364_1); (try rw [Addr.add_zero'] at hx364_1); (try rw [show ((0 : Int)).toNat = 0 from rfl] at hx364_2); (try rw [show 0 * 3 = 0 from rfl] at hx364_2); (try rw [Addr.add_zero'] at hx364_2); replace hx364_0 := (HB.out.cell (World.block_lt_of_cell? w _ hx364_0)).trans hx364_0; replace hx364_1 := (HB.out.cell (World.block_lt_of_cell? w _ hx364_1)).trans hx364_1; replace hx364_2 := (HB.out.cell (World.block_lt_of_cell? w _ hx364_2)).trans hx364_2; replace p364 := eq_true p364; replace q364 := eq_true q364; have p365 : 0 ≤ (0 : Int) := (by omega); have q365 : 0 < (l0.length : Int) := of_decide_eq_true qB82; obtain ⟨ad365, e365, hx365_0, hx365_1, hx365_2⟩ := at_T33 HR0.out 0 p365 q365; obtain rfl : ad364 = ad365 := (by injection e365); have qi365 : (0 < l0.length) = True := eq_true (by omega); (try rw [show ((0 : Int)).toNat = 0 from rfl] at hx365_0); (try rw [show 0 * 3 = 0 from rfl] at hx365_0); (try rw [Addr.add_zero'] at hx365_0); (try rw [show ((0 : Int)).toNat = 0 from rfl] at hx365_1); (try rw [show 0 * 3 = 0 from rfl] at hx365_1); (try rw [Addr.add_zero'] at hx365_1); (try rw [show ((0 : Int)).toNat = 0 from rfl] at hx365_2); (try rw [show 0 * 3 = 0 from rfl] at hx365_2); (try rw [Addr.add_zero'] at hx365_2); replace hx365_0 := (HB.out.cell (World.block_lt_of_cell? w _ hx365_0)).trans hx365_0; replace hx365_1 := (HB.out.cell (World.block_lt_of_cell? w _ hx365_1)).trans hx365_1; replace hx365_2 := (HB.out.cell (World.block_lt_of_cell? w _ hx365_2)).trans hx365_2; replace p365 := eq_true p365; replace q365 := eq_true q365) | ((with_reducible refine gate_dst (N := 29) rfl ?_); refine Kd.S_make (Kd.slice 2 (Kd.int .i64)) _ 22 rfl (N := 29) rfl 53 _ _ rfl ((rd_T33 l0 0).f0) rfl rfl Try.underlying53 (.slice none 0 0) 24 info22 rfl (by decide) (by omega) [] (ok := fun _ => True) (okp := fun _ => True) ⟨_, rfl, Kd.R_nil _ _ _ _ _⟩ (fun _ hk => hk) trivial (of_decide_eq_true qB82) (Nat.le_trans (Nat.mul_le_mul_right _ (of_decide_eq_true qB82 : ((rd_T33 l0 0).f0).toNat ≤ 11728124029610)) (by omega)) (Below.refl _ _) (Nat.le_refl _) ?_; intro v367 w7 ho8 hb hg_ hnew_; clear hg_ hnew_; (first | rw [← Ny366.out] at ho8 | (simp only [Int.reduceToNat] at ho8; rw [← Ny366.out] at ho8)); have n0_ := Aside0.mk (Kd.S_lower ho8 (below_size qB22)); have n1_ := Aside0.mk (blk_below (g := gb363) (o := .cells #[.int .i64 0, .slice none 0 0] 43 (0, 0)) qB45 hb); have n2_ := Aside0.mk (below_step qB22 hb); clear BK363; clear HB; have HO368 := n0_; have BK363 := n1_; have HB := n2_; clear n0_ n1_ n2_; clear hb ho8; obtain ⟨Ao9, co9, eo9⟩ := Kd.S_slice HO368.out; subst eo9)))
        try simp only [Act.put, List.setIfInBounds_toArray, List.set_cons_succ, List.set_cons_zero]
        go_loopg [32] k (fun kq v32 w' => ∃ (x7_1 : List (List Int)) (x32_1 : Int), v32 = .int .i64 x32_1 ∧ Aside0 (impl_sumOver.l0 kq l0 a1 ((rd_T33 l0 0).f0) ((rd_T33 l0 0).f1) x7_1 (y366.length : Int) x32_1 = some (r1, r2)) ∧ Aside0 (kq ≤ k) ∧ Aside0 (Kd.S (Kd.slice 2 (Kd.int .i64)) 22 w' w.heap.size (fun _ => True) (.slice Ao9 y366.length co9) x7_1) ∧ Aside0 (w'.heap[gb363]? = some (.cells #[.int .i64 0, (.slice none 0 0)] 43 (0, 0))) ∧ Aside0 (Below w.heap.size w w'))
        case atStart => exact ⟨(y366), (0), qB83, H', ⟨Nat.le_refl _⟩, ⟨by (with_reducible repeat (first | apply Kd.S_alloc | apply Kd.S_drewN | apply Kd.S_drew)); exact HO368.out⟩, ⟨by (with_reducible repeat (first | refine blk_drewN ?_ _ | refine blk_drew ?_ | refine blk_alloc ?_ _)); exact BK363.out⟩, ⟨by repeat (first | (with_reducible first | exact HB.out | apply below_alloc | apply pw_below_drewN | apply below_drew1 | refine below_set ?_ GE363.out) | exact HB.out)⟩⟩
        case round =>
          clear H'
          try clear p2
          try clear c3
          try clear c3b0
          try clear c3b1
          try clear p3
          try clear q3
          try clear hx3
          try clear qi3
          try clear c4
          try clear c4b0
          try clear c4b1
          try clear c5
          try clear c5b0
          try clear c5b1
          try clear hx364_0
          try clear hx364_1
          try clear hx364_2
          try clear hx365_0
          try clear hx365_1
          try clear hx365_2
          try clear p364
          try clear p365
          try clear q364
          try clear q365
          obtain ⟨x7_1, x32_1, rfl, HA, HK1, HO_7, BK363, HB⟩ := hrel
          have hl7_1 := (Kd.S_reads' HO_7.out).1
          rw [hl7_1] at HO_7
          (try simp only [hl7_1])
          (try simp only [hl7_1] at BK363)
          cases gk with
          | zero => exact absurd HA.out (by simp [impl_sumOver.l0])
          | succ k1 =>
            have H := HA.out
            clear HA
            simp only [impl_sumOver.l0] at H
            by_cases c10 : x32_1 < (y366.length : Int)
            · rw [if_pos c10] at H
              have c10b0 : decide (x32_1 < (y366.length : Int)) = true := decide_eq_true c10
              clear c10
              by_cases c11 : 0 ≤ ((rd_T33 l0 0).f1)
              · rw [if_pos c11] at H
                have c11b0 := eq_true c11
                have c11b1 : decide (0 ≤ ((rd_T33 l0 0).f1)) = true := decide_eq_true c11
                clear c11
                by_cases c12 : (((rd_T33 l0 0).f1) : Int).toNat ≤ 35184372088832
                · rw [if_pos c12] at H
                  have c12b0 := eq_true c12
                  have c12b1 : decide ((((rd_T33 l0 0).f1) : Int).toNat ≤ 35184372088832) = true := decide_eq_true c12
                  clear c12
                  obtain ⟨y369, hy369⟩ : ∃ y_ : List Int, y_ = (List.replicate (((rd_T33 l0 0).f1) : Int).toNat 0) := ⟨_, rfl⟩
                  replace H : (if 0 ≤ x32_1 then (if x32_1 < (x7_1.length : Int) then (impl_sumOver.l0 k1 l0 a1 ((rd_T33 l0 0).f0) ((rd_T33 l0 0).f1) (x7_1.set (x32_1 : Int).toNat y369) (y366.length : Int) (wrap64 (x32_1 + 1))) else (none)) else (none)) = some (r1, r2) := by first | (rw [hy369]; with_reducible exact H) | (have H2_ := (Option.bind_some _ _).symm.trans H; rw [hy369]; with_reducible exact H2_) | (have H2_ := (Option.bind_some _ _).symm.trans H; with_reducible exact H2_) | with_reducible exact H | (rw [hy369]; exact H) | exact H
                  have Ny369 := Aside0.mk hy369
                  clear hy369
                  by_cases c13 : 0 ≤ x32_1
                  · rw [if_pos c13] at H
                    have c13b0 : decide (0 ≤ x32_1) = true := decide_eq_true c13
                    clear c13
                    by_cases c14 : x32_1 < (x7_1.length : Int)
                    · rw [if_pos c14] at H
                      have c14b0 : decide (x32_1 < (x7_1.length : Int)) = true := decide_eq_true c14
                      clear c14
                      obtain ⟨y372, hy372⟩ : ∃ y_ : List (List Int), y_ = (x7_1.set (x32_1 : Int).toNat y369) := ⟨_, rfl⟩
                      replace H : (impl_sumOver.l0 k1 l0 a1 ((rd_T33 l0 0).f0) ((rd_T33 l0 0).f1) y372 (y366.length : Int) (wrap64 (x32_1 + 1))) = some (r1, r2) := by first | (rw [hy372]; with_reducible exact H) | (have H2_ := (Option.bind_some _ _).symm.trans H; rw [hy372]; with_reducible exact H2_) | (have H2_ := (Option.bind_some _ _).symm.trans H; with_reducible exact H2_) | with_reducible exact H | (rw [hy372]; exact H) | exact H
                      have Ny372 := Aside0.mk hy372
                      clear hy372
                      have H' := Aside0.mk H
                      clear H
                      go_wp2_with (first | ((with_reducible refine gate_dst (N := 38) rfl ?_); refine Kd.R_make (Kd.int .i64) _ 2 rfl (N := 38) rfl 22 _ _ rfl ((rd_T33 l0 0).f1) rfl rfl Try.underlying22 (.int .i64 0) 8 info2 rfl (by decide) (by omega) 0 (ok := fun _ => True) (okp := fun _ => True) rfl (fun _ hk => hk) trivial (of_decide_eq_true qB82) (Nat.le_trans (Nat.mul_le_mul_right _ (of_decide_eq_true qB82 : ((rd_T33 l0 0).f1).toNat ≤ 35184372088832)) (by omega)) (Below.refl _ _) (Nat.le_refl _) ?_; intro v370 w16 ho17 hb hg_ hnew_; clear hg_ hnew_; (first | rw [← Ny369.out] at ho17 | (simp only [Int.reduceToNat] at ho17; rw [← Ny369.out] at ho17)); have n0_ := Aside0.mk (Kd.S_elder' qB74 (Kd.R_base ho17) hb); have n1_ := Aside0.mk (Kd.R_lower ho17 (below_size qB22)); have n2_ := Aside0.mk (blk_below (g := gb363) (o := .cells #[.int .i64 0, .slice none 0 0] 43 (0, 0)) qB45 hb); have n3_ := Aside0.mk (below_step qB22 hb); clear HO_7; clear BK363; clear HB; have HO_7 := n0_; have HO371 := n1_; have BK363 := n2_; have HB := n3_; clear n0_ n1_ n2_ n3_; clear hb ho17; have p15 : 0 ≤ (x32_1 : Int) := of_decide_eq_true qB82; have q15 : (x32_1 : Int) < ((x7_1.length : Int) : Int) := of_decide_eq_true qB82; obtain ⟨go15, co15, eo15, gb15, gl15, cl15, HG15⟩ := Kd.S_form HO_7.out (by omega); (first | cases eo15 | (injection eo15 with ea_ en_ ec_; (first | subst ea_ | (injection ea_ with ea_; subst ea_)); subst ec_; clear en_)); have GB15 := Aside0.mk gb15; have GG15 := Aside0.mk HG15; clear gb15 gl15 HG15; obtain ⟨_, ce15, hcl15, hM15, hcc15, hfr15, _, _⟩ := Kd.S_elem HO_7.out [] (x32_1 : Int) p15 q15; obtain ⟨ve15_0, rfl, ge15_0⟩ := hM15; have hx15_0 := hcc15 0 _ rfl; have hf15_0 := hfr15 0; (try simp only [show ((Kd.slice 2 (Kd.int .i64))).sz = 1 from rfl, Nat.mul_one, Nat.add_zero] at hx15_0); (try simp only [show ((Kd.slice 2 (Kd.int .i64))).sz = 1 from rfl, Nat.mul_one, Nat.add_zero] at hf15_0); clear hcl15 hcc15 hfr15; (try clear hM15); replace p15 := eq_true p15; replace q15 := eq_true q15; have n_ := Aside0.mk (Kd.S_mono (ok' := (fun k_ => some k_ ≠ (v370 : Value).ownBlock)) HO_7.out (fun k_ hk => hk.2)); clear HO_7; have HO_7 := n_; clear n_; have HX18 := Aside0.mk (show Kd.S (Kd.slice 2 (Kd.int .i64)) 22 w16 w.heap.size (fun k_ => ((fun _ => True)) k_ ∧ ¬ ((fun k_ => some k_ = (v370 : Value).ownBlock)) k_) (.slice (some ⟨go15, 0, none⟩) x7_1.length co9) x7_1 from qB29); obtain ⟨oki18, ce18, hcl18, hM18, hcc18, hfr18, hoki18, hH18⟩ := Kd.S_elem HX18.out [] (x32_1 : Int) (of_decide_eq_true qB82) (by have h_ : (x32_1 : Int) < ((x7_1.length : Int) : Int) := of_decide_eq_true qB82; first | exact h_ | (have e_ := (Kd.S_reads' HO_7.out).1; omega) | simpa using h_); obtain ⟨ve18_0, rfl, ge18_0⟩ := hM18; have HP18 := Kd.S_seg hH18 (of_decide_eq_true qB82) (by have h_ : (x32_1 : Int) < ((x7_1.length : Int) : Int) := of_decide_eq_true qB82; first | exact h_ | (have e_ := (Kd.S_reads' HO_7.out).1; omega) | simpa using h_) (seg := [v370]) (j := 0) (show 1 ≤ 1 from by decide) (x' := y369) (Kd.M_row (Kd.R_mono (Kd.R_tight rfl (Kd.R_mono (ok' := fun k_ => ((fun _ => True)) k_ ∧ k_ ≠ go15) (Kd.R_apart' (HO371.out) (Kd.S_typed HO_7.out) (by decide)) (fun k_ hk => ⟨trivial, fun e_ => (hk.2) (by rw [e_]; rfl)⟩))) (fun _ h_ => Or.inr (h_)))) (fun _ hk => hk) (fun k_ hk_ => ((Kd.R_mono (ok' := fun k_ => ((fun _ => True)) k_ ∧ k_ ≠ go15) (Kd.R_apart' (HO371.out) (Kd.S_typed HO_7.out) (by decide)) (fun k_ hk => ⟨trivial, fun e_ => (hk.2) (by rw [e_]; rfl)⟩))).1 k_ hk_.symm); have hx18_0 := hcc18 0 _ rfl; (try simp only [show ((Kd.slice 2 (Kd.int .i64))).sz = 1 from rfl, Nat.mul_one, Nat.add_zero] at hx18_0); have hf18_0 := hfr18 0; (try simp only [show ((Kd.slice 2 (Kd.int .i64))).sz = 1 from rfl, Nat.mul_one, Nat.add_zero] at hf18_0); clear hcl18 hcc18 hfr18 hoki18 hH18; (try clear hM18); (try simp only [show ((Kd.slice 2 (Kd.int .i64))).sz = 1 from rfl, Nat.mul_one, Nat.add_zero] at HP18)) | ((with_reducible refine gate_store (t := 22) (p := 39) rfl ?_); (try (rw [drewN_self w16]; generalize hq_ : World.drewN w16 _ = w16; have n0_ := Aside0.mk (Kd.S_at hq_ HO_7.out); have n1_ := Aside0.mk (blk_at hq_ BK363.out); have n2_ := Aside0.mk (below_at hq_ HB.out); clear hq_ HO_7 BK363 HB; have HO_7 := n0_; have BK363 := n1_; have HB := n2_; clear n0_ n1_ n2_; (try (have n_ := Aside0.mk (Kd.S_mono (ok' := (fun k_ => some k_ ≠ (v370 : Value).ownBlock)) HO_7.out (fun k_ hk => hk.2)); clear HO_7; have HO_7 := n_; clear n_)); (try (have HX18 := Aside0.mk (show Kd.S (Kd.slice 2 (Kd.int .i64)) 22 w16 w.heap.size (fun k_ => ((fun _ => True)) k_ ∧ ¬ ((fun k_ => some k_ = (v370 : Value).ownBlock)) k_) (.slice (some ⟨go15, 0, none⟩) x7_1.length co9) x7_1 from qB29))); (try (obtain ⟨oki18, ce18, hcl18, hM18, hcc18, hfr18, hoki18, hH18⟩ := Kd.S_elem HX18.out [] (x32_1 : Int) (of_decide_eq_true qB82) (by have h_ : (x32_1 : Int) < ((x7_1.length : Int) : Int) := of_decide_eq_true qB82; first | exact h_ | (have e_ := (Kd.S_reads' HO_7.out).1; omega) | simpa using h_))); (try (obtain ⟨ve18_0, rfl, ge18_0⟩ := hM18)); (try (have HP18 := Kd.S_seg hH18 (of_decide_eq_true qB82) (by have h_ : (x32_1 : Int) < ((x7_1.length : Int) : Int) := of_decide_eq_true qB82; first | exact h_ | (have e_ := (Kd.S_reads' HO_7.out).1; omega) | simpa using h_) (seg := [v370]) (j := 0) (show 1 ≤ 1 from by decide) (x' := y369) (Kd.M_row (Kd.R_mono (Kd.R_tight rfl (Kd.R_mono (ok' := fun k_ => ((fun _ => True)) k_ ∧ k_ ≠ go15) (Kd.R_apart' (HO371.out) (Kd.S_typed HO_7.out) (by decide)) (fun k_ hk => ⟨trivial, fun e_ => (hk.2) (by rw [e_]; rfl)⟩))) (fun _ h_ => Or.inr (h_)))) (fun _ hk => hk) (fun k_ hk_ => ((Kd.R_mono (ok' := fun k_ => ((fun _ => True)) k_ ∧ k_ ≠ go15) (Kd.R_apart' (HO371.out) (Kd.S_typed HO_7.out) (by decide)) (fun k_ hk => ⟨trivial, fun e_ => (hk.2) (by rw [e_]; rfl)⟩))).1 k_ hk_.symm))); (try (have hx18_0 := hcc18 0 _ rfl)); (try (try simp only [show ((Kd.slice 2 (Kd.int .i64))).sz = 1 from rfl, Nat.mul_one, Nat.add_zero] at hx18_0)); (try (have hf18_0 := hfr18 0)); (try (try simp only [show ((Kd.slice 2 (Kd.int .i64))).sz = 1 from rfl, Nat.mul_one, Nat.add_zero] at hf18_0)); (try (clear hcl18 hcc18 hfr18 hoki18 hH18; (try clear hM18))); (try (try simp only [show ((Kd.slice 2 (Kd.int .i64))).sz = 1 from rfl, Nat.mul_one, Nat.add_zero] at HP18)))); refine store_event (t := 22) (p := 39) (v := ?vo_w19) (w1 := (w16.setCell ⟨go15, (x32_1 : Int).toNat, none⟩ (v370))) ?hg ?ho ?hn ?hr ?_; (case ho => rfl); (case hg => rfl); (case hn => rfl); (case hr => first | (obtain ⟨A_, c_, e_⟩ := Kd.R_slice HO371.out; subst e_; first | (go_simp; done) | (go_simp; rfl)) | (go_simp; done) | (go_simp; rfl)); intro w19 hw; have hg : w16.grownBy w19 (some go15) := (by rw [hw]; exact HP18.2); have hp_ : Kd.S (Kd.slice 2 (Kd.int .i64)) 22 w19 w.heap.size (fun _ => True) (.slice (some ⟨go15, 0, none⟩) x7_1.length co9) y372 := (by rw [hw, Ny372.out]; exact HP18.1); clear HP18; have n0_ := Aside0.mk (hp_); have n1_ := Aside0.mk (blk_grown (g := gb363) (o := .cells #[.int .i64 0, .slice none 0 0] 43 (0, 0)) qB45 hg (Kd.S_ne HO_7.out BK363.out (by decide))); have n2_ := Aside0.mk ((by rw [hw]; exact below_set (HB.out) GB15.out : Below w.heap.size w w19)); clear HO_7; clear BK363; clear HB; clear HO371; have HO_7 := n0_; have BK363 := n1_; have HB := n2_; clear n0_ n1_ n2_; clear hg hw hp_))
                      repeat (go_quiet (first | ((with_reducible refine gate_dst (N := 38) rfl ?_); refine Kd.R_make (Kd.int .i64) _ 2 rfl (N := 38) rfl 22 _ _ rfl ((rd_T33 l0 0).f1) rfl rfl Try.underlying22 (.int .i64 0) 8 info2 rfl (by decide) (by omega) 0 (ok := fun _ => True) (okp := fun _ => True) rfl (fun _ hk => hk) trivial (of_decide_eq_true qB82) (Nat.le_trans (Nat.mul_le_mul_right _ (of_decide_eq_true qB82 : ((rd_T33 l0 0).f1).toNat ≤ 35184372088832)) (by omega)) (Below.refl _ _) (Nat.le_refl _) ?_; intro v370 w16 ho17 hb hg_ hnew_; clear hg_ hnew_; (first | rw [← Ny369.out] at ho17 | (simp only [Int.reduceToNat] at ho17; rw [← Ny369.out] at ho17)); have n0_ := Aside0.mk (Kd.S_elder' qB74 (Kd.R_base ho17) hb); have n1_ := Aside0.mk (Kd.R_lower ho17 (below_size qB22)); have n2_ := Aside0.mk (blk_below (g := gb363) (o := .cells #[.int .i64 0, .slice none 0 0] 43 (0, 0)) qB45 hb); have n3_ := Aside0.mk (below_step qB22 hb); clear HO_7; clear BK363; clear HB; have HO_7 := n0_; have HO371 := n1_; have BK363 := n2_; have HB := n3_; clear n0_ n1_ n2_ n3_; clear hb ho17; have p15 : 0 ≤ (x32_1 : Int) := of_decide_eq_true qB82; have q15 : (x32_1 : Int) < ((x7_1.length : Int) : Int) := of_decide_eq_true qB82; obtain ⟨go15, co15, eo15, gb15, gl15, cl15, HG15⟩ := Kd.S_form HO_7.out (by omega); (first | cases eo15 | (injection eo15 with ea_ en_ ec_; (first | subst ea_ | (injection ea_ with ea_; subst ea_)); subst ec_; clear en_)); have GB15 := Aside0.mk gb15; have GG15 := Aside0.mk HG15; clear gb15 gl15 HG15; obtain ⟨_, ce15, hcl15, hM15, hcc15, hfr15, _, _⟩ := Kd.S_elem HO_7.out [] (x32_1 : Int) p15 q15; obtain ⟨ve15_0, rfl, ge15_0⟩ := hM15; have hx15_0 := hcc15 0 _ rfl; have hf15_0 := hfr15 0; (try simp only [show ((Kd.slice 2 (Kd.int .i64))).sz = 1 from rfl, Nat.mul_one, Nat.add_zero] at hx15_0); (try simp only [show ((Kd.slice 2 (Kd.int .i64))).sz = 1 from rfl, Nat.mul_one, Nat.add_zero] at hf15_0); clear hcl15 hcc15 hfr15; (try clear hM15); replace p15 := eq_true p15; replace q15 := eq_true q15; have n_ := Aside0.mk (Kd.S_mono (ok' := (fun k_ => some k_ ≠ (v370 : Value).ownBlock)) HO_7.out (fun k_ hk => hk.2)); clear HO_7; have HO_7 := n_; clear n_; have HX18 := Aside0.mk (show Kd.S (Kd.slice 2 (Kd.int .i64)) 22 w16 w.heap.size (fun k_ => ((fun _ => True)) k_ ∧ ¬ ((fun k_ => some k_ = (v370 : Value).ownBlock)) k_) (.slice (some ⟨go15, 0, none⟩) x7_1.length co9) x7_1 from qB29); obtain ⟨oki18, ce18, hcl18, hM18, hcc18, hfr18, hoki18, hH18⟩ := Kd.S_elem HX18.out [] (x32_1 : Int) (of_decide_eq_true qB82) (by have h_ : (x32_1 : Int) < ((x7_1.length : Int) : Int) := of_decide_eq_true qB82; first | exact h_ | (have e_ := (Kd.S_reads' HO_7.out).1; omega) | simpa using h_); obtain ⟨ve18_0, rfl, ge18_0⟩ := hM18; have HP18 := Kd.S_seg hH18 (of_decide_eq_true qB82) (by have h_ : (x32_1 : Int) < ((x7_1.length : Int) : Int) := of_decide_eq_true qB82; first | exact h_ | (have e_ := (Kd.S_reads' HO_7.out).1; omega) | simpa using h_) (seg := [v370]) (j := 0) (show 1 ≤ 1 from by decide) (x' := y369) (Kd.M_row (Kd.R_mono (Kd.R_tight rfl (Kd.R_mono (ok' := fun k_ => ((fun _ => True)) k_ ∧ k_ ≠ go15) (Kd.R_apart' (HO371.out) (Kd.S_typed HO_7.out) (by decide)) (fun k_ hk => ⟨trivial, fun e_ => (hk.2) (by rw [e_]; rfl)⟩))) (fun _ h_ => Or.inr (h_)))) (fun _ hk => hk) (fun k_ hk_ => ((Kd.R_mono (ok' := fun k_ => ((fun _ => True)) k_ ∧ k_ ≠ go15) (Kd.R_apart' (HO371.out) (Kd.S_typed HO_7.out) (by decide)) (fun k_ hk => ⟨trivial, fun e_ => (hk.2) (by rw [e_]; rfl)⟩))).1 k_ hk_.symm); have hx18_0 := hcc18 0 _ rfl; (try simp only [show ((Kd.slice 2 (Kd.int .i64))).sz = 1 from rfl, Nat.mul_one, Nat.add_zero] at hx18_0); have hf18_0 := hfr18 0; (try simp only [show ((Kd.slice 2 (Kd.int .i64))).sz = 1 from rfl, Nat.mul_one, Nat.add_zero] at hf18_0); clear hcl18 hcc18 hfr18 hoki18 hH18; (try clear hM18); (try simp only [show ((Kd.slice 2 (Kd.int .i64))).sz = 1 from rfl, Nat.mul_one, Nat.add_zero] at HP18)) | ((with_reducible refine gate_store (t := 22) (p := 39) rfl ?_); (try (rw [drewN_self w16]; generalize hq_ : World.drewN w16 _ = w16; have n0_ := Aside0.mk (Kd.S_at hq_ HO_7.out); have n1_ := Aside0.mk (blk_at hq_ BK363.out); have n2_ := Aside0.mk (below_at hq_ HB.out); clear hq_ HO_7 BK363 HB; have HO_7 := n0_; have BK363 := n1_; have HB := n2_; clear n0_ n1_ n2_; (try (have n_ := Aside0.mk (Kd.S_mono (ok' := (fun k_ => some k_ ≠ (v370 : Value).ownBlock)) HO_7.out (fun k_ hk => hk.2)); clear HO_7; have HO_7 := n_; clear n_)); (try (have HX18 := Aside0.mk (show Kd.S (Kd.slice 2 (Kd.int .i64)) 22 w16 w.heap.size (fun k_ => ((fun _ => True)) k_ ∧ ¬ ((fun k_ => some k_ = (v370 : Value).ownBlock)) k_) (.slice (some ⟨go15, 0, none⟩) x7_1.length co9) x7_1 from qB29))); (try (obtain ⟨oki18, ce18, hcl18, hM18, hcc18, hfr18, hoki18, hH18⟩ := Kd.S_elem HX18.out [] (x32_1 : Int) (of_decide_eq_true qB82) (by have h_ : (x32_1 : Int) < ((x7_1.length : Int) : Int) := of_decide_eq_true qB82; first | exact h_ | (have e_ := (Kd.S_reads' HO_7.out).1; omega) | simpa using h_))); (try (obtain ⟨ve18_0, rfl, ge18_0⟩ := hM18)); (try (have HP18 := Kd.S_seg hH18 (of_decide_eq_true qB82) (by have h_ : (x32_1 : Int) < ((x7_1.length : Int) : Int) := of_decide_eq_true qB82; first | exact h_ | (have e_ := (Kd.S_reads' HO_7.out).1; omega) | simpa using h_) (seg := [v370]) (j := 0) (show 1 ≤ 1 from by decide) (x' := y369) (Kd.M_row (Kd.R_mono (Kd.R_tight rfl (Kd.R_mono (ok' := fun k_ => ((fun _ => True)) k_ ∧ k_ ≠ go15) (Kd.R_apart' (HO371.out) (Kd.S_typed HO_7.out) (by decide)) (fun k_ hk => ⟨trivial, fun e_ => (hk.2) (by rw [e_]; rfl)⟩))) (fun _ h_ => Or.inr (h_)))) (fun _ hk => hk) (fun k_ hk_ => ((Kd.R_mono (ok' := fun k_ => ((fun _ => True)) k_ ∧ k_ ≠ go15) (Kd.R_apart' (HO371.out) (Kd.S_typed HO_7.out) (by decide)) (fun k_ hk => ⟨trivial, fun e_ => (hk.2) (by rw [e_]; rfl)⟩))).1 k_ hk_.symm))); (try (have hx18_0 := hcc18 0 _ rfl)); (try (try simp only [show ((Kd.slice 2 (Kd.int .i64))).sz = 1 from rfl, Nat.mul_one, Nat.add_zero] at hx18_0)); (try (have hf18_0 := hfr18 0)); (try (try simp only [show ((Kd.slice 2 (Kd.int .i64))).sz = 1 from rfl, Nat.mul_one, Nat.add_zero] at hf18_0)); (try (clear hcl18 hcc18 hfr18 hoki18 hH18; (try clear hM18))); (try (try simp only [show ((Kd.slice 2 (Kd.int .i64))).sz = 1 from rfl, Nat.mul_one, Nat.add_zero] at HP18)))); refine store_event (t := 22) (p := 39) (v := ?vo_w19) (w1 := (w16.setCell ⟨go15, (x32_1 : Int).toNat, none⟩ (v370))) ?hg ?ho ?hn ?hr ?_; (case ho => rfl); (case hg => rfl); (case hn => rfl); (case hr => first | (obtain ⟨A_, c_, e_⟩ := Kd.R_slice HO371.out; subst e_; first | (go_simp; done) | (go_simp; rfl)) | (go_simp; done) | (go_simp; rfl)); intro w19 hw; have hg : w16.grownBy w19 (some go15) := (by rw [hw]; exact HP18.2); have hp_ : Kd.S (Kd.slice 2 (Kd.int .i64)) 22 w19 w.heap.size (fun _ => True) (.slice (some ⟨go15, 0, none⟩) x7_1.length co9) y372 := (by rw [hw, Ny372.out]; exact HP18.1); clear HP18; have n0_ := Aside0.mk (hp_); have n1_ := Aside0.mk (blk_grown (g := gb363) (o := .cells #[.int .i64 0, .slice none 0 0] 43 (0, 0)) qB45 hg (Kd.S_ne HO_7.out BK363.out (by decide))); have n2_ := Aside0.mk ((by rw [hw]; exact below_set (HB.out) GB15.out : Below w.heap.size w w19)); clear HO_7; clear BK363; clear HB; clear HO371; have HO_7 := n0_; have BK363 := n1_; have HB := n2_; clear n0_ n1_ n2_; clear hg hw hp_)); try go_wp2_with (first | ((with_reducible refine gate_dst (N := 38) rfl ?_); refine Kd.R_make (Kd.int .i64) _ 2 rfl (N := 38) rfl 22 _ _ rfl ((rd_T33 l0 0).f1) rfl rfl Try.underlying22 (.int .i64 0) 8 info2 rfl (by decide) (by omega) 0 (ok := fun _ => True) (okp := fun _ => True) rfl (fun _ hk => hk) trivial (of_decide_eq_true qB82) (Nat.le_trans (Nat.mul_le_mul_right _ (of_decide_eq_true qB82 : ((rd_T33 l0 0).f1).toNat ≤ 35184372088832)) (by omega)) (Below.refl _ _) (Nat.le_refl _) ?_; intro v370 w16 ho17 hb hg_ hnew_; clear hg_ hnew_; (first | rw [← Ny369.out] at ho17 | (simp only [Int.reduceToNat] at ho17; rw [← Ny369.out] at ho17)); have n0_ := Aside0.mk (Kd.S_elder' qB74 (Kd.R_base ho17) hb); have n1_ := Aside0.mk (Kd.R_lower ho17 (below_size qB22)); have n2_ := Aside0.mk (blk_below (g := gb363) (o := .cells #[.int .i64 0, .slice none 0 0] 43 (0, 0)) qB45 hb); have n3_ := Aside0.mk (below_step qB22 hb); clear HO_7; clear BK363; clear HB; have HO_7 := n0_; have HO371 := n1_; have BK363 := n2_; have HB := n3_; clear n0_ n1_ n2_ n3_; clear hb ho17; have p15 : 0 ≤ (x32_1 : Int) := of_decide_eq_true qB82; have q15 : (x32_1 : Int) < ((x7_1.length : Int) : Int) := of_decide_eq_true qB82; obtain ⟨go15, co15, eo15, gb15, gl15, cl15, HG15⟩ := Kd.S_form HO_7.out (by omega); (first | cases eo15 | (injection eo15 with ea_ en_ ec_; (first | subst ea_ | (injection ea_ with ea_; subst ea_)); subst ec_; clear en_)); have GB15 := Aside0.mk gb15; have GG15 := Aside0.mk HG15; clear gb15 gl15 HG15; obtain ⟨_, ce15, hcl15, hM15, hcc15, hfr15, _, _⟩ := Kd.S_elem HO_7.out [] (x32_1 : Int) p15 q15; obtain ⟨ve15_0, rfl, ge15_0⟩ := hM15; have hx15_0 := hcc15 0 _ rfl; have hf15_0 := hfr15 0; (try simp only [show ((Kd.slice 2 (Kd.int .i64))).sz = 1 from rfl, Nat.mul_one, Nat.add_zero] at hx15_0); (try simp only [show ((Kd.slice 2 (Kd.int .i64))).sz = 1 from rfl, Nat.mul_one, Nat.add_zero] at hf15_0); clear hcl15 hcc15 hfr15; (try clear hM15); replace p15 := eq_true p15; replace q15 := eq_true q15; have n_ := Aside0.mk (Kd.S_mono (ok' := (fun k_ => some k_ ≠ (v370 : Value).ownBlock)) HO_7.out (fun k_ hk => hk.2)); clear HO_7; have HO_7 := n_; clear n_; have HX18 := Aside0.mk (show Kd.S (Kd.slice 2 (Kd.int .i64)) 22 w16 w.heap.size (fun k_ => ((fun _ => True)) k_ ∧ ¬ ((fun k_ => some k_ = (v370 : Value).ownBlock)) k_) (.slice (some ⟨go15, 0, none⟩) x7_1.length co9) x7_1 from qB29); obtain ⟨oki18, ce18, hcl18, hM18, hcc18, hfr18, hoki18, hH18⟩ := Kd.S_elem HX18.out [] (x32_1 : Int) (of_decide_eq_true qB82) (by have h_ : (x32_1 : Int) < ((x7_1.length : Int) : Int) := of_decide_eq_true qB82; first | exact h_ | (have e_ := (Kd.S_reads' HO_7.out).1; omega) | simpa using h_); obtain ⟨ve18_0, rfl, ge18_0⟩ := hM18; have HP18 := Kd.S_seg hH18 (of_decide_eq_true qB82) (by have h_ : (x32_1 : Int) < ((x7_1.length : Int) : Int) := of_decide_eq_true qB82; first | exact h_ | (have e_ := (Kd.S_reads' HO_7.out).1; omega) | simpa using h_) (seg := [v370]) (j := 0) (show 1 ≤ 1 from by decide) (x' := y369) (Kd.M_row (Kd.R_mono (Kd.R_tight rfl (Kd.R_mono (ok' := fun k_ => ((fun _ => True)) k_ ∧ k_ ≠ go15) (Kd.R_apart' (HO371.out) (Kd.S_typed HO_7.out) (by decide)) (fun k_ hk => ⟨trivial, fun e_ => (hk.2) (by rw [e_]; rfl)⟩))) (fun _ h_ => Or.inr (h_)))) (fun _ hk => hk) (fun k_ hk_ => ((Kd.R_mono (ok' := fun k_ => ((fun _ => True)) k_ ∧ k_ ≠ go15) (Kd.R_apart' (HO371.out) (Kd.S_typed HO_7.out) (by decide)) (fun k_ hk => ⟨trivial, fun e_ => (hk.2) (by rw [e_]; rfl)⟩))).1 k_ hk_.symm); have hx18_0 := hcc18 0 _ rfl; (try simp only [show ((Kd.slice 2 (Kd.int .i64))).sz = 1 from rfl, Nat.mul_one, Nat.add_zero] at hx18_0); have hf18_0 := hfr18 0; (try simp only [show ((Kd.slice 2 (Kd.int .i64))).sz = 1 from rfl, Nat.mul_one, Nat.add_zero] at hf18_0); clear hcl18 hcc18 hfr18 hoki18 hH18; (try clear hM18); (try simp only [show ((Kd.slice 2 (Kd.int .i64))).sz = 1 from rfl, Nat.mul_one, Nat.add_zero] at HP18)) | ((with_reducible refine gate_store (t := 22) (p := 39) rfl ?_); (try (rw [drewN_self w16]; generalize hq_ : World.drewN w16 _ = w16; have n0_ := Aside0.mk (Kd.S_at hq_ HO_7.out); have n1_ := Aside0.mk (blk_at hq_ BK363.out); have n2_ := Aside0.mk (below_at hq_ HB.out); clear hq_ HO_7 BK363 HB; have HO_7 := n0_; have BK363 := n1_; have HB := n2_; clear n0_ n1_ n2_; (try (have n_ := Aside0.mk (Kd.S_mono (ok' := (fun k_ => some k_ ≠ (v370 : Value).ownBlock)) HO_7.out (fun k_ hk => hk.2)); clear HO_7; have HO_7 := n_; clear n_)); (try (have HX18 := Aside0.mk (show Kd.S (Kd.slice 2 (Kd.int .i64)) 22 w16 w.heap.size (fun k_ => ((fun _ => True)) k_ ∧ ¬ ((fun k_ => some k_ = (v370 : Value).ownBlock)) k_) (.slice (some ⟨go15, 0, none⟩) x7_1.length co9) x7_1 from qB29))); (try (obtain ⟨oki18, ce18, hcl18, hM18, hcc18, hfr18, hoki18, hH18⟩ := Kd.S_elem HX18.out [] (x32_1 : Int) (of_decide_eq_true qB82) (by have h_ : (x32_1 : Int) < ((x7_1.length : Int) : Int) := of_decide_eq_true qB82; first | exact h_ | (have e_ := (Kd.S_reads' HO_7.out).1; omega) | simpa using h_))); (try (obtain ⟨ve18_0, rfl, ge18_0⟩ := hM18)); (try (have HP18 := Kd.S_seg hH18 (of_decide_eq_true qB82) (by have h_ : (x32_1 : Int) < ((x7_1.length : Int) : Int) := of_decide_eq_true qB82; first | exact h_ | (have e_ := (Kd.S_reads' HO_7.out).1; omega) | simpa using h_) (seg := [v370]) (j := 0) (show 1 ≤ 1 from by decide) (x' := y369) (Kd.M_row (Kd.R_mono (Kd.R_tight rfl (Kd.R_mono (ok' := fun k_ => ((fun _ => True)) k_ ∧ k_ ≠ go15) (Kd.R_apart' (HO371.out) (Kd.S_typed HO_7.out) (by decide)) (fun k_ hk => ⟨trivial, fun e_ => (hk.2) (by rw [e_]; rfl)⟩))) (fun _ h_ => Or.inr (h_)))) (fun _ hk => hk) (fun k_ hk_ => ((Kd.R_mono (ok' := fun k_ => ((fun _ => True)) k_ ∧ k_ ≠ go15) (Kd.R_apart' (HO371.out) (Kd.S_typed HO_7.out) (by decide)) (fun k_ hk => ⟨trivial, fun e_ => (hk.2) (by rw [e_]; rfl)⟩))).1 k_ hk_.symm))); (try (have hx18_0 := hcc18 0 _ rfl)); (try (try simp only [show ((Kd.slice 2 (Kd.int .i64))).sz = 1 from rfl, Nat.mul_one, Nat.add_zero] at hx18_0)); (try (have hf18_0 := hfr18 0)); (try (try simp only [show ((Kd.slice 2 (Kd.int .i64))).sz = 1 from rfl, Nat.mul_one, Nat.add_zero] at hf18_0)); (try (clear hcl18 hcc18 hfr18 hoki18 hH18; (try clear hM18))); (try (try simp only [show ((Kd.slice 2 (Kd.int .i64))).sz = 1 from rfl, Nat.mul_one, Nat.add_zero] at HP18)))); refine store_event (t := 22) (p := 39) (v := ?vo_w19) (w1 := (w16.setCell ⟨go15, (x32_1 : Int).toNat, none⟩ (v370))) ?hg ?ho ?hn ?hr ?_; (case ho => rfl); (case hg => rfl); (case hn => rfl); (case hr => first | (obtain ⟨A_, c_, e_⟩ := Kd.R_slice HO371.out; subst e_; first | (go_simp; done) | (go_simp; rfl)) | (go_simp; done) | (go_simp; rfl)); intro w19 hw; have hg : w16.grownBy w19 (some go15) := (by rw [hw]; exact HP18.2); have hp_ : Kd.S (Kd.slice 2 (Kd.int .i64)) 22 w19 w.heap.size (fun _ => True) (.slice (some ⟨go15, 0, none⟩) x7_1.length co9) y372 := (by rw [hw, Ny372.out]; exact HP18.1); clear HP18; have n0_ := Aside0.mk (hp_); have n1_ := Aside0.mk (blk_grown (g := gb363) (o := .cells #[.int .i64 0, .slice none 0 0] 43 (0, 0)) qB45 hg (Kd.S_ne HO_7.out BK363.out (by decide))); have n2_ := Aside0.mk ((by rw [hw]; exact below_set (HB.out) GB15.out : Below w.heap.size w w19)); clear HO_7; clear BK363; clear HB; clear HO371; have HO_7 := n0_; have BK363 := n1_; have HB := n2_; clear n0_ n1_ n2_; clear hg hw hp_)))
                      (try simp only [← hl7_1])
                      (first | go_roundg k1 | ((try simp only [add_plain] at *); go_roundg k1))
                      case measure => have := HK1.out; omega
                      case rel => exact ⟨(y372), (wrap64 (x32_1 + 1)), qB83, H', ⟨by have := HK1.out; omega⟩, ⟨by (try simp only [hl7_1]); (with_reducible repeat (first | apply Kd.S_alloc | apply Kd.S_drewN | apply Kd.S_drew)); exact HO_7.out⟩, ⟨by (try simp only [hl7_1]); (with_reducible repeat (first | refine blk_drewN ?_ _ | refine blk_drew ?_ | refine blk_alloc ?_ _)); exact BK363.out⟩, ⟨by repeat (first | (with_reducible first | exact HB.out | apply below_alloc | apply pw_below_drewN | apply below_drew1 | refine below_set ?_ GE363.out) | exact HB.out)⟩⟩
                    · rw [if_neg c14] at H
                      exact absurd H (by simp)
                  · rw [if_neg c13] at H
                    exact absurd H (by simp)
                · rw [if_neg c12] at H
                  exact absurd H (by simp)
              · rw [if_neg c11] at H
                exact absurd H (by simp)
            · rw [if_neg c10] at H
              have c10b0 : decide (x32_1 < (y366.length : Int)) = false := decide_eq_false c10
              have c10b0_0 := c10b0
              (try rw [hl7_1] at c10b0_0)
              clear c10
              by_cases c20 : 0 < (x7_1.length : Int)
              · rw [if_pos c20] at H
                have c20b0 : decide (0 < (x7_1.length : Int)) = true := decide_eq_true c20
                have c20b1 : decide (0 < x7_1.length) = true := decide_eq_true (by omega)
                clear c20
                by_cases c21 : 0 < ((rd_L2 x7_1 0).length : Int)
                · rw [if_pos c21] at H
                  have c21b0 : decide (0 < ((rd_L2 x7_1 0).length : Int)) = true := decide_eq_true c21
                  have c21b1 : decide (0 < (rd_L2 x7_1 0).length) = true := decide_eq_true (by omega)
                  clear c21
                  obtain ⟨y374, hy374⟩ : ∃ y_ : List Int, y_ = ((rd_L2 x7_1 0).set (0 : Int).toNat 1) := ⟨_, rfl⟩
                  replace H : (impl_sumOver.l1 k1 a1 ((rd_T33 l0 0).f0) ((rd_T33 l0 0).f1) (x7_1.set (0 : Int).toNat y374) l0 (l0.length : Int) 0) = some (r1, r2) := by first | (rw [hy374]; with_reducible exact H) | (have H2_ := (Option.bind_some _ _).symm.trans H; rw [hy374]; with_reducible exact H2_) | (have H2_ := (Option.bind_some _ _).symm.trans H; with_reducible exact H2_) | with_reducible exact H | (rw [hy374]; exact H) | exact H
                  have Ny374 := Aside0.mk hy374
                  clear hy374
                  obtain ⟨y376, hy376⟩ : ∃ y_ : List (List Int), y_ = (x7_1.set (0 : Int).toNat y374) := ⟨_, rfl⟩
                  replace H : (impl_sumOver.l1 k1 a1 ((rd_T33 l0 0).f0) ((rd_T33 l0 0).f1) y376 l0 (l0.length : Int) 0) = some (r1, r2) := by first | (rw [hy376]; with_reducible exact H) | (have H2_ := (Option.bind_some _ _).symm.trans H; rw [hy376]; with_reducible exact H2_) | (have H2_ := (Option.bind_some _ _).symm.trans H; with_reducible exact H2_) | with_reducible exact H | (rw [hy376]; exact H) | exact H
                  have Ny376 := Aside0.mk hy376
                  clear hy376
                  have H' := Aside0.mk H
                  clear H
                  have p373 : 0 ≤ (0 : Int) := (by omega)
                  have q373 : 0 < (x7_1.length : Int) := of_decide_eq_true qB82
                  obtain ⟨ad373, A373_0, c373_0, e373, hx373_0, hl373_0, hi373_0⟩ := at_L2 (Kd.S_reads' HO_7.out).2.2 0 p373 q373
                  cases e373
                  obtain ⟨ce373, hce373, hMe373, hcc373⟩ := Kd.S_get HO_7.out [] 0 p373 (by first | exact q373 | exact of_decide_eq_true qB82 | (have e_ := (Kd.S_reads' HO_7.out).1; omega))
                  obtain ⟨ve373_0, rfl, ge373_0⟩ := hMe373
                  have hv373_0 := hcc373 0 _ rfl
                  rw [Nat.add_zero, show ((Kd.slice 2 (Kd.int .i64))).sz = 1 from rfl, Nat.mul_one] at hv373_0
                  replace hv373_0 := Option.some.inj (hv373_0.symm.trans hx373_0)
                  rw [hv373_0] at ge373_0
                  have HL373_0 := Aside0.mk (show Kd.R (Kd.int .i64) 2 _ _ _ _ (rd_L2 x7_1 0) from ge373_0)
                  clear hv373_0 ge373_0
                  have HX373_0 := Aside0.mk hx373_0
                  clear hcc373 hce373
                  have qi373 : (0 < x7_1.length) = True := eq_true (by omega)
                  (try rw [show ((0 : Int)).toNat = 0 from rfl] at hx373_0)
                  (try rw [Addr.add_zero'] at hx373_0)
                  have HR373_0 := Aside0.mk hi373_0
                  have HC373_0 := Aside0.mk hl373_0
                  clear hi373_0 hl373_0
                  replace p373 := eq_true p373
                  replace q373 := eq_true q373
                  have p22 : 0 ≤ (0 : Int) := (by omega)
                  have q22 : (0 : Int) < (((rd_L2 x7_1 0).length : Int) : Int) := of_decide_eq_true qB82
                  have qi22 : (0 < (rd_L2 x7_1 0).length) = True := eq_true (by omega)
                  obtain ⟨go22, co22, eo22, gb22, gl22, cl22, HG22⟩ := Kd.R_form HL373_0.out (by omega)
                  (first | cases eo22 | (injection eo22 with ea_ en_ ec_; (first | subst ea_ | (injection ea_ with ea_; subst ea_)); subst ec_; clear en_))
                  have GB22 := Aside0.mk gb22
                  have GG22 := Aside0.mk HG22
                  clear gb22 gl22 HG22
                  obtain ⟨hx22_0, hf22_0⟩ := Kd.R_celln 0 HL373_0.out (0 : Int) p22 q22
                  (try rw [show ((0 : Int)).toNat = 0 from rfl] at hx22_0)
                  (try simp only [Nat.reduceMul, Nat.zero_mul, Nat.zero_add, Nat.reduceAdd] at hx22_0)
                  (try rw [show ((0 : Int)).toNat = 0 from rfl] at hf22_0)
                  (try simp only [Nat.reduceMul, Nat.zero_mul, Nat.zero_add, Nat.reduceAdd] at hf22_0)
                  replace p22 := eq_true p22
                  replace q22 := eq_true q22
                  have hq23 : (0 : Int) < (x7_1.length : Int) := (by have h_ : (0 : Int) < ((x7_1.length : Int) : Int) := of_decide_eq_true qB82; first | exact h_ | (have e_ := (Kd.S_reads' HO_7.out).1; omega) | simpa only [List.length_set, List.length_set] using h_)
                  obtain ⟨oki23, ce23, hcl23, hM23, hcc23, hok23, hbk23⟩ := Kd.S_borrow HO_7.out [] (0 : Int) (by omega) hq23
                  obtain ⟨ve23_0, rfl, ge23_0⟩ := hM23
                  have hv23 := hcc23 0 _ rfl
                  rw [Nat.add_zero, show ((Kd.slice 2 (Kd.int .i64))).sz = 1 from rfl, Nat.mul_one] at hv23
                  replace hv23 := Option.some.inj (hv23.symm.trans HX373_0.out)
                  subst hv23
                  clear hcc23 hcl23
                  replace ge23_0 := (show Kd.R (Kd.int .i64) 2 _ _ _ _ (rd_L2 x7_1 0) from ge23_0)
                  have HP23 := Kd.R_putg ge23_0 (0 : Int) 1
                  go_wp2_with (first | ((with_reducible refine gate_store (t := 2) (p := 44) rfl ?_); (try (rw [drewN_self wr]; generalize hq_ : World.drewN wr _ = wr; have n0_ := Aside0.mk (Kd.S_at hq_ HO_7.out); have n1_ := Aside0.mk (Kd.R_at hq_ HL384.out); have n2_ := Aside0.mk (blk_at hq_ BK363.out); have n3_ := Aside0.mk (below_at hq_ HB.out); clear hq_ HO_7 HL384 BK363 HB; have HO_7 := n0_; have HL384 := n1_; have BK363 := n2_; have HB := n3_; clear n0_ n1_ n2_ n3_; (try (have hq23 : (0 : Int) < (x7_1.length : Int) := (by have h_ : (0 : Int) < ((x7_1.length : Int) : Int) := of_decide_eq_true qB82; first | exact h_ | (have e_ := (Kd.S_reads' HO_7.out).1; omega) | simpa only [List.length_set, List.length_set] using h_))); (try (obtain ⟨oki23, ce23, hcl23, hM23, hcc23, hok23, hbk23⟩ := Kd.S_borrow HO_7.out [] (0 : Int) (by omega) hq23)); (try (obtain ⟨ve23_0, rfl, ge23_0⟩ := hM23)); (try (have hv23 := hcc23 0 _ rfl)); (try (rw [Nat.add_zero, show ((Kd.slice 2 (Kd.int .i64))).sz = 1 from rfl, Nat.mul_one] at hv23)); (try (replace hv23 := Option.some.inj (hv23.symm.trans HX373_0.out))); (try (subst hv23)); (try (clear hcc23 hcl23)); (try (replace ge23_0 := (show Kd.R (Kd.int .i64) 2 _ _ _ _ (rd_L2 x7_1 0) from ge23_0))); (try (have HP23 := Kd.R_putg ge23_0 (0 : Int) 1)))); refine store_event (t := 2) (p := 44) (v := ?vo_w24) (w1 := (wr.setCell ⟨go22, 0, none⟩ (.int .i64 1))) ?hg ?ho ?hn ?hr ?_; (case ho => rfl); (case hg => rfl); (case hn => rfl); (case hr => first | (go_simp; done) | (go_simp; rfl)); intro w24 hw; have hg : wr.grownBy w24 (some go22) := (by rw [hw]; exact HP23.2); have hz_ : Kd.R (Kd.int .i64) 2 w24 w.heap.size oki23 (.slice (some ⟨go22, 0, none⟩) (rd_L2 x7_1 0).length c373_0) y374 := (by rw [hw, Ny374.out]; exact HP23.1); have hp_ : Kd.S (Kd.slice 2 (Kd.int .i64)) 22 w24 w.heap.size (fun _ => True) (.slice (some ad373) x7_1.length co9) y376 := qB52; have hm_ := Kd.R_mono hz_ hok23; clear HP23 hbk23; have n0_ := Aside0.mk (hp_); have n1_ := Aside0.mk (blk_grown (g := gb363) (o := .cells #[.int .i64 0, .slice none 0 0] 43 (0, 0)) qB45 hg (Kd.R_ne HL373_0.out BK363.out (by decide))); have n2_ := Aside0.mk ((by rw [hw]; exact below_set (HB.out) GB22.out : Below w.heap.size w w24)); have n3_ := Aside0.mk (hm_); have n4_ := Aside0.mk ((Kd.R_reads' hm_).2.1); clear HO_7; clear BK363; clear HB; clear HL373_0; have HO_7 := n0_; have BK363 := n1_; have HB := n2_; have HL384 := n3_; have HC375 := n4_; clear n0_ n1_ n2_ n3_ n4_; clear hg hw hp_ hz_ hm_ hok23))
                  repeat (go_quiet (first | ((with_reducible refine gate_store (t := 2) (p := 44) rfl ?_); (try (rw [drewN_self wr]; generalize hq_ : World.drewN wr _ = wr; have n0_ := Aside0.mk (Kd.S_at hq_ HO_7.out); have n1_ := Aside0.mk (Kd.R_at hq_ HL384.out); have n2_ := Aside0.mk (blk_at hq_ BK363.out); have n3_ := Aside0.mk (below_at hq_ HB.out); clear hq_ HO_7 HL384 BK363 HB; have HO_7 := n0_; have HL384 := n1_; have BK363 := n2_; have HB := n3_; clear n0_ n1_ n2_ n3_; (try (have hq23 : (0 : Int) < (x7_1.length : Int) := (by have h_ : (0 : Int) < ((x7_1.length : Int) : Int) := of_decide_eq_true qB82; first | exact h_ | (have e_ := (Kd.S_reads' HO_7.out).1; omega) | simpa only [List.length_set, List.length_set] using h_))); (try (obtain ⟨oki23, ce23, hcl23, hM23, hcc23, hok23, hbk23⟩ := Kd.S_borrow HO_7.out [] (0 : Int) (by omega) hq23)); (try (obtain ⟨ve23_0, rfl, ge23_0⟩ := hM23)); (try (have hv23 := hcc23 0 _ rfl)); (try (rw [Nat.add_zero, show ((Kd.slice 2 (Kd.int .i64))).sz = 1 from rfl, Nat.mul_one] at hv23)); (try (replace hv23 := Option.some.inj (hv23.symm.trans HX373_0.out))); (try (subst hv23)); (try (clear hcc23 hcl23)); (try (replace ge23_0 := (show Kd.R (Kd.int .i64) 2 _ _ _ _ (rd_L2 x7_1 0) from ge23_0))); (try (have HP23 := Kd.R_putg ge23_0 (0 : Int) 1)))); refine store_event (t := 2) (p := 44) (v := ?vo_w24) (w1 := (wr.setCell ⟨go22, 0, none⟩ (.int .i64 1))) ?hg ?ho ?hn ?hr ?_; (case ho => rfl); (case hg => rfl); (case hn => rfl); (case hr => first | (go_simp; done) | (go_simp; rfl)); intro w24 hw; have hg : wr.grownBy w24 (some go22) := (by rw [hw]; exact HP23.2); have hz_ : Kd.R (Kd.int .i64) 2 w24 w.heap.size oki23 (.slice (some ⟨go22, 0, none⟩) (rd_L2 x7_1 0).length c373_0) y374 := (by rw [hw, Ny374.out]; exact HP23.1); have hp_ : Kd.S (Kd.slice 2 (Kd.int .i64)) 22 w24 w.heap.size (fun _ => True) (.slice (some ad373) x7_1.length co9) y376 := qB52; have hm_ := Kd.R_mono hz_ hok23; clear HP23 hbk23; have n0_ := Aside0.mk (hp_); have n1_ := Aside0.mk (blk_grown (g := gb363) (o := .cells #[.int .i64 0, .slice none 0 0] 43 (0, 0)) qB45 hg (Kd.R_ne HL373_0.out BK363.out (by decide))); have n2_ := Aside0.mk ((by rw [hw]; exact below_set (HB.out) GB22.out : Below w.heap.size w w24)); have n3_ := Aside0.mk (hm_); have n4_ := Aside0.mk ((Kd.R_reads' hm_).2.1); clear HO_7; clear BK363; clear HB; clear HL373_0; have HO_7 := n0_; have BK363 := n1_; have HB := n2_; have HL384 := n3_; have HC375 := n4_; clear n0_ n1_ n2_ n3_ n4_; clear hg hw hp_ hz_ hm_ hok23)); try go_wp2_with (first | ((with_reducible refine gate_store (t := 2) (p := 44) rfl ?_); (try (rw [drewN_self wr]; generalize hq_ : World.drewN wr _ = wr; have n0_ := Aside0.mk (Kd.S_at hq_ HO_7.out); have n1_ := Aside0.mk (Kd.R_at hq_ HL384.out); have n2_ := Aside0.mk (blk_at hq_ BK363.out); have n3_ := Aside0.mk (below_at hq_ HB.out); clear hq_ HO_7 HL384 BK363 HB; have HO_7 := n0_; have HL384 := n1_; have BK363 := n2_; have HB := n3_; clear n0_ n1_ n2_ n3_; (try (have hq23 : (0 : Int) < (x7_1.length : Int) := (by have h_ : (0 : Int) < ((x7_1.length : Int) : Int) := of_decide_eq_true qB82; first | exact h_ | (have e_ := (Kd.S_reads' HO_7.out).1; omega) | simpa only [List.length_set, List.length_set] using h_))); (try (obtain ⟨oki23, ce23, hcl23, hM23, hcc23, hok23, hbk23⟩ := Kd.S_borrow HO_7.out [] (0 : Int) (by omega) hq23)); (try (obtain ⟨ve23_0, rfl, ge23_0⟩ := hM23)); (try (have hv23 := hcc23 0 _ rfl)); (try (rw [Nat.add_zero, show ((Kd.slice 2 (Kd.int .i64))).sz = 1 from rfl, Nat.mul_one] at hv23)); (try (replace hv23 := Option.some.inj (hv23.symm.trans HX373_0.out))); (try (subst hv23)); (try (clear hcc23 hcl23)); (try (replace ge23_0 := (show Kd.R (Kd.int .i64) 2 _ _ _ _ (rd_L2 x7_1 0) from ge23_0))); (try (have HP23 := Kd.R_putg ge23_0 (0 : Int) 1)))); refine store_event (t := 2) (p := 44) (v := ?vo_w24) (w1 := (wr.setCell ⟨go22, 0, none⟩ (.int .i64 1))) ?hg ?ho ?hn ?hr ?_; (case ho => rfl); (case hg => rfl); (case hn => rfl); (case hr => first | (go_simp; done) | (go_simp; rfl)); intro w24 hw; have hg : wr.grownBy w24 (some go22) := (by rw [hw]; exact HP23.2); have hz_ : Kd.R (Kd.int .i64) 2 w24 w.heap.size oki23 (.slice (some ⟨go22, 0, none⟩) (rd_L2 x7_1 0).length c373_0) y374 := (by rw [hw, Ny374.out]; exact HP23.1); have hp_ : Kd.S (Kd.slice 2 (Kd.int .i64)) 22 w24 w.heap.size (fun _ => True) (.slice (some ad373) x7_1.length co9) y376 := qB52; have hm_ := Kd.R_mono hz_ hok23; clear HP23 hbk23; have n0_ := Aside0.mk (hp_); have n1_ := Aside0.mk (blk_grown (g := gb363) (o := .cells #[.int .i64 0, .slice none 0 0] 43 (0, 0)) qB45 hg (Kd.R_ne HL373_0.out BK363.out (by decide))); have n2_ := Aside0.mk ((by rw [hw]; exact below_set (HB.out) GB22.out : Below w.heap.size w w24)); have n3_ := Aside0.mk (hm_); have n4_ := Aside0.mk ((Kd.R_reads' hm_).2.1); clear HO_7; clear BK363; clear HB; clear HL373_0; have HO_7 := n0_; have BK363 := n1_; have HB := n2_; have HL384 := n3_; have HC375 := n4_; clear n0_ n1_ n2_ n3_ n4_; clear hg hw hp_ hz_ hm_ hok23)))
                  try simp only [Act.put, List.setIfInBounds_toArray, List.set_cons_succ, List.set_cons_zero]
                  go_loopg [7, 47] k1 (fun kq v7 v47 w' => ∃ (x7_2 : List (List Int)) (x47_2 : Int), v47 = .int .i64 x47_2 ∧ Aside0 (impl_sumOver.l1 kq a1 ((rd_T33 l0 0).f0) ((rd_T33 l0 0).f1) x7_2 l0 (l0.length : Int) x47_2 = some (r1, r2)) ∧ Aside0 (kq ≤ k1) ∧ Aside0 (Kd.S (Kd.slice 2 (Kd.int .i64)) 22 w' w.heap.size (fun _ => True) v7 x7_2) ∧ Aside0 (w'.heap[gb363]? = some (.cells #[.int .i64 0, (.slice none 0 0)] 43 (0, 0))) ∧ Aside0 (Below w.heap.size w w'))
                  case atStart => exact ⟨(y376), (0), qB83, H', ⟨Nat.le_refl _⟩, ⟨by (try simp only [hl7_1]); (with_reducible repeat (first | apply Kd.S_alloc | apply Kd.S_drewN | apply Kd.S_drew)); exact HO_7.out⟩, ⟨by (try simp only [hl7_1]); (with_reducible repeat (first | refine blk_drewN ?_ _ | refine blk_drew ?_ | refine blk_alloc ?_ _)); exact BK363.out⟩, ⟨by repeat (first | (with_reducible first | exact HB.out | apply below_alloc | apply pw_below_drewN | apply below_drew1 | refine below_set ?_ GE363.out) | exact HB.out)⟩⟩
                  case round =>
                    clear H'
                    try clear c1
                    try clear p1
                    try clear q1
                    try clear hx1
                    try clear c2
                    try clear p2
                    try clear q2
                    try clear hx2
                    try clear qi2
                    try clear hf2
                    try clear c3
                    try clear c3b0
                    try clear c3b1
                    try clear p3
                    try clear q3
                    try clear hx3
                    try clear qi3
                    try clear c4
                    try clear c4b0
                    try clear c4b1
                    try clear c5
                    try clear c5b0
                    try clear c5b1
                    try clear p6
                    try clear c10
                    try clear c10b0
                    try clear c11
                    try clear c11b0
                    try clear c11b1
                    try clear c12
                    try clear c12b0
                    try clear c12b1
                    try clear c13
                    try clear c13b0
                    try clear c14
                    try clear c14b0
                    try clear c15
                    try clear p15
                    try clear q15
                    try clear hx15
                    try clear hf15
                    try clear c18
                    try clear hx18
                    try clear hf18
                    try clear c20
                    try clear c20b0
                    try clear c20b1
                    try clear c21
                    try clear c21b0
                    try clear c21b1
                    try clear p22
                    try clear q22
                    try clear hx22
                    try clear qi22
                    try clear hf22
                    try clear c23
                    try clear q23
                    try clear hx15_0
                    try clear hx18_0
                    try clear hx22_0
                    try clear hx364_0
                    try clear hx364_1
                    try clear hx364_2
                    try clear hx365_0
                    try clear hx365_1
                    try clear hx365_2
                    try clear hx373_0
                    try clear p15
                    try clear p2
                    try clear p22
                    try clear p3
                    try clear p364
                    try clear p365
                    try clear p373
                    try clear q15
                    try clear q22
                    try clear q3
                    try clear q364
                    try clear q365
                    try clear q373
                    obtain ⟨x7_2, x47_2, rfl, HA, HK2, HO_7, BK363, HB⟩ := hrel
                    cases gk with
                    | zero => exact absurd HA.out (by simp [impl_sumOver.l1])
                    | succ k2 =>
                      have H := HA.out
                      clear HA
                      simp only [impl_sumOver.l1] at H
                      by_cases c25 : x47_2 < (l0.length : Int)
                      · rw [if_pos c25] at H
                        have c25b0 : decide (x47_2 < (l0.length : Int)) = true := decide_eq_true c25
                        clear c25
                        replace H := Option.bind_eq_some_iff.mp H
                        obtain ⟨t377, A260, H⟩ := H
                        replace H : (impl_sumOver.l1 k2 a1 ((rd_T33 l0 0).f0) ((rd_T33 l0 0).f1) t377 l0 (l0.length : Int) (wrap64 (x47_2 + 1))) = some (r1, r2) := H
                        have A26 := Aside0.mk A260
                        clear A260
                        have H' := Aside0.mk H
                        clear H
                        obtain ⟨Ao27, co27, eo27⟩ := Kd.S_slice HO_7.out
                        subst eo27
                        rename World => wB
                        have HBm := HB
                        have HKa := HK1
                        have HKb := HK2
                        have HJm := H'
                        clear H'
                        have hu33 := Try.underlying33
                        have HR0m := HR0
                        have HR0 := Aside0.mk (Kd.C_below HR0m.out HBm.out)
                        have HR2 := Aside0.mk (Kd.S_reads' HO_7.out).2.2
                        have HC2 := Aside0.mk (Kd.S_reads' HO_7.out).2.1
                        have HB := Aside0.mk (Below.refl wB.heap.size wB)
                        have h := A26.out
                        have H : (if 0 ≤ x47_2 then (if x47_2 < (l0.length : Int) then (if 0 ≤ ((rd_T33 l0 0).f0) then (if (((rd_T33 l0 0).f0) : Int).toNat ≤ 11728124029610 then ((some (List.replicate (((rd_T33 l0 0).f0) : Int).toNat [] : List (List Int))).bind fun y343 => (impl_sumOver_body.l0 k2 ((rd_T33 l0 0).f0) ((rd_T33 l0 0).f1) x7_2 y343 (y343.length : Int) 0 ((rd_T33 l0 x47_2).f0) ((rd_T33 l0 x47_2).f1) ((rd_T33 l0 x47_2).f2))) else (none)) else (none)) else (none)) else (none)) = some t377 := h
                        clear h
                        by_cases c6 : 0 ≤ x47_2
                        · rw [if_pos c6] at H
                          have c6b0 : decide (0 ≤ x47_2) = true := decide_eq_true c6
                          clear c6
                          by_cases c7 : x47_2 < (l0.length : Int)
                          · rw [if_pos c7] at H
                            have c7b0 : decide (x47_2 < (l0.length : Int)) = true := decide_eq_true c7
                            clear c7
                            by_cases c8 : 0 ≤ ((rd_T33 l0 0).f0)
                            · rw [if_pos c8] at H
                              have c8b0 := eq_true c8
                              have c8b1 : decide (0 ≤ ((rd_T33 l0 0).f0)) = true := decide_eq_true c8
                              clear c8
                              by_cases c9 : (((rd_T33 l0 0).f0) : Int).toNat ≤ 11728124029610
                              · rw [if_pos c9] at H
                                have c9b0 := eq_true c9
                                have c9b1 : decide ((((rd_T33 l0 0).f0) : Int).toNat ≤ 11728124029610) = true := decide_eq_true c9
                                clear c9
                                obtain ⟨y343, hy343⟩ : ∃ y_ : List (List Int), y_ = (List.replicate (((rd_T33 l0 0).f0) : Int).toNat []) := ⟨_, rfl⟩
                                replace H : (impl_sumOver_body.l0 k2 ((rd_T33 l0 0).f0) ((rd_T33 l0 0).f1) x7_2 y343 (y343.length : Int) 0 ((rd_T33 l0 x47_2).f0) ((rd_T33 l0 x47_2).f1) ((rd_T33 l0 x47_2).f2)) = some t377 := by first | (rw [hy343]; with_reducible exact H) | (have H2_ := (Option.bind_some _ _).symm.trans H; rw [hy343]; with_reducible exact H2_) | (have H2_ := (Option.bind_some _ _).symm.trans H; with_reducible exact H2_) | with_reducible exact H | (rw [hy343]; exact H) | exact H
                                have Ny343 := Aside0.mk hy343
                                clear hy343
                                have H' := Aside0.mk H
                                clear H
                                have p341 : 0 ≤ (x47_2 : Int) := of_decide_eq_true qB82
                                have q341 : x47_2 < (l0.length : Int) := of_decide_eq_true qB82
                                obtain ⟨ad341, e341, hx341_0, hx341_1, hx341_2⟩ := at_T33 HR0.out x47_2 p341 q341
                                cases e341
                                replace p341 := eq_true p341
                                replace q341 := eq_true q341
                                go_wp2_with (first | ((with_reducible refine gate_dst (N := 10) rfl ?_); refine box_event ?hg (N := 10) ?hd (cs := #[.int .i64 0, .int .i64 0, .int .i64 0]) (t := 33) ?hr ?_; (case hd => rfl); (case hg => rfl); (case hr => first | (go_simp; done) | (go_simp; rfl)); intro gb342 hg w10 hbox hb; have n0_ := Aside0.mk (below_step qB33 hb); have n1_ := Aside0.mk (hbox); have n2_ := Aside0.mk ((by rw [hg]; exact (below_size qB33) : wB.heap.size ≤ gb342)); have n3_ := Aside0.mk ((by rw [hg]; exact (below_size qB33) : wB.heap.size ≤ gb342)); clear HB; have HB := n0_; have BK342 := n1_; have GW342 := n2_; have GE342 := n3_; clear n0_ n1_ n2_ n3_; clear hb hbox hg; have hcz11_0 : w10.cell? ⟨gb342, 0, none⟩ = some (.int .i64 0) := (blk_cell BK342.out 0).trans rfl; have hcz11_1 : w10.cell? ⟨gb342, 1, none⟩ = some (.int .i64 0) := (blk_cell BK342.out 1).trans rfl; have hcz11_2 : w10.cell? ⟨gb342, 2, none⟩ = some (.int .i64 0) := (blk_cell BK342.out 2).trans rfl; have hfz11_0 := blk_frozen BK342.out 0; have hfz11_1 := blk_frozen BK342.out 1; have hfz11_2 := blk_frozen BK342.out 2) | ((with_reducible refine gate_dst (N := 52) rfl ?_); refine Kd.S_make (Kd.slice 2 (Kd.int .i64)) _ 22 rfl (N := 52) rfl 53 _ _ rfl ((rd_T33 l0 0).f0) rfl rfl Try.underlying53 (.slice none 0 0) 24 info22 rfl (by decide) (by omega) [] (ok := fun _ => True) (okp := fun _ => True) ⟨_, rfl, Kd.R_nil _ _ _ _ _⟩ (fun _ hk => hk) trivial (of_decide_eq_true qB82) (Nat.le_trans (Nat.mul_le_mul_right _ (of_decide_eq_true qB82 : ((rd_T33 l0 0).f0).toNat ≤ 11728124029610)) (by omega)) (Below.refl _ _) (Nat.le_refl _) ?_; intro v344 w12 ho13 hb hg_ hnew_; clear hg_ hnew_; (first | rw [← Ny343.out] at ho13 | (simp only [Int.reduceToNat] at ho13; rw [← Ny343.out] at ho13)); have n0_ := Aside0.mk (Kd.S_lower ho13 (below_size qB23)); have n1_ := Aside0.mk (blk_below (g := gb342) (o := .cells #[.int .i64 ((rd_T33 l0 x47_2).f0), .int .i64 ((rd_T33 l0 x47_2).f1), .int .i64 ((rd_T33 l0 x47_2).f2)] 33 (0, 0)) (by (with_reducible repeat (first | refine blk_drewN ?_ _ | refine blk_drew ?_ | refine blk_alloc ?_ _)); refine blk_put (cs := #[.int .i64 ((rd_T33 l0 x47_2).f0), .int .i64 ((rd_T33 l0 x47_2).f1), .int .i64 0]) ?_ 2 _ rfl; (with_reducible repeat (first | refine blk_drewN ?_ _ | refine blk_drew ?_ | refine blk_alloc ?_ _)); refine blk_put (cs := #[.int .i64 ((rd_T33 l0 x47_2).f0), .int .i64 0, .int .i64 0]) ?_ 1 _ rfl; (with_reducible repeat (first | refine blk_drewN ?_ _ | refine blk_drew ?_ | refine blk_alloc ?_ _)); refine blk_put (cs := #[.int .i64 0, .int .i64 0, .int .i64 0]) ?_ 0 _ rfl; (with_reducible repeat (first | refine blk_drewN ?_ _ | refine blk_drew ?_ | refine blk_alloc ?_ _)); exact BK342.out) hb); have n2_ := Aside0.mk (below_step qB23 hb); clear BK342; clear HB; have HO345 := n0_; have BK342 := n1_; have HB := n2_; clear n0_ n1_ n2_; clear hb ho13; obtain ⟨Ao14, co14, eo14⟩ := Kd.S_slice HO345.out; subst eo14))
                                try simp only [Act.put, List.setIfInBounds_toArray, List.set_cons_succ, List.set_cons_zero]
                                go_loopg [55] k2 (fun kq v55 w' => ∃ (x11_1 : List (List Int)) (x55_1 : Int), v55 = .int .i64 x55_1 ∧ Aside0 (impl_sumOver_body.l0 kq ((rd_T33 l0 0).f0) ((rd_T33 l0 0).f1) x7_2 x11_1 (y343.length : Int) x55_1 ((rd_T33 l0 x47_2).f0) ((rd_T33 l0 x47_2).f1) ((rd_T33 l0 x47_2).f2) = some t377) ∧ Aside0 (kq ≤ k2) ∧ Aside0 (Kd.S (Kd.slice 2 (Kd.int .i64)) 22 w' wB.heap.size (fun _ => True) (.slice Ao14 y343.length co14) x11_1) ∧ Aside0 (w'.heap[gb342]? = some (.cells #[.int .i64 ((rd_T33 l0 x47_2).f0), .int .i64 ((rd_T33 l0 x47_2).f1), .int .i64 ((rd_T33 l0 x47_2).f2)] 33 (0, 0))) ∧ Aside0 (Below wB.heap.size wB w'))
                                case atStart => exact ⟨(y343), (0), qB83, H', ⟨Nat.le_refl _⟩, ⟨by (with_reducible repeat (first | apply Kd.S_alloc | apply Kd.S_drewN | apply Kd.S_drew)); exact HO345.out⟩, ⟨by (with_reducible repeat (first | refine blk_drewN ?_ _ | refine blk_drew ?_ | refine blk_alloc ?_ _)); exact BK342.out⟩, ⟨by repeat (first | (with_reducible first | exact HB.out | apply below_alloc | apply pw_below_drewN | apply below_drew1 | refine below_set ?_ GE342.out) | exact HB.out)⟩⟩
                                case round =>
                                  clear H'
                                  try clear c1
                                  try clear co27
                                  try clear p2
                                  try clear p3
                                  try clear q3
                                  try clear hx3
                                  try clear c6
                                  try clear c6b0
                                  try clear c7
                                  try clear c7b0
                                  try clear c8
                                  try clear c8b0
                                  try clear c8b1
                                  try clear c9
                                  try clear c9b0
                                  try clear c9b1
                                  try clear hcz11_0
                                  try clear hcz11_1
                                  try clear hcz11_2
                                  try clear hfz11_0
                                  try clear hfz11_1
                                  try clear hfz11_2
                                  try clear hx341_0
                                  try clear hx341_1
                                  try clear hx341_2
                                  try clear p341
                                  try clear q341
                                  obtain ⟨x11_1, x55_1, rfl, HA, HKb1, HO_11, BK342, HB⟩ := hrel
                                  have hl11_1 := (Kd.S_reads' HO_11.out).1
                                  rw [hl11_1] at HO_11
                                  (try simp only [hl11_1])
                                  (try simp only [hl11_1] at BK342)
                                  cases gk with
                                  | zero => exact absurd HA.out (by simp [impl_sumOver_body.l0])
                                  | succ kb1 =>
                                    have H := HA.out
                                    clear HA
                                    simp only [impl_sumOver_body.l0] at H
                                    by_cases c15 : x55_1 < (y343.length : Int)
                                    · rw [if_pos c15] at H
                                      have c15b0 : decide (x55_1 < (y343.length : Int)) = true := decide_eq_true c15
                                      clear c15
                                      by_cases c16 : 0 ≤ ((rd_T33 l0 0).f1)
                                      · rw [if_pos c16] at H
                                        have c16b0 := eq_true c16
                                        have c16b1 : decide (0 ≤ ((rd_T33 l0 0).f1)) = true := decide_eq_true c16
                                        clear c16
                                        by_cases c17 : (((rd_T33 l0 0).f1) : Int).toNat ≤ 35184372088832
                                        · rw [if_pos c17] at H
                                          have c17b0 := eq_true c17
                                          have c17b1 : decide ((((rd_T33 l0 0).f1) : Int).toNat ≤ 35184372088832) = true := decide_eq_true c17
                                          clear c17
                                          obtain ⟨y346, hy346⟩ : ∃ y_ : List Int, y_ = (List.replicate (((rd_T33 l0 0).f1) : Int).toNat 0) := ⟨_, rfl⟩
                                          replace H : (if 0 ≤ x55_1 then (if x55_1 < (x11_1.length : Int) then (impl_sumOver_body.l0 kb1 ((rd_T33 l0 0).f0) ((rd_T33 l0 0).f1) x7_2 (x11_1.set (x55_1 : Int).toNat y346) (y343.length : Int) (wrap64 (x55_1 + 1)) ((rd_T33 l0 x47_2).f0) ((rd_T33 l0 x47_2).f1) ((rd_T33 l0 x47_2).f2)) else (none)) else (none)) = some t377 := by first | (rw [hy346]; with_reducible exact H) | (have H2_ := (Option.bind_some _ _).symm.trans H; rw [hy346]; with_reducible exact H2_) | (have H2_ := (Option.bind_some _ _).symm.trans H; with_reducible exact H2_) | with_reducible exact H | (rw [hy346]; exact H) | exact H
                                          have Ny346 := Aside0.mk hy346
                                          clear hy346
                                          by_cases c18 : 0 ≤ x55_1
                                          · rw [if_pos c18] at H
                                            have c18b0 : decide (0 ≤ x55_1) = true := decide_eq_true c18
                                            clear c18
                                            by_cases c19 : x55_1 < (x11_1.length : Int)
                                            · rw [if_pos c19] at H
                                              have c19b0 : decide (x55_1 < (x11_1.length : Int)) = true := decide_eq_true c19
                                              clear c19
                                              obtain ⟨y349, hy349⟩ : ∃ y_ : List (List Int), y_ = (x11_1.set (x55_1 : Int).toNat y346) := ⟨_, rfl⟩
                                              replace H : (impl_sumOver_body.l0 kb1 ((rd_T33 l0 0).f0) ((rd_T33 l0 0).f1) x7_2 y349 (y343.length : Int) (wrap64 (x55_1 + 1)) ((rd_T33 l0 x47_2).f0) ((rd_T33 l0 x47_2).f1) ((rd_T33 l0 x47_2).f2)) = some t377 := by first | (rw [hy349]; with_reducible exact H) | (have H2_ := (Option.bind_some _ _).symm.trans H; rw [hy349]; with_reducible exact H2_) | (have H2_ := (Option.bind_some _ _).symm.trans H; with_reducible exact H2_) | with_reducible exact H | (rw [hy349]; exact H) | exact H
                                              have Ny349 := Aside0.mk hy349
                                              clear hy349
                                              have H' := Aside0.mk H
                                              clear H
                                              go_wp2_with (first | ((with_reducible refine gate_dst (N := 61) rfl ?_); refine Kd.R_make (Kd.int .i64) _ 2 rfl (N := 61) rfl 22 _ _ rfl ((rd_T33 l0 0).f1) rfl rfl Try.underlying22 (.int .i64 0) 8 info2 rfl (by decide) (by omega) 0 (ok := fun _ => True) (okp := fun _ => True) rfl (fun _ hk => hk) trivial (of_decide_eq_true qB82) (Nat.le_trans (Nat.mul_le_mul_right _ (of_decide_eq_true qB82 : ((rd_T33 l0 0).f1).toNat ≤ 35184372088832)) (by omega)) (Below.refl _ _) (Nat.le_refl _) ?_; intro v347 w21 ho22 hb hg_ hnew_; clear hg_ hnew_; (first | rw [← Ny346.out] at ho22 | (simp only [Int.reduceToNat] at ho22; rw [← Ny346.out] at ho22)); have n0_ := Aside0.mk (Kd.S_elder' qB59 (Kd.R_base ho22) hb); have n1_ := Aside0.mk (Kd.R_lower ho22 (below_size qB23)); have n2_ := Aside0.mk (blk_below (g := gb342) (o := .cells #[.int .i64 ((rd_T33 l0 x47_2).f0), .int .i64 ((rd_T33 l0 x47_2).f1), .int .i64 ((rd_T33 l0 x47_2).f2)] 33 (0, 0)) qB46 hb); have n3_ := Aside0.mk (below_step qB23 hb); clear HO_11; clear BK342; clear HB; have HO_11 := n0_; have HO348 := n1_; have BK342 := n2_; have HB := n3_; clear n0_ n1_ n2_ n3_; clear hb ho22; have p20 : 0 ≤ (x55_1 : Int) := of_decide_eq_true qB82; have q20 : (x55_1 : Int) < ((x11_1.length : Int) : Int) := of_decide_eq_true qB82; obtain ⟨go20, co20, eo20, gb20, gl20, cl20, HG20⟩ := Kd.S_form HO_11.out (by omega); (first | cases eo20 | (injection eo20 with ea_ en_ ec_; (first | subst ea_ | (injection ea_ with ea_; subst ea_)); subst ec_; clear en_)); have GB20 := Aside0.mk gb20; have GG20 := Aside0.mk HG20; clear gb20 gl20 HG20; obtain ⟨_, ce20, hcl20, hM20, hcc20, hfr20, _, _⟩ := Kd.S_elem HO_11.out [] (x55_1 : Int) p20 q20; obtain ⟨ve20_0, rfl, ge20_0⟩ := hM20; have hx20_0 := hcc20 0 _ rfl; have hf20_0 := hfr20 0; (try simp only [show ((Kd.slice 2 (Kd.int .i64))).sz = 1 from rfl, Nat.mul_one, Nat.add_zero] at hx20_0); (try simp only [show ((Kd.slice 2 (Kd.int .i64))).sz = 1 from rfl, Nat.mul_one, Nat.add_zero] at hf20_0); clear hcl20 hcc20 hfr20; (try clear hM20); replace p20 := eq_true p20; replace q20 := eq_true q20; have n_ := Aside0.mk (Kd.S_mono (ok' := (fun k_ => some k_ ≠ (v347 : Value).ownBlock)) HO_11.out (fun k_ hk => hk.2)); clear HO_11; have HO_11 := n_; clear n_; have HX23 := Aside0.mk (show Kd.S (Kd.slice 2 (Kd.int .i64)) 22 w21 wB.heap.size (fun k_ => ((fun _ => True)) k_ ∧ ¬ ((fun k_ => some k_ = (v347 : Value).ownBlock)) k_) (.slice (some ⟨go20, 0, none⟩) x11_1.length co14) x11_1 from (by (with_reducible repeat (first | apply Kd.S_alloc | apply Kd.S_drewN | apply Kd.S_drew)); exact Kd.S_mono HO_11.out (fun k_ hk => ⟨trivial, fun e_ => hk e_⟩))); obtain ⟨oki23, ce23, hcl23, hM23, hcc23, hfr23, hoki23, hH23⟩ := Kd.S_elem HX23.out [] (x55_1 : Int) (of_decide_eq_true qB82) (by have h_ : (x55_1 : Int) < ((x11_1.length : Int) : Int) := of_decide_eq_true qB82; first | exact h_ | (have e_ := (Kd.S_reads' HO_11.out).1; omega) | simpa using h_); obtain ⟨ve23_0, rfl, ge23_0⟩ := hM23; have HP23 := Kd.S_seg hH23 (of_decide_eq_true qB82) (by have h_ : (x55_1 : Int) < ((x11_1.length : Int) : Int) := of_decide_eq_true qB82; first | exact h_ | (have e_ := (Kd.S_reads' HO_11.out).1; omega) | simpa using h_) (seg := [v347]) (j := 0) (show 1 ≤ 1 from by decide) (x' := y346) (Kd.M_row (Kd.R_mono (Kd.R_tight rfl (Kd.R_mono (ok' := fun k_ => ((fun _ => True)) k_ ∧ k_ ≠ go20) (Kd.R_apart' (HO348.out) (Kd.S_typed HO_11.out) (by decide)) (fun k_ hk => ⟨trivial, fun e_ => (hk.2) (by rw [e_]; rfl)⟩))) (fun _ h_ => Or.inr (h_)))) (fun _ hk => hk) (fun k_ hk_ => ((Kd.R_mono (ok' := fun k_ => ((fun _ => True)) k_ ∧ k_ ≠ go20) (Kd.R_apart' (HO348.out) (Kd.S_typed HO_11.out) (by decide)) (fun k_ hk => ⟨trivial, fun e_ => (hk.2) (by rw [e_]; rfl)⟩))).1 k_ hk_.symm); have hx23_0 := hcc23 0 _ rfl; (try simp only [show ((Kd.slice 2 (Kd.int .i64))).sz = 1 from rfl, Nat.mul_one, Nat.add_zero] at hx23_0); have hf23_0 := hfr23 0; (try simp only [show ((Kd.slice 2 (Kd.int .i64))).sz = 1 from rfl, Nat.mul_one, Nat.add_zero] at hf23_0); clear hcl23 hcc23 hfr23 hoki23 hH23; (try clear hM23); (try simp only [show ((Kd.slice 2 (Kd.int .i64))).sz = 1 from rfl, Nat.mul_one, Nat.add_zero] at HP23)) | ((with_reducible refine gate_store (t := 22) (p := 62) rfl ?_); refine store_event (t := 22) (p := 62) (v := ?vo_wb24) (w1 := (w21.setCell ⟨go20, (x55_1 : Int).toNat, none⟩ (v347))) ?hg ?ho ?hn ?hr ?_; (case ho => rfl); (case hg => rfl); (case hn => rfl); (case hr => first | (obtain ⟨A_, c_, e_⟩ := Kd.R_slice HO348.out; subst e_; first | (go_simp; done) | (go_simp; rfl)) | (go_simp; done) | (go_simp; rfl)); intro w24 hw; have hg : w21.grownBy w24 (some go20) := (by rw [hw]; exact HP23.2); have hp_ : Kd.S (Kd.slice 2 (Kd.int .i64)) 22 w24 wB.heap.size (fun _ => True) (.slice (some ⟨go20, 0, none⟩) x11_1.length co14) y349 := (by rw [hw, Ny349.out]; exact HP23.1); clear HP23; have n0_ := Aside0.mk (hp_); have n1_ := Aside0.mk (blk_grown (g := gb342) (o := .cells #[.int .i64 ((rd_T33 l0 x47_2).f0), .int .i64 ((rd_T33 l0 x47_2).f1), .int .i64 ((rd_T33 l0 x47_2).f2)] 33 (0, 0)) qB46 hg (Kd.S_ne HO_11.out BK342.out (by decide))); have n2_ := Aside0.mk ((by rw [hw]; exact below_set (HB.out) GB20.out : Below wB.heap.size wB w24)); clear HO_11; clear BK342; clear HB; clear HO348; have HO_11 := n0_; have BK342 := n1_; have HB := n2_; clear n0_ n1_ n2_; clear hg hw hp_))
                                              (try simp only [← hl11_1])
                                              (first | go_roundg kb1 | ((try simp only [add_plain] at *); go_roundg kb1))
                                              case measure => have := HKb1.out; omega
                                              case rel => exact ⟨(y349), (wrap64 (x55_1 + 1)), qB83, H', ⟨by have := HKb1.out; omega⟩, ⟨by (try simp only [hl11_1]); (with_reducible repeat (first | apply Kd.S_alloc | apply Kd.S_drewN | apply Kd.S_drew)); exact HO_11.out⟩, ⟨by (try simp only [hl11_1]); (with_reducible repeat (first | refine blk_drewN ?_ _ | refine blk_drew ?_ | refine blk_alloc ?_ _)); exact BK342.out⟩, ⟨by repeat (first | (with_reducible first | exact HB.out | apply below_alloc | apply pw_below_drewN | apply below_drew1 | refine below_set ?_ GE342.out) | exact HB.out)⟩⟩
                                            · rw [if_neg c19] at H
                                              exact absurd H (by simp)
                                          · rw [if_neg c18] at H
                                            exact absurd H (by simp)
                                        · rw [if_neg c17] at H
                                          exact absurd H (by simp)
                                      · rw [if_neg c16] at H
                                        exact absurd H (by simp)
                                    · rw [if_neg c15] at H
                                      have c15b0 : decide (x55_1 < (y343.length : Int)) = false := decide_eq_false c15
                                      have c15b0_0 := c15b0
                                      (try rw [hl11_1] at c15b0_0)
                                      clear c15
                                      replace H := Option.bind_eq_some_iff.mp H
                                      obtain ⟨t350, A250, H⟩ := H
                                      replace H : (impl_sumOver_body.l1 kb1 ((rd_T33 l0 0).f0) ((rd_T33 l0 0).f1) x7_2 x11_1 t350 (t350.length : Int) 0) = some t377 := H
                                      have A25 := Aside0.mk A250
                                      clear A250
                                      have H' := Aside0.mk H
                                      clear H
                                      have hcz26_0 : wr.cell? ⟨gb342, 0, none⟩ = some (.int .i64 ((rd_T33 l0 x47_2).f0)) := (blk_cell BK342.out 0).trans rfl
                                      have hcz26_1 : wr.cell? ⟨gb342, 1, none⟩ = some (.int .i64 ((rd_T33 l0 x47_2).f1)) := (blk_cell BK342.out 1).trans rfl
                                      have hcz26_2 : wr.cell? ⟨gb342, 2, none⟩ = some (.int .i64 ((rd_T33 l0 x47_2).f2)) := (blk_cell BK342.out 2).trans rfl
                                      have hfz26_0 := blk_frozen BK342.out 0
                                      have hfz26_1 := blk_frozen BK342.out 1
                                      have hfz26_2 := blk_frozen BK342.out 2
                                      go_wp2_with (first | ((with_reducible refine gate_callee (f := 71) rfl ?_); refine goesL_ (some 65) rfl rfl Try.func71 (by kernel_rfl) rfl #[.agg #[.int .i64 ((rd_T33 l0 x47_2).f0), .int .i64 ((rd_T33 l0 x47_2).f1), .int .i64 ((rd_T33 l0 x47_2).f2)]] rfl qB32 ?_; (with_reducible refine (impl_exponents.calls kb1 ((rd_T33 l0 x47_2).f0) ((rd_T33 l0 x47_2).f1) ((rd_T33 l0 x47_2).f2) t350 _ A25.out).mono ?_); rintro e w27 ⟨v351, rfl, ho0, hb⟩; refine ⟨_, rfl, ?_⟩; have n0_ := Aside0.mk (Kd.S_elder' qB59 (Kd.R_base ho0) hb); have n1_ := Aside0.mk (Kd.R_lower ho0 (below_size qB23)); have n2_ := Aside0.mk (blk_below (g := gb342) (o := .cells #[.int .i64 ((rd_T33 l0 x47_2).f0), .int .i64 ((rd_T33 l0 x47_2).f1), .int .i64 ((rd_T33 l0 x47_2).f2)] 33 (0, 0)) qB46 hb); have n3_ := Aside0.mk (below_step qB23 hb); clear HO_11; clear BK342; clear HB; have HO_11 := n0_; have HO352 := n1_; have BK342 := n2_; have HB := n3_; clear n0_ n1_ n2_ n3_; (try clear hb); (try clear hb2); (try clear hk); (try clear hi); (try clear ho0); obtain ⟨Ao28, co28, eo28⟩ := Kd.R_slice HO352.out; subst eo28))
                                      try simp only [Act.put, List.setIfInBounds_toArray, List.set_cons_succ, List.set_cons_zero]
                                      go_loopg [67] kb1 (fun kq v67 w' => ∃ (x11_2 : List (List Int)) (x65_2 : List Int) (x67_2 : Int), v67 = .int .i64 x67_2 ∧ Aside0 (impl_sumOver_body.l1 kq ((rd_T33 l0 0).f0) ((rd_T33 l0 0).f1) x7_2 x11_2 x65_2 (t350.length : Int) x67_2 = some t377) ∧ Aside0 (kq ≤ kb1) ∧ Aside0 (Kd.S (Kd.slice 2 (Kd.int .i64)) 22 w' wB.heap.size (fun k_ => some k_ ≠ ((.slice Ao28 t350.length co28) : Value).ownBlock) (.slice Ao14 x11_1.length co14) x11_2) ∧ Aside0 (Kd.R (Kd.int .i64) 2 w' wB.heap.size (fun _ => True) (.slice Ao28 t350.length co28) x65_2) ∧ Aside0 (w'.heap[gb342]? = some (.cells #[.int .i64 ((rd_T33 l0 x47_2).f0), .int .i64 ((rd_T33 l0 x47_2).f1), .int .i64 ((rd_T33 l0 x47_2).f2)] 33 (0, 0))) ∧ Aside0 (Below wB.heap.size wB w'))
                                      case atStart => exact ⟨(x11_1), (t350), (0), qB83, H', ⟨Nat.le_refl _⟩, ⟨by (try simp only [hl11_1]); (with_reducible repeat (first | apply Kd.S_alloc | apply Kd.S_drewN | apply Kd.S_drew)); exact Kd.S_mono HO_11.out (fun _ hk => hk.2)⟩, ⟨by (try simp only [hl11_1]); (with_reducible repeat (first | apply Kd.R_alloc | apply Kd.R_drewN | apply Kd.R_drew)); exact HO352.out⟩, ⟨by (try simp only [hl11_1]); (with_reducible repeat (first | refine blk_drewN ?_ _ | refine blk_drew ?_ | refine blk_alloc ?_ _)); exact BK342.out⟩, ⟨by repeat (first | (with_reducible first | exact HB.out | apply below_alloc | apply pw_below_drewN | apply below_drew1 | refine below_set ?_ GE342.out) | exact HB.out)⟩⟩
                                      case round =>
                                        clear H'
                                        try clear c1
                                        try clear co27
                                        try clear p2
                                        try clear q2
                                        try clear hx2
                                        try clear p3
                                        try clear q3
                                        try clear hx3
                                        try clear c6
                                        try clear c6b0
                                        try clear p6
                                        try clear c7
                                        try clear c7b0
                                        try clear c8
                                        try clear c8b0
                                        try clear c8b1
                                        try clear c9
                                        try clear c9b0
                                        try clear c9b1
                                        try clear c15
                                        try clear c15b0
                                        try clear c16
                                        try clear c16b0
                                        try clear c16b1
                                        try clear c17
                                        try clear c17b0
                                        try clear c17b1
                                        try clear c18
                                        try clear c18b0
                                        try clear c19
                                        try clear c19b0
                                        try clear c20
                                        try clear p20
                                        try clear q20
                                        try clear hx20
                                        try clear hf20
                                        try clear c23
                                        try clear hx23
                                        try clear hf23
                                        try clear hcz11_0
                                        try clear hcz11_1
                                        try clear hcz11_2
                                        try clear hcz26_0
                                        try clear hcz26_1
                                        try clear hcz26_2
                                        try clear hfz11_0
                                        try clear hfz11_1
                                        try clear hfz11_2
                                        try clear hfz26_0
                                        try clear hfz26_1
                                        try clear hfz26_2
                                        try clear hx20_0
                                        try clear hx23_0
                                        try clear hx341_0
                                        try clear hx341_1
                                        try clear hx341_2
                                        try clear p2
                                        try clear p20
                                        try clear p3
                                        try clear p341
                                        try clear q20
                                        try clear q3
                                        try clear q341
                                        obtain ⟨x11_2, x65_2, x67_2, rfl, HA, HKb2, HO_11, HO_65, BK342, HB⟩ := hrel
                                        have hl11_2 := (Kd.S_reads' HO_11.out).1
                                        rw [hl11_2] at HO_11
                                        (try simp only [hl11_2])
                                        (try simp only [hl11_2] at BK342)
                                        (try simp only [hl11_2] at HO_65)
                                        have hl65_2 := (Kd.R_reads' HO_65.out).1
                                        rw [hl65_2] at HO_65
                                        (try simp only [hl65_2])
                                        (try simp only [hl65_2] at BK342)
                                        (try simp only [hl65_2] at HO_11)
                                        cases gk with
                                        | zero => exact absurd HA.out (by simp [impl_sumOver_body.l1])
                                        | succ kb2 =>
                                          have H := HA.out
                                          clear HA
                                          simp only [impl_sumOver_body.l1] at H
                                          by_cases c29 : x67_2 < (t350.length : Int)
                                          · rw [if_pos c29] at H
                                            have c29b0 : decide (x67_2 < (t350.length : Int)) = true := decide_eq_true c29
                                            clear c29
                                            by_cases c30 : 0 ≤ x67_2
                                            · rw [if_pos c30] at H
                                              have c30b0 : decide (0 ≤ x67_2) = true := decide_eq_true c30
                                              clear c30
                                              by_cases c31 : x67_2 < (x65_2.length : Int)
                                              · rw [if_pos c31] at H
                                                have c31b0 : decide (x67_2 < (x65_2.length : Int)) = true := decide_eq_true c31
                                                clear c31
                                                by_cases c32 : (rd x65_2 x67_2) < 0
                                                · rw [if_pos c32] at H
                                                  have c32b0 : decide ((rd x65_2 x67_2) < 0) = true := decide_eq_true c32
                                                  clear c32
                                                  have H' := Aside0.mk H
                                                  clear H
                                                  have p353 : 0 ≤ (x67_2 : Int) := of_decide_eq_true qB82
                                                  have q353 : x67_2 < (x65_2.length : Int) := of_decide_eq_true qB82
                                                  obtain ⟨ad353, e353, hx353_0⟩ := Kd.at_int (Kd.R_reads' HO_65.out).2.2 x67_2 p353 q353
                                                  cases e353
                                                  replace p353 := eq_true p353
                                                  replace q353 := eq_true q353
                                                  go_wp2
                                                  (try simp only [← hl11_2, ← hl65_2])
                                                  (first | go_roundg kb2 | ((try simp only [add_plain] at *); go_roundg kb2))
                                                  case measure => have := HKb1.out; have := HKb2.out; omega
                                                  case rel => exact ⟨(x11_2), (x65_2), (wrap64 (x67_2 + 1)), qB83, H', ⟨by have := HKb1.out; have := HKb2.out; omega⟩, ⟨by (try simp only [hl11_1]); (try simp only [hl11_2]); (try simp only [hl65_2]); (with_reducible repeat (first | apply Kd.S_alloc | apply Kd.S_drewN | apply Kd.S_drew)); exact HO_11.out⟩, ⟨by (try simp only [hl11_1]); (try simp only [hl11_2]); (try simp only [hl65_2]); (with_reducible repeat (first | apply Kd.R_alloc | apply Kd.R_drewN | apply Kd.R_drew)); exact HO_65.out⟩, ⟨by (try simp only [hl11_1]); (try simp only [hl11_2]); (try simp only [hl65_2]); (with_reducible repeat (first | refine blk_drewN ?_ _ | refine blk_drew ?_ | refine blk_alloc ?_ _)); exact BK342.out⟩, ⟨by repeat (first | (with_reducible first | exact HB.out | apply below_alloc | apply pw_below_drewN | apply below_drew1 | refine below_set ?_ GE342.out) | exact HB.out)⟩⟩
                                                · rw [if_neg c32] at H
                                                  have c32b0 : decide ((rd x65_2 x67_2) < 0) = false := decide_eq_false c32
                                                  clear c32
                                                  have H' := Aside0.mk H
                                                  clear H
                                                  have p353 : 0 ≤ (x67_2 : Int) := of_decide_eq_true qB82
                                                  have q353 : x67_2 < (x65_2.length : Int) := of_decide_eq_true qB82
                                                  obtain ⟨ad353, e353, hx353_0⟩ := Kd.at_int (Kd.R_reads' HO_65.out).2.2 x67_2 p353 q353
                                                  cases e353
                                                  replace p353 := eq_true p353
                                                  replace q353 := eq_true q353
                                                  go_wp2
                                                  try simp only [Act.put, List.setIfInBounds_toArray, List.set_cons_succ, List.set_cons_zero]
                                                  go_loopg [76] kb2 (fun kq v76 w' => ∃ (x11_3 : List (List Int)) (x65_3 : List Int) (x76_3 : Int), v76 = .int .i64 x76_3 ∧ Aside0 (impl_sumOver_body.l2 kq ((rd_T33 l0 0).f0) ((rd_T33 l0 0).f1) x7_2 x11_3 x67_2 (rd x65_2 x67_2) x65_3 (t350.length : Int) x67_2 x7_2 (x7_2.length : Int) x76_3 = some t377) ∧ Aside0 (kq ≤ kb2) ∧ Aside0 (Kd.S (Kd.slice 2 (Kd.int .i64)) 22 w' wB.heap.size (fun k_ => some k_ ≠ ((.slice (some ad353) x65_2.length co28) : Value).ownBlock) (.slice Ao14 x11_2.length co14) x11_3) ∧ Aside0 (Kd.R (Kd.int .i64) 2 w' wB.heap.size (fun _ => True) (.slice (some ad353) x65_2.length co28) x65_3) ∧ Aside0 (w'.heap[gb342]? = some (.cells #[.int .i64 ((rd_T33 l0 x47_2).f0), .int .i64 ((rd_T33 l0 x47_2).f1), .int .i64 ((rd_T33 l0 x47_2).f2)] 33 (0, 0))) ∧ Aside0 (Below wB.heap.size wB w'))
                                                  case atStart => exact ⟨(x11_2), (x65_2), (0), qB83, H', ⟨Nat.le_refl _⟩, ⟨by (try simp only [hl11_1]); (try simp only [hl11_2]); (try simp only [hl65_2]); (with_reducible repeat (first | apply Kd.S_alloc | apply Kd.S_drewN | apply Kd.S_drew)); exact HO_11.out⟩, ⟨by (try simp only [hl11_1]); (try simp only [hl11_2]); (try simp only [hl65_2]); (with_reducible repeat (first | apply Kd.R_alloc | apply Kd.R_drewN | apply Kd.R_drew)); exact HO_65.out⟩, ⟨by (try simp only [hl11_1]); (try simp only [hl11_2]); (try simp only [hl65_2]); (with_reducible repeat (first | refine blk_drewN ?_ _ | refine blk_drew ?_ | refine blk_alloc ?_ _)); exact BK342.out⟩, ⟨by repeat (first | (with_reducible first | exact HB.out | apply below_alloc | apply pw_below_drewN | apply below_drew1 | refine below_set ?_ GE342.out) | exact HB.out)⟩⟩
                                                  case round =>
                                                    clear H'
                                                    try clear c1
                                                    try clear co27
                                                    try clear p2
                                                    try clear q2
                                                    try clear hx2
                                                    try clear c3
                                                    try clear p3
                                                    try clear q3
                                                    try clear hx3
                                                    try clear c6
                                                    try clear c6b0
                                                    try clear p6
                                                    try clear c7
                                                    try clear c7b0
                                                    try clear c8
                                                    try clear c8b0
                                                    try clear c8b1
                                                    try clear c9
                                                    try clear c9b0
                                                    try clear c9b1
                                                    try clear c15
                                                    try clear c15b0
                                                    try clear c16
                                                    try clear c16b0
                                                    try clear c16b1
                                                    try clear c17
                                                    try clear c17b0
                                                    try clear c17b1
                                                    try clear c18
                                                    try clear c18b0
                                                    try clear c19
                                                    try clear c19b0
                                                    try clear c20
                                                    try clear p20
                                                    try clear q20
                                                    try clear hx20
                                                    try clear hf20
                                                    try clear c23
                                                    try clear hx23
                                                    try clear hf23
                                                    try clear c29
                                                    try clear c29b0
                                                    try clear c30
                                                    try clear c30b0
                                                    try clear c31
                                                    try clear c31b0
                                                    try clear c32
                                                    try clear c32b0
                                                    try clear hcz11_0
                                                    try clear hcz11_1
                                                    try clear hcz11_2
                                                    try clear hcz26_0
                                                    try clear hcz26_1
                                                    try clear hcz26_2
                                                    try clear hfz11_0
                                                    try clear hfz11_1
                                                    try clear hfz11_2
                                                    try clear hfz26_0
                                                    try clear hfz26_1
                                                    try clear hfz26_2
                                                    try clear hx20_0
                                                    try clear hx23_0
                                                    try clear hx341_0
                                                    try clear hx341_1
                                                    try clear hx341_2
                                                    try clear hx353_0
                                                    try clear p2
                                                    try clear p20
                                                    try clear p3
                                                    try clear p341
                                                    try clear p353
                                                    try clear p6
                                                    try clear q2
                                                    try clear q20
                                                    try clear q3
                                                    try clear q341
                                                    try clear q353
                                                    obtain ⟨x11_3, x65_3, x76_3, rfl, HA, HKb3, HO_11, HO_65, BK342, HB⟩ := hrel
                                                    have hl11_3 := (Kd.S_reads' HO_11.out).1
                                                    rw [hl11_3] at HO_11
                                                    (try simp only [hl11_3])
                                                    (try simp only [hl11_3] at BK342)
                                                    (try simp only [hl11_3] at HO_65)
                                                    have hl65_3 := (Kd.R_reads' HO_65.out).1
                                                    rw [hl65_3] at HO_65
                                                    (try simp only [hl65_3])
                                                    (try simp only [hl65_3] at BK342)
                                                    (try simp only [hl65_3] at HO_11)
                                                    cases gk with
                                                    | zero => exact absurd HA.out (by simp [impl_sumOver_body.l2])
                                                    | succ kb3 =>
                                                      have H := HA.out
                                                      clear HA
                                                      simp only [impl_sumOver_body.l2] at H
                                                      by_cases c33 : x76_3 < (x7_2.length : Int)
                                                      · rw [if_pos c33] at H
                                                        have c33b0 : decide (x76_3 < (x7_2.length : Int)) = true := decide_eq_true c33
                                                        clear c33
                                                        by_cases c34 : 0 ≤ x76_3
                                                        · rw [if_pos c34] at H
                                                          have c34b0 : decide (0 ≤ x76_3) = true := decide_eq_true c34
                                                          clear c34
                                                          by_cases c35 : x76_3 < (x7_2.length : Int)
                                                          · rw [if_pos c35] at H
                                                            have c35b0 : decide (x76_3 < (x7_2.length : Int)) = true := decide_eq_true c35
                                                            clear c35
                                                            by_cases c36 : ((rd_T33 l0 0).f0) = 0
                                                            · rw [if_pos c36] at H
                                                              exact absurd H (by simp)
                                                            · rw [if_neg c36] at H
                                                              have c36b0 : (((rd_T33 l0 0).f0) == 0) = false := beq_eq_false_iff_ne.mpr c36
                                                              have c36b1 : (((rd_T33 l0 0).f0) != 0) = true := bne_iff_ne.mpr c36
                                                              obtain ⟨ji37, hji37⟩ : ∃ j_ : Int, (Int.tmod (wrap64 (x76_3 + x67_2)) ((rd_T33 l0 0).f0)) = j_ := ⟨_, rfl⟩
                                                              replace H : (if 0 ≤ (ji37) then (if (ji37) < (x11_3.length : Int) then (impl_sumOver_body.l3 kb3 ((rd_T33 l0 0).f0) ((rd_T33 l0 0).f1) x7_2 x11_3 x67_2 (rd x65_2 x67_2) x65_3 (t350.length : Int) x67_2 x7_2 (x7_2.length : Int) x76_3 ji37 (rd_L2 x7_2 x76_3) ((rd_L2 x7_2 x76_3).length : Int) 0) else (none)) else (none)) = some t377 := by first | (rw [hji37] at H; exact H) | (simp only [hji37] at H ⊢; exact H)
                                                              by_cases c38 : 0 ≤ (ji37)
                                                              · rw [if_pos c38] at H
                                                                have c38b0 : decide (0 ≤ (ji37)) = true := decide_eq_true c38
                                                                clear c38
                                                                by_cases c39 : (ji37) < (x11_3.length : Int)
                                                                · rw [if_pos c39] at H
                                                                  have c39b0 : decide ((ji37) < (x11_3.length : Int)) = true := decide_eq_true c39
                                                                  clear c39
                                                                  have H' := Aside0.mk H
                                                                  clear H
                                                                  have p354 : 0 ≤ (x76_3 : Int) := of_decide_eq_true qB82
                                                                  have q354 : x76_3 < (x7_2.length : Int) := of_decide_eq_true qB82
                                                                  obtain ⟨ad354, A354_0, c354_0, e354, hx354_0, hl354_0, hi354_0⟩ := at_L2 HR2.out x76_3 p354 q354
                                                                  cases e354
                                                                  replace hx354_0 := (HB.out.cell (World.block_lt_of_cell? wB _ hx354_0)).trans hx354_0
                                                                  have HR354_0 := Aside0.mk hi354_0
                                                                  have HC354_0 := Aside0.mk hl354_0
                                                                  clear hi354_0 hl354_0
                                                                  replace p354 := eq_true p354
                                                                  replace q354 := eq_true q354
                                                                  have p355 : 0 ≤ ((ji37) : Int) := of_decide_eq_true qB82
                                                                  have q355 : (ji37) < (x11_3.length : Int) := of_decide_eq_true qB82
                                                                  obtain ⟨ad355, A355_0, c355_0, e355, hx355_0, hl355_0, hi355_0⟩ := at_L2 (Kd.S_reads' HO_11.out).2.2 (ji37) p355 q355
                                                                  cases e355
                                                                  obtain ⟨ce355, hce355, hMe355, hcc355⟩ := Kd.S_get HO_11.out [] (ji37) p355 (by first | exact q355 | exact of_decide_eq_true qB82 | (have e_ := (Kd.S_reads' HO_11.out).1; omega))
                                                                  obtain ⟨ve355_0, rfl, ge355_0⟩ := hMe355
                                                                  have hv355_0 := hcc355 0 _ rfl
                                                                  rw [Nat.add_zero, show ((Kd.slice 2 (Kd.int .i64))).sz = 1 from rfl, Nat.mul_one] at hv355_0
                                                                  replace hv355_0 := Option.some.inj (hv355_0.symm.trans hx355_0)
                                                                  rw [hv355_0] at ge355_0
                                                                  have HL355_0 := Aside0.mk (show Kd.R (Kd.int .i64) 2 _ _ _ _ (rd_L2 x11_3 (ji37)) from ge355_0)
                                                                  clear hv355_0 ge355_0
                                                                  have HX355_0 := Aside0.mk hx355_0
                                                                  clear hcc355 hce355
                                                                  have HR355_0 := Aside0.mk hi355_0
                                                                  have HC355_0 := Aside0.mk hl355_0
                                                                  clear hi355_0 hl355_0
                                                                  replace p355 := eq_true p355
                                                                  replace q355 := eq_true q355
                                                                  go_wp2
                                                                  try simp only [Act.put, List.setIfInBounds_toArray, List.set_cons_succ, List.set_cons_zero]
                                                                  go_loopg [91] kb3 (fun kq v91 w' => ∃ (x11_4 : List (List Int)) (x65_4 : List Int) (x91_4 : Int), v91 = .int .i64 x91_4 ∧ Aside0 (impl_sumOver_body.l3 kq ((rd_T33 l0 0).f0) ((rd_T33 l0 0).f1) x7_2 x11_4 x67_2 (rd x65_2 x67_2) x65_4 (t350.length : Int) x67_2 x7_2 (x7_2.length : Int) x76_3 ji37 (rd_L2 x7_2 x76_3) ((rd_L2 x7_2 x76_3).length : Int) x91_4 = some t377) ∧ Aside0 (kq ≤ kb3) ∧ Aside0 (Kd.S (Kd.slice 2 (Kd.int .i64)) 22 w' wB.heap.size (fun k_ => some k_ ≠ ((.slice (some ad353) x65_3.length co28) : Value).ownBlock) (.slice (some ad355) x11_3.length co14) x11_4) ∧ Aside0 (Kd.R (Kd.int .i64) 2 w' wB.heap.size (fun _ => True) (.slice (some ad353) x65_3.length co28) x65_4) ∧ Aside0 (w'.heap[gb342]? = some (.cells #[.int .i64 ((rd_T33 l0 x47_2).f0), .int .i64 ((rd_T33 l0 x47_2).f1), .int .i64 ((rd_T33 l0 x47_2).f2)] 33 (0, 0))) ∧ Aside0 (Below wB.heap.size wB w') ∧ Aside0 (w'.cell? (ad355.add (ji37 : Int).toNat) = some (.slice A355_0 (rd_L2 x11_3 (ji37)).length c355_0)))
                                                                  case atStart => exact ⟨(x11_3), (x65_3), (0), qB83, H', ⟨Nat.le_refl _⟩, ⟨by (try simp only [hl11_1]); (try simp only [hl11_2]); (try simp only [hl65_2]); (try simp only [hl11_3]); (try simp only [hl65_3]); (with_reducible repeat (first | apply Kd.S_alloc | apply Kd.S_drewN | apply Kd.S_drew)); exact HO_11.out⟩, ⟨by (try simp only [hl11_1]); (try simp only [hl11_2]); (try simp only [hl65_2]); (try simp only [hl11_3]); (try simp only [hl65_3]); (with_reducible repeat (first | apply Kd.R_alloc | apply Kd.R_drewN | apply Kd.R_drew)); exact HO_65.out⟩, ⟨by (try simp only [hl11_1]); (try simp only [hl11_2]); (try simp only [hl65_2]); (try simp only [hl11_3]); (try simp only [hl65_3]); (with_reducible repeat (first | refine blk_drewN ?_ _ | refine blk_drew ?_ | refine blk_alloc ?_ _)); exact BK342.out⟩, ⟨by repeat (first | (with_reducible first | exact HB.out | apply below_alloc | apply pw_below_drewN | apply below_drew1 | refine below_set ?_ GE342.out) | exact HB.out)⟩, ⟨by first | exact HX355_0.out | (simpa using HX355_0.out)⟩⟩
                                                                  case round =>
                                                                    clear H'
                                                                    try clear c1
                                                                    try clear co27
                                                                    try clear p2
                                                                    try clear q2
                                                                    try clear hx2
                                                                    try clear c3
                                                                    try clear p3
                                                                    try clear q3
                                                                    try clear hx3
                                                                    try clear c6
                                                                    try clear c6b0
                                                                    try clear p6
                                                                    try clear c7
                                                                    try clear c7b0
                                                                    try clear c8
                                                                    try clear c8b0
                                                                    try clear c8b1
                                                                    try clear c9
                                                                    try clear c9b0
                                                                    try clear c9b1
                                                                    try clear c15
                                                                    try clear c15b0
                                                                    try clear c16
                                                                    try clear c16b0
                                                                    try clear c16b1
                                                                    try clear c17
                                                                    try clear c17b0
                                                                    try clear c17b1
                                                                    try clear c18
                                                                    try clear c18b0
                                                                    try clear c19
                                                                    try clear c19b0
                                                                    try clear c20
                                                                    try clear p20
                                                                    try clear q20
                                                                    try clear hx20
                                                                    try clear hf20
                                                                    try clear c23
                                                                    try clear hx23
                                                                    try clear hf23
                                                                    try clear c29
                                                                    try clear c29b0
                                                                    try clear c30
                                                                    try clear c30b0
                                                                    try clear c31
                                                                    try clear c31b0
                                                                    try clear c32
                                                                    try clear c32b0
                                                                    try clear c33
                                                                    try clear c33b0
                                                                    try clear c34
                                                                    try clear c34b0
                                                                    try clear p34
                                                                    try clear q34
                                                                    try clear hx34
                                                                    try clear c35
                                                                    try clear c35b0
                                                                    try clear p35
                                                                    try clear q35
                                                                    try clear hx35
                                                                    try clear c36
                                                                    try clear c36b0
                                                                    try clear c36b1
                                                                    try clear c38
                                                                    try clear c38b0
                                                                    try clear c39
                                                                    try clear c39b0
                                                                    try clear hcz11_0
                                                                    try clear hcz11_1
                                                                    try clear hcz11_2
                                                                    try clear hcz26_0
                                                                    try clear hcz26_1
                                                                    try clear hcz26_2
                                                                    try clear hfz11_0
                                                                    try clear hfz11_1
                                                                    try clear hfz11_2
                                                                    try clear hfz26_0
                                                                    try clear hfz26_1
                                                                    try clear hfz26_2
                                                                    try clear hx20_0
                                                                    try clear hx23_0
                                                                    try clear hx341_0
                                                                    try clear hx341_1
                                                                    try clear hx341_2
                                                                    try clear hx353_0
                                                                    try clear hx354_0
                                                                    try clear hx355_0
                                                                    try clear p2
                                                                    try clear p20
                                                                    try clear p3
                                                                    try clear p341
                                                                    try clear p353
                                                                    try clear p354
                                                                    try clear p355
                                                                    try clear p6
                                                                    try clear q2
                                                                    try clear q20
                                                                    try clear q3
                                                                    try clear q341
                                                                    try clear q353
                                                                    try clear q354
                                                                    try clear q355
                                                                    obtain ⟨x11_4, x65_4, x91_4, rfl, HA, HKb4, HO_11, HO_65, BK342, HB, CX⟩ := hrel
                                                                    have hl11_4 := (Kd.S_reads' HO_11.out).1
                                                                    rw [hl11_4] at HO_11
                                                                    (try simp only [hl11_4])
                                                                    (try simp only [hl11_4] at BK342)
                                                                    (try simp only [hl11_4] at HO_65)
                                                                    have hl65_4 := (Kd.R_reads' HO_65.out).1
                                                                    rw [hl65_4] at HO_65
                                                                    (try simp only [hl65_4])
                                                                    (try simp only [hl65_4] at BK342)
                                                                    (try simp only [hl65_4] at HO_11)
                                                                    cases gk with
                                                                    | zero => exact absurd HA.out (by simp [impl_sumOver_body.l3])
                                                                    | succ kb4 =>
                                                                      have H := HA.out
                                                                      clear HA
                                                                      simp only [impl_sumOver_body.l3] at H
                                                                      by_cases c40 : x91_4 < ((rd_L2 x7_2 x76_3).length : Int)
                                                                      · rw [if_pos c40] at H
                                                                        have c40b0 : decide (x91_4 < ((rd_L2 x7_2 x76_3).length : Int)) = true := decide_eq_true c40
                                                                        clear c40
                                                                        by_cases c41 : 0 ≤ x91_4
                                                                        · rw [if_pos c41] at H
                                                                          have c41b0 : decide (0 ≤ x91_4) = true := decide_eq_true c41
                                                                          clear c41
                                                                          by_cases c42 : x91_4 < ((rd_L2 x7_2 x76_3).length : Int)
                                                                          · rw [if_pos c42] at H
                                                                            have c42b0 : decide (x91_4 < ((rd_L2 x7_2 x76_3).length : Int)) = true := decide_eq_true c42
                                                                            clear c42
                                                                            by_cases c43 : 0 ≤ ji37
                                                                            · rw [if_pos c43] at H
                                                                              have c43b0 : decide (0 ≤ ji37) = true := decide_eq_true c43
                                                                              clear c43
                                                                              by_cases c44 : ji37 < (x11_4.length : Int)
                                                                              · rw [if_pos c44] at H
                                                                                have c44b0 : decide (ji37 < (x11_4.length : Int)) = true := decide_eq_true c44
                                                                                clear c44
                                                                                by_cases c45 : ((rd_T33 l0 0).f1) = 0
                                                                                · rw [if_pos c45] at H
                                                                                  exact absurd H (by simp)
                                                                                · rw [if_neg c45] at H
                                                                                  have c45b0 : (((rd_T33 l0 0).f1) == 0) = false := beq_eq_false_iff_ne.mpr c45
                                                                                  have c45b1 : (((rd_T33 l0 0).f1) != 0) = true := bne_iff_ne.mpr c45
                                                                                  obtain ⟨ji46, hji46⟩ : ∃ j_ : Int, (Int.tmod (wrap64 (x91_4 + (rd x65_2 x67_2))) ((rd_T33 l0 0).f1)) = j_ := ⟨_, rfl⟩
                                                                                  replace H : (if 0 ≤ (ji46) then (if (ji46) < ((rd_L2 x11_4 ji37).length : Int) then (impl_sumOver_body.l3 kb4 ((rd_T33 l0 0).f0) ((rd_T33 l0 0).f1) x7_2 (x11_4.set (ji37 : Int).toNat ((rd_L2 x11_4 ji37).set ((ji46) : Int).toNat (wrap64 ((rd (rd_L2 x11_4 ji37) (ji46)) + (rd (rd_L2 x7_2 x76_3) x91_4))))) x67_2 (rd x65_2 x67_2) x65_4 (t350.length : Int) x67_2 x7_2 (x7_2.length : Int) x76_3 ji37 (rd_L2 x7_2 x76_3) ((rd_L2 x7_2 x76_3).length : Int) (wrap64 (x91_4 + 1))) else (none)) else (none)) = some t377 := by first | (rw [hji46] at H; exact H) | (simp only [hji46] at H ⊢; exact H)
                                                                                  by_cases c47 : 0 ≤ (ji46)
                                                                                  · rw [if_pos c47] at H
                                                                                    have c47b0 : decide (0 ≤ (ji46)) = true := decide_eq_true c47
                                                                                    clear c47
                                                                                    by_cases c48 : (ji46) < ((rd_L2 x11_4 ji37).length : Int)
                                                                                    · rw [if_pos c48] at H
                                                                                      have c48b0 : decide ((ji46) < ((rd_L2 x11_4 ji37).length : Int)) = true := decide_eq_true c48
                                                                                      clear c48
                                                                                      obtain ⟨y359, hy359⟩ : ∃ y_ : List Int, y_ = ((rd_L2 x11_4 ji37).set ((ji46) : Int).toNat (wrap64 ((rd (rd_L2 x11_4 ji37) (ji46)) + (rd (rd_L2 x7_2 x76_3) x91_4)))) := ⟨_, rfl⟩
                                                                                      replace H : (impl_sumOver_body.l3 kb4 ((rd_T33 l0 0).f0) ((rd_T33 l0 0).f1) x7_2 (x11_4.set (ji37 : Int).toNat y359) x67_2 (rd x65_2 x67_2) x65_4 (t350.length : Int) x67_2 x7_2 (x7_2.length : Int) x76_3 ji37 (rd_L2 x7_2 x76_3) ((rd_L2 x7_2 x76_3).length : Int) (wrap64 (x91_4 + 1))) = some t377 := by first | (rw [hy359]; with_reducible exact H) | (have H2_ := (Option.bind_some _ _).symm.trans H; rw [hy359]; with_reducible exact H2_) | (have H2_ := (Option.bind_some _ _).symm.trans H; with_reducible exact H2_) | with_reducible exact H | (rw [hy359]; exact H) | exact H
                                                                                      have Ny359 := Aside0.mk hy359
                                                                                      clear hy359
                                                                                      obtain ⟨y361, hy361⟩ : ∃ y_ : List (List Int), y_ = (x11_4.set (ji37 : Int).toNat y359) := ⟨_, rfl⟩
                                                                                      replace H : (impl_sumOver_body.l3 kb4 ((rd_T33 l0 0).f0) ((rd_T33 l0 0).f1) x7_2 y361 x67_2 (rd x65_2 x67_2) x65_4 (t350.length : Int) x67_2 x7_2 (x7_2.length : Int) x76_3 ji37 (rd_L2 x7_2 x76_3) ((rd_L2 x7_2 x76_3).length : Int) (wrap64 (x91_4 + 1))) = some t377 := by first | (rw [hy361]; with_reducible exact H) | (have H2_ := (Option.bind_some _ _).symm.trans H; rw [hy361]; with_reducible exact H2_) | (have H2_ := (Option.bind_some _ _).symm.trans H; with_reducible exact H2_) | with_reducible exact H | (rw [hy361]; exact H) | exact H
                                                                                      have Ny361 := Aside0.mk hy361
                                                                                      clear hy361
                                                                                      have H' := Aside0.mk H
                                                                                      clear H
                                                                                      have p356 : 0 ≤ (x91_4 : Int) := of_decide_eq_true qB82
                                                                                      have q356 : x91_4 < ((rd_L2 x7_2 x76_3).length : Int) := of_decide_eq_true qB82
                                                                                      obtain ⟨ad356, e356, hx356_0⟩ := Kd.at_int HR354_0.out x91_4 p356 q356
                                                                                      cases e356
                                                                                      replace hx356_0 := (HB.out.cell (World.block_lt_of_cell? wB _ hx356_0)).trans hx356_0
                                                                                      replace p356 := eq_true p356
                                                                                      replace q356 := eq_true q356
                                                                                      have p357 : 0 ≤ (ji37 : Int) := of_decide_eq_true qB82
                                                                                      have q357 : ji37 < (x11_4.length : Int) := of_decide_eq_true qB82
                                                                                      obtain ⟨ad357, A357_0, c357_0, e357, hx357_0, hl357_0, hi357_0⟩ := at_L2 (Kd.S_reads' HO_11.out).2.2 ji37 p357 q357
                                                                                      obtain rfl : ad355 = ad357 := (by injection e357)
                                                                                      obtain ⟨ce357, hce357, hMe357, hcc357⟩ := Kd.S_get HO_11.out [] ji37 p357 (by first | exact q357 | exact of_decide_eq_true qB82 | (have e_ := (Kd.S_reads' HO_11.out).1; omega))
                                                                                      obtain ⟨ve357_0, rfl, ge357_0⟩ := hMe357
                                                                                      have hv357_0 := hcc357 0 _ rfl
                                                                                      rw [Nat.add_zero, show ((Kd.slice 2 (Kd.int .i64))).sz = 1 from rfl, Nat.mul_one] at hv357_0
                                                                                      replace hv357_0 := Option.some.inj (hv357_0.symm.trans hx357_0)
                                                                                      rw [hv357_0] at ge357_0
                                                                                      have HL357_0 := Aside0.mk (show Kd.R (Kd.int .i64) 2 _ _ _ _ (rd_L2 x11_4 ji37) from ge357_0)
                                                                                      clear hv357_0 ge357_0
                                                                                      have HX357_0 := Aside0.mk hx357_0
                                                                                      clear hcc357 hce357
                                                                                      have HR357_0 := Aside0.mk hi357_0
                                                                                      have HC357_0 := Aside0.mk hl357_0
                                                                                      clear hi357_0 hl357_0
                                                                                      have hcx_ := Option.some.inj (CX.out.symm.trans hx357_0)
                                                                                      injection hcx_ with hcx1 hcx2 hcx3
                                                                                      have hcx1 := hcx1.symm
                                                                                      have hcx3 := hcx3.symm
                                                                                      subst hcx1
                                                                                      subst hcx3
                                                                                      (try rw [hcx2])
                                                                                      replace p357 := eq_true p357
                                                                                      replace q357 := eq_true q357
                                                                                      have p358 : 0 ≤ ((ji46) : Int) := of_decide_eq_true qB82
                                                                                      have q358 : (ji46) < ((rd_L2 x11_4 ji37).length : Int) := of_decide_eq_true qB82
                                                                                      obtain ⟨ad358, e358, hx358_0⟩ := Kd.at_int (by repeat (first | (with_reducible exact HR357_0.out) | (with_reducible refine Kd.C_alloc ?_ _) | (with_reducible refine Kd.C_drewN ?_ _) | (with_reducible refine Kd.C_drew ?_) | exact HR357_0.out)) (ji46) p358 q358
                                                                                      cases e358
                                                                                      replace p358 := eq_true p358
                                                                                      replace q358 := eq_true q358
                                                                                      have p49 : 0 ≤ ((ji46) : Int) := of_decide_eq_true qB82
                                                                                      have q49 : ((ji46) : Int) < (((rd_L2 x11_4 ji37).length : Int) : Int) := of_decide_eq_true qB82
                                                                                      obtain ⟨go49, co49, eo49, gb49, gl49, cl49, HG49⟩ := Kd.R_form HL357_0.out (by omega)
                                                                                      (first | cases eo49 | (injection eo49 with ea_ en_ ec_; (first | subst ea_ | (injection ea_ with ea_; subst ea_)); subst ec_; clear en_))
                                                                                      have GB49 := Aside0.mk gb49
                                                                                      have GG49 := Aside0.mk HG49
                                                                                      clear gb49 gl49 HG49
                                                                                      (first | simp only [add_plain] at hx358_0 | skip)
                                                                                      obtain ⟨hx49_0, hf49_0⟩ := Kd.R_celln 0 HL357_0.out ((ji46) : Int) p49 q49
                                                                                      replace p49 := eq_true p49
                                                                                      replace q49 := eq_true q49
                                                                                      have hq50 : (ji37 : Int) < (x11_4.length : Int) := (by have h_ : (ji37 : Int) < ((x11_4.length : Int) : Int) := of_decide_eq_true qB82; first | exact h_ | (have e_ := (Kd.S_reads' HO_11.out).1; omega) | simpa only [List.length_set, List.length_set] using h_)
                                                                                      obtain ⟨oki50, ce50, hcl50, hM50, hcc50, hok50, hbk50⟩ := Kd.S_borrow HO_11.out [] (ji37 : Int) (of_decide_eq_true qB82) hq50
                                                                                      obtain ⟨ve50_0, rfl, ge50_0⟩ := hM50
                                                                                      have hv50 := hcc50 0 _ rfl
                                                                                      rw [Nat.add_zero, show ((Kd.slice 2 (Kd.int .i64))).sz = 1 from rfl, Nat.mul_one] at hv50
                                                                                      replace hv50 := Option.some.inj (hv50.symm.trans HX357_0.out)
                                                                                      subst hv50
                                                                                      clear hcc50 hcl50
                                                                                      replace ge50_0 := (show Kd.R (Kd.int .i64) 2 _ _ _ _ (rd_L2 x11_4 ji37) from ge50_0)
                                                                                      have hne50 : (ad355.add (ji37 : Int).toNat).block ≠ go49 := fun e_ => (hok50 go49 (ge50_0.1 _ rfl)).2 (by rw [← e_, add_block]; rfl)
                                                                                      have HP50 := Kd.R_putg ge50_0 ((ji46) : Int) (wrap64 ((rd (rd_L2 x11_4 ji37) (ji46)) + (rd (rd_L2 x7_2 x76_3) x91_4)))
                                                                                      go_wp2_with (first | ((with_reducible refine gate_store (t := 2) (p := 106) rfl ?_); refine store_event (t := 2) (p := 106) (v := ?vo_wb51) (w1 := (wr.setCell ⟨go49, ((ji46) : Int).toNat, none⟩ (.int .i64 (wrap64 ((rd (rd_L2 x11_4 ji37) (ji46)) + (rd (rd_L2 x7_2 x76_3) x91_4)))))) ?hg ?ho ?hn ?hr ?_; (case ho => rfl); (case hg => rfl); (case hn => rfl); (case hr => first | (go_simp; done) | (go_simp; rfl)); intro w51 hw; have hg : wr.grownBy w51 (some go49) := (by rw [hw]; exact HP50.2); have CXN := Aside0.mk (hro_cell hg CX.out hne50); have hz_ : Kd.R (Kd.int .i64) 2 w51 wB.heap.size oki50 (.slice (some ⟨go49, 0, none⟩) (rd_L2 x11_4 ji37).length c357_0) y359 := (by rw [hw, Ny359.out]; exact HP50.1); have hp_ : Kd.S (Kd.slice 2 (Kd.int .i64)) 22 w51 wB.heap.size (fun k_ => some k_ ≠ (.slice (some ad353) x65_4.length co28 : Value).ownBlock) (.slice (some ad355) x11_4.length co14) y361 := (by rw [Ny361.out]; exact hbk50 hg (fun k_ e_ => by injection e_ with e_; subst e_; exact ge50_0.1 _ rfl) (Kd.M_row hz_)); have hm_ := Kd.R_mono hz_ hok50; clear HP50 hbk50; have n0_ := Aside0.mk (hp_); have n1_ := Aside0.mk (Kd.R_grown1 (by (with_reducible repeat (first | apply Kd.R_alloc | apply Kd.R_drewN | apply Kd.R_drew)); exact HO_65.out) rfl hg ((HL357_0.out.1 _ rfl).1)); have n2_ := Aside0.mk (blk_grown (g := gb342) (o := .cells #[.int .i64 ((rd_T33 l0 x47_2).f0), .int .i64 ((rd_T33 l0 x47_2).f1), .int .i64 ((rd_T33 l0 x47_2).f2)] 33 (0, 0)) qB46 hg (Kd.R_ne HL357_0.out BK342.out (by decide))); have n3_ := Aside0.mk ((by rw [hw]; exact below_set (HB.out) GB49.out : Below wB.heap.size wB w51)); have n4_ := Aside0.mk (hm_); have n5_ := Aside0.mk ((Kd.R_reads' hm_).2.1); clear HO_11; clear HO_65; clear BK342; clear HB; clear HL357_0; have HO_11 := n0_; have HO_65 := n1_; have BK342 := n2_; have HB := n3_; have HL362 := n4_; have HC360 := n5_; clear n0_ n1_ n2_ n3_ n4_ n5_; clear hg hw hp_ hz_ hm_ hok50))
                                                                                      (try simp only [← hl11_4, ← hl65_4])
                                                                                      (try simp only [← hcx2])
                                                                                      (first | go_roundg kb4 | ((try simp only [add_plain] at *); go_roundg kb4))
                                                                                      case measure => have := HKb1.out; have := HKb2.out; have := HKb3.out; have := HKb4.out; omega
                                                                                      case rel => exact ⟨(y361), (x65_4), (wrap64 (x91_4 + 1)), qB83, H', ⟨by have := HKb1.out; have := HKb2.out; have := HKb3.out; have := HKb4.out; omega⟩, ⟨by (try simp only [hl11_1]); (try simp only [hl11_2]); (try simp only [hl65_2]); (try simp only [hl11_3]); (try simp only [hl65_3]); (try simp only [hl11_4]); (try simp only [hl65_4]); (with_reducible repeat (first | apply Kd.S_alloc | apply Kd.S_drewN | apply Kd.S_drew)); exact HO_11.out⟩, ⟨by (try simp only [hl11_1]); (try simp only [hl11_2]); (try simp only [hl65_2]); (try simp only [hl11_3]); (try simp only [hl65_3]); (try simp only [hl11_4]); (try simp only [hl65_4]); (with_reducible repeat (first | apply Kd.R_alloc | apply Kd.R_drewN | apply Kd.R_drew)); exact HO_65.out⟩, ⟨by (try simp only [hl11_1]); (try simp only [hl11_2]); (try simp only [hl65_2]); (try simp only [hl11_3]); (try simp only [hl65_3]); (try simp only [hl11_4]); (try simp only [hl65_4]); (with_reducible repeat (first | refine blk_drewN ?_ _ | refine blk_drew ?_ | refine blk_alloc ?_ _)); exact BK342.out⟩, ⟨by repeat (first | (with_reducible first | exact HB.out | apply below_alloc | apply pw_below_drewN | apply below_drew1 | refine below_set ?_ GE342.out) | exact HB.out)⟩, ⟨CXN.out⟩⟩
                                                                                    · rw [if_neg c48] at H
                                                                                      exact absurd H (by simp)
                                                                                  · rw [if_neg c47] at H
                                                                                    exact absurd H (by simp)
                                                                              · rw [if_neg c44] at H
                                                                                exact absurd H (by simp)
                                                                            · rw [if_neg c43] at H
                                                                              exact absurd H (by simp)
                                                                          · rw [if_neg c42] at H
                                                                            exact absurd H (by simp)
                                                                        · rw [if_neg c41] at H
                                                                          exact absurd H (by simp)
                                                                      · rw [if_neg c40] at H
                                                                        have c40b0 : decide (x91_4 < ((rd_L2 x7_2 x76_3).length : Int)) = false := decide_eq_false c40
                                                                        have c40b0_0 := c40b0
                                                                        (try rw [hl11_1] at c40b0_0)
                                                                        have c40b0_1 := c40b0
                                                                        (try rw [hl11_2] at c40b0_1)
                                                                        have c40b0_2 := c40b0
                                                                        (try rw [hl65_2] at c40b0_2)
                                                                        have c40b0_3 := c40b0
                                                                        (try rw [hl11_3] at c40b0_3)
                                                                        have c40b0_4 := c40b0
                                                                        (try rw [hl65_3] at c40b0_4)
                                                                        have c40b0_5 := c40b0
                                                                        (try rw [hl11_4] at c40b0_5)
                                                                        have c40b0_6 := c40b0
                                                                        (try rw [hl65_4] at c40b0_6)
                                                                        clear c40
                                                                        have H' := Aside0.mk H
                                                                        clear H
                                                                        go_wp2
                                                                        (try simp only [← hl11_3, ← hl65_3, ← hl11_4, ← hl65_4])
                                                                        (first | go_roundg kb4 | ((try simp only [add_plain] at *); go_roundg kb4))
                                                                        case measure => have := HKb1.out; have := HKb2.out; have := HKb3.out; have := HKb4.out; omega
                                                                        case rel => exact ⟨(x11_4), (x65_4), (wrap64 (x76_3 + 1)), qB83, H', ⟨by have := HKb1.out; have := HKb2.out; have := HKb3.out; have := HKb4.out; omega⟩, ⟨by (try simp only [hl11_1]); (try simp only [hl11_2]); (try simp only [hl65_2]); (try simp only [hl11_3]); (try simp only [hl65_3]); (try simp only [hl11_4]); (try simp only [hl65_4]); (with_reducible repeat (first | apply Kd.S_alloc | apply Kd.S_drewN | apply Kd.S_drew)); exact HO_11.out⟩, ⟨by (try simp only [hl11_1]); (try simp only [hl11_2]); (try simp only [hl65_2]); (try simp only [hl11_3]); (try simp only [hl65_3]); (try simp only [hl11_4]); (try simp only [hl65_4]); (with_reducible repeat (first | apply Kd.R_alloc | apply Kd.R_drewN | apply Kd.R_drew)); exact HO_65.out⟩, ⟨by (try simp only [hl11_1]); (try simp only [hl11_2]); (try simp only [hl65_2]); (try simp only [hl11_3]); (try simp only [hl65_3]); (try simp only [hl11_4]); (try simp only [hl65_4]); (with_reducible repeat (first | refine blk_drewN ?_ _ | refine blk_drew ?_ | refine blk_alloc ?_ _)); exact BK342.out⟩, ⟨by repeat (first | (with_reducible first | exact HB.out | apply below_alloc | apply pw_below_drewN | apply below_drew1 | refine below_set ?_ GE342.out) | exact HB.out)⟩⟩
                                                                · rw [if_neg c39] at H
                                                                  exact absurd H (by simp)
                                                              · rw [if_neg c38] at H
                                                                exact absurd H (by simp)
                                                          · rw [if_neg c35] at H
                                                            exact absurd H (by simp)
                                                        · rw [if_neg c34] at H
                                                          exact absurd H (by simp)
                                                      · rw [if_neg c33] at H
                                                        have c33b0 : decide (x76_3 < (x7_2.length : Int)) = false := decide_eq_false c33
                                                        have c33b0_0 := c33b0
                                                        (try rw [hl11_1] at c33b0_0)
                                                        have c33b0_1 := c33b0
                                                        (try rw [hl11_2] at c33b0_1)
                                                        have c33b0_2 := c33b0
                                                        (try rw [hl65_2] at c33b0_2)
                                                        have c33b0_3 := c33b0
                                                        (try rw [hl11_3] at c33b0_3)
                                                        have c33b0_4 := c33b0
                                                        (try rw [hl65_3] at c33b0_4)
                                                        clear c33
                                                        have H' := Aside0.mk H
                                                        clear H
                                                        go_wp2
                                                        (try simp only [← hl11_2, ← hl65_2, ← hl11_3, ← hl65_3])
                                                        (first | go_roundg kb3 | ((try simp only [add_plain] at *); go_roundg kb3))
                                                        case measure => have := HKb1.out; have := HKb2.out; have := HKb3.out; omega
                                                        case rel => exact ⟨(x11_3), (x65_3), (wrap64 (x67_2 + 1)), qB83, H', ⟨by have := HKb1.out; have := HKb2.out; have := HKb3.out; omega⟩, ⟨by (try simp only [hl11_1]); (try simp only [hl11_2]); (try simp only [hl65_2]); (try simp only [hl11_3]); (try simp only [hl65_3]); (with_reducible repeat (first | apply Kd.S_alloc | apply Kd.S_drewN | apply Kd.S_drew)); exact HO_11.out⟩, ⟨by (try simp only [hl11_1]); (try simp only [hl11_2]); (try simp only [hl65_2]); (try simp only [hl11_3]); (try simp only [hl65_3]); (with_reducible repeat (first | apply Kd.R_alloc | apply Kd.R_drewN | apply Kd.R_drew)); exact HO_65.out⟩, ⟨by (try simp only [hl11_1]); (try simp only [hl11_2]); (try simp only [hl65_2]); (try simp only [hl11_3]); (try simp only [hl65_3]); (with_reducible repeat (first | refine blk_drewN ?_ _ | refine blk_drew ?_ | refine blk_alloc ?_ _)); exact BK342.out⟩, ⟨by repeat (first | (with_reducible first | exact HB.out | apply below_alloc | apply pw_below_drewN | apply below_drew1 | refine below_set ?_ GE342.out) | exact HB.out)⟩⟩
                                              · rw [if_neg c31] at H
                                                exact absurd H (by simp)
                                            · rw [if_neg c30] at H
                                              exact absurd H (by simp)
                                          · rw [if_neg c29] at H
                                            have c29b0 : decide (x67_2 < (t350.length : Int)) = false := decide_eq_false c29
                                            have c29b0_0 := c29b0
                                            (try rw [hl11_1] at c29b0_0)
                                            have c29b0_1 := c29b0
                                            (try rw [hl11_2] at c29b0_1)
                                            have c29b0_2 := c29b0
                                            (try rw [hl65_2] at c29b0_2)
                                            clear c29
                                            obtain rfl := (Option.some.inj H).symm
                                            have ho0 := Kd.S_mono (ok' := fun _ => True) HO_11.out (fun _ _ => trivial)
                                            have hb : Below wB.heap.size wB wr := by repeat (first | (with_reducible first | exact HB.out | apply below_alloc | apply pw_below_drewN | apply below_drew1 | refine below_set ?_ GE342.out) | exact HB.out)
                                            have HB := HBm
                                            have HK1 := HKa
                                            have HK2 := HKb
                                            have H' := HJm
                                            have n0_ := Aside0.mk (Kd.S_elder' qB74 (Kd.S_base ho0) hb)
                                            have n1_ := Aside0.mk (Kd.S_lower (Kd.S_new' ho0 (Kd.S_lt qB74)) (below_size qB22))
                                            have n2_ := Aside0.mk (blk_below (g := gb363) (o := .cells #[.int .i64 0, .slice none 0 0] 43 (0, 0)) qB45 hb)
                                            have n3_ := Aside0.mk (below_step qB22 hb)
                                            clear HO_7
                                            clear BK363
                                            clear HB
                                            have HO_7 := n0_
                                            have HO379 := n1_
                                            have BK363 := n2_
                                            have HB := n3_
                                            clear n0_ n1_ n2_ n3_
                                            (try clear hb)
                                            (try clear hb2)
                                            (try clear hk)
                                            (try clear hi)
                                            (try clear ho0)
                                            go_wp2
                                            (first | go_roundg k2 | ((try simp only [add_plain] at *); go_roundg k2))
                                            case measure => have := HK1.out; have := HK2.out; omega
                                            case rel => exact ⟨(t377), (wrap64 (x47_2 + 1)), qB83, H', ⟨by have := HK1.out; have := HK2.out; omega⟩, ⟨by (try simp only [hl7_1]); (with_reducible repeat (first | apply Kd.S_alloc | apply Kd.S_drewN | apply Kd.S_drew)); exact Kd.S_mono HO379.out (fun _ hk => trivial)⟩, ⟨by (try simp only [hl7_1]); (with_reducible repeat (first | refine blk_drewN ?_ _ | refine blk_drew ?_ | refine blk_alloc ?_ _)); exact BK363.out⟩, ⟨by repeat (first | (with_reducible first | exact HB.out | apply below_alloc | apply pw_below_drewN | apply below_drew1 | refine below_set ?_ GE363.out) | exact HB.out)⟩⟩
                              · rw [if_neg c9] at H
                                exact absurd H (by simp)
                            · rw [if_neg c8] at H
                              exact absurd H (by simp)
                          · rw [if_neg c7] at H
                            exact absurd H (by simp)
                        · rw [if_neg c6] at H
                          exact absurd H (by simp)

                      · rw [if_neg c25] at H
                        have c25b0 : decide (x47_2 < (l0.length : Int)) = false := decide_eq_false c25
                        have c25b0_0 := c25b0
                        (try rw [hl7_1] at c25b0_0)
                        clear c25
                        by_cases c29 : 0 ≤ a1
                        · rw [if_pos c29] at H
                          have c29b0 : decide (0 ≤ a1) = true := decide_eq_true c29
                          clear c29
                          by_cases c30 : a1 < (x7_2.length : Int)
                          · rw [if_pos c30] at H
                            have c30b0 : decide (a1 < (x7_2.length : Int)) = true := decide_eq_true c30
                            clear c30
                            replace H := Option.bind_eq_some_iff.mp H
                            obtain ⟨t381, A310, H⟩ := H
                            replace H : (some (((rd_T33 l0 0).f1), t381)) = some (r1, r2) := H
                            have A31 := Aside0.mk A310
                            clear A310
                            simp only [Option.some.injEq, Prod.mk.injEq] at H
                            obtain ⟨rfl, rfl⟩ := H
                            obtain ⟨Ao32, co32, eo32⟩ := Kd.S_slice HO_7.out
                            subst eo32
                            have p380 : 0 ≤ (a1 : Int) := of_decide_eq_true qB82
                            have q380 : a1 < (x7_2.length : Int) := of_decide_eq_true qB82
                            obtain ⟨ad380, A380_0, c380_0, e380, hx380_0, hl380_0, hi380_0⟩ := at_L2 (Kd.S_reads' HO_7.out).2.2 a1 p380 q380
                            cases e380
                            obtain ⟨ce380, hce380, hMe380, hcc380⟩ := Kd.S_get HO_7.out [] a1 p380 (by first | exact q380 | exact of_decide_eq_true qB82 | (have e_ := (Kd.S_reads' HO_7.out).1; omega))
                            obtain ⟨ve380_0, rfl, ge380_0⟩ := hMe380
                            have hv380_0 := hcc380 0 _ rfl
                            rw [Nat.add_zero, show ((Kd.slice 2 (Kd.int .i64))).sz = 1 from rfl, Nat.mul_one] at hv380_0
                            replace hv380_0 := Option.some.inj (hv380_0.symm.trans hx380_0)
                            rw [hv380_0] at ge380_0
                            have HL380_0 := Aside0.mk (show Kd.R (Kd.int .i64) 2 _ _ _ _ (rd_L2 x7_2 a1) from ge380_0)
                            clear hv380_0 ge380_0
                            have HX380_0 := Aside0.mk hx380_0
                            clear hcc380 hce380
                            have HR380_0 := Aside0.mk hi380_0
                            have HC380_0 := Aside0.mk hl380_0
                            clear hi380_0 hl380_0
                            replace p380 := eq_true p380
                            replace q380 := eq_true q380
                            go_wp2_with (first | (go_at_call 72; (with_reducible refine (impl_counted.calls k2 ((rd_T33 l0 0).f1) _ _ (rd_L2 x7_2 a1) t381 _ ?side1 ?side2 A31.out).mono ?_); (case side1 => repeat (first | exact qB11 | (with_reducible refine Kd.C_alloc ?_ _) | (with_reducible refine Kd.C_drewN ?_ _) | (with_reducible refine Kd.C_drew ?_))); (case side2 => exact HC380_0.out); rintro e w33 ⟨v382, rfl, ho0, hb⟩; have n0_ := Aside0.mk (Kd.S_elder' qB74 (Kd.R_base ho0) hb); have n1_ := Aside0.mk (Kd.R_elder' qB54 (Kd.R_base ho0) hb); have n2_ := Aside0.mk (Kd.R_lower (Kd.R_new' ho0 (Kd.R_lt qB54)) (below_size qB22)); have n3_ := Aside0.mk (blk_below (g := gb363) (o := .cells #[.int .i64 0, .slice none 0 0] 43 (0, 0)) qB45 hb); have n4_ := Aside0.mk (Kd.C_below qB11 hb); have n5_ := Aside0.mk (pw_cell_below hb HX380_0.out); have n6_ := Aside0.mk (below_step qB22 hb); clear HO_7; clear HL380_0; clear BK363; clear HR380_0; clear HX380_0; clear HB; have HO_7 := n0_; have HL380_0 := n1_; have HO383 := n2_; have BK363 := n3_; have HR380_0 := n4_; have HX380_0 := n5_; have HB := n6_; clear n0_ n1_ n2_ n3_ n4_ n5_ n6_; (try clear hb); (try clear hb2); (try clear hk); (try clear hi); (try clear ho0); obtain ⟨Ao34, co34, eo34⟩ := Kd.R_slice HO383.out; subst eo34; have hcz35_0 : w33.cell? ⟨gb363, 0, none⟩ = some (.int .i64 0) := (blk_cell BK363.out 0).trans rfl; have hcz35_1 : w33.cell? ⟨gb363, 1, none⟩ = some (.slice none 0 0) := (blk_cell BK363.out 1).trans rfl; have hfz35_0 := blk_frozen BK363.out 0; have hfz35_1 := blk_frozen BK363.out 1))
                            repeat (go_quiet (first | (go_at_call 72; (with_reducible refine (impl_counted.calls k2 ((rd_T33 l0 0).f1) _ _ (rd_L2 x7_2 a1) t381 _ ?side1 ?side2 A31.out).mono ?_); (case side1 => repeat (first | exact qB11 | (with_reducible refine Kd.C_alloc ?_ _) | (with_reducible refine Kd.C_drewN ?_ _) | (with_reducible refine Kd.C_drew ?_))); (case side2 => exact HC380_0.out); rintro e w33 ⟨v382, rfl, ho0, hb⟩; have n0_ := Aside0.mk (Kd.S_elder' qB74 (Kd.R_base ho0) hb); have n1_ := Aside0.mk (Kd.R_elder' qB54 (Kd.R_base ho0) hb); have n2_ := Aside0.mk (Kd.R_lower (Kd.R_new' ho0 (Kd.R_lt qB54)) (below_size qB22)); have n3_ := Aside0.mk (blk_below (g := gb363) (o := .cells #[.int .i64 0, .slice none 0 0] 43 (0, 0)) qB45 hb); have n4_ := Aside0.mk (Kd.C_below qB11 hb); have n5_ := Aside0.mk (pw_cell_below hb HX380_0.out); have n6_ := Aside0.mk (below_step qB22 hb); clear HO_7; clear HL380_0; clear BK363; clear HR380_0; clear HX380_0; clear HB; have HO_7 := n0_; have HL380_0 := n1_; have HO383 := n2_; have BK363 := n3_; have HR380_0 := n4_; have HX380_0 := n5_; have HB := n6_; clear n0_ n1_ n2_ n3_ n4_ n5_ n6_; (try clear hb); (try clear hb2); (try clear hk); (try clear hi); (try clear ho0); obtain ⟨Ao34, co34, eo34⟩ := Kd.R_slice HO383.out; subst eo34; have hcz35_0 : w33.cell? ⟨gb363, 0, none⟩ = some (.int .i64 0) := (blk_cell BK363.out 0).trans rfl; have hcz35_1 : w33.cell? ⟨gb363, 1, none⟩ = some (.slice none 0 0) := (blk_cell BK363.out 1).trans rfl; have hfz35_0 := blk_frozen BK363.out 0; have hfz35_1 := blk_frozen BK363.out 1)); try go_wp2_with (first | (go_at_call 72; (with_reducible refine (impl_counted.calls k2 ((rd_T33 l0 0).f1) _ _ (rd_L2 x7_2 a1) t381 _ ?side1 ?side2 A31.out).mono ?_); (case side1 => repeat (first | exact qB11 | (with_reducible refine Kd.C_alloc ?_ _) | (with_reducible refine Kd.C_drewN ?_ _) | (with_reducible refine Kd.C_drew ?_))); (case side2 => exact HC380_0.out); rintro e w33 ⟨v382, rfl, ho0, hb⟩; have n0_ := Aside0.mk (Kd.S_elder' qB74 (Kd.R_base ho0) hb); have n1_ := Aside0.mk (Kd.R_elder' qB54 (Kd.R_base ho0) hb); have n2_ := Aside0.mk (Kd.R_lower (Kd.R_new' ho0 (Kd.R_lt qB54)) (below_size qB22)); have n3_ := Aside0.mk (blk_below (g := gb363) (o := .cells #[.int .i64 0, .slice none 0 0] 43 (0, 0)) qB45 hb); have n4_ := Aside0.mk (Kd.C_below qB11 hb); have n5_ := Aside0.mk (pw_cell_below hb HX380_0.out); have n6_ := Aside0.mk (below_step qB22 hb); clear HO_7; clear HL380_0; clear BK363; clear HR380_0; clear HX380_0; clear HB; have HO_7 := n0_; have HL380_0 := n1_; have HO383 := n2_; have BK363 := n3_; have HR380_0 := n4_; have HX380_0 := n5_; have HB := n6_; clear n0_ n1_ n2_ n3_ n4_ n5_ n6_; (try clear hb); (try clear hb2); (try clear hk); (try clear hi); (try clear ho0); obtain ⟨Ao34, co34, eo34⟩ := Kd.R_slice HO383.out; subst eo34; have hcz35_0 : w33.cell? ⟨gb363, 0, none⟩ = some (.int .i64 0) := (blk_cell BK363.out 0).trans rfl; have hcz35_1 : w33.cell? ⟨gb363, 1, none⟩ = some (.slice none 0 0) := (blk_cell BK363.out 1).trans rfl; have hfz35_0 := blk_frozen BK363.out 0; have hfz35_1 := blk_frozen BK363.out 1)))
                            refine bodyPost_ret (results_cell_row rfl _ _ gb363 43 #[.int .i64 ((rd_T33 l0 0).f1), .slice Ao34 t381.length co34] (0, 0) _ rfl (by (with_reducible repeat (first | refine blk_drewN ?_ _ | refine blk_drew ?_ | refine blk_alloc ?_ _)); refine blk_put (cs := #[.int .i64 ((rd_T33 l0 0).f1), .slice none 0 0]) ?_ 1 _ rfl; (with_reducible repeat (first | refine blk_drewN ?_ _ | refine blk_drew ?_ | refine blk_alloc ?_ _)); refine blk_put (cs := #[.int .i64 0, .slice none 0 0]) ?_ 0 _ rfl; (with_reducible repeat (first | refine blk_drewN ?_ _ | refine blk_drew ?_ | refine blk_alloc ?_ _)); exact BK363.out) Try.underlying43 rfl (by kernel_rfl)) rfl ?_
                            exact ⟨_, by first | rfl | (simp [errW_none, errW_some] <;> rfl) | (simp [*, errW_none, errW_some] <;> rfl), by (with_reducible repeat (first | apply Kd.R_alloc | apply Kd.R_drewN | apply Kd.R_drew)); exact Kd.R_mono (Kd.R_far (p := ⟨gb363, 1, none⟩) (Kd.R_far (p := ⟨gb363, 0, none⟩) (Kd.R_types HO383.out BK363.out (by decide)) (fun _ hk => hk.2) (.int .i64 ((rd_T33 l0 0).f1))) (fun _ hk => hk.2) (.slice Ao34 t381.length co34)) (fun _ hk => trivial), by repeat (first | (with_reducible first | exact HB.out | apply below_alloc | apply pw_below_drewN | apply below_drew1 | refine below_set ?_ GE363.out) | exact HB.out)⟩
                          · rw [if_neg c30] at H
                            exact absurd H (by simp)
                        · rw [if_neg c29] at H
                          exact absurd H (by simp)
                · rw [if_neg c21] at H
                  exact absurd H (by simp)
              · rw [if_neg c20] at H
                exact absurd H (by simp)
      · rw [if_neg c5] at H
        exact absurd H (by simp)
    · rw [if_neg c4] at H
      exact absurd H (by simp)
  · rw [if_neg c3] at H
    exact absurd H (by simp)

end Go.Proofs.Ythdpdiahkphklab.PFnExactJacobiRow
