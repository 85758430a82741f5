/- The functions that the law reaches, as plain functions, each with the proof that the program comes to it; no condition. Written by a program of this session (wip/mp.py) over the printing of the kit; what is marked HAND is told by hand. -/
import Derived.Test.YthdpdiahkphklabPFnExactJacobiRowx0
import Derived.Test.YthdpdiahkphklabPFnExactJacobiRowx1
import Derived.Test.YthdpdiahkphklabPFnExactJacobiRowx3
namespace Go.Proofs.Ythdpdiahkphklab.PFnExactJacobiRow
open Go.RowKit Go.Proofs.YthdpdiahkphklabW.PrintWords Go.Proofs.YthdpdiahkphklabW.PrintLast Go.Proofs.YthdpdiahkphklabW.PrintMore
attribute [local go_sem] max2_int min2_int max_two min_two max_three min_three max_four min_four   -- for this text's walks alone
set_option linter.unusedVariables false
set_option linter.unusedSimpArgs false

/-! ### spec_l04Sum: function 50 -/
mutual
def spec_l04Sum.l0 : Nat → List (S33) → Int → Int → Int → List (List Int) → Int → Option (Int × List Int)
  | 0, _, _, _, _, _, _ => none
  | k + 1, x0, x1, x5, x6, x7, x8 => if x8 < x5 then (if 0 ≤ x6 then (if (x6 : Int).toNat ≤ 35184372088832 then (if x7.length < 5864062014805 then (spec_l04Sum.l0 k x0 x1 x5 x6 (x7 ++ [(List.replicate (x6 : Int).toNat 0)]) (wrap64 (x8 + 1))) else (none)) else (none)) else (none)) else (if 0 < (x7.length : Int) then (if 0 < ((rd_L2 x7 0).length : Int) then (spec_l04Sum.l1 k x0 x1 x5 x6 (x7.set (0 : Int).toNat ((rd_L2 x7 0).set (0 : Int).toNat 1)) 0) else (none)) else (none))
def spec_l04Sum.l1 : Nat → List (S33) → Int → Int → Int → List (List Int) → Int → Option (Int × List Int)
  | 0, _, _, _, _, _, _ => none
  | k + 1, x0, x1, x5, x6, x7, x10 => if x10 < (x0.length : Int) then ((spec_l04Sum_body.f k x0 x10 x7 x5 x6).bind fun t194 => (spec_l04Sum.l1 k x0 x1 x5 x6 t194 (wrap64 (x10 + 1)))) else (if 0 ≤ x1 then (if x1 < (x7.length : Int) then ((spec_l01Reduce.f k x6 (rd_L2 x7 x1)).bind fun bt198 => (some (bt198.1, bt198.2))) else (none)) else (none))
end
def spec_l04Sum.f (k : Nat) (l0 : List (S33)) (a1 : Int) : Option (Int × List Int) := if 0 < (l0.length : Int) then (spec_l04Sum.l0 k l0 a1 ((rd_T33 l0 0).f0) ((rd_T33 l0 0).f1) (([] : List (List Int))) 0) else (none)
theorem spec_l04Sum.mono_l : ∀ k, (∀ y0 y1 y2 y3 y4 y5, LeO (spec_l04Sum.l0 k y0 y1 y2 y3 y4 y5) (spec_l04Sum.l0 (k + 1) y0 y1 y2 y3 y4 y5)) ∧ (∀ y0 y1 y2 y3 y4 y5, LeO (spec_l04Sum.l1 k y0 y1 y2 y3 y4 y5) (spec_l04Sum.l1 (k + 1) y0 y1 y2 y3 y4 y5))
  | 0 => ⟨fun _ _ _ _ _ _ r h => by simp [spec_l04Sum.l0] at h, fun _ _ _ _ _ _ r h => by simp [spec_l04Sum.l1] at h⟩
  | k + 1 => by
    obtain ⟨ih0, ih1⟩ := spec_l04Sum.mono_l k
    refine ⟨?_, ?_⟩
    · intro y0 y1 y2 y3 y4 y5
      unfold spec_l04Sum.l0
      repeat' first
      | (with_reducible exact ih0 _ _ _ _ _ _)
      | (with_reducible exact ih1 _ _ _ _ _ _)
      | (with_reducible exact spec_l01Reduce.mono _ _ _)
      | (with_reducible exact spec_l04Sum_body.mono _ _ _ _ _ _)
      | (with_reducible exact LeO.refl _)
      | (with_reducible exact LeO.none _)
      | (with_reducible refine LeO.ite ?_ ?_)
      | (with_reducible refine LeO.bind ?_ (fun _ => ?_))
      | exact ih0 _ _ _ _ _ _
      | exact ih1 _ _ _ _ _ _
      | exact spec_l01Reduce.mono _ _ _
      | exact spec_l04Sum_body.mono _ _ _ _ _ _
      | exact LeO.none _
      | refine LeO.ite ?_ ?_
      | refine LeO.bind ?_ (fun _ => ?_)
    · intro y0 y1 y2 y3 y4 y5
      unfold spec_l04Sum.l1
      repeat' first
      | (with_reducible exact ih0 _ _ _ _ _ _)
      | (with_reducible exact ih1 _ _ _ _ _ _)
      | (with_reducible exact spec_l01Reduce.mono _ _ _)
      | (with_reducible exact spec_l04Sum_body.mono _ _ _ _ _ _)
      | (with_reducible exact LeO.refl _)
      | (with_reducible exact LeO.none _)
      | (with_reducible refine LeO.ite ?_ ?_)
      | (with_reducible refine LeO.bind ?_ (fun _ => ?_))
      | exact ih0 _ _ _ _ _ _
      | exact ih1 _ _ _ _ _ _
      | exact spec_l01Reduce.mono _ _ _
      | exact spec_l04Sum_body.mono _ _ _ _ _ _
      | exact LeO.none _
      | refine LeO.ite ?_ ?_
      | refine LeO.bind ?_ (fun _ => ?_)
theorem spec_l04Sum.mono : ∀ a0 a1 k, LeO (spec_l04Sum.f k a0 a1) (spec_l04Sum.f (k + 1) a0 a1) := by
  intro a0 a1 k
  obtain ⟨ih0, ih1⟩ := spec_l04Sum.mono_l k
  unfold spec_l04Sum.f
  repeat' first
      | (with_reducible exact ih0 _ _ _ _ _ _)
      | (with_reducible exact ih1 _ _ _ _ _ _)
      | (with_reducible exact spec_l01Reduce.mono _ _ _)
      | (with_reducible exact spec_l04Sum_body.mono _ _ _ _ _ _)
      | (with_reducible exact LeO.refl _)
      | (with_reducible exact LeO.none _)
      | (with_reducible refine LeO.ite ?_ ?_)
      | (with_reducible refine LeO.bind ?_ (fun _ => ?_))
      | exact ih0 _ _ _ _ _ _
      | exact ih1 _ _ _ _ _ _
      | exact spec_l01Reduce.mono _ _ _
      | exact spec_l04Sum_body.mono _ _ _ _ _ _
      | exact LeO.none _
      | refine LeO.ite ?_ ?_
      | refine LeO.bind ?_ (fun _ => ?_)
-- HAND
set_option maxHeartbeats 8000000 in
set_option maxRecDepth 100000 in
theorem spec_l04Sum.calls (k : Nat) (A0 : Option Addr) (c0 : Nat) (l0 : List (S33)) (a1 : Int) (r1 : Int) (r2 : List Int) (w : World) (hr0 : Kd.C k33 w A0 l0.length l0) (hc0 : l0.length ≤ c0) (h : spec_l04Sum.f k l0 a1 = some (r1, r2)) :
    Calls Try.prog 50 #[.slice A0 l0.length c0, .int .i64 a1] w fun e w' => ∃ v1_ : Value, e = .returned (.agg #[.int .i64 r1, v1_]) ∧ Kd.R (Kd.int .i64) 2 w' w.heap.size (fun _ => True) v1_ r2 ∧ Below w.heap.size w w' := by
  have hu43 := Try.underlying43
  have HR0 := Aside0.mk hr0
  have HC0 := Aside0.mk hc0
  clear hr0 hc0
  have HB := Aside0.mk (Below.refl w.heap.size w)
  have H : (if 0 < (l0.length : Int) then (spec_l04Sum.l0 k l0 a1 ((rd_T33 l0 0).f0) ((rd_T33 l0 0).f1) (([] : List (List Int))) 0) else (none)) = some (r1, r2) := h
  clear h
  by_cases c3 : 0 < (l0.length : Int)
  · rw [if_pos c3] at H
    have c3b0 : decide (0 < (l0.length : Int)) = true := decide_eq_true c3
    have c3b1 : decide (0 < l0.length) = true := decide_eq_true (by omega)
    clear c3
    obtain ⟨y181, hy181⟩ : ∃ y_ : List (List Int), y_ = (([] : List (List Int))) := ⟨_, rfl⟩
    replace H : (spec_l04Sum.l0 k l0 a1 ((rd_T33 l0 0).f0) ((rd_T33 l0 0).f1) y181 0) = some (r1, r2) := by first | (rw [hy181]; with_reducible exact H) | (have H2_ := (Option.bind_some _ _).symm.trans H; rw [hy181]; with_reducible exact H2_) | (have H2_ := (Option.bind_some _ _).symm.trans H; with_reducible exact H2_) | with_reducible exact H | (rw [hy181]; exact H) | exact H
    have Ny181 := Aside0.mk hy181
    clear hy181
    have H' := Aside0.mk H
    clear H
    go_enter Try.func50, Try.ntmps50
    go_wp2_with (first | ((with_reducible refine gate_dst (N := 4) rfl ?_); refine box_event ?hg (N := 4) ?hd (cs := #[.int .i64 0, .slice none 0 0]) (t := 43) ?hr ?_; (case hd => rfl); (case hg => rfl); (case hr => first | (go_simp; done) | (go_simp; rfl)); intro gb178 hg w4 hbox hb; have n0_ := Aside0.mk (below_step qB33 hb); have n1_ := Aside0.mk (hbox); have n2_ := Aside0.mk ((by rw [hg]; exact (below_size qB33) : w.heap.size ≤ gb178)); have n3_ := Aside0.mk ((by rw [hg]; exact (below_size qB33) : w.heap.size ≤ gb178)); clear HB; have HB := n0_; have BK178 := n1_; have GW178 := n2_; have GE178 := n3_; clear n0_ n1_ n2_ n3_; clear hb hbox hg; have p179 : 0 ≤ (0 : Int) := (by omega); have q179 : 0 < (l0.length : Int) := of_decide_eq_true qB82; obtain ⟨ad179, e179, hx179_0, hx179_1, hx179_2⟩ := at_T33 HR0.out 0 p179 q179; cases e179; have qi179 : (0 < l0.length) = True := eq_true (by omega); (try rw [show ((0 : Int)).toNat = 0 from rfl] at hx179_0); (try rw [show 0 * 3 = 0 from rfl] at hx179_0); (try rw [Addr.add_zero'] at hx179_0); (try rw [show ((0 : Int)).toNat = 0 from rfl] at hx179_1); (try rw [show 0 * 3 = 0 from rfl] at hx179_1); (try rw [Addr.add_zero'] at hx179_1); (try rw [show ((0 : Int)).toNat = 0 from rfl] at hx179_2); (try rw [show 0 * 3 = 0 from rfl] at hx179_2); (try rw [Addr.add_zero'] at hx179_2); replace hx179_0 := (HB.out.cell (World.block_lt_of_cell? w _ hx179_0)).trans hx179_0; replace hx179_1 := (HB.out.cell (World.block_lt_of_cell? w _ hx179_1)).trans hx179_1; replace hx179_2 := (HB.out.cell (World.block_lt_of_cell? w _ hx179_2)).trans hx179_2; replace p179 := eq_true p179; replace q179 := eq_true q179; have p180 : 0 ≤ (0 : Int) := (by omega); have q180 : 0 < (l0.length : Int) := of_decide_eq_true qB82; obtain ⟨ad180, e180, hx180_0, hx180_1, hx180_2⟩ := at_T33 HR0.out 0 p180 q180; obtain rfl : ad179 = ad180 := (by injection e180); have qi180 : (0 < l0.length) = True := eq_true (by omega); (try rw [show ((0 : Int)).toNat = 0 from rfl] at hx180_0); (try rw [show 0 * 3 = 0 from rfl] at hx180_0); (try rw [Addr.add_zero'] at hx180_0); (try rw [show ((0 : Int)).toNat = 0 from rfl] at hx180_1); (try rw [show 0 * 3 = 0 from rfl] at hx180_1); (try rw [Addr.add_zero'] at hx180_1); (try rw [show ((0 : Int)).toNat = 0 from rfl] at hx180_2); (try rw [show 0 * 3 = 0 from rfl] at hx180_2); (try rw [Addr.add_zero'] at hx180_2); replace hx180_0 := (HB.out.cell (World.block_lt_of_cell? w _ hx180_0)).trans hx180_0; replace hx180_1 := (HB.out.cell (World.block_lt_of_cell? w _ hx180_1)).trans hx180_1; replace hx180_2 := (HB.out.cell (World.block_lt_of_cell? w _ hx180_2)).trans hx180_2; replace p180 := eq_true p180; replace q180 := eq_true q180) | ((with_reducible refine gate_dst (N := 26) rfl ?_); refine Kd.S_lit (Kd.slice 2 (Kd.int .i64)) _ 22 ?hg (N := 26) ?hd (xs := ([] : List (List Int))) (inner := []) (ok := fun _ => True) (okp := fun _ => True) ?hr ?hp (fun _ hk => hk) trivial (Below.refl _ _) (Nat.le_refl _) (by simp) ?_; (case hd => rfl); (case hg => rfl); (case hr => first | (go_simp; done) | (go_simp; rfl)); (case hp => exact (Reps.none _ _)); intro v182 w5 ho6 hb hg_ hnew_; clear hg_ hnew_; (first | rw [← Ny181.out] at ho6 | (simp only [Int.reduceToNat] at ho6; rw [← Ny181.out] at ho6)); have n0_ := Aside0.mk (Kd.S_lower ho6 (below_size qB15)); have n1_ := Aside0.mk (blk_below (g := gb178) (o := .cells #[.int .i64 0, .slice none 0 0] 43 (0, 0)) qB36 hb); have n2_ := Aside0.mk (below_step qB15 hb); clear BK178; clear HB; have HO183 := n0_; have BK178 := n1_; have HB := n2_; clear n0_ n1_ n2_; clear hb ho6))
    repeat (go_quiet (first | ((with_reducible refine gate_dst (N := 4) rfl ?_); refine box_event ?hg (N := 4) ?hd (cs := #[.int .i64 0, .slice none 0 0]) (t := 43) ?hr ?_; (case hd => rfl); (case hg => rfl); (case hr => first | (go_simp; done) | (go_simp; rfl)); intro gb178 hg w4 hbox hb; have n0_ := Aside0.mk (below_step qB33 hb); have n1_ := Aside0.mk (hbox); have n2_ := Aside0.mk ((by rw [hg]; exact (below_size qB33) : w.heap.size ≤ gb178)); have n3_ := Aside0.mk ((by rw [hg]; exact (below_size qB33) : w.heap.size ≤ gb178)); clear HB; have HB := n0_; have BK178 := n1_; have GW178 := n2_; have GE178 := n3_; clear n0_ n1_ n2_ n3_; clear hb hbox hg; have p179 : 0 ≤ (0 : Int) := (by omega); have q179 : 0 < (l0.length : Int) := of_decide_eq_true qB82; obtain ⟨ad179, e179, hx179_0, hx179_1, hx179_2⟩ := at_T33 HR0.out 0 p179 q179; cases e179; have qi179 : (0 < l0.length) = True := eq_true (by omega); (try rw [show ((0 : Int)).toNat = 0 from rfl] at hx179_0); (try rw [show 0 * 3 = 0 from rfl] at hx179_0); (try rw [Addr.add_zero'] at hx179_0); (try rw [show ((0 : Int)).toNat = 0 from rfl] at hx179_1); (try rw [show 0 * 3 = 0 from rfl] at hx179_1); (try rw [Addr.add_zero'] at hx179_1); (try rw [show ((0 : Int)).toNat = 0 from rfl] at hx179_2); (try rw [show 0 * 3 = 0 from rfl] at hx179_2); (try rw [Addr.add_zero'] at hx179_2); replace hx179_0 := (HB.out.cell (World.block_lt_of_cell? w _ hx179_0)).trans hx179_0; replace hx179_1 := (HB.out.cell (World.block_lt_of_cell? w _ hx179_1)).trans hx179_1; replace hx179_2 := (HB.out.cell (World.block_lt_of_cell? w _ hx179_2)).trans hx179_2; replace p179 := eq_true p179; replace q179 := eq_true q179; have p180 : 0 ≤ (0 : Int) := (by omega); have q180 : 0 < (l0.length : Int) := of_decide_eq_true qB82; obtain ⟨ad180, e180, hx180_0, hx180_1, hx180_2⟩ := at_T33 HR0.out 0 p180 q180; obtain rfl : ad179 = ad180 := (by injection e180); have qi180 : (0 < l0.length) = True := eq_true (by omega); (try rw [show ((0 : Int)).toNat = 0 from rfl] at hx180_0); (try rw [show 0 * 3 = 0 from rfl] at hx180_0); (try rw [Addr.add_zero'] at hx180_0); (try rw [show ((0 : Int)).toNat = 0 from rfl] at hx180_1); (try rw [show 0 * 3 = 0 from rfl] at hx180_1); (try rw [Addr.add_zero'] at hx180_1); (try rw [show ((0 : Int)).toNat = 0 from rfl] at hx180_2); (try rw [show 0 * 3 = 0 from rfl] at hx180_2); (try rw [Addr.add_zero'] at hx180_2); replace hx180_0 := (HB.out.cell (World.block_lt_of_cell? w _ hx180_0)).trans hx180_0; replace hx180_1 := (HB.out.cell (World.block_lt_of_cell? w _ hx180_1)).trans hx180_1; replace hx180_2 := (HB.out.cell (World.block_lt_of_cell? w _ hx180_2)).trans hx180_2; replace p180 := eq_true p180; replace q180 := eq_true q180) | ((with_reducible refine gate_dst (N := 26) rfl ?_); refine Kd.S_lit (Kd.slice 2 (Kd.int .i64)) _ 22 ?hg (N := 26) ?hd (xs := ([] : List (List Int))) (inner := []) (ok := fun _ => True) (okp := fun _ => True) ?hr ?hp (fun _ hk => hk) trivial (Below.refl _ _) (Nat.le_refl _) (by simp) ?_; (case hd => rfl); (case hg => rfl); (case hr => first | (go_simp; done) | (go_simp; rfl)); (case hp => exact (Reps.none _ _)); intro v182 w5 ho6 hb hg_ hnew_; clear hg_ hnew_; (first | rw [← Ny181.out] at ho6 | (simp only [Int.reduceToNat] at ho6; rw [← Ny181.out] at ho6)); have n0_ := Aside0.mk (Kd.S_lower ho6 (below_size qB15)); have n1_ := Aside0.mk (blk_below (g := gb178) (o := .cells #[.int .i64 0, .slice none 0 0] 43 (0, 0)) qB36 hb); have n2_ := Aside0.mk (below_step qB15 hb); clear BK178; clear HB; have HO183 := n0_; have BK178 := n1_; have HB := n2_; clear n0_ n1_ n2_; clear hb ho6)); try go_wp2_with (first | ((with_reducible refine gate_dst (N := 4) rfl ?_); refine box_event ?hg (N := 4) ?hd (cs := #[.int .i64 0, .slice none 0 0]) (t := 43) ?hr ?_; (case hd => rfl); (case hg => rfl); (case hr => first | (go_simp; done) | (go_simp; rfl)); intro gb178 hg w4 hbox hb; have n0_ := Aside0.mk (below_step qB33 hb); have n1_ := Aside0.mk (hbox); have n2_ := Aside0.mk ((by rw [hg]; exact (below_size qB33) : w.heap.size ≤ gb178)); have n3_ := Aside0.mk ((by rw [hg]; exact (below_size qB33) : w.heap.size ≤ gb178)); clear HB; have HB := n0_; have BK178 := n1_; have GW178 := n2_; have GE178 := n3_; clear n0_ n1_ n2_ n3_; clear hb hbox hg; have p179 : 0 ≤ (0 : Int) := (by omega); have q179 : 0 < (l0.length : Int) := of_decide_eq_true qB82; obtain ⟨ad179, e179, hx179_0, hx179_1, hx179_2⟩ := at_T33 HR0.out 0 p179 q179; cases e179; have qi179 : (0 < l0.length) = True := eq_true (by omega); (try rw [show ((0 : Int)).toNat = 0 from rfl] at hx179_0); (try rw [show 0 * 3 = 0 from rfl] at hx179_0); (try rw [Addr.add_zero'] at hx179_0); (try rw [show ((0 : Int)).toNat = 0 from rfl] at hx179_1); (try rw [show 0 * 3 = 0 from rfl] at hx179_1); (try rw [Addr.add_zero'] at hx179_1); (try rw [show ((0 : Int)).toNat = 0 from rfl] at hx179_2); (try rw [show 0 * 3 = 0 from rfl] at hx179_2); (try rw [Addr.add_zero'] at hx179_2); replace hx179_0 := (HB.out.cell (World.block_lt_of_cell? w _ hx179_0)).trans hx179_0; replace hx179_1 := (HB.out.cell (World.block_lt_of_cell? w _ hx179_1)).trans hx179_1; replace hx179_2 := (HB.out.cell (World.block_lt_of_cell? w _ hx179_2)).trans hx179_2; replace p179 := eq_true p179; replace q179 := eq_true q179; have p180 : 0 ≤ (0 : Int) := (by omega); have q180 : 0 < (l0.length : Int) := of_decide_eq_true qB82; obtain ⟨ad180, e180, hx180_0, hx180_1, hx180_2⟩ := at_T33 HR0.out 0 p180 q180; obtain rfl : ad179 = ad180 := (by injection e180); have qi180 : (0 < l0.length) = True := eq_true (by omega); (try rw [show ((0 : Int)).toNat = 0 from rfl] at hx180_0); (try rw [show 0 * 3 = 0 from rfl] at hx180_0); (try rw [Addr.add_zero'] at hx180_0); (try rw [show ((0 : Int)).toNat = 0 from rfl] at hx180_1); (try rw [show 0 * 3 = 0 from rfl] at hx180_1); (try rw [Addr.add_zero'] at hx180_1); (try rw [show ((0 : Int)).toNat = 0 from rfl] at hx180_2); (try rw [show 0 * 3 = 0 from rfl] at hx180_2); (try rw [Addr.add_zero'] at hx180_2); replace hx180_0 := (HB.out.cell (World.block_lt_of_cell? w _ hx180_0)).trans hx180_0; replace hx180_1 := (HB.out.cell (World.block_lt_of_cell? w _ hx180_1)).trans hx180_1; replace hx180_2 := (HB.out.cell (World.block_lt_of_cell? w _ hx180_2)).trans hx180_2; replace p180 := eq_true p180; replace q180 := eq_true q180) | ((with_reducible refine gate_dst (N := 26) rfl ?_); refine Kd.S_lit (Kd.slice 2 (Kd.int .i64)) _ 22 ?hg (N := 26) ?hd (xs := ([] : List (List Int))) (inner := []) (ok := fun _ => True) (okp := fun _ => True) ?hr ?hp (fun _ hk => hk) trivial (Below.refl _ _) (Nat.le_refl _) (by simp) ?_; (case hd => rfl); (case hg => rfl); (case hr => first | (go_simp; done) | (go_simp; rfl)); (case hp => exact (Reps.none _ _)); intro v182 w5 ho6 hb hg_ hnew_; clear hg_ hnew_; (first | rw [← Ny181.out] at ho6 | (simp only [Int.reduceToNat] at ho6; rw [← Ny181.out] at ho6)); have n0_ := Aside0.mk (Kd.S_lower ho6 (below_size qB15)); have n1_ := Aside0.mk (blk_below (g := gb178) (o := .cells #[.int .i64 0, .slice none 0 0] 43 (0, 0)) qB36 hb); have n2_ := Aside0.mk (below_step qB15 hb); clear BK178; clear HB; have HO183 := n0_; have BK178 := n1_; have HB := n2_; clear n0_ n1_ n2_; clear hb ho6)))
    try simp only [Act.put, List.setIfInBounds_toArray, List.set_cons_succ, List.set_cons_zero]
    go_loopg [7, 8] k (fun kq v7 v8 w' => ∃ (x7_1 : List (List Int)) (x8_1 : Int), v8 = .int .i64 x8_1 ∧ Aside0 (spec_l04Sum.l0 kq l0 a1 ((rd_T33 l0 0).f0) ((rd_T33 l0 0).f1) x7_1 x8_1 = some (r1, r2)) ∧ Aside0 (kq ≤ k) ∧ Aside0 (Kd.S (Kd.slice 2 (Kd.int .i64)) 22 w' w.heap.size (fun _ => True) v7 x7_1) ∧ Aside0 (w'.heap[gb178]? = some (.cells #[.int .i64 0, (.slice none 0 0)] 43 (0, 0))) ∧ Aside0 (Below w.heap.size w w'))
    case atStart => exact ⟨(y181), (0), qB83, H', ⟨Nat.le_refl _⟩, ⟨by (with_reducible repeat (first | apply Kd.S_alloc | apply Kd.S_drewN | apply Kd.S_drew)); exact HO183.out⟩, ⟨by (with_reducible repeat (first | refine blk_drewN ?_ _ | refine blk_drew ?_ | refine blk_alloc ?_ _)); exact BK178.out⟩, ⟨by repeat (first | (with_reducible first | exact HB.out | apply below_alloc | apply pw_below_drewN | apply below_drew1 | refine below_set ?_ GE178.out) | exact HB.out)⟩⟩
    case round =>
      clear H'
      try clear p1
      try clear q1
      try clear hx1
      try clear qi1
      try clear p2
      try clear c3
      try clear c3b0
      try clear c3b1
      try clear c5
      try clear hx179_0
      try clear hx179_1
      try clear hx179_2
      try clear hx180_0
      try clear hx180_1
      try clear hx180_2
      try clear p179
      try clear p180
      try clear q179
      try clear q180
      obtain ⟨x7_1, x8_1, rfl, HA, HK1, HO_7, BK178, HB⟩ := hrel
      cases gk with
      | zero => exact absurd HA.out (by simp [spec_l04Sum.l0])
      | succ k1 =>
        have H := HA.out
        clear HA
        simp only [spec_l04Sum.l0] at H
        by_cases c7 : x8_1 < ((rd_T33 l0 0).f0)
        · rw [if_pos c7] at H
          have c7b0 : decide (x8_1 < ((rd_T33 l0 0).f0)) = true := decide_eq_true c7
          clear c7
          by_cases c8 : 0 ≤ ((rd_T33 l0 0).f1)
          · rw [if_pos c8] at H
            have c8b0 := eq_true c8
            have c8b1 : decide (0 ≤ ((rd_T33 l0 0).f1)) = true := decide_eq_true c8
            clear c8
            by_cases c9 : (((rd_T33 l0 0).f1) : Int).toNat ≤ 35184372088832
            · rw [if_pos c9] at H
              have c9b0 := eq_true c9
              have c9b1 : decide ((((rd_T33 l0 0).f1) : Int).toNat ≤ 35184372088832) = true := decide_eq_true c9
              clear c9
              obtain ⟨y184, hy184⟩ : ∃ y_ : List Int, y_ = (List.replicate (((rd_T33 l0 0).f1) : Int).toNat 0) := ⟨_, rfl⟩
              replace H : (if x7_1.length < 5864062014805 then (spec_l04Sum.l0 k1 l0 a1 ((rd_T33 l0 0).f0) ((rd_T33 l0 0).f1) (x7_1 ++ [y184]) (wrap64 (x8_1 + 1))) else (none)) = some (r1, r2) := by first | (rw [hy184]; with_reducible exact H) | (have H2_ := (Option.bind_some _ _).symm.trans H; rw [hy184]; with_reducible exact H2_) | (have H2_ := (Option.bind_some _ _).symm.trans H; with_reducible exact H2_) | with_reducible exact H | (rw [hy184]; exact H) | exact H
              have Ny184 := Aside0.mk hy184
              clear hy184
              by_cases c10 : x7_1.length < 5864062014805
              · rw [if_pos c10] at H
                have LMc10 := Aside0.mk c10
                clear c10
                obtain ⟨y187, hy187⟩ : ∃ y_ : List (List Int), y_ = (x7_1 ++ [y184]) := ⟨_, rfl⟩
                replace H : (spec_l04Sum.l0 k1 l0 a1 ((rd_T33 l0 0).f0) ((rd_T33 l0 0).f1) y187 (wrap64 (x8_1 + 1))) = some (r1, r2) := by first | (rw [hy187]; with_reducible exact H) | (have H2_ := (Option.bind_some _ _).symm.trans H; rw [hy187]; with_reducible exact H2_) | (have H2_ := (Option.bind_some _ _).symm.trans H; with_reducible exact H2_) | with_reducible exact H | (rw [hy187]; exact H) | exact H
                have Ny187 := Aside0.mk hy187
                clear hy187
                have H' := Aside0.mk H
                clear H
                go_wp2_with (first | ((with_reducible refine gate_dst (N := 34) rfl ?_); refine Kd.R_make (Kd.int .i64) _ 2 rfl (N := 34) rfl 22 _ _ rfl ((rd_T33 l0 0).f1) rfl rfl Try.underlying22 (.int .i64 0) 8 info2 rfl (by decide) (by omega) 0 (ok := fun _ => True) (okp := fun _ => True) rfl (fun _ hk => hk) trivial (of_decide_eq_true qB82) (Nat.le_trans (Nat.mul_le_mul_right _ (of_decide_eq_true qB82 : ((rd_T33 l0 0).f1).toNat ≤ 35184372088832)) (by omega)) (Below.refl _ _) (Nat.le_refl _) ?_; intro v185 w11 ho12 hb hg_ hnew_; clear hg_ hnew_; (first | rw [← Ny184.out] at ho12 | (simp only [Int.reduceToNat] at ho12; rw [← Ny184.out] at ho12)); have n0_ := Aside0.mk (Kd.S_elder' qB74 (Kd.R_base ho12) hb); have n1_ := Aside0.mk (Kd.R_lower ho12 (below_size qB15)); have n2_ := Aside0.mk (blk_below (g := gb178) (o := .cells #[.int .i64 0, .slice none 0 0] 43 (0, 0)) qB36 hb); have n3_ := Aside0.mk (below_step qB15 hb); clear HO_7; clear BK178; clear HB; have HO_7 := n0_; have HO186 := n1_; have BK178 := n2_; have HB := n3_; clear n0_ n1_ n2_ n3_; clear hb ho12; obtain ⟨Ao14, co14, eo14⟩ := Kd.R_slice HO186.out; subst eo14) | ((with_reducible refine gate_builtin (b := .append) (xs := #[.tmp 32, .tmp 35]) rfl ?_); at_builtin; refine Kd.S_append (Kd.slice 2 (Kd.int .i64)) (w0 := w) w.heap.size rfl (.tmp 32) (.tmp 35) 53 22 (.slice none 0 0) 24 rfl Try.underlying53 info22 rfl (by decide) (by omega) u7 x7_1 y184 [.slice Ao14 y184.length co14] (fun _ => True) (fun k_ => some k_ = (.slice Ao14 y184.length co14 : Value).ownBlock) rfl rfl ?aP (fun k_ hk_ => ((Kd.R_mono (ok' := fun k_ => ((fun _ => True)) k_ ∧ some k_ ≠ (u7 : Value).ownBlock) (Kd.R_apart' (HO186.out) (Kd.S_typed HO_7.out) (by decide)) (fun k_ hk => ⟨trivial, hk.2⟩))).1 k_ hk_.symm) ?aF ?aO ?aB ?aS ?aL ?_; (case aP => exact Kd.M_row (Kd.R_mono (Kd.R_tight rfl (Kd.R_mono (ok' := fun k_ => ((fun _ => True)) k_ ∧ some k_ ≠ (u7 : Value).ownBlock) (Kd.R_apart' (HO186.out) (Kd.S_typed HO_7.out) (by decide)) (fun k_ hk => ⟨trivial, hk.2⟩))) (fun _ h_ => h_))); (case aB => exact qB15); (case aF => exact (fun _ _ => trivial)); (case aO => exact qB27); (case aS => exact (below_size qB15)); (case aL => have := LMc10.out; omega); intro v188 w13 ho hb hg hat; rw [← Ny187.out] at ho; have n0_ := Aside0.mk (blk_grown (g := gb178) (o := .cells #[.int .i64 0, .slice none 0 0] 43 (0, 0)) qB36 hg (Kd.S_ne HO_7.out BK178.out (by decide))); have n1_ := Aside0.mk (hb); have n2_ := Aside0.mk (ho); clear BK178; clear HB; clear HO_7; clear HO186; have BK178 := n0_; have HB := n1_; have HO189 := n2_; clear n0_ n1_ n2_; clear ho hb hg hat))
                repeat (go_quiet (first | ((with_reducible refine gate_dst (N := 34) rfl ?_); refine Kd.R_make (Kd.int .i64) _ 2 rfl (N := 34) rfl 22 _ _ rfl ((rd_T33 l0 0).f1) rfl rfl Try.underlying22 (.int .i64 0) 8 info2 rfl (by decide) (by omega) 0 (ok := fun _ => True) (okp := fun _ => True) rfl (fun _ hk => hk) trivial (of_decide_eq_true qB82) (Nat.le_trans (Nat.mul_le_mul_right _ (of_decide_eq_true qB82 : ((rd_T33 l0 0).f1).toNat ≤ 35184372088832)) (by omega)) (Below.refl _ _) (Nat.le_refl _) ?_; intro v185 w11 ho12 hb hg_ hnew_; clear hg_ hnew_; (first | rw [← Ny184.out] at ho12 | (simp only [Int.reduceToNat] at ho12; rw [← Ny184.out] at ho12)); have n0_ := Aside0.mk (Kd.S_elder' qB74 (Kd.R_base ho12) hb); have n1_ := Aside0.mk (Kd.R_lower ho12 (below_size qB15)); have n2_ := Aside0.mk (blk_below (g := gb178) (o := .cells #[.int .i64 0, .slice none 0 0] 43 (0, 0)) qB36 hb); have n3_ := Aside0.mk (below_step qB15 hb); clear HO_7; clear BK178; clear HB; have HO_7 := n0_; have HO186 := n1_; have BK178 := n2_; have HB := n3_; clear n0_ n1_ n2_ n3_; clear hb ho12; obtain ⟨Ao14, co14, eo14⟩ := Kd.R_slice HO186.out; subst eo14) | ((with_reducible refine gate_builtin (b := .append) (xs := #[.tmp 32, .tmp 35]) rfl ?_); at_builtin; refine Kd.S_append (Kd.slice 2 (Kd.int .i64)) (w0 := w) w.heap.size rfl (.tmp 32) (.tmp 35) 53 22 (.slice none 0 0) 24 rfl Try.underlying53 info22 rfl (by decide) (by omega) u7 x7_1 y184 [.slice Ao14 y184.length co14] (fun _ => True) (fun k_ => some k_ = (.slice Ao14 y184.length co14 : Value).ownBlock) rfl rfl ?aP (fun k_ hk_ => ((Kd.R_mono (ok' := fun k_ => ((fun _ => True)) k_ ∧ some k_ ≠ (u7 : Value).ownBlock) (Kd.R_apart' (HO186.out) (Kd.S_typed HO_7.out) (by decide)) (fun k_ hk => ⟨trivial, hk.2⟩))).1 k_ hk_.symm) ?aF ?aO ?aB ?aS ?aL ?_; (case aP => exact Kd.M_row (Kd.R_mono (Kd.R_tight rfl (Kd.R_mono (ok' := fun k_ => ((fun _ => True)) k_ ∧ some k_ ≠ (u7 : Value).ownBlock) (Kd.R_apart' (HO186.out) (Kd.S_typed HO_7.out) (by decide)) (fun k_ hk => ⟨trivial, hk.2⟩))) (fun _ h_ => h_))); (case aB => exact qB15); (case aF => exact (fun _ _ => trivial)); (case aO => exact qB27); (case aS => exact (below_size qB15)); (case aL => have := LMc10.out; omega); intro v188 w13 ho hb hg hat; rw [← Ny187.out] at ho; have n0_ := Aside0.mk (blk_grown (g := gb178) (o := .cells #[.int .i64 0, .slice none 0 0] 43 (0, 0)) qB36 hg (Kd.S_ne HO_7.out BK178.out (by decide))); have n1_ := Aside0.mk (hb); have n2_ := Aside0.mk (ho); clear BK178; clear HB; clear HO_7; clear HO186; have BK178 := n0_; have HB := n1_; have HO189 := n2_; clear n0_ n1_ n2_; clear ho hb hg hat)); try go_wp2_with (first | ((with_reducible refine gate_dst (N := 34) rfl ?_); refine Kd.R_make (Kd.int .i64) _ 2 rfl (N := 34) rfl 22 _ _ rfl ((rd_T33 l0 0).f1) rfl rfl Try.underlying22 (.int .i64 0) 8 info2 rfl (by decide) (by omega) 0 (ok := fun _ => True) (okp := fun _ => True) rfl (fun _ hk => hk) trivial (of_decide_eq_true qB82) (Nat.le_trans (Nat.mul_le_mul_right _ (of_decide_eq_true qB82 : ((rd_T33 l0 0).f1).toNat ≤ 35184372088832)) (by omega)) (Below.refl _ _) (Nat.le_refl _) ?_; intro v185 w11 ho12 hb hg_ hnew_; clear hg_ hnew_; (first | rw [← Ny184.out] at ho12 | (simp only [Int.reduceToNat] at ho12; rw [← Ny184.out] at ho12)); have n0_ := Aside0.mk (Kd.S_elder' qB74 (Kd.R_base ho12) hb); have n1_ := Aside0.mk (Kd.R_lower ho12 (below_size qB15)); have n2_ := Aside0.mk (blk_below (g := gb178) (o := .cells #[.int .i64 0, .slice none 0 0] 43 (0, 0)) qB36 hb); have n3_ := Aside0.mk (below_step qB15 hb); clear HO_7; clear BK178; clear HB; have HO_7 := n0_; have HO186 := n1_; have BK178 := n2_; have HB := n3_; clear n0_ n1_ n2_ n3_; clear hb ho12; obtain ⟨Ao14, co14, eo14⟩ := Kd.R_slice HO186.out; subst eo14) | ((with_reducible refine gate_builtin (b := .append) (xs := #[.tmp 32, .tmp 35]) rfl ?_); at_builtin; refine Kd.S_append (Kd.slice 2 (Kd.int .i64)) (w0 := w) w.heap.size rfl (.tmp 32) (.tmp 35) 53 22 (.slice none 0 0) 24 rfl Try.underlying53 info22 rfl (by decide) (by omega) u7 x7_1 y184 [.slice Ao14 y184.length co14] (fun _ => True) (fun k_ => some k_ = (.slice Ao14 y184.length co14 : Value).ownBlock) rfl rfl ?aP (fun k_ hk_ => ((Kd.R_mono (ok' := fun k_ => ((fun _ => True)) k_ ∧ some k_ ≠ (u7 : Value).ownBlock) (Kd.R_apart' (HO186.out) (Kd.S_typed HO_7.out) (by decide)) (fun k_ hk => ⟨trivial, hk.2⟩))).1 k_ hk_.symm) ?aF ?aO ?aB ?aS ?aL ?_; (case aP => exact Kd.M_row (Kd.R_mono (Kd.R_tight rfl (Kd.R_mono (ok' := fun k_ => ((fun _ => True)) k_ ∧ some k_ ≠ (u7 : Value).ownBlock) (Kd.R_apart' (HO186.out) (Kd.S_typed HO_7.out) (by decide)) (fun k_ hk => ⟨trivial, hk.2⟩))) (fun _ h_ => h_))); (case aB => exact qB15); (case aF => exact (fun _ _ => trivial)); (case aO => exact qB27); (case aS => exact (below_size qB15)); (case aL => have := LMc10.out; omega); intro v188 w13 ho hb hg hat; rw [← Ny187.out] at ho; have n0_ := Aside0.mk (blk_grown (g := gb178) (o := .cells #[.int .i64 0, .slice none 0 0] 43 (0, 0)) qB36 hg (Kd.S_ne HO_7.out BK178.out (by decide))); have n1_ := Aside0.mk (hb); have n2_ := Aside0.mk (ho); clear BK178; clear HB; clear HO_7; clear HO186; have BK178 := n0_; have HB := n1_; have HO189 := n2_; clear n0_ n1_ n2_; clear ho hb hg hat)))
                (first | go_roundg k1 | ((try simp only [add_plain] at *); go_roundg k1))
                case measure => have := HK1.out; omega
                case rel => exact ⟨(y187), (wrap64 (x8_1 + 1)), qB83, H', ⟨by have := HK1.out; omega⟩, ⟨by (with_reducible repeat (first | apply Kd.S_alloc | apply Kd.S_drewN | apply Kd.S_drew)); exact HO189.out⟩, ⟨by (with_reducible repeat (first | refine blk_drewN ?_ _ | refine blk_drew ?_ | refine blk_alloc ?_ _)); exact BK178.out⟩, ⟨by repeat (first | (with_reducible first | exact HB.out | apply below_alloc | apply pw_below_drewN | apply below_drew1 | refine below_set ?_ GE178.out) | exact HB.out)⟩⟩
              · rw [if_neg c10] at H
                exact absurd H (by simp)
            · rw [if_neg c9] at H
              exact absurd H (by simp)
          · rw [if_neg c8] at H
            exact absurd H (by simp)
        · rw [if_neg c7] at H
          have c7b0 : decide (x8_1 < ((rd_T33 l0 0).f0)) = false := decide_eq_false c7
          clear c7
          by_cases c15 : 0 < (x7_1.length : Int)
          · rw [if_pos c15] at H
            have c15b0 : decide (0 < (x7_1.length : Int)) = true := decide_eq_true c15
            have c15b1 : decide (0 < x7_1.length) = true := decide_eq_true (by omega)
            clear c15
            by_cases c16 : 0 < ((rd_L2 x7_1 0).length : Int)
            · rw [if_pos c16] at H
              have c16b0 : decide (0 < ((rd_L2 x7_1 0).length : Int)) = true := decide_eq_true c16
              have c16b1 : decide (0 < (rd_L2 x7_1 0).length) = true := decide_eq_true (by omega)
              clear c16
              obtain ⟨y191, hy191⟩ : ∃ y_ : List Int, y_ = ((rd_L2 x7_1 0).set (0 : Int).toNat 1) := ⟨_, rfl⟩
              replace H : (spec_l04Sum.l1 k1 l0 a1 ((rd_T33 l0 0).f0) ((rd_T33 l0 0).f1) (x7_1.set (0 : Int).toNat y191) 0) = some (r1, r2) := by first | (rw [hy191]; with_reducible exact H) | (have H2_ := (Option.bind_some _ _).symm.trans H; rw [hy191]; with_reducible exact H2_) | (have H2_ := (Option.bind_some _ _).symm.trans H; with_reducible exact H2_) | with_reducible exact H | (rw [hy191]; exact H) | exact H
              have Ny191 := Aside0.mk hy191
              clear hy191
              obtain ⟨y193, hy193⟩ : ∃ y_ : List (List Int), y_ = (x7_1.set (0 : Int).toNat y191) := ⟨_, rfl⟩
              replace H : (spec_l04Sum.l1 k1 l0 a1 ((rd_T33 l0 0).f0) ((rd_T33 l0 0).f1) y193 0) = some (r1, r2) := by first | (rw [hy193]; with_reducible exact H) | (have H2_ := (Option.bind_some _ _).symm.trans H; rw [hy193]; with_reducible exact H2_) | (have H2_ := (Option.bind_some _ _).symm.trans H; with_reducible exact H2_) | with_reducible exact H | (rw [hy193]; exact H) | exact H
              have Ny193 := Aside0.mk hy193
              clear hy193
              have H' := Aside0.mk H
              clear H
              obtain ⟨Ao18, co18, eo18⟩ := Kd.S_slice HO_7.out
              subst eo18
              have p190 : 0 ≤ (0 : Int) := (by omega)
              have q190 : 0 < (x7_1.length : Int) := of_decide_eq_true qB82
              obtain ⟨ad190, A190_0, c190_0, e190, hx190_0, hl190_0, hi190_0⟩ := at_L2 (Kd.S_reads' HO_7.out).2.2 0 p190 q190
              cases e190
              obtain ⟨ce190, hce190, hMe190, hcc190⟩ := Kd.S_get HO_7.out [] 0 p190 (by first | exact q190 | exact of_decide_eq_true qB82 | (have e_ := (Kd.S_reads' HO_7.out).1; omega))
              obtain ⟨ve190_0, rfl, ge190_0⟩ := hMe190
              have hv190_0 := hcc190 0 _ rfl
              rw [Nat.add_zero, show ((Kd.slice 2 (Kd.int .i64))).sz = 1 from rfl, Nat.mul_one] at hv190_0
              replace hv190_0 := Option.some.inj (hv190_0.symm.trans hx190_0)
              rw [hv190_0] at ge190_0
              have HL190_0 := Aside0.mk (show Kd.R (Kd.int .i64) 2 _ _ _ _ (rd_L2 x7_1 0) from ge190_0)
              clear hv190_0 ge190_0
              have HX190_0 := Aside0.mk hx190_0
              clear hcc190 hce190
              have qi190 : (0 < x7_1.length) = True := eq_true (by omega)
              (try rw [show ((0 : Int)).toNat = 0 from rfl] at hx190_0)
              (try rw [Addr.add_zero'] at hx190_0)
              have HR190_0 := Aside0.mk hi190_0
              have HC190_0 := Aside0.mk hl190_0
              clear hi190_0 hl190_0
              replace p190 := eq_true p190
              replace q190 := eq_true q190
              have p17 : 0 ≤ (0 : Int) := (by omega)
              have q17 : (0 : Int) < (((rd_L2 x7_1 0).length : Int) : Int) := of_decide_eq_true qB82
              have qi17 : (0 < (rd_L2 x7_1 0).length) = True := eq_true (by omega)
              obtain ⟨go17, co17, eo17, gb17, gl17, cl17, HG17⟩ := Kd.R_form HL190_0.out (by omega)
              (first | cases eo17 | (injection eo17 with ea_ en_ ec_; (first | subst ea_ | (injection ea_ with ea_; subst ea_)); subst ec_; clear en_))
              have GB17 := Aside0.mk gb17
              have GG17 := Aside0.mk HG17
              clear gb17 gl17 HG17
              obtain ⟨hx17_0, hf17_0⟩ := Kd.R_celln 0 HL190_0.out (0 : Int) p17 q17
              (try rw [show ((0 : Int)).toNat = 0 from rfl] at hx17_0)
              (try simp only [Nat.reduceMul, Nat.zero_mul, Nat.zero_add, Nat.reduceAdd] at hx17_0)
              (try rw [show ((0 : Int)).toNat = 0 from rfl] at hf17_0)
              (try simp only [Nat.reduceMul, Nat.zero_mul, Nat.zero_add, Nat.reduceAdd] at hf17_0)
              replace p17 := eq_true p17
              replace q17 := eq_true q17
              have hq19 : (0 : Int) < (x7_1.length : Int) := (by have h_ : (0 : Int) < ((x7_1.length : Int) : Int) := of_decide_eq_true qB82; first | exact h_ | (have e_ := (Kd.S_reads' HO_7.out).1; omega) | simpa only [List.length_set, List.length_set] using h_)
              obtain ⟨oki19, ce19, hcl19, hM19, hcc19, hok19, hbk19⟩ := Kd.S_borrow HO_7.out [] (0 : Int) (by omega) hq19
              obtain ⟨ve19_0, rfl, ge19_0⟩ := hM19
              have hv19 := hcc19 0 _ rfl
              rw [Nat.add_zero, show ((Kd.slice 2 (Kd.int .i64))).sz = 1 from rfl, Nat.mul_one] at hv19
              replace hv19 := Option.some.inj (hv19.symm.trans HX190_0.out)
              subst hv19
              clear hcc19 hcl19
              replace ge19_0 := (show Kd.R (Kd.int .i64) 2 _ _ _ _ (rd_L2 x7_1 0) from ge19_0)
              have HP19 := Kd.R_putg ge19_0 (0 : Int) 1
              go_wp2_with (first | ((with_reducible refine gate_store (t := 2) (p := 41) rfl ?_); (try (rw [drewN_self wr]; generalize hq_ : World.drewN wr _ = wr; have n0_ := Aside0.mk (Kd.S_at hq_ HO_7.out); have n1_ := Aside0.mk (Kd.R_at hq_ HL202.out); have n2_ := Aside0.mk (blk_at hq_ BK178.out); have n3_ := Aside0.mk (below_at hq_ HB.out); clear hq_ HO_7 HL202 BK178 HB; have HO_7 := n0_; have HL202 := n1_; have BK178 := n2_; have HB := n3_; clear n0_ n1_ n2_ n3_; (try (have hq19 : (0 : Int) < (x7_1.length : Int) := (by have h_ : (0 : Int) < ((x7_1.length : Int) : Int) := of_decide_eq_true qB82; first | exact h_ | (have e_ := (Kd.S_reads' HO_7.out).1; omega) | simpa only [List.length_set, List.length_set] using h_))); (try (obtain ⟨oki19, ce19, hcl19, hM19, hcc19, hok19, hbk19⟩ := Kd.S_borrow HO_7.out [] (0 : Int) (by omega) hq19)); (try (obtain ⟨ve19_0, rfl, ge19_0⟩ := hM19)); (try (have hv19 := hcc19 0 _ rfl)); (try (rw [Nat.add_zero, show ((Kd.slice 2 (Kd.int .i64))).sz = 1 from rfl, Nat.mul_one] at hv19)); (try (replace hv19 := Option.some.inj (hv19.symm.trans HX190_0.out))); (try (subst hv19)); (try (clear hcc19 hcl19)); (try (replace ge19_0 := (show Kd.R (Kd.int .i64) 2 _ _ _ _ (rd_L2 x7_1 0) from ge19_0))); (try (have HP19 := Kd.R_putg ge19_0 (0 : Int) 1)))); refine store_event (t := 2) (p := 41) (v := ?vo_w20) (w1 := (wr.setCell ⟨go17, 0, none⟩ (.int .i64 1))) ?hg ?ho ?hn ?hr ?_; (case ho => rfl); (case hg => rfl); (case hn => rfl); (case hr => first | (go_simp; done) | (go_simp; rfl)); intro w20 hw; have hg : wr.grownBy w20 (some go17) := (by rw [hw]; exact HP19.2); have hz_ : Kd.R (Kd.int .i64) 2 w20 w.heap.size oki19 (.slice (some ⟨go17, 0, none⟩) (rd_L2 x7_1 0).length c190_0) y191 := (by rw [hw, Ny191.out]; exact HP19.1); have hp_ : Kd.S (Kd.slice 2 (Kd.int .i64)) 22 w20 w.heap.size (fun _ => True) (.slice (some ad190) x7_1.length co18) y193 := qB51; have hm_ := Kd.R_mono hz_ hok19; clear HP19 hbk19; have n0_ := Aside0.mk (hp_); have n1_ := Aside0.mk (blk_grown (g := gb178) (o := .cells #[.int .i64 0, .slice none 0 0] 43 (0, 0)) qB36 hg (Kd.R_ne HL190_0.out BK178.out (by decide))); have n2_ := Aside0.mk ((by rw [hw]; exact below_set (HB.out) GB17.out : Below w.heap.size w w20)); have n3_ := Aside0.mk (hm_); have n4_ := Aside0.mk ((Kd.R_reads' hm_).2.1); clear HO_7; clear BK178; clear HB; clear HL190_0; have HO_7 := n0_; have BK178 := n1_; have HB := n2_; have HL202 := n3_; have HC192 := n4_; clear n0_ n1_ n2_ n3_ n4_; clear hg hw hp_ hz_ hm_ hok19))
              repeat (go_quiet (first | ((with_reducible refine gate_store (t := 2) (p := 41) rfl ?_); (try (rw [drewN_self wr]; generalize hq_ : World.drewN wr _ = wr; have n0_ := Aside0.mk (Kd.S_at hq_ HO_7.out); have n1_ := Aside0.mk (Kd.R_at hq_ HL202.out); have n2_ := Aside0.mk (blk_at hq_ BK178.out); have n3_ := Aside0.mk (below_at hq_ HB.out); clear hq_ HO_7 HL202 BK178 HB; have HO_7 := n0_; have HL202 := n1_; have BK178 := n2_; have HB := n3_; clear n0_ n1_ n2_ n3_; (try (have hq19 : (0 : Int) < (x7_1.length : Int) := (by have h_ : (0 : Int) < ((x7_1.length : Int) : Int) := of_decide_eq_true qB82; first | exact h_ | (have e_ := (Kd.S_reads' HO_7.out).1; omega) | simpa only [List.length_set, List.length_set] using h_))); (try (obtain ⟨oki19, ce19, hcl19, hM19, hcc19, hok19, hbk19⟩ := Kd.S_borrow HO_7.out [] (0 : Int) (by omega) hq19)); (try (obtain ⟨ve19_0, rfl, ge19_0⟩ := hM19)); (try (have hv19 := hcc19 0 _ rfl)); (try (rw [Nat.add_zero, show ((Kd.slice 2 (Kd.int .i64))).sz = 1 from rfl, Nat.mul_one] at hv19)); (try (replace hv19 := Option.some.inj (hv19.symm.trans HX190_0.out))); (try (subst hv19)); (try (clear hcc19 hcl19)); (try (replace ge19_0 := (show Kd.R (Kd.int .i64) 2 _ _ _ _ (rd_L2 x7_1 0) from ge19_0))); (try (have HP19 := Kd.R_putg ge19_0 (0 : Int) 1)))); refine store_event (t := 2) (p := 41) (v := ?vo_w20) (w1 := (wr.setCell ⟨go17, 0, none⟩ (.int .i64 1))) ?hg ?ho ?hn ?hr ?_; (case ho => rfl); (case hg => rfl); (case hn => rfl); (case hr => first | (go_simp; done) | (go_simp; rfl)); intro w20 hw; have hg : wr.grownBy w20 (some go17) := (by rw [hw]; exact HP19.2); have hz_ : Kd.R (Kd.int .i64) 2 w20 w.heap.size oki19 (.slice (some ⟨go17, 0, none⟩) (rd_L2 x7_1 0).length c190_0) y191 := (by rw [hw, Ny191.out]; exact HP19.1); have hp_ : Kd.S (Kd.slice 2 (Kd.int .i64)) 22 w20 w.heap.size (fun _ => True) (.slice (some ad190) x7_1.length co18) y193 := qB51; have hm_ := Kd.R_mono hz_ hok19; clear HP19 hbk19; have n0_ := Aside0.mk (hp_); have n1_ := Aside0.mk (blk_grown (g := gb178) (o := .cells #[.int .i64 0, .slice none 0 0] 43 (0, 0)) qB36 hg (Kd.R_ne HL190_0.out BK178.out (by decide))); have n2_ := Aside0.mk ((by rw [hw]; exact below_set (HB.out) GB17.out : Below w.heap.size w w20)); have n3_ := Aside0.mk (hm_); have n4_ := Aside0.mk ((Kd.R_reads' hm_).2.1); clear HO_7; clear BK178; clear HB; clear HL190_0; have HO_7 := n0_; have BK178 := n1_; have HB := n2_; have HL202 := n3_; have HC192 := n4_; clear n0_ n1_ n2_ n3_ n4_; clear hg hw hp_ hz_ hm_ hok19)); try go_wp2_with (first | ((with_reducible refine gate_store (t := 2) (p := 41) rfl ?_); (try (rw [drewN_self wr]; generalize hq_ : World.drewN wr _ = wr; have n0_ := Aside0.mk (Kd.S_at hq_ HO_7.out); have n1_ := Aside0.mk (Kd.R_at hq_ HL202.out); have n2_ := Aside0.mk (blk_at hq_ BK178.out); have n3_ := Aside0.mk (below_at hq_ HB.out); clear hq_ HO_7 HL202 BK178 HB; have HO_7 := n0_; have HL202 := n1_; have BK178 := n2_; have HB := n3_; clear n0_ n1_ n2_ n3_; (try (have hq19 : (0 : Int) < (x7_1.length : Int) := (by have h_ : (0 : Int) < ((x7_1.length : Int) : Int) := of_decide_eq_true qB82; first | exact h_ | (have e_ := (Kd.S_reads' HO_7.out).1; omega) | simpa only [List.length_set, List.length_set] using h_))); (try (obtain ⟨oki19, ce19, hcl19, hM19, hcc19, hok19, hbk19⟩ := Kd.S_borrow HO_7.out [] (0 : Int) (by omega) hq19)); (try (obtain ⟨ve19_0, rfl, ge19_0⟩ := hM19)); (try (have hv19 := hcc19 0 _ rfl)); (try (rw [Nat.add_zero, show ((Kd.slice 2 (Kd.int .i64))).sz = 1 from rfl, Nat.mul_one] at hv19)); (try (replace hv19 := Option.some.inj (hv19.symm.trans HX190_0.out))); (try (subst hv19)); (try (clear hcc19 hcl19)); (try (replace ge19_0 := (show Kd.R (Kd.int .i64) 2 _ _ _ _ (rd_L2 x7_1 0) from ge19_0))); (try (have HP19 := Kd.R_putg ge19_0 (0 : Int) 1)))); refine store_event (t := 2) (p := 41) (v := ?vo_w20) (w1 := (wr.setCell ⟨go17, 0, none⟩ (.int .i64 1))) ?hg ?ho ?hn ?hr ?_; (case ho => rfl); (case hg => rfl); (case hn => rfl); (case hr => first | (go_simp; done) | (go_simp; rfl)); intro w20 hw; have hg : wr.grownBy w20 (some go17) := (by rw [hw]; exact HP19.2); have hz_ : Kd.R (Kd.int .i64) 2 w20 w.heap.size oki19 (.slice (some ⟨go17, 0, none⟩) (rd_L2 x7_1 0).length c190_0) y191 := (by rw [hw, Ny191.out]; exact HP19.1); have hp_ : Kd.S (Kd.slice 2 (Kd.int .i64)) 22 w20 w.heap.size (fun _ => True) (.slice (some ad190) x7_1.length co18) y193 := qB51; have hm_ := Kd.R_mono hz_ hok19; clear HP19 hbk19; have n0_ := Aside0.mk (hp_); have n1_ := Aside0.mk (blk_grown (g := gb178) (o := .cells #[.int .i64 0, .slice none 0 0] 43 (0, 0)) qB36 hg (Kd.R_ne HL190_0.out BK178.out (by decide))); have n2_ := Aside0.mk ((by rw [hw]; exact below_set (HB.out) GB17.out : Below w.heap.size w w20)); have n3_ := Aside0.mk (hm_); have n4_ := Aside0.mk ((Kd.R_reads' hm_).2.1); clear HO_7; clear BK178; clear HB; clear HL190_0; have HO_7 := n0_; have BK178 := n1_; have HB := n2_; have HL202 := n3_; have HC192 := n4_; clear n0_ n1_ n2_ n3_ n4_; clear hg hw hp_ hz_ hm_ hok19)))
              try simp only [Act.put, List.setIfInBounds_toArray, List.set_cons_succ, List.set_cons_zero]
              go_loopg [7, 10] k1 (fun kq v7 v10 w' => ∃ (x7_2 : List (List Int)) (x10_2 : Int), v10 = .int .i64 x10_2 ∧ Aside0 (spec_l04Sum.l1 kq l0 a1 ((rd_T33 l0 0).f0) ((rd_T33 l0 0).f1) x7_2 x10_2 = some (r1, r2)) ∧ Aside0 (kq ≤ k1) ∧ Aside0 (Kd.S (Kd.slice 2 (Kd.int .i64)) 22 w' w.heap.size (fun _ => True) v7 x7_2) ∧ Aside0 (w'.heap[gb178]? = some (.cells #[.int .i64 0, (.slice none 0 0)] 43 (0, 0))) ∧ Aside0 (Below w.heap.size w w'))
              case atStart => exact ⟨(y193), (0), qB83, H', ⟨Nat.le_refl _⟩, ⟨by (with_reducible repeat (first | apply Kd.S_alloc | apply Kd.S_drewN | apply Kd.S_drew)); exact HO_7.out⟩, ⟨by (with_reducible repeat (first | refine blk_drewN ?_ _ | refine blk_drew ?_ | refine blk_alloc ?_ _)); exact BK178.out⟩, ⟨by repeat (first | (with_reducible first | exact HB.out | apply below_alloc | apply pw_below_drewN | apply below_drew1 | refine below_set ?_ GE178.out) | exact HB.out)⟩⟩
              case round =>
                clear H'
                try clear c1
                try clear p1
                try clear q1
                try clear hx1
                try clear qi1
                try clear p2
                try clear c3
                try clear c3b0
                try clear c3b1
                try clear c5
                try clear p6
                try clear c7
                try clear c7b0
                try clear c8
                try clear c8b0
                try clear c8b1
                try clear c9
                try clear c9b0
                try clear c9b1
                try clear c10
                try clear c15
                try clear c15b0
                try clear c15b1
                try clear c16
                try clear c16b0
                try clear c16b1
                try clear p17
                try clear q17
                try clear hx17
                try clear qi17
                try clear hf17
                try clear p18
                try clear q18
                try clear hx18
                try clear qi18
                try clear c19
                try clear p19
                try clear q19
                try clear hx19
                try clear qi19
                try clear hx179_0
                try clear hx179_1
                try clear hx179_2
                try clear hx17_0
                try clear hx180_0
                try clear hx180_1
                try clear hx180_2
                try clear hx190_0
                try clear p1
                try clear p17
                try clear p179
                try clear p180
                try clear p190
                try clear p2
                try clear q1
                try clear q17
                try clear q179
                try clear q180
                try clear q190
                obtain ⟨x7_2, x10_2, rfl, HA, HK2, HO_7, BK178, HB⟩ := hrel
                cases gk with
                | zero => exact absurd HA.out (by simp [spec_l04Sum.l1])
                | succ k2 =>
                  have H := HA.out
                  clear HA
                  simp only [spec_l04Sum.l1] at H
                  by_cases c21 : x10_2 < (l0.length : Int)
                  · rw [if_pos c21] at H
                    have c21b0 : decide (x10_2 < (l0.length : Int)) = true := decide_eq_true c21
                    clear c21
                    replace H := Option.bind_eq_some_iff.mp H
                    obtain ⟨t194, A220, H⟩ := H
                    replace H : (spec_l04Sum.l1 k2 l0 a1 ((rd_T33 l0 0).f0) ((rd_T33 l0 0).f1) t194 (wrap64 (x10_2 + 1))) = some (r1, r2) := H
                    have A22 := Aside0.mk A220
                    clear A220
                    have H' := Aside0.mk H
                    clear H
                    obtain ⟨Ao23, co23, eo23⟩ := Kd.S_slice HO_7.out
                    subst eo23
                    rename World => wB
                    have HBm := HB
                    have HKa := HK1
                    have HKb := HK2
                    have HJm := H'
                    clear H'
                    have hu33 := Try.underlying33
                    have HR0m := HR0
                    have HR0 := Aside0.mk (Kd.C_below HR0m.out HBm.out)
                    have HR2 := Aside0.mk (Kd.S_reads' HO_7.out).2.2
                    have HC2 := Aside0.mk (Kd.S_reads' HO_7.out).2.1
                    have HB := Aside0.mk (Below.refl wB.heap.size wB)
                    have h := A22.out
                    have H : (spec_l04Sum_body.l0 k2 l0 ((rd_T33 l0 0).f0) ((rd_T33 l0 0).f1) x7_2 x10_2 (([] : List (List Int))) 0) = some t194 := h
                    clear h
                    obtain ⟨y158, hy158⟩ : ∃ y_ : List (List Int), y_ = (([] : List (List Int))) := ⟨_, rfl⟩
                    replace H : (spec_l04Sum_body.l0 k2 l0 ((rd_T33 l0 0).f0) ((rd_T33 l0 0).f1) x7_2 x10_2 y158 0) = some t194 := by first | (rw [hy158]; with_reducible exact H) | (have H2_ := (Option.bind_some _ _).symm.trans H; rw [hy158]; with_reducible exact H2_) | (have H2_ := (Option.bind_some _ _).symm.trans H; with_reducible exact H2_) | with_reducible exact H | (rw [hy158]; exact H) | exact H
                    have Ny158 := Aside0.mk hy158
                    clear hy158
                    have H' := Aside0.mk H
                    clear H
                    go_wp2_with (first | ((with_reducible refine gate_dst (N := 48) rfl ?_); refine Kd.S_lit (Kd.slice 2 (Kd.int .i64)) _ 22 ?hg (N := 48) ?hd (xs := ([] : List (List Int))) (inner := []) (ok := fun _ => True) (okp := fun _ => True) ?hr ?hp (fun _ hk => hk) trivial (Below.refl _ _) (Nat.le_refl _) (by simp) ?_; (case hd => rfl); (case hg => rfl); (case hr => first | (go_simp; done) | (go_simp; rfl)); (case hp => exact (Reps.none _ _)); intro v159 w6 ho7 hb hg_ hnew_; clear hg_ hnew_; (first | rw [← Ny158.out] at ho7 | (simp only [Int.reduceToNat] at ho7; rw [← Ny158.out] at ho7)); have n0_ := Aside0.mk (Kd.S_lower ho7 (below_size qB33)); have n1_ := Aside0.mk (below_step qB33 hb); clear HB; have HO160 := n0_; have HB := n1_; clear n0_ n1_; clear hb ho7))
                    try simp only [Act.put, List.setIfInBounds_toArray, List.set_cons_succ, List.set_cons_zero]
                    go_loopg [11, 12] k2 (fun kq v11 v12 w' => ∃ (x11_1 : List (List Int)) (x12_1 : Int), v12 = .int .i64 x12_1 ∧ Aside0 (spec_l04Sum_body.l0 kq l0 ((rd_T33 l0 0).f0) ((rd_T33 l0 0).f1) x7_2 x10_2 x11_1 x12_1 = some t194) ∧ Aside0 (kq ≤ k2) ∧ Aside0 (Kd.S (Kd.slice 2 (Kd.int .i64)) 22 w' wB.heap.size (fun _ => True) v11 x11_1) ∧ Aside0 (Below wB.heap.size wB w'))
                    case atStart => exact ⟨(y158), (0), qB83, H', ⟨Nat.le_refl _⟩, ⟨by (with_reducible repeat (first | apply Kd.S_alloc | apply Kd.S_drewN | apply Kd.S_drew)); exact HO160.out⟩, ⟨by repeat (first | (with_reducible first | exact HB.out | apply below_alloc | apply pw_below_drewN | apply below_drew1) | exact HB.out)⟩⟩
                    case round =>
                      clear H'
                      try clear c1
                      try clear co23
                      try clear p2
                      obtain ⟨x11_1, x12_1, rfl, HA, HKb1, HO_11, HB⟩ := hrel
                      cases gk with
                      | zero => exact absurd HA.out (by simp [spec_l04Sum_body.l0])
                      | succ kb1 =>
                        have H := HA.out
                        clear HA
                        simp only [spec_l04Sum_body.l0] at H
                        by_cases c8 : x12_1 < ((rd_T33 l0 0).f0)
                        · rw [if_pos c8] at H
                          have c8b0 : decide (x12_1 < ((rd_T33 l0 0).f0)) = true := decide_eq_true c8
                          clear c8
                          by_cases c9 : 0 ≤ ((rd_T33 l0 0).f1)
                          · rw [if_pos c9] at H
                            have c9b0 := eq_true c9
                            have c9b1 : decide (0 ≤ ((rd_T33 l0 0).f1)) = true := decide_eq_true c9
                            clear c9
                            by_cases c10 : (((rd_T33 l0 0).f1) : Int).toNat ≤ 35184372088832
                            · rw [if_pos c10] at H
                              have c10b0 := eq_true c10
                              have c10b1 : decide ((((rd_T33 l0 0).f1) : Int).toNat ≤ 35184372088832) = true := decide_eq_true c10
                              clear c10
                              obtain ⟨y161, hy161⟩ : ∃ y_ : List Int, y_ = (List.replicate (((rd_T33 l0 0).f1) : Int).toNat 0) := ⟨_, rfl⟩
                              replace H : (if x11_1.length < 5864062014805 then (spec_l04Sum_body.l0 kb1 l0 ((rd_T33 l0 0).f0) ((rd_T33 l0 0).f1) x7_2 x10_2 (x11_1 ++ [y161]) (wrap64 (x12_1 + 1))) else (none)) = some t194 := by first | (rw [hy161]; with_reducible exact H) | (have H2_ := (Option.bind_some _ _).symm.trans H; rw [hy161]; with_reducible exact H2_) | (have H2_ := (Option.bind_some _ _).symm.trans H; with_reducible exact H2_) | with_reducible exact H | (rw [hy161]; exact H) | exact H
                              have Ny161 := Aside0.mk hy161
                              clear hy161
                              by_cases c11 : x11_1.length < 5864062014805
                              · rw [if_pos c11] at H
                                have LMc11 := Aside0.mk c11
                                clear c11
                                obtain ⟨y164, hy164⟩ : ∃ y_ : List (List Int), y_ = (x11_1 ++ [y161]) := ⟨_, rfl⟩
                                replace H : (spec_l04Sum_body.l0 kb1 l0 ((rd_T33 l0 0).f0) ((rd_T33 l0 0).f1) x7_2 x10_2 y164 (wrap64 (x12_1 + 1))) = some t194 := by first | (rw [hy164]; with_reducible exact H) | (have H2_ := (Option.bind_some _ _).symm.trans H; rw [hy164]; with_reducible exact H2_) | (have H2_ := (Option.bind_some _ _).symm.trans H; with_reducible exact H2_) | with_reducible exact H | (rw [hy164]; exact H) | exact H
                                have Ny164 := Aside0.mk hy164
                                clear hy164
                                have H' := Aside0.mk H
                                clear H
                                go_wp2_with (first | ((with_reducible refine gate_dst (N := 56) rfl ?_); refine Kd.R_make (Kd.int .i64) _ 2 rfl (N := 56) rfl 22 _ _ rfl ((rd_T33 l0 0).f1) rfl rfl Try.underlying22 (.int .i64 0) 8 info2 rfl (by decide) (by omega) 0 (ok := fun _ => True) (okp := fun _ => True) rfl (fun _ hk => hk) trivial (of_decide_eq_true qB82) (Nat.le_trans (Nat.mul_le_mul_right _ (of_decide_eq_true qB82 : ((rd_T33 l0 0).f1).toNat ≤ 35184372088832)) (by omega)) (Below.refl _ _) (Nat.le_refl _) ?_; intro v162 w12 ho13 hb hg_ hnew_; clear hg_ hnew_; (first | rw [← Ny161.out] at ho13 | (simp only [Int.reduceToNat] at ho13; rw [← Ny161.out] at ho13)); have n0_ := Aside0.mk (Kd.S_elder' qB59 (Kd.R_base ho13) hb); have n1_ := Aside0.mk (Kd.R_lower ho13 (below_size qB33)); have n2_ := Aside0.mk (below_step qB33 hb); clear HO_11; clear HB; have HO_11 := n0_; have HO163 := n1_; have HB := n2_; clear n0_ n1_ n2_; clear hb ho13; obtain ⟨Ao15, co15, eo15⟩ := Kd.R_slice HO163.out; subst eo15) | ((with_reducible refine gate_builtin (b := .append) (xs := #[.tmp 54, .tmp 57]) rfl ?_); at_builtin; refine Kd.S_append (Kd.slice 2 (Kd.int .i64)) (w0 := wB) wB.heap.size rfl (.tmp 54) (.tmp 57) 53 22 (.slice none 0 0) 24 rfl Try.underlying53 info22 rfl (by decide) (by omega) u11 x11_1 y161 [.slice Ao15 y161.length co15] (fun _ => True) (fun k_ => some k_ = (.slice Ao15 y161.length co15 : Value).ownBlock) rfl rfl ?aP (fun k_ hk_ => ((Kd.R_mono (ok' := fun k_ => ((fun _ => True)) k_ ∧ some k_ ≠ (u11 : Value).ownBlock) (Kd.R_apart' (HO163.out) (Kd.S_typed HO_11.out) (by decide)) (fun k_ hk => ⟨trivial, hk.2⟩))).1 k_ hk_.symm) ?aF ?aO ?aB ?aS ?aL ?_; (case aP => exact Kd.M_row (Kd.R_mono (Kd.R_tight rfl (Kd.R_mono (ok' := fun k_ => ((fun _ => True)) k_ ∧ some k_ ≠ (u11 : Value).ownBlock) (Kd.R_apart' (HO163.out) (Kd.S_typed HO_11.out) (by decide)) (fun k_ hk => ⟨trivial, hk.2⟩))) (fun _ h_ => h_))); (case aB => exact qB33); (case aF => exact (fun _ _ => trivial)); (case aO => exact (by (with_reducible repeat (first | apply Kd.S_alloc | apply Kd.S_drewN | apply Kd.S_drew)); exact Kd.S_mono HO_11.out (fun k_ hk => ⟨trivial, fun e_ => hk.2 e_⟩))); (case aS => exact (below_size qB33)); (case aL => have := LMc11.out; omega); intro v165 w14 ho hb hg hat; rw [← Ny164.out] at ho; have n0_ := Aside0.mk (hb); have n1_ := Aside0.mk (ho); clear HB; clear HO_11; clear HO163; have HB := n0_; have HO166 := n1_; clear n0_ n1_; clear ho hb hg hat))
                                (first | go_roundg kb1 | ((try simp only [add_plain] at *); go_roundg kb1))
                                case measure => have := HKb1.out; omega
                                case rel => exact ⟨(y164), (wrap64 (x12_1 + 1)), qB83, H', ⟨by have := HKb1.out; omega⟩, ⟨by (with_reducible repeat (first | apply Kd.S_alloc | apply Kd.S_drewN | apply Kd.S_drew)); exact HO166.out⟩, ⟨by repeat (first | (with_reducible first | exact HB.out | apply below_alloc | apply pw_below_drewN | apply below_drew1) | exact HB.out)⟩⟩
                              · rw [if_neg c11] at H
                                exact absurd H (by simp)
                            · rw [if_neg c10] at H
                              exact absurd H (by simp)
                          · rw [if_neg c9] at H
                            exact absurd H (by simp)
                        · rw [if_neg c8] at H
                          have c8b0 : decide (x12_1 < ((rd_T33 l0 0).f0)) = false := decide_eq_false c8
                          clear c8
                          have H' := Aside0.mk H
                          clear H
                          go_wp2
                          try simp only [Act.put, List.setIfInBounds_toArray, List.set_cons_succ, List.set_cons_zero]
                          go_loopg [13] kb1 (fun kq v13 w' => ∃ (x11_2 : List (List Int)) (x13_2 : Int), v13 = .int .i64 x13_2 ∧ Aside0 (spec_l04Sum_body.l1 kq l0 ((rd_T33 l0 0).f0) ((rd_T33 l0 0).f1) x7_2 x10_2 x11_2 x13_2 = some t194) ∧ Aside0 (kq ≤ kb1) ∧ Aside0 (Kd.S (Kd.slice 2 (Kd.int .i64)) 22 w' wB.heap.size (fun _ => True) u11 x11_2) ∧ Aside0 (Below wB.heap.size wB w'))
                          case atStart => exact ⟨(x11_1), (1), qB83, H', ⟨Nat.le_refl _⟩, ⟨by (with_reducible repeat (first | apply Kd.S_alloc | apply Kd.S_drewN | apply Kd.S_drew)); exact HO_11.out⟩, ⟨by repeat (first | (with_reducible first | exact HB.out | apply below_alloc | apply pw_below_drewN | apply below_drew1) | exact HB.out)⟩⟩
                          case round =>
                            clear H'
                            try clear c1
                            try clear co23
                            try clear p2
                            try clear p6
                            try clear c8
                            try clear c8b0
                            try clear c9
                            try clear c9b0
                            try clear c9b1
                            try clear c10
                            try clear c10b0
                            try clear c10b1
                            try clear c11
                            try clear c15
                            try clear p2
                            obtain ⟨x11_2, x13_2, rfl, HA, HKb2, HO_11, HB⟩ := hrel
                            cases gk with
                            | zero => exact absurd HA.out (by simp [spec_l04Sum_body.l1])
                            | succ kb2 =>
                              have H := HA.out
                              clear HA
                              simp only [spec_l04Sum_body.l1] at H
                              by_cases c16 : x13_2 < ((rd_T33 l0 0).f0)
                              · rw [if_pos c16] at H
                                have c16b0 : decide (x13_2 < ((rd_T33 l0 0).f0)) = true := decide_eq_true c16
                                clear c16
                                by_cases c17 : 0 ≤ x10_2
                                · rw [if_pos c17] at H
                                  have c17b0 : decide (0 ≤ x10_2) = true := decide_eq_true c17
                                  clear c17
                                  by_cases c18 : x10_2 < (l0.length : Int)
                                  · rw [if_pos c18] at H
                                    have c18b0 : decide (x10_2 < (l0.length : Int)) = true := decide_eq_true c18
                                    clear c18
                                    replace H := Option.bind_eq_some_iff.mp H
                                    obtain ⟨t168, A190, H⟩ := H
                                    replace H : (spec_l04Sum_body.l2 kb2 l0 ((rd_T33 l0 0).f0) ((rd_T33 l0 0).f1) x7_2 x10_2 x11_2 x13_2 t168 0) = some t194 := H
                                    have A19 := Aside0.mk A190
                                    clear A190
                                    have H' := Aside0.mk H
                                    clear H
                                    have p167 : 0 ≤ (x10_2 : Int) := of_decide_eq_true qB82
                                    have q167 : x10_2 < (l0.length : Int) := of_decide_eq_true qB82
                                    obtain ⟨ad167, e167, hx167_0, hx167_1, hx167_2⟩ := at_T33 HR0.out x10_2 p167 q167
                                    cases e167
                                    replace hx167_0 := (HB.out.cell (World.block_lt_of_cell? wB _ hx167_0)).trans hx167_0
                                    replace hx167_1 := (HB.out.cell (World.block_lt_of_cell? wB _ hx167_1)).trans hx167_1
                                    replace hx167_2 := (HB.out.cell (World.block_lt_of_cell? wB _ hx167_2)).trans hx167_2
                                    replace p167 := eq_true p167
                                    replace q167 := eq_true q167
                                    go_wp2_with (first | ((with_reducible refine gate_callee (f := 78) rfl ?_); refine goesL_ (some 69) rfl rfl Try.func78 (by kernel_rfl) rfl #[.agg #[.int .i64 ((rd_T33 l0 x10_2).f0), .int .i64 ((rd_T33 l0 x10_2).f1), .int .i64 ((rd_T33 l0 x10_2).f2)], .int .i64 x13_2] rfl qB32 ?_; (with_reducible refine (spec_l03Exponent.calls kb2 ((rd_T33 l0 x10_2).f0) ((rd_T33 l0 x10_2).f1) ((rd_T33 l0 x10_2).f2) x13_2 t168 _ A19.out).mono ?_); rintro e w20 ⟨rfl, hb⟩; refine ⟨_, rfl, ?_⟩; have n0_ := Aside0.mk (Kd.S_below qB59 hb); have n1_ := Aside0.mk (below_step qB33 hb); clear HO_11; clear HB; have HO_11 := n0_; have HB := n1_; clear n0_ n1_; (try clear hb); (try clear hb2); (try clear hk); (try clear hi)))
                                    try simp only [Act.put, List.setIfInBounds_toArray, List.set_cons_succ, List.set_cons_zero]
                                    go_loopg [15] kb2 (fun kq v15 w' => ∃ (x11_3 : List (List Int)) (x15_3 : Int), v15 = .int .i64 x15_3 ∧ Aside0 (spec_l04Sum_body.l2 kq l0 ((rd_T33 l0 0).f0) ((rd_T33 l0 0).f1) x7_2 x10_2 x11_3 x13_2 t168 x15_3 = some t194) ∧ Aside0 (kq ≤ kb2) ∧ Aside0 (Kd.S (Kd.slice 2 (Kd.int .i64)) 22 w' wB.heap.size (fun _ => True) u11 x11_3) ∧ Aside0 (Below wB.heap.size wB w'))
                                    case atStart => exact ⟨(x11_2), (0), qB83, H', ⟨Nat.le_refl _⟩, ⟨by (with_reducible repeat (first | apply Kd.S_alloc | apply Kd.S_drewN | apply Kd.S_drew)); exact HO_11.out⟩, ⟨by repeat (first | (with_reducible first | exact HB.out | apply below_alloc | apply pw_below_drewN | apply below_drew1) | exact HB.out)⟩⟩
                                    case round =>
                                      clear H'
                                      try clear c1
                                      try clear p1
                                      try clear q1
                                      try clear hx1
                                      try clear co23
                                      try clear p2
                                      try clear p6
                                      try clear c7
                                      try clear c8
                                      try clear c8b0
                                      try clear c9
                                      try clear c9b0
                                      try clear c9b1
                                      try clear c10
                                      try clear c10b0
                                      try clear c10b1
                                      try clear c11
                                      try clear c15
                                      try clear c16
                                      try clear c16b0
                                      try clear p16
                                      try clear q16
                                      try clear hx16
                                      try clear c17
                                      try clear c17b0
                                      try clear c18
                                      try clear c18b0
                                      try clear hx167_0
                                      try clear hx167_1
                                      try clear hx167_2
                                      try clear p167
                                      try clear p2
                                      try clear p6
                                      try clear q167
                                      obtain ⟨x11_3, x15_3, rfl, HA, HKb3, HO_11, HB⟩ := hrel
                                      cases gk with
                                      | zero => exact absurd HA.out (by simp [spec_l04Sum_body.l2])
                                      | succ kb3 =>
                                        have H := HA.out
                                        clear HA
                                        simp only [spec_l04Sum_body.l2] at H
                                        by_cases c21 : x15_3 < ((rd_T33 l0 0).f0)
                                        · rw [if_pos c21] at H
                                          have c21b0 : decide (x15_3 < ((rd_T33 l0 0).f0)) = true := decide_eq_true c21
                                          clear c21
                                          by_cases c22 : ((rd_T33 l0 0).f0) = 0
                                          · rw [if_pos c22] at H
                                            exact absurd H (by simp)
                                          · rw [if_neg c22] at H
                                            have c22b0 : (((rd_T33 l0 0).f0) == 0) = false := beq_eq_false_iff_ne.mpr c22
                                            have c22b1 : (((rd_T33 l0 0).f0) != 0) = true := bne_iff_ne.mpr c22
                                            obtain ⟨ji23, hji23⟩ : ∃ j_ : Int, (Int.tmod (wrap64 (x15_3 + x13_2)) ((rd_T33 l0 0).f0)) = j_ := ⟨_, rfl⟩
                                            replace H : (if 0 ≤ (ji23) then (if (ji23) < (x11_3.length : Int) then (spec_l04Sum_body.l3 kb3 l0 ((rd_T33 l0 0).f0) ((rd_T33 l0 0).f1) x7_2 x10_2 x11_3 x13_2 t168 x15_3 0 ji23) else (none)) else (none)) = some t194 := by first | (rw [hji23] at H; exact H) | (simp only [hji23] at H ⊢; exact H)
                                            by_cases c24 : 0 ≤ (ji23)
                                            · rw [if_pos c24] at H
                                              have c24b0 : decide (0 ≤ (ji23)) = true := decide_eq_true c24
                                              clear c24
                                              by_cases c25 : (ji23) < (x11_3.length : Int)
                                              · rw [if_pos c25] at H
                                                have c25b0 : decide ((ji23) < (x11_3.length : Int)) = true := decide_eq_true c25
                                                clear c25
                                                have H' := Aside0.mk H
                                                clear H
                                                obtain ⟨Ao26, co26, eo26⟩ := Kd.S_slice HO_11.out
                                                subst eo26
                                                have p169 : 0 ≤ ((ji23) : Int) := of_decide_eq_true qB82
                                                have q169 : (ji23) < (x11_3.length : Int) := of_decide_eq_true qB82
                                                obtain ⟨ad169, A169_0, c169_0, e169, hx169_0, hl169_0, hi169_0⟩ := at_L2 (Kd.S_reads' HO_11.out).2.2 (ji23) p169 q169
                                                cases e169
                                                obtain ⟨ce169, hce169, hMe169, hcc169⟩ := Kd.S_get HO_11.out [] (ji23) p169 (by first | exact q169 | exact of_decide_eq_true qB82 | (have e_ := (Kd.S_reads' HO_11.out).1; omega))
                                                obtain ⟨ve169_0, rfl, ge169_0⟩ := hMe169
                                                have hv169_0 := hcc169 0 _ rfl
                                                rw [Nat.add_zero, show ((Kd.slice 2 (Kd.int .i64))).sz = 1 from rfl, Nat.mul_one] at hv169_0
                                                replace hv169_0 := Option.some.inj (hv169_0.symm.trans hx169_0)
                                                rw [hv169_0] at ge169_0
                                                have HL169_0 := Aside0.mk (show Kd.R (Kd.int .i64) 2 _ _ _ _ (rd_L2 x11_3 (ji23)) from ge169_0)
                                                clear hv169_0 ge169_0
                                                have HX169_0 := Aside0.mk hx169_0
                                                clear hcc169 hce169
                                                have HR169_0 := Aside0.mk hi169_0
                                                have HC169_0 := Aside0.mk hl169_0
                                                clear hi169_0 hl169_0
                                                replace p169 := eq_true p169
                                                replace q169 := eq_true q169
                                                go_wp2
                                                try simp only [Act.put, List.setIfInBounds_toArray, List.set_cons_succ, List.set_cons_zero]
                                                go_loopg [17] kb3 (fun kq v17 w' => ∃ (x11_4 : List (List Int)) (x17_4 : Int), v17 = .int .i64 x17_4 ∧ Aside0 (spec_l04Sum_body.l3 kq l0 ((rd_T33 l0 0).f0) ((rd_T33 l0 0).f1) x7_2 x10_2 x11_4 x13_2 t168 x15_3 x17_4 ji23 = some t194) ∧ Aside0 (kq ≤ kb3) ∧ Aside0 (Kd.S (Kd.slice 2 (Kd.int .i64)) 22 w' wB.heap.size (fun _ => True) (.slice (some ad169) x11_3.length co26) x11_4) ∧ Aside0 (Below wB.heap.size wB w') ∧ Aside0 (w'.cell? (ad169.add (ji23 : Int).toNat) = some (.slice A169_0 (rd_L2 x11_3 (ji23)).length c169_0)))
                                                case atStart => exact ⟨(x11_3), (0), qB83, H', ⟨Nat.le_refl _⟩, ⟨by (with_reducible repeat (first | apply Kd.S_alloc | apply Kd.S_drewN | apply Kd.S_drew)); exact HO_11.out⟩, ⟨by repeat (first | (with_reducible first | exact HB.out | apply below_alloc | apply pw_below_drewN | apply below_drew1) | exact HB.out)⟩, ⟨by first | exact HX169_0.out | (simpa using HX169_0.out)⟩⟩
                                                case round =>
                                                  clear H'
                                                  try clear c1
                                                  try clear p1
                                                  try clear q1
                                                  try clear hx1
                                                  try clear co23
                                                  try clear p2
                                                  try clear p6
                                                  try clear c7
                                                  try clear c8
                                                  try clear c8b0
                                                  try clear c9
                                                  try clear c9b0
                                                  try clear c9b1
                                                  try clear c10
                                                  try clear c10b0
                                                  try clear c10b1
                                                  try clear c11
                                                  try clear c15
                                                  try clear c16
                                                  try clear c16b0
                                                  try clear p16
                                                  try clear q16
                                                  try clear hx16
                                                  try clear c17
                                                  try clear c17b0
                                                  try clear c18
                                                  try clear c18b0
                                                  try clear c21
                                                  try clear c21b0
                                                  try clear c22
                                                  try clear c22b0
                                                  try clear c22b1
                                                  try clear c24
                                                  try clear c24b0
                                                  try clear c25
                                                  try clear c25b0
                                                  try clear hx167_0
                                                  try clear hx167_1
                                                  try clear hx167_2
                                                  try clear hx169_0
                                                  try clear p1
                                                  try clear p16
                                                  try clear p167
                                                  try clear p169
                                                  try clear p2
                                                  try clear p6
                                                  try clear q1
                                                  try clear q16
                                                  try clear q167
                                                  try clear q169
                                                  obtain ⟨x11_4, x17_4, rfl, HA, HKb4, HO_11, HB, CX⟩ := hrel
                                                  have hl11_4 := (Kd.S_reads' HO_11.out).1
                                                  rw [hl11_4] at HO_11
                                                  (try simp only [hl11_4])
                                                  cases gk with
                                                  | zero => exact absurd HA.out (by simp [spec_l04Sum_body.l3])
                                                  | succ kb4 =>
                                                    have H := HA.out
                                                    clear HA
                                                    simp only [spec_l04Sum_body.l3] at H
                                                    by_cases c27 : x17_4 < ((rd_T33 l0 0).f1)
                                                    · rw [if_pos c27] at H
                                                      have c27b0 : decide (x17_4 < ((rd_T33 l0 0).f1)) = true := decide_eq_true c27
                                                      clear c27
                                                      by_cases c28 : 0 ≤ ji23
                                                      · rw [if_pos c28] at H
                                                        have c28b0 : decide (0 ≤ ji23) = true := decide_eq_true c28
                                                        clear c28
                                                        by_cases c29 : ji23 < (x11_4.length : Int)
                                                        · rw [if_pos c29] at H
                                                          have c29b0 : decide (ji23 < (x11_4.length : Int)) = true := decide_eq_true c29
                                                          clear c29
                                                          by_cases c30 : ((rd_T33 l0 0).f1) = 0
                                                          · rw [if_pos c30] at H
                                                            exact absurd H (by simp)
                                                          · rw [if_neg c30] at H
                                                            have c30b0 : (((rd_T33 l0 0).f1) == 0) = false := beq_eq_false_iff_ne.mpr c30
                                                            have c30b1 : (((rd_T33 l0 0).f1) != 0) = true := bne_iff_ne.mpr c30
                                                            obtain ⟨ji31, hji31⟩ : ∃ j_ : Int, (Int.tmod (wrap64 (x17_4 + t168)) ((rd_T33 l0 0).f1)) = j_ := ⟨_, rfl⟩
                                                            replace H : (if 0 ≤ (ji31) then (if (ji31) < ((rd_L2 x11_4 ji23).length : Int) then (if 0 ≤ x15_3 then (if x15_3 < (x7_2.length : Int) then (if 0 ≤ x17_4 then (if x17_4 < ((rd_L2 x7_2 x15_3).length : Int) then (spec_l04Sum_body.l3 kb4 l0 ((rd_T33 l0 0).f0) ((rd_T33 l0 0).f1) x7_2 x10_2 (x11_4.set (ji23 : Int).toNat ((rd_L2 x11_4 ji23).set ((ji31) : Int).toNat (wrap64 ((rd (rd_L2 x11_4 ji23) (ji31)) + (rd (rd_L2 x7_2 x15_3) x17_4))))) x13_2 t168 x15_3 (wrap64 (x17_4 + 1)) ji23) else (none)) else (none)) else (none)) else (none)) else (none)) else (none)) = some t194 := by first | (rw [hji31] at H; exact H) | (simp only [hji31] at H ⊢; exact H)
                                                            by_cases c32 : 0 ≤ (ji31)
                                                            · rw [if_pos c32] at H
                                                              have c32b0 : decide (0 ≤ (ji31)) = true := decide_eq_true c32
                                                              clear c32
                                                              by_cases c33 : (ji31) < ((rd_L2 x11_4 ji23).length : Int)
                                                              · rw [if_pos c33] at H
                                                                have c33b0 : decide ((ji31) < ((rd_L2 x11_4 ji23).length : Int)) = true := decide_eq_true c33
                                                                clear c33
                                                                by_cases c34 : 0 ≤ x15_3
                                                                · rw [if_pos c34] at H
                                                                  have c34b0 : decide (0 ≤ x15_3) = true := decide_eq_true c34
                                                                  clear c34
                                                                  by_cases c35 : x15_3 < (x7_2.length : Int)
                                                                  · rw [if_pos c35] at H
                                                                    have c35b0 : decide (x15_3 < (x7_2.length : Int)) = true := decide_eq_true c35
                                                                    clear c35
                                                                    by_cases c36 : 0 ≤ x17_4
                                                                    · rw [if_pos c36] at H
                                                                      have c36b0 : decide (0 ≤ x17_4) = true := decide_eq_true c36
                                                                      clear c36
                                                                      by_cases c37 : x17_4 < ((rd_L2 x7_2 x15_3).length : Int)
                                                                      · rw [if_pos c37] at H
                                                                        have c37b0 : decide (x17_4 < ((rd_L2 x7_2 x15_3).length : Int)) = true := decide_eq_true c37
                                                                        clear c37
                                                                        obtain ⟨y174, hy174⟩ : ∃ y_ : List Int, y_ = ((rd_L2 x11_4 ji23).set ((ji31) : Int).toNat (wrap64 ((rd (rd_L2 x11_4 ji23) (ji31)) + (rd (rd_L2 x7_2 x15_3) x17_4)))) := ⟨_, rfl⟩
                                                                        replace H : (spec_l04Sum_body.l3 kb4 l0 ((rd_T33 l0 0).f0) ((rd_T33 l0 0).f1) x7_2 x10_2 (x11_4.set (ji23 : Int).toNat y174) x13_2 t168 x15_3 (wrap64 (x17_4 + 1)) ji23) = some t194 := by first | (rw [hy174]; with_reducible exact H) | (have H2_ := (Option.bind_some _ _).symm.trans H; rw [hy174]; with_reducible exact H2_) | (have H2_ := (Option.bind_some _ _).symm.trans H; with_reducible exact H2_) | with_reducible exact H | (rw [hy174]; exact H) | exact H
                                                                        have Ny174 := Aside0.mk hy174
                                                                        clear hy174
                                                                        obtain ⟨y176, hy176⟩ : ∃ y_ : List (List Int), y_ = (x11_4.set (ji23 : Int).toNat y174) := ⟨_, rfl⟩
                                                                        replace H : (spec_l04Sum_body.l3 kb4 l0 ((rd_T33 l0 0).f0) ((rd_T33 l0 0).f1) x7_2 x10_2 y176 x13_2 t168 x15_3 (wrap64 (x17_4 + 1)) ji23) = some t194 := by first | (rw [hy176]; with_reducible exact H) | (have H2_ := (Option.bind_some _ _).symm.trans H; rw [hy176]; with_reducible exact H2_) | (have H2_ := (Option.bind_some _ _).symm.trans H; with_reducible exact H2_) | with_reducible exact H | (rw [hy176]; exact H) | exact H
                                                                        have Ny176 := Aside0.mk hy176
                                                                        clear hy176
                                                                        have H' := Aside0.mk H
                                                                        clear H
                                                                        have p170 : 0 ≤ (ji23 : Int) := of_decide_eq_true qB82
                                                                        have q170 : ji23 < (x11_4.length : Int) := of_decide_eq_true qB82
                                                                        obtain ⟨ad170, A170_0, c170_0, e170, hx170_0, hl170_0, hi170_0⟩ := at_L2 (Kd.S_reads' HO_11.out).2.2 ji23 p170 q170
                                                                        obtain rfl : ad169 = ad170 := (by injection e170)
                                                                        obtain ⟨ce170, hce170, hMe170, hcc170⟩ := Kd.S_get HO_11.out [] ji23 p170 (by first | exact q170 | exact of_decide_eq_true qB82 | (have e_ := (Kd.S_reads' HO_11.out).1; omega))
                                                                        obtain ⟨ve170_0, rfl, ge170_0⟩ := hMe170
                                                                        have hv170_0 := hcc170 0 _ rfl
                                                                        rw [Nat.add_zero, show ((Kd.slice 2 (Kd.int .i64))).sz = 1 from rfl, Nat.mul_one] at hv170_0
                                                                        replace hv170_0 := Option.some.inj (hv170_0.symm.trans hx170_0)
                                                                        rw [hv170_0] at ge170_0
                                                                        have HL170_0 := Aside0.mk (show Kd.R (Kd.int .i64) 2 _ _ _ _ (rd_L2 x11_4 ji23) from ge170_0)
                                                                        clear hv170_0 ge170_0
                                                                        have HX170_0 := Aside0.mk hx170_0
                                                                        clear hcc170 hce170
                                                                        have HR170_0 := Aside0.mk hi170_0
                                                                        have HC170_0 := Aside0.mk hl170_0
                                                                        clear hi170_0 hl170_0
                                                                        have hcx_ := Option.some.inj (CX.out.symm.trans hx170_0)
                                                                        injection hcx_ with hcx1 hcx2 hcx3
                                                                        have hcx1 := hcx1.symm
                                                                        have hcx3 := hcx3.symm
                                                                        subst hcx1
                                                                        subst hcx3
                                                                        (try rw [hcx2])
                                                                        replace p170 := eq_true p170
                                                                        replace q170 := eq_true q170
                                                                        have p171 : 0 ≤ ((ji31) : Int) := of_decide_eq_true qB82
                                                                        have q171 : (ji31) < ((rd_L2 x11_4 ji23).length : Int) := of_decide_eq_true qB82
                                                                        obtain ⟨ad171, e171, hx171_0⟩ := Kd.at_int (by repeat (first | (with_reducible exact HR170_0.out) | (with_reducible refine Kd.C_alloc ?_ _) | (with_reducible refine Kd.C_drewN ?_ _) | (with_reducible refine Kd.C_drew ?_) | exact HR170_0.out)) (ji31) p171 q171
                                                                        cases e171
                                                                        replace p171 := eq_true p171
                                                                        replace q171 := eq_true q171
                                                                        have p172 : 0 ≤ (x15_3 : Int) := of_decide_eq_true qB82
                                                                        have q172 : x15_3 < (x7_2.length : Int) := of_decide_eq_true qB82
                                                                        obtain ⟨ad172, A172_0, c172_0, e172, hx172_0, hl172_0, hi172_0⟩ := at_L2 HR2.out x15_3 p172 q172
                                                                        cases e172
                                                                        replace hx172_0 := (HB.out.cell (World.block_lt_of_cell? wB _ hx172_0)).trans hx172_0
                                                                        have HR172_0 := Aside0.mk hi172_0
                                                                        have HC172_0 := Aside0.mk hl172_0
                                                                        clear hi172_0 hl172_0
                                                                        replace p172 := eq_true p172
                                                                        replace q172 := eq_true q172
                                                                        have p173 : 0 ≤ (x17_4 : Int) := of_decide_eq_true qB82
                                                                        have q173 : x17_4 < ((rd_L2 x7_2 x15_3).length : Int) := of_decide_eq_true qB82
                                                                        obtain ⟨ad173, e173, hx173_0⟩ := Kd.at_int HR172_0.out x17_4 p173 q173
                                                                        cases e173
                                                                        replace hx173_0 := (HB.out.cell (World.block_lt_of_cell? wB _ hx173_0)).trans hx173_0
                                                                        replace p173 := eq_true p173
                                                                        replace q173 := eq_true q173
                                                                        have p38 : 0 ≤ ((ji31) : Int) := of_decide_eq_true qB82
                                                                        have q38 : ((ji31) : Int) < (((rd_L2 x11_4 ji23).length : Int) : Int) := of_decide_eq_true qB82
                                                                        obtain ⟨go38, co38, eo38, gb38, gl38, cl38, HG38⟩ := Kd.R_form HL170_0.out (by omega)
                                                                        (first | cases eo38 | (injection eo38 with ea_ en_ ec_; (first | subst ea_ | (injection ea_ with ea_; subst ea_)); subst ec_; clear en_))
                                                                        have GB38 := Aside0.mk gb38
                                                                        have GG38 := Aside0.mk HG38
                                                                        clear gb38 gl38 HG38
                                                                        (first | simp only [add_plain] at hx171_0 | skip)
                                                                        obtain ⟨hx38_0, hf38_0⟩ := Kd.R_celln 0 HL170_0.out ((ji31) : Int) p38 q38
                                                                        replace p38 := eq_true p38
                                                                        replace q38 := eq_true q38
                                                                        have hq39 : (ji23 : Int) < (x11_4.length : Int) := (by have h_ : (ji23 : Int) < ((x11_4.length : Int) : Int) := of_decide_eq_true qB82; first | exact h_ | (have e_ := (Kd.S_reads' HO_11.out).1; omega) | simpa only [List.length_set, List.length_set] using h_)
                                                                        obtain ⟨oki39, ce39, hcl39, hM39, hcc39, hok39, hbk39⟩ := Kd.S_borrow HO_11.out [] (ji23 : Int) (of_decide_eq_true qB82) hq39
                                                                        obtain ⟨ve39_0, rfl, ge39_0⟩ := hM39
                                                                        have hv39 := hcc39 0 _ rfl
                                                                        rw [Nat.add_zero, show ((Kd.slice 2 (Kd.int .i64))).sz = 1 from rfl, Nat.mul_one] at hv39
                                                                        replace hv39 := Option.some.inj (hv39.symm.trans HX170_0.out)
                                                                        subst hv39
                                                                        clear hcc39 hcl39
                                                                        replace ge39_0 := (show Kd.R (Kd.int .i64) 2 _ _ _ _ (rd_L2 x11_4 ji23) from ge39_0)
                                                                        have hne39 : (ad169.add (ji23 : Int).toNat).block ≠ go38 := fun e_ => (hok39 go38 (ge39_0.1 _ rfl)).2 (by rw [← e_, add_block]; rfl)
                                                                        have HP39 := Kd.R_putg ge39_0 ((ji31) : Int) (wrap64 ((rd (rd_L2 x11_4 ji23) (ji31)) + (rd (rd_L2 x7_2 x15_3) x17_4)))
                                                                        go_wp2_with fail
                                                                        go_region
                                                                        obtain ⟨w40, hw⟩ : ∃ w_ : World, w_ = (wr.setCell ⟨go38, ((ji31) : Int).toNat, none⟩ (.int .i64 (wrap64 ((rd (rd_L2 x11_4 ji23) (ji31)) + (rd (rd_L2 x7_2 x15_3) x17_4))))) := ⟨_, rfl⟩
                                                                        rw [← hw]
                                                                        have hg : wr.grownBy w40 (some go38) := (by rw [hw]; exact HP39.2)
                                                                        have CXN := Aside0.mk (hro_cell hg CX.out hne39)
                                                                        have hz_ : Kd.R (Kd.int .i64) 2 w40 wB.heap.size oki39 (.slice (some ⟨go38, 0, none⟩) (rd_L2 x11_4 ji23).length c170_0) y174 := (by rw [hw, Ny174.out]; exact HP39.1)
                                                                        have hp_ : Kd.S (Kd.slice 2 (Kd.int .i64)) 22 w40 wB.heap.size (fun _ => True) (.slice (some ad169) x11_4.length co26) y176 := (by rw [Ny176.out]; exact hbk39 hg (fun k_ e_ => by injection e_ with e_; subst e_; exact ge39_0.1 _ rfl) (Kd.M_row hz_))
                                                                        have hm_ := Kd.R_mono hz_ hok39
                                                                        clear HP39 hbk39
                                                                        have n0_ := Aside0.mk (hp_)
                                                                        have n1_ := Aside0.mk ((by rw [hw]; exact below_set (HB.out) GB38.out : Below wB.heap.size wB w40))
                                                                        have n2_ := Aside0.mk (hm_)
                                                                        have n3_ := Aside0.mk ((Kd.R_reads' hm_).2.1)
                                                                        clear HO_11
                                                                        clear HB
                                                                        clear HL170_0
                                                                        have HO_11 := n0_
                                                                        have HB := n1_
                                                                        have HL177 := n2_
                                                                        have HC175 := n3_
                                                                        clear n0_ n1_ n2_ n3_
                                                                        clear hg hw hp_ hz_ hm_ hok39
                                                                        go_wp2
                                                                        (try simp only [← hl11_4])
                                                                        (try simp only [← hcx2])
                                                                        (first | go_roundg kb4 | ((try simp only [add_plain] at *); go_roundg kb4))
                                                                        case measure => have := HKb1.out; have := HKb2.out; have := HKb3.out; have := HKb4.out; omega
                                                                        case rel => exact ⟨(y176), (wrap64 (x17_4 + 1)), qB83, H', ⟨by have := HKb1.out; have := HKb2.out; have := HKb3.out; have := HKb4.out; omega⟩, ⟨by (try simp only [hl11_4]); (with_reducible repeat (first | apply Kd.S_alloc | apply Kd.S_drewN | apply Kd.S_drew)); exact HO_11.out⟩, ⟨by repeat (first | (with_reducible first | exact HB.out | apply below_alloc | apply pw_below_drewN | apply below_drew1) | exact HB.out)⟩, ⟨CXN.out⟩⟩
                                                                      · rw [if_neg c37] at H
                                                                        exact absurd H (by simp)
                                                                    · rw [if_neg c36] at H
                                                                      exact absurd H (by simp)
                                                                  · rw [if_neg c35] at H
                                                                    exact absurd H (by simp)
                                                                · rw [if_neg c34] at H
                                                                  exact absurd H (by simp)
                                                              · rw [if_neg c33] at H
                                                                exact absurd H (by simp)
                                                            · rw [if_neg c32] at H
                                                              exact absurd H (by simp)
                                                        · rw [if_neg c29] at H
                                                          exact absurd H (by simp)
                                                      · rw [if_neg c28] at H
                                                        exact absurd H (by simp)
                                                    · rw [if_neg c27] at H
                                                      have c27b0 : decide (x17_4 < ((rd_T33 l0 0).f1)) = false := decide_eq_false c27
                                                      clear c27
                                                      have H' := Aside0.mk H
                                                      clear H
                                                      go_wp2
                                                      (try simp only [← hl11_4])
                                                      (first | go_roundg kb4 | ((try simp only [add_plain] at *); go_roundg kb4))
                                                      case measure => have := HKb1.out; have := HKb2.out; have := HKb3.out; have := HKb4.out; omega
                                                      case rel => exact ⟨(x11_4), (wrap64 (x15_3 + 1)), qB83, H', ⟨by have := HKb1.out; have := HKb2.out; have := HKb3.out; have := HKb4.out; omega⟩, ⟨by (try simp only [hl11_4]); (with_reducible repeat (first | apply Kd.S_alloc | apply Kd.S_drewN | apply Kd.S_drew)); exact HO_11.out⟩, ⟨by repeat (first | (with_reducible first | exact HB.out | apply below_alloc | apply pw_below_drewN | apply below_drew1) | exact HB.out)⟩⟩
                                              · rw [if_neg c25] at H
                                                exact absurd H (by simp)
                                            · rw [if_neg c24] at H
                                              exact absurd H (by simp)
                                        · rw [if_neg c21] at H
                                          have c21b0 : decide (x15_3 < ((rd_T33 l0 0).f0)) = false := decide_eq_false c21
                                          clear c21
                                          have H' := Aside0.mk H
                                          clear H
                                          go_wp2
                                          (first | go_roundg kb3 | ((try simp only [add_plain] at *); go_roundg kb3))
                                          case measure => have := HKb1.out; have := HKb2.out; have := HKb3.out; omega
                                          case rel => exact ⟨(x11_3), (wrap64 (x13_2 + 1)), qB83, H', ⟨by have := HKb1.out; have := HKb2.out; have := HKb3.out; omega⟩, ⟨by (with_reducible repeat (first | apply Kd.S_alloc | apply Kd.S_drewN | apply Kd.S_drew)); exact HO_11.out⟩, ⟨by repeat (first | (with_reducible first | exact HB.out | apply below_alloc | apply pw_below_drewN | apply below_drew1) | exact HB.out)⟩⟩
                                  · rw [if_neg c18] at H
                                    exact absurd H (by simp)
                                · rw [if_neg c17] at H
                                  exact absurd H (by simp)
                              · rw [if_neg c16] at H
                                have c16b0 : decide (x13_2 < ((rd_T33 l0 0).f0)) = false := decide_eq_false c16
                                clear c16
                                obtain rfl := (Option.some.inj H).symm
                                have ho0 := Kd.S_mono (ok' := fun _ => True) HO_11.out (fun _ _ => trivial)
                                have hb : Below wB.heap.size wB wr := by repeat (first | (with_reducible first | exact HB.out | apply below_alloc | apply pw_below_drewN | apply below_drew1) | exact HB.out)
                                have HB := HBm
                                have HK1 := HKa
                                have HK2 := HKb
                                have H' := HJm
                                have n0_ := Aside0.mk (Kd.S_elder' qB74 (Kd.S_base ho0) hb)
                                have n1_ := Aside0.mk (Kd.S_lower (Kd.S_new' ho0 (Kd.S_lt qB74)) (below_size qB15))
                                have n2_ := Aside0.mk (blk_below (g := gb178) (o := .cells #[.int .i64 0, .slice none 0 0] 43 (0, 0)) qB36 hb)
                                have n3_ := Aside0.mk (below_step qB15 hb)
                                clear HO_7
                                clear BK178
                                clear HB
                                have HO_7 := n0_
                                have HO196 := n1_
                                have BK178 := n2_
                                have HB := n3_
                                clear n0_ n1_ n2_ n3_
                                (try clear hb)
                                (try clear hb2)
                                (try clear hk)
                                (try clear hi)
                                (try clear ho0)
                                go_wp2
                                (first | go_roundg k2 | ((try simp only [add_plain] at *); go_roundg k2))
                                case measure => have := HK1.out; have := HK2.out; omega
                                case rel => exact ⟨(t194), (wrap64 (x10_2 + 1)), qB83, H', ⟨by have := HK1.out; have := HK2.out; omega⟩, ⟨by (with_reducible repeat (first | apply Kd.S_alloc | apply Kd.S_drewN | apply Kd.S_drew)); exact Kd.S_mono HO196.out (fun _ hk => trivial)⟩, ⟨by (with_reducible repeat (first | refine blk_drewN ?_ _ | refine blk_drew ?_ | refine blk_alloc ?_ _)); exact BK178.out⟩, ⟨by repeat (first | (with_reducible first | exact HB.out | apply below_alloc | apply pw_below_drewN | apply below_drew1 | refine below_set ?_ GE178.out) | exact HB.out)⟩⟩

                  · rw [if_neg c21] at H
                    have c21b0 : decide (x10_2 < (l0.length : Int)) = false := decide_eq_false c21
                    clear c21
                    by_cases c25 : 0 ≤ a1
                    · rw [if_pos c25] at H
                      have c25b0 : decide (0 ≤ a1) = true := decide_eq_true c25
                      clear c25
                      by_cases c26 : a1 < (x7_2.length : Int)
                      · rw [if_pos c26] at H
                        have c26b0 : decide (a1 < (x7_2.length : Int)) = true := decide_eq_true c26
                        clear c26
                        replace H := Option.bind_eq_some_iff.mp H
                        obtain ⟨⟨t198, t199⟩, A270, H⟩ := H
                        replace H : (some (t198, t199)) = some (r1, r2) := H
                        have A27 := Aside0.mk A270
                        clear A270
                        simp only [Option.some.injEq, Prod.mk.injEq] at H
                        obtain ⟨rfl, rfl⟩ := H
                        obtain ⟨Ao28, co28, eo28⟩ := Kd.S_slice HO_7.out
                        subst eo28
                        have p197 : 0 ≤ (a1 : Int) := of_decide_eq_true qB82
                        have q197 : a1 < (x7_2.length : Int) := of_decide_eq_true qB82
                        obtain ⟨ad197, A197_0, c197_0, e197, hx197_0, hl197_0, hi197_0⟩ := at_L2 (Kd.S_reads' HO_7.out).2.2 a1 p197 q197
                        cases e197
                        obtain ⟨ce197, hce197, hMe197, hcc197⟩ := Kd.S_get HO_7.out [] a1 p197 (by first | exact q197 | exact of_decide_eq_true qB82 | (have e_ := (Kd.S_reads' HO_7.out).1; omega))
                        obtain ⟨ve197_0, rfl, ge197_0⟩ := hMe197
                        have hv197_0 := hcc197 0 _ rfl
                        rw [Nat.add_zero, show ((Kd.slice 2 (Kd.int .i64))).sz = 1 from rfl, Nat.mul_one] at hv197_0
                        replace hv197_0 := Option.some.inj (hv197_0.symm.trans hx197_0)
                        rw [hv197_0] at ge197_0
                        have HL197_0 := Aside0.mk (show Kd.R (Kd.int .i64) 2 _ _ _ _ (rd_L2 x7_2 a1) from ge197_0)
                        clear hv197_0 ge197_0
                        have HX197_0 := Aside0.mk hx197_0
                        clear hcc197 hce197
                        have HR197_0 := Aside0.mk hi197_0
                        have HC197_0 := Aside0.mk hl197_0
                        clear hi197_0 hl197_0
                        replace p197 := eq_true p197
                        replace q197 := eq_true q197
                        go_wp2_with (first | (go_at_call 79; (with_reducible refine (spec_l01Reduce.calls k2 ((rd_T33 l0 0).f1) _ _ (rd_L2 x7_2 a1) t198 t199 _ ?side1 ?side2 A27.out).mono ?_); (case side1 => repeat (first | exact qB10 | (with_reducible refine Kd.C_alloc ?_ _) | (with_reducible refine Kd.C_drewN ?_ _) | (with_reducible refine Kd.C_drew ?_))); (case side2 => exact HC197_0.out); rintro e w29 ⟨v200, rfl, ho0, hb⟩; have n0_ := Aside0.mk (Kd.S_elder' qB74 (Kd.R_base ho0) hb); have n1_ := Aside0.mk (Kd.R_elder' qB53 (Kd.R_base ho0) hb); have n2_ := Aside0.mk (Kd.R_lower (Kd.R_new' ho0 (Kd.R_lt qB53)) (below_size qB15)); have n3_ := Aside0.mk (blk_below (g := gb178) (o := .cells #[.int .i64 0, .slice none 0 0] 43 (0, 0)) qB36 hb); have n4_ := Aside0.mk (Kd.C_below qB10 hb); have n5_ := Aside0.mk (pw_cell_below hb HX197_0.out); have n6_ := Aside0.mk (below_step qB15 hb); clear HO_7; clear HL197_0; clear BK178; clear HR197_0; clear HX197_0; clear HB; have HO_7 := n0_; have HL197_0 := n1_; have HO201 := n2_; have BK178 := n3_; have HR197_0 := n4_; have HX197_0 := n5_; have HB := n6_; clear n0_ n1_ n2_ n3_ n4_ n5_ n6_; (try clear hb); (try clear hb2); (try clear hk); (try clear hi); (try clear ho0); have hcz30_0 : w29.cell? ⟨gb178, 0, none⟩ = some (.int .i64 0) := (blk_cell BK178.out 0).trans rfl; have hcz30_1 : w29.cell? ⟨gb178, 1, none⟩ = some (.slice none 0 0) := (blk_cell BK178.out 1).trans rfl; have hfz30_0 := blk_frozen BK178.out 0; have hfz30_1 := blk_frozen BK178.out 1; obtain ⟨Ao31, co31, eo31⟩ := Kd.R_slice HO201.out; subst eo31))
                        repeat (go_quiet (first | (go_at_call 79; (with_reducible refine (spec_l01Reduce.calls k2 ((rd_T33 l0 0).f1) _ _ (rd_L2 x7_2 a1) t198 t199 _ ?side1 ?side2 A27.out).mono ?_); (case side1 => repeat (first | exact qB10 | (with_reducible refine Kd.C_alloc ?_ _) | (with_reducible refine Kd.C_drewN ?_ _) | (with_reducible refine Kd.C_drew ?_))); (case side2 => exact HC197_0.out); rintro e w29 ⟨v200, rfl, ho0, hb⟩; have n0_ := Aside0.mk (Kd.S_elder' qB74 (Kd.R_base ho0) hb); have n1_ := Aside0.mk (Kd.R_elder' qB53 (Kd.R_base ho0) hb); have n2_ := Aside0.mk (Kd.R_lower (Kd.R_new' ho0 (Kd.R_lt qB53)) (below_size qB15)); have n3_ := Aside0.mk (blk_below (g := gb178) (o := .cells #[.int .i64 0, .slice none 0 0] 43 (0, 0)) qB36 hb); have n4_ := Aside0.mk (Kd.C_below qB10 hb); have n5_ := Aside0.mk (pw_cell_below hb HX197_0.out); have n6_ := Aside0.mk (below_step qB15 hb); clear HO_7; clear HL197_0; clear BK178; clear HR197_0; clear HX197_0; clear HB; have HO_7 := n0_; have HL197_0 := n1_; have HO201 := n2_; have BK178 := n3_; have HR197_0 := n4_; have HX197_0 := n5_; have HB := n6_; clear n0_ n1_ n2_ n3_ n4_ n5_ n6_; (try clear hb); (try clear hb2); (try clear hk); (try clear hi); (try clear ho0); have hcz30_0 : w29.cell? ⟨gb178, 0, none⟩ = some (.int .i64 0) := (blk_cell BK178.out 0).trans rfl; have hcz30_1 : w29.cell? ⟨gb178, 1, none⟩ = some (.slice none 0 0) := (blk_cell BK178.out 1).trans rfl; have hfz30_0 := blk_frozen BK178.out 0; have hfz30_1 := blk_frozen BK178.out 1; obtain ⟨Ao31, co31, eo31⟩ := Kd.R_slice HO201.out; subst eo31)); try go_wp2_with (first | (go_at_call 79; (with_reducible refine (spec_l01Reduce.calls k2 ((rd_T33 l0 0).f1) _ _ (rd_L2 x7_2 a1) t198 t199 _ ?side1 ?side2 A27.out).mono ?_); (case side1 => repeat (first | exact qB10 | (with_reducible refine Kd.C_alloc ?_ _) | (with_reducible refine Kd.C_drewN ?_ _) | (with_reducible refine Kd.C_drew ?_))); (case side2 => exact HC197_0.out); rintro e w29 ⟨v200, rfl, ho0, hb⟩; have n0_ := Aside0.mk (Kd.S_elder' qB74 (Kd.R_base ho0) hb); have n1_ := Aside0.mk (Kd.R_elder' qB53 (Kd.R_base ho0) hb); have n2_ := Aside0.mk (Kd.R_lower (Kd.R_new' ho0 (Kd.R_lt qB53)) (below_size qB15)); have n3_ := Aside0.mk (blk_below (g := gb178) (o := .cells #[.int .i64 0, .slice none 0 0] 43 (0, 0)) qB36 hb); have n4_ := Aside0.mk (Kd.C_below qB10 hb); have n5_ := Aside0.mk (pw_cell_below hb HX197_0.out); have n6_ := Aside0.mk (below_step qB15 hb); clear HO_7; clear HL197_0; clear BK178; clear HR197_0; clear HX197_0; clear HB; have HO_7 := n0_; have HL197_0 := n1_; have HO201 := n2_; have BK178 := n3_; have HR197_0 := n4_; have HX197_0 := n5_; have HB := n6_; clear n0_ n1_ n2_ n3_ n4_ n5_ n6_; (try clear hb); (try clear hb2); (try clear hk); (try clear hi); (try clear ho0); have hcz30_0 : w29.cell? ⟨gb178, 0, none⟩ = some (.int .i64 0) := (blk_cell BK178.out 0).trans rfl; have hcz30_1 : w29.cell? ⟨gb178, 1, none⟩ = some (.slice none 0 0) := (blk_cell BK178.out 1).trans rfl; have hfz30_0 := blk_frozen BK178.out 0; have hfz30_1 := blk_frozen BK178.out 1; obtain ⟨Ao31, co31, eo31⟩ := Kd.R_slice HO201.out; subst eo31)))
                        refine bodyPost_ret (results_cell_row rfl _ _ gb178 43 #[.int .i64 t198, .slice Ao31 t199.length co31] (0, 0) _ rfl (by (with_reducible repeat (first | refine blk_drewN ?_ _ | refine blk_drew ?_ | refine blk_alloc ?_ _)); refine blk_put (cs := #[.int .i64 t198, .slice none 0 0]) ?_ 1 _ rfl; (with_reducible repeat (first | refine blk_drewN ?_ _ | refine blk_drew ?_ | refine blk_alloc ?_ _)); refine blk_put (cs := #[.int .i64 0, .slice none 0 0]) ?_ 0 _ rfl; (with_reducible repeat (first | refine blk_drewN ?_ _ | refine blk_drew ?_ | refine blk_alloc ?_ _)); exact BK178.out) Try.underlying43 rfl (by kernel_rfl)) rfl ?_
                        exact ⟨_, by first | rfl | (simp [errW_none, errW_some] <;> rfl) | (simp [*, errW_none, errW_some] <;> rfl), by (with_reducible repeat (first | apply Kd.R_alloc | apply Kd.R_drewN | apply Kd.R_drew)); exact Kd.R_mono (Kd.R_far (p := ⟨gb178, 1, none⟩) (Kd.R_far (p := ⟨gb178, 0, none⟩) (Kd.R_types HO201.out BK178.out (by decide)) (fun _ hk => hk.2) (.int .i64 t198)) (fun _ hk => hk.2) (.slice Ao31 t199.length co31)) (fun _ hk => trivial), by repeat (first | (with_reducible first | exact HB.out | apply below_alloc | apply pw_below_drewN | apply below_drew1 | refine below_set ?_ GE178.out) | exact HB.out)⟩
                      · rw [if_neg c26] at H
                        exact absurd H (by simp)
                    · rw [if_neg c25] at H
                      exact absurd H (by simp)
            · rw [if_neg c16] at H
              exact absurd H (by simp)
          · rw [if_neg c15] at H
            exact absurd H (by simp)
  · rw [if_neg c3] at H
    exact absurd H (by simp)

end Go.Proofs.Ythdpdiahkphklab.PFnExactJacobiRow
