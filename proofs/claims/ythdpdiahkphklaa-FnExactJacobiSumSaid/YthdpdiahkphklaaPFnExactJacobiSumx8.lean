/- The functions that the law reaches, as plain functions, each with the proof that the program comes to it; no condition. Written by a program of this session (wip/mp.py) over the printing of the kit; what is marked HAND is told by hand. -/
import Derived.Test.YthdpdiahkphklaaPFnExactJacobiSumx0
import Derived.Test.YthdpdiahkphklaaPFnExactJacobiSumx7
namespace Go.Proofs.Ythdpdiahkphklaa.PFnExactJacobiSum
open Go.RowKit Go.Proofs.YthdpdiahkphklaaW.PrintWords Go.Proofs.YthdpdiahkphklaaW.PrintLast Go.Proofs.YthdpdiahkphklaaW.PrintMore
attribute [local go_sem] max2_int min2_int max_two min_two max_three min_three max_four min_four   -- for this text's walks alone
set_option linter.unusedVariables false
set_option linter.unusedSimpArgs false

/-! ### impl_listCode: function 65 -/
mutual
def impl_listCode.l0 : Nat → List (S37) → List (S37) → Int → Int → Option (Int)
 | 0, _, _, _, _ => none
 | k + 1, x0, x7, x8, x9 => if x9 < x8 then (if 0 ≤ x9 then (if x9 < (x7.length : Int) then ((impl_IsCharacter.f k ((rd_T37 x7 x9).f0) ((rd_T37 x7 x9).f1) ((rd_T37 x7 x9).f2)).bind fun t255 => (if t255 = true then (impl_listCode.l0 k x0 x7 x8 (wrap64 (x9 + 1))) else (some 1))) else (none)) else (none)) else ((impl_within.f (x0.length : Int) 1 4).bind fun t256 => (if t256 = true then (impl_listCode.l1 k x0 x0 (x0.length : Int) 0) else (some 2)))
def impl_listCode.l1 : Nat → List (S37) → List (S37) → Int → Int → Option (Int)
 | 0, _, _, _, _ => none
 | k + 1, x0, x21, x22, x23 => if x23 < x22 then (if 0 ≤ x23 then (if x23 < (x21.length : Int) then (if 0 < (x0.length : Int) then (if ((rd_T37 x21 x23).f0) = ((rd_T37 x0 0).f0) then (if ((rd_T37 x21 x23).f1) = ((rd_T37 x0 0).f1) then (impl_listCode.l1 k x0 x21 x22 (wrap64 (x23 + 1))) else (some 2)) else (some 2)) else (none)) else (none)) else (none)) else (some 0)
end
def impl_listCode.f (k : Nat) (l0 : List (S37)) : Option (Int) := impl_listCode.l0 k l0 l0 (l0.length : Int) 0
theorem impl_listCode.mono_l : ∀ k, (∀ y0 y1 y2 y3, LeO (impl_listCode.l0 k y0 y1 y2 y3) (impl_listCode.l0 (k + 1) y0 y1 y2 y3)) ∧ (∀ y0 y1 y2 y3, LeO (impl_listCode.l1 k y0 y1 y2 y3) (impl_listCode.l1 (k + 1) y0 y1 y2 y3))
 | 0 => ⟨fun _ _ _ _ r h => by simp [impl_listCode.l0] at h, fun _ _ _ _ r h => by simp [impl_listCode.l1] at h⟩
 | k + 1 => by
  obtain ⟨ih0, ih1⟩ := impl_listCode.mono_l k
  refine ⟨?_, ?_⟩
  ·intro y0 y1 y2 y3
   unfold impl_listCode.l0
   repeat' first
   | (with_reducible exact ih0 _ _ _ _)
   | (with_reducible exact ih1 _ _ _ _)
   | (with_reducible exact impl_IsCharacter.mono _ _ _ _)
   | (with_reducible exact LeO.refl _)
   | (with_reducible exact LeO.none _)
   | (with_reducible refine LeO.ite ?_ ?_)
   | (with_reducible refine LeO.bind ?_ (fun _ => ?_))
   | exact ih0 _ _ _ _
   | exact ih1 _ _ _ _
   | exact impl_IsCharacter.mono _ _ _ _
   | exact LeO.none _
   | refine LeO.ite ?_ ?_
   | refine LeO.bind ?_ (fun _ => ?_)
  ·intro y0 y1 y2 y3
   unfold impl_listCode.l1
   repeat' first
   | (with_reducible exact ih0 _ _ _ _)
   | (with_reducible exact ih1 _ _ _ _)
   | (with_reducible exact impl_IsCharacter.mono _ _ _ _)
   | (with_reducible exact LeO.refl _)
   | (with_reducible exact LeO.none _)
   | (with_reducible refine LeO.ite ?_ ?_)
   | (with_reducible refine LeO.bind ?_ (fun _ => ?_))
   | exact ih0 _ _ _ _
   | exact ih1 _ _ _ _
   | exact impl_IsCharacter.mono _ _ _ _
   | exact LeO.none _
   | refine LeO.ite ?_ ?_
   | refine LeO.bind ?_ (fun _ => ?_)
theorem impl_listCode.mono : ∀ a0 k, LeO (impl_listCode.f k a0) (impl_listCode.f (k + 1) a0) := by
 intro a0 k
 obtain ⟨ih0, ih1⟩ := impl_listCode.mono_l k
 unfold impl_listCode.f
 repeat' first
   | (with_reducible exact ih0 _ _ _ _)
   | (with_reducible exact ih1 _ _ _ _)
   | (with_reducible exact impl_IsCharacter.mono _ _ _ _)
   | (with_reducible exact LeO.refl _)
   | (with_reducible exact LeO.none _)
   | (with_reducible refine LeO.ite ?_ ?_)
   | (with_reducible refine LeO.bind ?_ (fun _ => ?_))
   | exact ih0 _ _ _ _
   | exact ih1 _ _ _ _
   | exact impl_IsCharacter.mono _ _ _ _
   | exact LeO.none _
   | refine LeO.ite ?_ ?_
   | refine LeO.bind ?_ (fun _ => ?_)
set_option maxHeartbeats 8000000 in
set_option maxRecDepth 100000 in
theorem impl_listCode.calls (k : Nat) (A0 : Option Addr) (c0 : Nat) (l0 : List (S37)) (r : Int) (w : World) (hr0 : Kd.C k37 w A0 l0.length l0) (hc0 : l0.length ≤ c0) (h : impl_listCode.f k l0 = some r) :
  Calls Try.prog 65 #[.slice A0 l0.length c0] w fun e w' => e = .returned (.int .i64 r) ∧ Below w.heap.size w w' := by
 have hu37 := Try.underlying37
 have HR0 := Aside0.mk hr0
 have HC0 := Aside0.mk hc0
 clear hr0 hc0
 have HB := Aside0.mk (Below.refl w.heap.size w)
 have H : (impl_listCode.l0 k l0 l0 (l0.length : Int) 0) = some r := h
 clear h
 have H' := Aside0.mk H
 clear H
 go_enter Try.func65, Try.ntmps65
 go_wp2
 repeat (go_quiet (fail); try go_wp2)
 try simp only [Act.put, List.setIfInBounds_toArray, List.set_cons_succ, List.set_cons_zero]
 go_loopg [9] k (fun kq v9 w' => ∃ (x9_1 : Int), v9 = .int .i64 x9_1 ∧ Aside0 (impl_listCode.l0 kq l0 l0 (l0.length : Int) x9_1 = some r) ∧ Aside0 (kq ≤ k) ∧ Aside0 (Below w.heap.size w w'))
 case atStart => exact ⟨(0), qB122, H', ⟨Nat.le_refl _⟩, ⟨by repeat (first | (with_reducible first | exact HB.out | apply below_alloc | apply pw_below_drewN | apply below_drew1) | exact HB.out)⟩⟩
 case round =>
  clear H'
  obtain ⟨x9_1, rfl, HA, HK1, HB⟩ := hrel
  cases gk with
  | zero => exact absurd HA.out (by simp [impl_listCode.l0])
  | succ k1 =>
   have H := HA.out
   clear HA
   simp only [impl_listCode.l0] at H
   by_cases c2 : x9_1 < (l0.length : Int)
   ·rw [if_pos c2] at H
    have c2b0 : decide (x9_1 < (l0.length : Int)) = true := decide_eq_true c2
    clear c2
    by_cases c3 : 0 ≤ x9_1
    ·rw [if_pos c3] at H
     have c3b0 : decide (0 ≤ x9_1) = true := decide_eq_true c3
     clear c3
     by_cases c4 : x9_1 < (l0.length : Int)
     ·rw [if_pos c4] at H
      have c4b0 : decide (x9_1 < (l0.length : Int)) = true := decide_eq_true c4
      clear c4
      replace H := Option.bind_eq_some_iff.mp H
      obtain ⟨t255, A50, H⟩ := H
      replace H : (if t255 = true then (impl_listCode.l0 k1 l0 l0 (l0.length : Int) (wrap64 (x9_1 + 1))) else (some 1)) = some r := H
      have A5 := Aside0.mk A50
      clear A50
      by_cases c6 : t255 = true
      ·subst c6
       have H1 : (impl_listCode.l0 k1 l0 l0 (l0.length : Int) (wrap64 (x9_1 + 1))) = some r := by rw [if_pos rfl] at H; exact H
       clear H
       have H := H1
       clear H1
       have H' := Aside0.mk H
       clear H
       have p253 : 0 ≤ (x9_1 : Int) := of_decide_eq_true qB121
       have q253 : x9_1 < (l0.length : Int) := of_decide_eq_true qB121
       obtain ⟨ad253, e253, hx253_0, hx253_1, hx253_2⟩ := at_T37 HR0.out x9_1 p253 q253
       cases e253
       replace hx253_0 := (HB.out.cell (World.block_lt_of_cell? w _ hx253_0)).trans hx253_0
       replace hx253_1 := (HB.out.cell (World.block_lt_of_cell? w _ hx253_1)).trans hx253_1
       replace hx253_2 := (HB.out.cell (World.block_lt_of_cell? w _ hx253_2)).trans hx253_2
       replace p253 := eq_true p253
       replace q253 := eq_true q253
       go_wp2_with (first | ((with_reducible refine gate_dst (N := 4) rfl ?_); refine box_event ?hg (N := 4) ?hd (cs := #[.int .i64 0, .int .i64 0, .int .i64 0]) (t := 37) ?hr ?_; (case hd => rfl); (case hg => rfl); (case hr => first | (go_simp; done) | (go_simp; rfl)); intro gb254 hg w7 hbox hb; have n0_ := Aside0.mk (below_step qB60 hb); have n1_ := Aside0.mk (hbox); have n2_ := Aside0.mk ((by rw [hg]; exact (below_size qB60) : w.heap.size ≤ gb254)); have n3_ := Aside0.mk ((by rw [hg]; exact (below_size qB60) : w.heap.size ≤ gb254)); clear HB; have HB := n0_; have BK254 := n1_; have GW254 := n2_; have GE254 := n3_; clear n0_ n1_ n2_ n3_; clear hb hbox hg; have hcz8_0 : w7.cell? ⟨gb254, 0, none⟩ = some (.int .i64 0) := (blk_cell BK254.out 0).trans rfl; have hcz8_1 : w7.cell? ⟨gb254, 1, none⟩ = some (.int .i64 0) := (blk_cell BK254.out 1).trans rfl; have hcz8_2 : w7.cell? ⟨gb254, 2, none⟩ = some (.int .i64 0) := (blk_cell BK254.out 2).trans rfl; have hfz8_0 := blk_frozen BK254.out 0; have hfz8_1 := blk_frozen BK254.out 1; have hfz8_2 := blk_frozen BK254.out 2) | (go_at_call 53; (with_reducible refine (impl_IsCharacter.calls k1 ((rd_T37 l0 x9_1).f0) ((rd_T37 l0 x9_1).f1) ((rd_T37 l0 x9_1).f2) true _ A5.out).mono ?_); rintro e w9 ⟨rfl, hb⟩; have n0_ := Aside0.mk (blk_below (g := gb254) (o := .cells #[.int .i64 ((rd_T37 l0 x9_1).f0), .int .i64 ((rd_T37 l0 x9_1).f1), .int .i64 ((rd_T37 l0 x9_1).f2)] 37 (0, 0)) qB1 hb); have n1_ := Aside0.mk (below_step qB41 hb); clear BK254; clear HB; have BK254 := n0_; have HB := n1_; clear n0_ n1_; (try clear hb); (try clear hb2); (try clear hk); (try clear hi)))
       repeat (go_quiet (first | ((with_reducible refine gate_dst (N := 4) rfl ?_); refine box_event ?hg (N := 4) ?hd (cs := #[.int .i64 0, .int .i64 0, .int .i64 0]) (t := 37) ?hr ?_; (case hd => rfl); (case hg => rfl); (case hr => first | (go_simp; done) | (go_simp; rfl)); intro gb254 hg w7 hbox hb; have n0_ := Aside0.mk (below_step qB60 hb); have n1_ := Aside0.mk (hbox); have n2_ := Aside0.mk ((by rw [hg]; exact (below_size qB60) : w.heap.size ≤ gb254)); have n3_ := Aside0.mk ((by rw [hg]; exact (below_size qB60) : w.heap.size ≤ gb254)); clear HB; have HB := n0_; have BK254 := n1_; have GW254 := n2_; have GE254 := n3_; clear n0_ n1_ n2_ n3_; clear hb hbox hg; have hcz8_0 : w7.cell? ⟨gb254, 0, none⟩ = some (.int .i64 0) := (blk_cell BK254.out 0).trans rfl; have hcz8_1 : w7.cell? ⟨gb254, 1, none⟩ = some (.int .i64 0) := (blk_cell BK254.out 1).trans rfl; have hcz8_2 : w7.cell? ⟨gb254, 2, none⟩ = some (.int .i64 0) := (blk_cell BK254.out 2).trans rfl; have hfz8_0 := blk_frozen BK254.out 0; have hfz8_1 := blk_frozen BK254.out 1; have hfz8_2 := blk_frozen BK254.out 2) | (go_at_call 53; (with_reducible refine (impl_IsCharacter.calls k1 ((rd_T37 l0 x9_1).f0) ((rd_T37 l0 x9_1).f1) ((rd_T37 l0 x9_1).f2) true _ A5.out).mono ?_); rintro e w9 ⟨rfl, hb⟩; have n0_ := Aside0.mk (blk_below (g := gb254) (o := .cells #[.int .i64 ((rd_T37 l0 x9_1).f0), .int .i64 ((rd_T37 l0 x9_1).f1), .int .i64 ((rd_T37 l0 x9_1).f2)] 37 (0, 0)) qB1 hb); have n1_ := Aside0.mk (below_step qB41 hb); clear BK254; clear HB; have BK254 := n0_; have HB := n1_; clear n0_ n1_; (try clear hb); (try clear hb2); (try clear hk); (try clear hi))); try go_wp2_with (first | ((with_reducible refine gate_dst (N := 4) rfl ?_); refine box_event ?hg (N := 4) ?hd (cs := #[.int .i64 0, .int .i64 0, .int .i64 0]) (t := 37) ?hr ?_; (case hd => rfl); (case hg => rfl); (case hr => first | (go_simp; done) | (go_simp; rfl)); intro gb254 hg w7 hbox hb; have n0_ := Aside0.mk (below_step qB60 hb); have n1_ := Aside0.mk (hbox); have n2_ := Aside0.mk ((by rw [hg]; exact (below_size qB60) : w.heap.size ≤ gb254)); have n3_ := Aside0.mk ((by rw [hg]; exact (below_size qB60) : w.heap.size ≤ gb254)); clear HB; have HB := n0_; have BK254 := n1_; have GW254 := n2_; have GE254 := n3_; clear n0_ n1_ n2_ n3_; clear hb hbox hg; have hcz8_0 : w7.cell? ⟨gb254, 0, none⟩ = some (.int .i64 0) := (blk_cell BK254.out 0).trans rfl; have hcz8_1 : w7.cell? ⟨gb254, 1, none⟩ = some (.int .i64 0) := (blk_cell BK254.out 1).trans rfl; have hcz8_2 : w7.cell? ⟨gb254, 2, none⟩ = some (.int .i64 0) := (blk_cell BK254.out 2).trans rfl; have hfz8_0 := blk_frozen BK254.out 0; have hfz8_1 := blk_frozen BK254.out 1; have hfz8_2 := blk_frozen BK254.out 2) | (go_at_call 53; (with_reducible refine (impl_IsCharacter.calls k1 ((rd_T37 l0 x9_1).f0) ((rd_T37 l0 x9_1).f1) ((rd_T37 l0 x9_1).f2) true _ A5.out).mono ?_); rintro e w9 ⟨rfl, hb⟩; have n0_ := Aside0.mk (blk_below (g := gb254) (o := .cells #[.int .i64 ((rd_T37 l0 x9_1).f0), .int .i64 ((rd_T37 l0 x9_1).f1), .int .i64 ((rd_T37 l0 x9_1).f2)] 37 (0, 0)) qB1 hb); have n1_ := Aside0.mk (below_step qB41 hb); clear BK254; clear HB; have BK254 := n0_; have HB := n1_; clear n0_ n1_; (try clear hb); (try clear hb2); (try clear hk); (try clear hi))))
       (first | go_roundg k1 | ((try simp only [add_plain] at *); go_roundg k1))
       case measure => have := HK1.out; omega
       case rel => exact ⟨(wrap64 (x9_1 + 1)), qB122, H', ⟨by have := HK1.out; omega⟩, ⟨by repeat (first | (with_reducible first | exact HB.out | apply below_alloc | apply pw_below_drewN | apply below_drew1 | refine below_set ?_ GE254.out) | exact HB.out)⟩⟩
      ·replace c6 := Bool.eq_false_iff.mpr c6
       subst c6
       have H1 : (some 1) = some r := by rw [if_neg (show ¬ (false = true) by decide)] at H; exact H
       clear H
       have H := H1
       clear H1
       obtain rfl := Option.some.inj H
       have p253 : 0 ≤ (x9_1 : Int) := of_decide_eq_true qB121
       have q253 : x9_1 < (l0.length : Int) := of_decide_eq_true qB121
       obtain ⟨ad253, e253, hx253_0, hx253_1, hx253_2⟩ := at_T37 HR0.out x9_1 p253 q253
       cases e253
       replace hx253_0 := (HB.out.cell (World.block_lt_of_cell? w _ hx253_0)).trans hx253_0
       replace hx253_1 := (HB.out.cell (World.block_lt_of_cell? w _ hx253_1)).trans hx253_1
       replace hx253_2 := (HB.out.cell (World.block_lt_of_cell? w _ hx253_2)).trans hx253_2
       replace p253 := eq_true p253
       replace q253 := eq_true q253
       go_wp2_with (first | ((with_reducible refine gate_dst (N := 4) rfl ?_); refine box_event ?hg (N := 4) ?hd (cs := #[.int .i64 0, .int .i64 0, .int .i64 0]) (t := 37) ?hr ?_; (case hd => rfl); (case hg => rfl); (case hr => first | (go_simp; done) | (go_simp; rfl)); intro gb254 hg w10 hbox hb; have n0_ := Aside0.mk (below_step qB60 hb); have n1_ := Aside0.mk (hbox); have n2_ := Aside0.mk ((by rw [hg]; exact (below_size qB60) : w.heap.size ≤ gb254)); have n3_ := Aside0.mk ((by rw [hg]; exact (below_size qB60) : w.heap.size ≤ gb254)); clear HB; have HB := n0_; have BK254 := n1_; have GW254 := n2_; have GE254 := n3_; clear n0_ n1_ n2_ n3_; clear hb hbox hg; have hcz11_0 : w10.cell? ⟨gb254, 0, none⟩ = some (.int .i64 0) := (blk_cell BK254.out 0).trans rfl; have hcz11_1 : w10.cell? ⟨gb254, 1, none⟩ = some (.int .i64 0) := (blk_cell BK254.out 1).trans rfl; have hcz11_2 : w10.cell? ⟨gb254, 2, none⟩ = some (.int .i64 0) := (blk_cell BK254.out 2).trans rfl; have hfz11_0 := blk_frozen BK254.out 0; have hfz11_1 := blk_frozen BK254.out 1; have hfz11_2 := blk_frozen BK254.out 2) | (go_at_call 53; (with_reducible refine (impl_IsCharacter.calls k1 ((rd_T37 l0 x9_1).f0) ((rd_T37 l0 x9_1).f1) ((rd_T37 l0 x9_1).f2) false _ A5.out).mono ?_); rintro e w12 ⟨rfl, hb⟩; have n0_ := Aside0.mk (blk_below (g := gb254) (o := .cells #[.int .i64 ((rd_T37 l0 x9_1).f0), .int .i64 ((rd_T37 l0 x9_1).f1), .int .i64 ((rd_T37 l0 x9_1).f2)] 37 (0, 0)) qB1 hb); have n1_ := Aside0.mk (below_step qB41 hb); clear BK254; clear HB; have BK254 := n0_; have HB := n1_; clear n0_ n1_; (try clear hb); (try clear hb2); (try clear hk); (try clear hi)))
       repeat (go_quiet (first | ((with_reducible refine gate_dst (N := 4) rfl ?_); refine box_event ?hg (N := 4) ?hd (cs := #[.int .i64 0, .int .i64 0, .int .i64 0]) (t := 37) ?hr ?_; (case hd => rfl); (case hg => rfl); (case hr => first | (go_simp; done) | (go_simp; rfl)); intro gb254 hg w10 hbox hb; have n0_ := Aside0.mk (below_step qB60 hb); have n1_ := Aside0.mk (hbox); have n2_ := Aside0.mk ((by rw [hg]; exact (below_size qB60) : w.heap.size ≤ gb254)); have n3_ := Aside0.mk ((by rw [hg]; exact (below_size qB60) : w.heap.size ≤ gb254)); clear HB; have HB := n0_; have BK254 := n1_; have GW254 := n2_; have GE254 := n3_; clear n0_ n1_ n2_ n3_; clear hb hbox hg; have hcz11_0 : w10.cell? ⟨gb254, 0, none⟩ = some (.int .i64 0) := (blk_cell BK254.out 0).trans rfl; have hcz11_1 : w10.cell? ⟨gb254, 1, none⟩ = some (.int .i64 0) := (blk_cell BK254.out 1).trans rfl; have hcz11_2 : w10.cell? ⟨gb254, 2, none⟩ = some (.int .i64 0) := (blk_cell BK254.out 2).trans rfl; have hfz11_0 := blk_frozen BK254.out 0; have hfz11_1 := blk_frozen BK254.out 1; have hfz11_2 := blk_frozen BK254.out 2) | (go_at_call 53; (with_reducible refine (impl_IsCharacter.calls k1 ((rd_T37 l0 x9_1).f0) ((rd_T37 l0 x9_1).f1) ((rd_T37 l0 x9_1).f2) false _ A5.out).mono ?_); rintro e w12 ⟨rfl, hb⟩; have n0_ := Aside0.mk (blk_below (g := gb254) (o := .cells #[.int .i64 ((rd_T37 l0 x9_1).f0), .int .i64 ((rd_T37 l0 x9_1).f1), .int .i64 ((rd_T37 l0 x9_1).f2)] 37 (0, 0)) qB1 hb); have n1_ := Aside0.mk (below_step qB41 hb); clear BK254; clear HB; have BK254 := n0_; have HB := n1_; clear n0_ n1_; (try clear hb); (try clear hb2); (try clear hk); (try clear hi))); try go_wp2_with (first | ((with_reducible refine gate_dst (N := 4) rfl ?_); refine box_event ?hg (N := 4) ?hd (cs := #[.int .i64 0, .int .i64 0, .int .i64 0]) (t := 37) ?hr ?_; (case hd => rfl); (case hg => rfl); (case hr => first | (go_simp; done) | (go_simp; rfl)); intro gb254 hg w10 hbox hb; have n0_ := Aside0.mk (below_step qB60 hb); have n1_ := Aside0.mk (hbox); have n2_ := Aside0.mk ((by rw [hg]; exact (below_size qB60) : w.heap.size ≤ gb254)); have n3_ := Aside0.mk ((by rw [hg]; exact (below_size qB60) : w.heap.size ≤ gb254)); clear HB; have HB := n0_; have BK254 := n1_; have GW254 := n2_; have GE254 := n3_; clear n0_ n1_ n2_ n3_; clear hb hbox hg; have hcz11_0 : w10.cell? ⟨gb254, 0, none⟩ = some (.int .i64 0) := (blk_cell BK254.out 0).trans rfl; have hcz11_1 : w10.cell? ⟨gb254, 1, none⟩ = some (.int .i64 0) := (blk_cell BK254.out 1).trans rfl; have hcz11_2 : w10.cell? ⟨gb254, 2, none⟩ = some (.int .i64 0) := (blk_cell BK254.out 2).trans rfl; have hfz11_0 := blk_frozen BK254.out 0; have hfz11_1 := blk_frozen BK254.out 1; have hfz11_2 := blk_frozen BK254.out 2) | (go_at_call 53; (with_reducible refine (impl_IsCharacter.calls k1 ((rd_T37 l0 x9_1).f0) ((rd_T37 l0 x9_1).f1) ((rd_T37 l0 x9_1).f2) false _ A5.out).mono ?_); rintro e w12 ⟨rfl, hb⟩; have n0_ := Aside0.mk (blk_below (g := gb254) (o := .cells #[.int .i64 ((rd_T37 l0 x9_1).f0), .int .i64 ((rd_T37 l0 x9_1).f1), .int .i64 ((rd_T37 l0 x9_1).f2)] 37 (0, 0)) qB1 hb); have n1_ := Aside0.mk (below_step qB41 hb); clear BK254; clear HB; have BK254 := n0_; have HB := n1_; clear n0_ n1_; (try clear hb); (try clear hb2); (try clear hk); (try clear hi))))
       go_ret
       exact ⟨by first | rfl | (simp [errW_none, errW_some] <;> rfl) | (simp [*, errW_none, errW_some] <;> rfl), by repeat (first | (with_reducible first | exact HB.out | apply below_alloc | apply pw_below_drewN | apply below_drew1 | refine below_set ?_ GE254.out) | exact HB.out)⟩
     ·rw [if_neg c4] at H
      exact absurd H (by simp)
    ·rw [if_neg c3] at H
     exact absurd H (by simp)
   ·rw [if_neg c2] at H
    have c2b0 : decide (x9_1 < (l0.length : Int)) = false := decide_eq_false c2
    clear c2
    replace H := Option.bind_eq_some_iff.mp H
    obtain ⟨t256, A130, H⟩ := H
    replace H : (if t256 = true then (impl_listCode.l1 k1 l0 l0 (l0.length : Int) 0) else (some 2)) = some r := H
    have A13 := Aside0.mk A130
    clear A130
    by_cases c14 : t256 = true
    ·subst c14
     have H1 : (impl_listCode.l1 k1 l0 l0 (l0.length : Int) 0) = some r := by rw [if_pos rfl] at H; exact H
     clear H
     have H := H1
     clear H1
     have H' := Aside0.mk H
     clear H
     go_wp2_with (first | (go_at_call 71; (with_reducible refine (impl_within.calls (l0.length : Int) 1 4 true _ A13.out).mono ?_); rintro e w' ⟨rfl, ⟨nd, rfl⟩⟩; (try first | exact ⟨rfl, _, World.drewN_drewN _ _ _⟩ | exact ⟨rfl, _, Eq.trans (World.drewN_drewN _ _ _) (congrArg (World.drewN _) (Nat.add_assoc _ _ _))⟩)))
     repeat (go_quiet (first | (go_at_call 71; (with_reducible refine (impl_within.calls (l0.length : Int) 1 4 true _ A13.out).mono ?_); rintro e w' ⟨rfl, ⟨nd, rfl⟩⟩; (try first | exact ⟨rfl, _, World.drewN_drewN _ _ _⟩ | exact ⟨rfl, _, Eq.trans (World.drewN_drewN _ _ _) (congrArg (World.drewN _) (Nat.add_assoc _ _ _))⟩))); try go_wp2_with (first | (go_at_call 71; (with_reducible refine (impl_within.calls (l0.length : Int) 1 4 true _ A13.out).mono ?_); rintro e w' ⟨rfl, ⟨nd, rfl⟩⟩; (try first | exact ⟨rfl, _, World.drewN_drewN _ _ _⟩ | exact ⟨rfl, _, Eq.trans (World.drewN_drewN _ _ _) (congrArg (World.drewN _) (Nat.add_assoc _ _ _))⟩))))
     try simp only [Act.put, List.setIfInBounds_toArray, List.set_cons_succ, List.set_cons_zero]
     go_loopg [23] k1 (fun kq v23 w' => ∃ (x23_2 : Int), v23 = .int .i64 x23_2 ∧ Aside0 (impl_listCode.l1 kq l0 l0 (l0.length : Int) x23_2 = some r) ∧ Aside0 (kq ≤ k1) ∧ Aside0 (Below w.heap.size w w'))
     case atStart => exact ⟨(0), qB122, H', ⟨Nat.le_refl _⟩, ⟨by repeat (first | (with_reducible first | exact HB.out | apply below_alloc | apply pw_below_drewN | apply below_drew1) | exact HB.out)⟩⟩
     case round =>
      clear H'
      try clear c1
      try clear c2
      try clear c2b0
      try clear p2
      try clear q2
      try clear hx2
      try clear c3
      try clear c3b0
      try clear c4
      try clear c4b0
      try clear c6
      try clear p6
      try clear c14
      try clear hcz11_0
      try clear hcz11_1
      try clear hcz11_2
      try clear hcz8_0
      try clear hcz8_1
      try clear hcz8_2
      try clear hfz11_0
      try clear hfz11_1
      try clear hfz11_2
      try clear hfz8_0
      try clear hfz8_1
      try clear hfz8_2
      try clear hx253_0
      try clear hx253_1
      try clear hx253_2
      try clear p253
      try clear q253
      obtain ⟨x23_2, rfl, HA, HK2, HB⟩ := hrel
      cases gk with
      | zero => exact absurd HA.out (by simp [impl_listCode.l1])
      | succ k2 =>
       have H := HA.out
       clear HA
       simp only [impl_listCode.l1] at H
       by_cases c15 : x23_2 < (l0.length : Int)
       ·rw [if_pos c15] at H
        have c15b0 : decide (x23_2 < (l0.length : Int)) = true := decide_eq_true c15
        clear c15
        by_cases c16 : 0 ≤ x23_2
        ·rw [if_pos c16] at H
         have c16b0 : decide (0 ≤ x23_2) = true := decide_eq_true c16
         clear c16
         by_cases c17 : x23_2 < (l0.length : Int)
         ·rw [if_pos c17] at H
          have c17b0 : decide (x23_2 < (l0.length : Int)) = true := decide_eq_true c17
          clear c17
          by_cases c18 : 0 < (l0.length : Int)
          ·rw [if_pos c18] at H
           have c18b0 : decide (0 < (l0.length : Int)) = true := decide_eq_true c18
           have c18b1 : decide (0 < l0.length) = true := decide_eq_true (by omega)
           clear c18
           by_cases c19 : ((rd_T37 l0 x23_2).f0) = ((rd_T37 l0 0).f0)
           ·rw [if_pos c19] at H
            have c19b0 : (((rd_T37 l0 x23_2).f0) == ((rd_T37 l0 0).f0)) = true := beq_iff_eq.mpr c19
            have c19b1 : (((rd_T37 l0 x23_2).f0) != ((rd_T37 l0 0).f0)) = false := bne_eq_false_iff_eq.mpr c19
            clear c19
            by_cases c20 : ((rd_T37 l0 x23_2).f1) = ((rd_T37 l0 0).f1)
            ·rw [if_pos c20] at H
             have c20b0 : (((rd_T37 l0 x23_2).f1) == ((rd_T37 l0 0).f1)) = true := beq_iff_eq.mpr c20
             have c20b1 : (((rd_T37 l0 x23_2).f1) != ((rd_T37 l0 0).f1)) = false := bne_eq_false_iff_eq.mpr c20
             clear c20
             have H' := Aside0.mk H
             clear H
             have p257 : 0 ≤ (x23_2 : Int) := of_decide_eq_true qB121
             have q257 : x23_2 < (l0.length : Int) := of_decide_eq_true qB121
             obtain ⟨ad257, e257, hx257_0, hx257_1, hx257_2⟩ := at_T37 HR0.out x23_2 p257 q257
             cases e257
             replace hx257_0 := (HB.out.cell (World.block_lt_of_cell? w _ hx257_0)).trans hx257_0
             replace hx257_1 := (HB.out.cell (World.block_lt_of_cell? w _ hx257_1)).trans hx257_1
             replace hx257_2 := (HB.out.cell (World.block_lt_of_cell? w _ hx257_2)).trans hx257_2
             replace p257 := eq_true p257
             replace q257 := eq_true q257
             go_wp2_with (first | ((with_reducible refine gate_dst (N := 6) rfl ?_); refine box_event ?hg (N := 6) ?hd (cs := #[.int .i64 0, .int .i64 0, .int .i64 0]) (t := 37) ?hr ?_; (case hd => rfl); (case hg => rfl); (case hr => first | (go_simp; done) | (go_simp; rfl)); intro gb258 hg w21 hbox hb; have n0_ := Aside0.mk (below_step qB60 hb); have n1_ := Aside0.mk (hbox); have n2_ := Aside0.mk ((by rw [hg]; exact (below_size qB60) : w.heap.size ≤ gb258)); have n3_ := Aside0.mk ((by rw [hg]; exact (below_size qB60) : w.heap.size ≤ gb258)); clear HB; have HB := n0_; have BK258 := n1_; have GW258 := n2_; have GE258 := n3_; clear n0_ n1_ n2_ n3_; clear hb hbox hg; have hcz22_0 : w21.cell? ⟨gb258, 0, none⟩ = some (.int .i64 0) := (blk_cell BK258.out 0).trans rfl; have hcz22_1 : w21.cell? ⟨gb258, 1, none⟩ = some (.int .i64 0) := (blk_cell BK258.out 1).trans rfl; have hcz22_2 : w21.cell? ⟨gb258, 2, none⟩ = some (.int .i64 0) := (blk_cell BK258.out 2).trans rfl; have hfz22_0 := blk_frozen BK258.out 0; have hfz22_1 := blk_frozen BK258.out 1; have hfz22_2 := blk_frozen BK258.out 2; have p259 : 0 ≤ (0 : Int) := (by omega); have q259 : 0 < (l0.length : Int) := of_decide_eq_true qB121; obtain ⟨ad259, e259, hx259_0, hx259_1, hx259_2⟩ := at_T37 HR0.out 0 p259 q259; obtain rfl : ad257 = ad259 := (by injection e259); have qi259 : (0 < l0.length) = True := eq_true (by omega); (try rw [show ((0 : Int)).toNat = 0 from rfl] at hx259_0); (try rw [show 0 * 3 = 0 from rfl] at hx259_0); (try rw [Addr.add_zero'] at hx259_0); (try rw [show ((0 : Int)).toNat = 0 from rfl] at hx259_1); (try rw [show 0 * 3 = 0 from rfl] at hx259_1); (try rw [Addr.add_zero'] at hx259_1); (try rw [show ((0 : Int)).toNat = 0 from rfl] at hx259_2); (try rw [show 0 * 3 = 0 from rfl] at hx259_2); (try rw [Addr.add_zero'] at hx259_2); have hn259_0 : ad257.block ≠ gb258 := Nat.ne_of_lt (Nat.lt_of_lt_of_le qB119 GW258.out); have hn259_1 : ad257.block ≠ gb258 := Nat.ne_of_lt (Nat.lt_of_lt_of_le qB119 GW258.out); have hn259_2 : ad257.block ≠ gb258 := Nat.ne_of_lt (Nat.lt_of_lt_of_le qB119 GW258.out); replace hx259_0 := (HB.out.cell (World.block_lt_of_cell? w _ hx259_0)).trans hx259_0; replace hx259_1 := (HB.out.cell (World.block_lt_of_cell? w _ hx259_1)).trans hx259_1; replace hx259_2 := (HB.out.cell (World.block_lt_of_cell? w _ hx259_2)).trans hx259_2; replace hx259_0 := (cell_far (p := ⟨gb258, 0, none⟩) qB62 (.int .i64 ((rd_T37 l0 x23_2).f0))).trans hx259_0; replace hx259_1 := (cell_far (p := ⟨gb258, 0, none⟩) qB62 (.int .i64 ((rd_T37 l0 x23_2).f0))).trans hx259_1; replace hx259_2 := (cell_far (p := ⟨gb258, 0, none⟩) qB62 (.int .i64 ((rd_T37 l0 x23_2).f0))).trans hx259_2; replace hx259_0 := (cell_far (p := ⟨gb258, 1, none⟩) qB63 (.int .i64 ((rd_T37 l0 x23_2).f1))).trans hx259_0; replace hx259_1 := (cell_far (p := ⟨gb258, 1, none⟩) qB63 (.int .i64 ((rd_T37 l0 x23_2).f1))).trans hx259_1; replace hx259_2 := (cell_far (p := ⟨gb258, 1, none⟩) qB63 (.int .i64 ((rd_T37 l0 x23_2).f1))).trans hx259_2; replace hx259_0 := (cell_far (p := ⟨gb258, 2, none⟩) qB64 (.int .i64 ((rd_T37 l0 x23_2).f2))).trans hx259_0; replace hx259_1 := (cell_far (p := ⟨gb258, 2, none⟩) qB64 (.int .i64 ((rd_T37 l0 x23_2).f2))).trans hx259_1; replace hx259_2 := (cell_far (p := ⟨gb258, 2, none⟩) qB64 (.int .i64 ((rd_T37 l0 x23_2).f2))).trans hx259_2; (try have hy259_0 := fun (n_ : Nat) => (show (((((w21.drewN n_).setCell ⟨gb258, 0, none⟩ (.int .i64 ((rd_T37 l0 x23_2).f0))).setCell ⟨gb258, 1, none⟩ (.int .i64 ((rd_T37 l0 x23_2).f1))).setCell ⟨gb258, 2, none⟩ (.int .i64 ((rd_T37 l0 x23_2).f2)))).cell? _ = some _ from hx259_0)); (try have hy259_1 := fun (n_ : Nat) => (show (((((w21.drewN n_).setCell ⟨gb258, 0, none⟩ (.int .i64 ((rd_T37 l0 x23_2).f0))).setCell ⟨gb258, 1, none⟩ (.int .i64 ((rd_T37 l0 x23_2).f1))).setCell ⟨gb258, 2, none⟩ (.int .i64 ((rd_T37 l0 x23_2).f2)))).cell? _ = some _ from hx259_1)); (try have hy259_2 := fun (n_ : Nat) => (show (((((w21.drewN n_).setCell ⟨gb258, 0, none⟩ (.int .i64 ((rd_T37 l0 x23_2).f0))).setCell ⟨gb258, 1, none⟩ (.int .i64 ((rd_T37 l0 x23_2).f1))).setCell ⟨gb258, 2, none⟩ (.int .i64 ((rd_T37 l0 x23_2).f2)))).cell? _ = some _ from hx259_2)); clear hn259_0; clear hn259_1; clear hn259_2; replace p259 := eq_true p259; replace q259 := eq_true q259; have p260 : 0 ≤ (0 : Int) := (by omega); have q260 : 0 < (l0.length : Int) := of_decide_eq_true qB121; obtain ⟨ad260, e260, hx260_0, hx260_1, hx260_2⟩ := at_T37 HR0.out 0 p260 q260; obtain rfl : ad257 = ad260 := (by injection e260); have qi260 : (0 < l0.length) = True := eq_true (by omega); (try rw [show ((0 : Int)).toNat = 0 from rfl] at hx260_0); (try rw [show 0 * 3 = 0 from rfl] at hx260_0); (try rw [Addr.add_zero'] at hx260_0); (try rw [show ((0 : Int)).toNat = 0 from rfl] at hx260_1); (try rw [show 0 * 3 = 0 from rfl] at hx260_1); (try rw [Addr.add_zero'] at hx260_1); (try rw [show ((0 : Int)).toNat = 0 from rfl] at hx260_2); (try rw [show 0 * 3 = 0 from rfl] at hx260_2); (try rw [Addr.add_zero'] at hx260_2); have hn260_0 : ad257.block ≠ gb258 := Nat.ne_of_lt (Nat.lt_of_lt_of_le qB120 GW258.out); have hn260_1 : ad257.block ≠ gb258 := Nat.ne_of_lt (Nat.lt_of_lt_of_le qB120 GW258.out); have hn260_2 : ad257.block ≠ gb258 := Nat.ne_of_lt (Nat.lt_of_lt_of_le qB120 GW258.out); replace hx260_0 := (HB.out.cell (World.block_lt_of_cell? w _ hx260_0)).trans hx260_0; replace hx260_1 := (HB.out.cell (World.block_lt_of_cell? w _ hx260_1)).trans hx260_1; replace hx260_2 := (HB.out.cell (World.block_lt_of_cell? w _ hx260_2)).trans hx260_2; replace hx260_0 := (cell_far (p := ⟨gb258, 0, none⟩) qB65 (.int .i64 ((rd_T37 l0 x23_2).f0))).trans hx260_0; replace hx260_1 := (cell_far (p := ⟨gb258, 0, none⟩) qB65 (.int .i64 ((rd_T37 l0 x23_2).f0))).trans hx260_1; replace hx260_2 := (cell_far (p := ⟨gb258, 0, none⟩) qB65 (.int .i64 ((rd_T37 l0 x23_2).f0))).trans hx260_2; replace hx260_0 := (cell_far (p := ⟨gb258, 1, none⟩) qB66 (.int .i64 ((rd_T37 l0 x23_2).f1))).trans hx260_0; replace hx260_1 := (cell_far (p := ⟨gb258, 1, none⟩) qB66 (.int .i64 ((rd_T37 l0 x23_2).f1))).trans hx260_1; replace hx260_2 := (cell_far (p := ⟨gb258, 1, none⟩) qB66 (.int .i64 ((rd_T37 l0 x23_2).f1))).trans hx260_2; replace hx260_0 := (cell_far (p := ⟨gb258, 2, none⟩) qB67 (.int .i64 ((rd_T37 l0 x23_2).f2))).trans hx260_0; replace hx260_1 := (cell_far (p := ⟨gb258, 2, none⟩) qB67 (.int .i64 ((rd_T37 l0 x23_2).f2))).trans hx260_1; replace hx260_2 := (cell_far (p := ⟨gb258, 2, none⟩) qB67 (.int .i64 ((rd_T37 l0 x23_2).f2))).trans hx260_2; (try have hy260_0 := fun (n_ : Nat) => (show (((((w21.drewN n_).setCell ⟨gb258, 0, none⟩ (.int .i64 ((rd_T37 l0 x23_2).f0))).setCell ⟨gb258, 1, none⟩ (.int .i64 ((rd_T37 l0 x23_2).f1))).setCell ⟨gb258, 2, none⟩ (.int .i64 ((rd_T37 l0 x23_2).f2)))).cell? _ = some _ from hx260_0)); (try have hy260_1 := fun (n_ : Nat) => (show (((((w21.drewN n_).setCell ⟨gb258, 0, none⟩ (.int .i64 ((rd_T37 l0 x23_2).f0))).setCell ⟨gb258, 1, none⟩ (.int .i64 ((rd_T37 l0 x23_2).f1))).setCell ⟨gb258, 2, none⟩ (.int .i64 ((rd_T37 l0 x23_2).f2)))).cell? _ = some _ from hx260_1)); (try have hy260_2 := fun (n_ : Nat) => (show (((((w21.drewN n_).setCell ⟨gb258, 0, none⟩ (.int .i64 ((rd_T37 l0 x23_2).f0))).setCell ⟨gb258, 1, none⟩ (.int .i64 ((rd_T37 l0 x23_2).f1))).setCell ⟨gb258, 2, none⟩ (.int .i64 ((rd_T37 l0 x23_2).f2)))).cell? _ = some _ from hx260_2)); clear hn260_0; clear hn260_1; clear hn260_2; replace p260 := eq_true p260; replace q260 := eq_true q260))
             repeat (go_quiet (first | ((with_reducible refine gate_dst (N := 6) rfl ?_); refine box_event ?hg (N := 6) ?hd (cs := #[.int .i64 0, .int .i64 0, .int .i64 0]) (t := 37) ?hr ?_; (case hd => rfl); (case hg => rfl); (case hr => first | (go_simp; done) | (go_simp; rfl)); intro gb258 hg w21 hbox hb; have n0_ := Aside0.mk (below_step qB60 hb); have n1_ := Aside0.mk (hbox); have n2_ := Aside0.mk ((by rw [hg]; exact (below_size qB60) : w.heap.size ≤ gb258)); have n3_ := Aside0.mk ((by rw [hg]; exact (below_size qB60) : w.heap.size ≤ gb258)); clear HB; have HB := n0_; have BK258 := n1_; have GW258 := n2_; have GE258 := n3_; clear n0_ n1_ n2_ n3_; clear hb hbox hg; have hcz22_0 : w21.cell? ⟨gb258, 0, none⟩ = some (.int .i64 0) := (blk_cell BK258.out 0).trans rfl; have hcz22_1 : w21.cell? ⟨gb258, 1, none⟩ = some (.int .i64 0) := (blk_cell BK258.out 1).trans rfl; have hcz22_2 : w21.cell? ⟨gb258, 2, none⟩ = some (.int .i64 0) := (blk_cell BK258.out 2).trans rfl; have hfz22_0 := blk_frozen BK258.out 0; have hfz22_1 := blk_frozen BK258.out 1; have hfz22_2 := blk_frozen BK258.out 2; have p259 : 0 ≤ (0 : Int) := (by omega); have q259 : 0 < (l0.length : Int) := of_decide_eq_true qB121; obtain ⟨ad259, e259, hx259_0, hx259_1, hx259_2⟩ := at_T37 HR0.out 0 p259 q259; obtain rfl : ad257 = ad259 := (by injection e259); have qi259 : (0 < l0.length) = True := eq_true (by omega); (try rw [show ((0 : Int)).toNat = 0 from rfl] at hx259_0); (try rw [show 0 * 3 = 0 from rfl] at hx259_0); (try rw [Addr.add_zero'] at hx259_0); (try rw [show ((0 : Int)).toNat = 0 from rfl] at hx259_1); (try rw [show 0 * 3 = 0 from rfl] at hx259_1); (try rw [Addr.add_zero'] at hx259_1); (try rw [show ((0 : Int)).toNat = 0 from rfl] at hx259_2); (try rw [show 0 * 3 = 0 from rfl] at hx259_2); (try rw [Addr.add_zero'] at hx259_2); have hn259_0 : ad257.block ≠ gb258 := Nat.ne_of_lt (Nat.lt_of_lt_of_le qB119 GW258.out); have hn259_1 : ad257.block ≠ gb258 := Nat.ne_of_lt (Nat.lt_of_lt_of_le qB119 GW258.out); have hn259_2 : ad257.block ≠ gb258 := Nat.ne_of_lt (Nat.lt_of_lt_of_le qB119 GW258.out); replace hx259_0 := (HB.out.cell (World.block_lt_of_cell? w _ hx259_0)).trans hx259_0; replace hx259_1 := (HB.out.cell (World.block_lt_of_cell? w _ hx259_1)).trans hx259_1; replace hx259_2 := (HB.out.cell (World.block_lt_of_cell? w _ hx259_2)).trans hx259_2; replace hx259_0 := (cell_far (p := ⟨gb258, 0, none⟩) qB62 (.int .i64 ((rd_T37 l0 x23_2).f0))).trans hx259_0; replace hx259_1 := (cell_far (p := ⟨gb258, 0, none⟩) qB62 (.int .i64 ((rd_T37 l0 x23_2).f0))).trans hx259_1; replace hx259_2 := (cell_far (p := ⟨gb258, 0, none⟩) qB62 (.int .i64 ((rd_T37 l0 x23_2).f0))).trans hx259_2; replace hx259_0 := (cell_far (p := ⟨gb258, 1, none⟩) qB63 (.int .i64 ((rd_T37 l0 x23_2).f1))).trans hx259_0; replace hx259_1 := (cell_far (p := ⟨gb258, 1, none⟩) qB63 (.int .i64 ((rd_T37 l0 x23_2).f1))).trans hx259_1; replace hx259_2 := (cell_far (p := ⟨gb258, 1, none⟩) qB63 (.int .i64 ((rd_T37 l0 x23_2).f1))).trans hx259_2; replace hx259_0 := (cell_far (p := ⟨gb258, 2, none⟩) qB64 (.int .i64 ((rd_T37 l0 x23_2).f2))).trans hx259_0; replace hx259_1 := (cell_far (p := ⟨gb258, 2, none⟩) qB64 (.int .i64 ((rd_T37 l0 x23_2).f2))).trans hx259_1; replace hx259_2 := (cell_far (p := ⟨gb258, 2, none⟩) qB64 (.int .i64 ((rd_T37 l0 x23_2).f2))).trans hx259_2; (try have hy259_0 := fun (n_ : Nat) => (show (((((w21.drewN n_).setCell ⟨gb258, 0, none⟩ (.int .i64 ((rd_T37 l0 x23_2).f0))).setCell ⟨gb258, 1, none⟩ (.int .i64 ((rd_T37 l0 x23_2).f1))).setCell ⟨gb258, 2, none⟩ (.int .i64 ((rd_T37 l0 x23_2).f2)))).cell? _ = some _ from hx259_0)); (try have hy259_1 := fun (n_ : Nat) => (show (((((w21.drewN n_).setCell ⟨gb258, 0, none⟩ (.int .i64 ((rd_T37 l0 x23_2).f0))).setCell ⟨gb258, 1, none⟩ (.int .i64 ((rd_T37 l0 x23_2).f1))).setCell ⟨gb258, 2, none⟩ (.int .i64 ((rd_T37 l0 x23_2).f2)))).cell? _ = some _ from hx259_1)); (try have hy259_2 := fun (n_ : Nat) => (show (((((w21.drewN n_).setCell ⟨gb258, 0, none⟩ (.int .i64 ((rd_T37 l0 x23_2).f0))).setCell ⟨gb258, 1, none⟩ (.int .i64 ((rd_T37 l0 x23_2).f1))).setCell ⟨gb258, 2, none⟩ (.int .i64 ((rd_T37 l0 x23_2).f2)))).cell? _ = some _ from hx259_2)); clear hn259_0; clear hn259_1; clear hn259_2; replace p259 := eq_true p259; replace q259 := eq_true q259; have p260 : 0 ≤ (0 : Int) := (by omega); have q260 : 0 < (l0.length : Int) := of_decide_eq_true qB121; obtain ⟨ad260, e260, hx260_0, hx260_1, hx260_2⟩ := at_T37 HR0.out 0 p260 q260; obtain rfl : ad257 = ad260 := (by injection e260); have qi260 : (0 < l0.length) = True := eq_true (by omega); (try rw [show ((0 : Int)).toNat = 0 from rfl] at hx260_0); (try rw [show 0 * 3 = 0 from rfl] at hx260_0); (try rw [Addr.add_zero'] at hx260_0); (try rw [show ((0 : Int)).toNat = 0 from rfl] at hx260_1); (try rw [show 0 * 3 = 0 from rfl] at hx260_1); (try rw [Addr.add_zero'] at hx260_1); (try rw [show ((0 : Int)).toNat = 0 from rfl] at hx260_2); (try rw [show 0 * 3 = 0 from rfl] at hx260_2); (try rw [Addr.add_zero'] at hx260_2); have hn260_0 : ad257.block ≠ gb258 := Nat.ne_of_lt (Nat.lt_of_lt_of_le qB120 GW258.out); have hn260_1 : ad257.block ≠ gb258 := Nat.ne_of_lt (Nat.lt_of_lt_of_le qB120 GW258.out); have hn260_2 : ad257.block ≠ gb258 := Nat.ne_of_lt (Nat.lt_of_lt_of_le qB120 GW258.out); replace hx260_0 := (HB.out.cell (World.block_lt_of_cell? w _ hx260_0)).trans hx260_0; replace hx260_1 := (HB.out.cell (World.block_lt_of_cell? w _ hx260_1)).trans hx260_1; replace hx260_2 := (HB.out.cell (World.block_lt_of_cell? w _ hx260_2)).trans hx260_2; replace hx260_0 := (cell_far (p := ⟨gb258, 0, none⟩) qB65 (.int .i64 ((rd_T37 l0 x23_2).f0))).trans hx260_0; replace hx260_1 := (cell_far (p := ⟨gb258, 0, none⟩) qB65 (.int .i64 ((rd_T37 l0 x23_2).f0))).trans hx260_1; replace hx260_2 := (cell_far (p := ⟨gb258, 0, none⟩) qB65 (.int .i64 ((rd_T37 l0 x23_2).f0))).trans hx260_2; replace hx260_0 := (cell_far (p := ⟨gb258, 1, none⟩) qB66 (.int .i64 ((rd_T37 l0 x23_2).f1))).trans hx260_0; replace hx260_1 := (cell_far (p := ⟨gb258, 1, none⟩) qB66 (.int .i64 ((rd_T37 l0 x23_2).f1))).trans hx260_1; replace hx260_2 := (cell_far (p := ⟨gb258, 1, none⟩) qB66 (.int .i64 ((rd_T37 l0 x23_2).f1))).trans hx260_2; replace hx260_0 := (cell_far (p := ⟨gb258, 2, none⟩) qB67 (.int .i64 ((rd_T37 l0 x23_2).f2))).trans hx260_0; replace hx260_1 := (cell_far (p := ⟨gb258, 2, none⟩) qB67 (.int .i64 ((rd_T37 l0 x23_2).f2))).trans hx260_1; replace hx260_2 := (cell_far (p := ⟨gb258, 2, none⟩) qB67 (.int .i64 ((rd_T37 l0 x23_2).f2))).trans hx260_2; (try have hy260_0 := fun (n_ : Nat) => (show (((((w21.drewN n_).setCell ⟨gb258, 0, none⟩ (.int .i64 ((rd_T37 l0 x23_2).f0))).setCell ⟨gb258, 1, none⟩ (.int .i64 ((rd_T37 l0 x23_2).f1))).setCell ⟨gb258, 2, none⟩ (.int .i64 ((rd_T37 l0 x23_2).f2)))).cell? _ = some _ from hx260_0)); (try have hy260_1 := fun (n_ : Nat) => (show (((((w21.drewN n_).setCell ⟨gb258, 0, none⟩ (.int .i64 ((rd_T37 l0 x23_2).f0))).setCell ⟨gb258, 1, none⟩ (.int .i64 ((rd_T37 l0 x23_2).f1))).setCell ⟨gb258, 2, none⟩ (.int .i64 ((rd_T37 l0 x23_2).f2)))).cell? _ = some _ from hx260_1)); (try have hy260_2 := fun (n_ : Nat) => (show (((((w21.drewN n_).setCell ⟨gb258, 0, none⟩ (.int .i64 ((rd_T37 l0 x23_2).f0))).setCell ⟨gb258, 1, none⟩ (.int .i64 ((rd_T37 l0 x23_2).f1))).setCell ⟨gb258, 2, none⟩ (.int .i64 ((rd_T37 l0 x23_2).f2)))).cell? _ = some _ from hx260_2)); clear hn260_0; clear hn260_1; clear hn260_2; replace p260 := eq_true p260; replace q260 := eq_true q260)); try go_wp2_with (first | ((with_reducible refine gate_dst (N := 6) rfl ?_); refine box_event ?hg (N := 6) ?hd (cs := #[.int .i64 0, .int .i64 0, .int .i64 0]) (t := 37) ?hr ?_; (case hd => rfl); (case hg => rfl); (case hr => first | (go_simp; done) | (go_simp; rfl)); intro gb258 hg w21 hbox hb; have n0_ := Aside0.mk (below_step qB60 hb); have n1_ := Aside0.mk (hbox); have n2_ := Aside0.mk ((by rw [hg]; exact (below_size qB60) : w.heap.size ≤ gb258)); have n3_ := Aside0.mk ((by rw [hg]; exact (below_size qB60) : w.heap.size ≤ gb258)); clear HB; have HB := n0_; have BK258 := n1_; have GW258 := n2_; have GE258 := n3_; clear n0_ n1_ n2_ n3_; clear hb hbox hg; have hcz22_0 : w21.cell? ⟨gb258, 0, none⟩ = some (.int .i64 0) := (blk_cell BK258.out 0).trans rfl; have hcz22_1 : w21.cell? ⟨gb258, 1, none⟩ = some (.int .i64 0) := (blk_cell BK258.out 1).trans rfl; have hcz22_2 : w21.cell? ⟨gb258, 2, none⟩ = some (.int .i64 0) := (blk_cell BK258.out 2).trans rfl; have hfz22_0 := blk_frozen BK258.out 0; have hfz22_1 := blk_frozen BK258.out 1; have hfz22_2 := blk_frozen BK258.out 2; have p259 : 0 ≤ (0 : Int) := (by omega); have q259 : 0 < (l0.length : Int) := of_decide_eq_true qB121; obtain ⟨ad259, e259, hx259_0, hx259_1, hx259_2⟩ := at_T37 HR0.out 0 p259 q259; obtain rfl : ad257 = ad259 := (by injection e259); have qi259 : (0 < l0.length) = True := eq_true (by omega); (try rw [show ((0 : Int)).toNat = 0 from rfl] at hx259_0); (try rw [show 0 * 3 = 0 from rfl] at hx259_0); (try rw [Addr.add_zero'] at hx259_0); (try rw [show ((0 : Int)).toNat = 0 from rfl] at hx259_1); (try rw [show 0 * 3 = 0 from rfl] at hx259_1); (try rw [Addr.add_zero'] at hx259_1); (try rw [show ((0 : Int)).toNat = 0 from rfl] at hx259_2); (try rw [show 0 * 3 = 0 from rfl] at hx259_2); (try rw [Addr.add_zero'] at hx259_2); have hn259_0 : ad257.block ≠ gb258 := Nat.ne_of_lt (Nat.lt_of_lt_of_le qB119 GW258.out); have hn259_1 : ad257.block ≠ gb258 := Nat.ne_of_lt (Nat.lt_of_lt_of_le qB119 GW258.out); have hn259_2 : ad257.block ≠ gb258 := Nat.ne_of_lt (Nat.lt_of_lt_of_le qB119 GW258.out); replace hx259_0 := (HB.out.cell (World.block_lt_of_cell? w _ hx259_0)).trans hx259_0; replace hx259_1 := (HB.out.cell (World.block_lt_of_cell? w _ hx259_1)).trans hx259_1; replace hx259_2 := (HB.out.cell (World.block_lt_of_cell? w _ hx259_2)).trans hx259_2; replace hx259_0 := (cell_far (p := ⟨gb258, 0, none⟩) qB62 (.int .i64 ((rd_T37 l0 x23_2).f0))).trans hx259_0; replace hx259_1 := (cell_far (p := ⟨gb258, 0, none⟩) qB62 (.int .i64 ((rd_T37 l0 x23_2).f0))).trans hx259_1; replace hx259_2 := (cell_far (p := ⟨gb258, 0, none⟩) qB62 (.int .i64 ((rd_T37 l0 x23_2).f0))).trans hx259_2; replace hx259_0 := (cell_far (p := ⟨gb258, 1, none⟩) qB63 (.int .i64 ((rd_T37 l0 x23_2).f1))).trans hx259_0; replace hx259_1 := (cell_far (p := ⟨gb258, 1, none⟩) qB63 (.int .i64 ((rd_T37 l0 x23_2).f1))).trans hx259_1; replace hx259_2 := (cell_far (p := ⟨gb258, 1, none⟩) qB63 (.int .i64 ((rd_T37 l0 x23_2).f1))).trans hx259_2; replace hx259_0 := (cell_far (p := ⟨gb258, 2, none⟩) qB64 (.int .i64 ((rd_T37 l0 x23_2).f2))).trans hx259_0; replace hx259_1 := (cell_far (p := ⟨gb258, 2, none⟩) qB64 (.int .i64 ((rd_T37 l0 x23_2).f2))).trans hx259_1; replace hx259_2 := (cell_far (p := ⟨gb258, 2, none⟩) qB64 (.int .i64 ((rd_T37 l0 x23_2).f2))).trans hx259_2; (try have hy259_0 := fun (n_ : Nat) => (show (((((w21.drewN n_).setCell ⟨gb258, 0, none⟩ (.int .i64 ((rd_T37 l0 x23_2).f0))).setCell ⟨gb258, 1, none⟩ (.int .i64 ((rd_T37 l0 x23_2).f1))).setCell ⟨gb258, 2, none⟩ (.int .i64 ((rd_T37 l0 x23_2).f2)))).cell? _ = some _ from hx259_0)); (try have hy259_1 := fun (n_ : Nat) => (show (((((w21.drewN n_).setCell ⟨gb258, 0, none⟩ (.int .i64 ((rd_T37 l0 x23_2).f0))).setCell ⟨gb258, 1, none⟩ (.int .i64 ((rd_T37 l0 x23_2).f1))).setCell ⟨gb258, 2, none⟩ (.int .i64 ((rd_T37 l0 x23_2).f2)))).cell? _ = some _ from hx259_1)); (try have hy259_2 := fun (n_ : Nat) => (show (((((w21.drewN n_).setCell ⟨gb258, 0, none⟩ (.int .i64 ((rd_T37 l0 x23_2).f0))).setCell ⟨gb258, 1, none⟩ (.int .i64 ((rd_T37 l0 x23_2).f1))).setCell ⟨gb258, 2, none⟩ (.int .i64 ((rd_T37 l0 x23_2).f2)))).cell? _ = some _ from hx259_2)); clear hn259_0; clear hn259_1; clear hn259_2; replace p259 := eq_true p259; replace q259 := eq_true q259; have p260 : 0 ≤ (0 : Int) := (by omega); have q260 : 0 < (l0.length : Int) := of_decide_eq_true qB121; obtain ⟨ad260, e260, hx260_0, hx260_1, hx260_2⟩ := at_T37 HR0.out 0 p260 q260; obtain rfl : ad257 = ad260 := (by injection e260); have qi260 : (0 < l0.length) = True := eq_true (by omega); (try rw [show ((0 : Int)).toNat = 0 from rfl] at hx260_0); (try rw [show 0 * 3 = 0 from rfl] at hx260_0); (try rw [Addr.add_zero'] at hx260_0); (try rw [show ((0 : Int)).toNat = 0 from rfl] at hx260_1); (try rw [show 0 * 3 = 0 from rfl] at hx260_1); (try rw [Addr.add_zero'] at hx260_1); (try rw [show ((0 : Int)).toNat = 0 from rfl] at hx260_2); (try rw [show 0 * 3 = 0 from rfl] at hx260_2); (try rw [Addr.add_zero'] at hx260_2); have hn260_0 : ad257.block ≠ gb258 := Nat.ne_of_lt (Nat.lt_of_lt_of_le qB120 GW258.out); have hn260_1 : ad257.block ≠ gb258 := Nat.ne_of_lt (Nat.lt_of_lt_of_le qB120 GW258.out); have hn260_2 : ad257.block ≠ gb258 := Nat.ne_of_lt (Nat.lt_of_lt_of_le qB120 GW258.out); replace hx260_0 := (HB.out.cell (World.block_lt_of_cell? w _ hx260_0)).trans hx260_0; replace hx260_1 := (HB.out.cell (World.block_lt_of_cell? w _ hx260_1)).trans hx260_1; replace hx260_2 := (HB.out.cell (World.block_lt_of_cell? w _ hx260_2)).trans hx260_2; replace hx260_0 := (cell_far (p := ⟨gb258, 0, none⟩) qB65 (.int .i64 ((rd_T37 l0 x23_2).f0))).trans hx260_0; replace hx260_1 := (cell_far (p := ⟨gb258, 0, none⟩) qB65 (.int .i64 ((rd_T37 l0 x23_2).f0))).trans hx260_1; replace hx260_2 := (cell_far (p := ⟨gb258, 0, none⟩) qB65 (.int .i64 ((rd_T37 l0 x23_2).f0))).trans hx260_2; replace hx260_0 := (cell_far (p := ⟨gb258, 1, none⟩) qB66 (.int .i64 ((rd_T37 l0 x23_2).f1))).trans hx260_0; replace hx260_1 := (cell_far (p := ⟨gb258, 1, none⟩) qB66 (.int .i64 ((rd_T37 l0 x23_2).f1))).trans hx260_1; replace hx260_2 := (cell_far (p := ⟨gb258, 1, none⟩) qB66 (.int .i64 ((rd_T37 l0 x23_2).f1))).trans hx260_2; replace hx260_0 := (cell_far (p := ⟨gb258, 2, none⟩) qB67 (.int .i64 ((rd_T37 l0 x23_2).f2))).trans hx260_0; replace hx260_1 := (cell_far (p := ⟨gb258, 2, none⟩) qB67 (.int .i64 ((rd_T37 l0 x23_2).f2))).trans hx260_1; replace hx260_2 := (cell_far (p := ⟨gb258, 2, none⟩) qB67 (.int .i64 ((rd_T37 l0 x23_2).f2))).trans hx260_2; (try have hy260_0 := fun (n_ : Nat) => (show (((((w21.drewN n_).setCell ⟨gb258, 0, none⟩ (.int .i64 ((rd_T37 l0 x23_2).f0))).setCell ⟨gb258, 1, none⟩ (.int .i64 ((rd_T37 l0 x23_2).f1))).setCell ⟨gb258, 2, none⟩ (.int .i64 ((rd_T37 l0 x23_2).f2)))).cell? _ = some _ from hx260_0)); (try have hy260_1 := fun (n_ : Nat) => (show (((((w21.drewN n_).setCell ⟨gb258, 0, none⟩ (.int .i64 ((rd_T37 l0 x23_2).f0))).setCell ⟨gb258, 1, none⟩ (.int .i64 ((rd_T37 l0 x23_2).f1))).setCell ⟨gb258, 2, none⟩ (.int .i64 ((rd_T37 l0 x23_2).f2)))).cell? _ = some _ from hx260_1)); (try have hy260_2 := fun (n_ : Nat) => (show (((((w21.drewN n_).setCell ⟨gb258, 0, none⟩ (.int .i64 ((rd_T37 l0 x23_2).f0))).setCell ⟨gb258, 1, none⟩ (.int .i64 ((rd_T37 l0 x23_2).f1))).setCell ⟨gb258, 2, none⟩ (.int .i64 ((rd_T37 l0 x23_2).f2)))).cell? _ = some _ from hx260_2)); clear hn260_0; clear hn260_1; clear hn260_2; replace p260 := eq_true p260; replace q260 := eq_true q260)))
             (first | go_roundg k2 | ((try simp only [add_plain] at *); go_roundg k2))
             case measure => have := HK1.out; have := HK2.out; omega
             case rel => exact ⟨(wrap64 (x23_2 + 1)), qB122, H', ⟨by have := HK1.out; have := HK2.out; omega⟩, ⟨by repeat (first | (with_reducible first | exact HB.out | apply below_alloc | apply pw_below_drewN | apply below_drew1 | refine below_set ?_ GE258.out) | exact HB.out)⟩⟩
            ·rw [if_neg c20] at H
             have c20b0 : (((rd_T37 l0 x23_2).f1) == ((rd_T37 l0 0).f1)) = false := beq_eq_false_iff_ne.mpr c20
             have c20b1 : (((rd_T37 l0 x23_2).f1) != ((rd_T37 l0 0).f1)) = true := bne_iff_ne.mpr c20
             obtain rfl := Option.some.inj H
             have p257 : 0 ≤ (x23_2 : Int) := of_decide_eq_true qB121
             have q257 : x23_2 < (l0.length : Int) := of_decide_eq_true qB121
             obtain ⟨ad257, e257, hx257_0, hx257_1, hx257_2⟩ := at_T37 HR0.out x23_2 p257 q257
             cases e257
             replace hx257_0 := (HB.out.cell (World.block_lt_of_cell? w _ hx257_0)).trans hx257_0
             replace hx257_1 := (HB.out.cell (World.block_lt_of_cell? w _ hx257_1)).trans hx257_1
             replace hx257_2 := (HB.out.cell (World.block_lt_of_cell? w _ hx257_2)).trans hx257_2
             replace p257 := eq_true p257
             replace q257 := eq_true q257
             go_wp2_with (first | ((with_reducible refine gate_dst (N := 6) rfl ?_); refine box_event ?hg (N := 6) ?hd (cs := #[.int .i64 0, .int .i64 0, .int .i64 0]) (t := 37) ?hr ?_; (case hd => rfl); (case hg => rfl); (case hr => first | (go_simp; done) | (go_simp; rfl)); intro gb258 hg w23 hbox hb; have n0_ := Aside0.mk (below_step qB60 hb); have n1_ := Aside0.mk (hbox); have n2_ := Aside0.mk ((by rw [hg]; exact (below_size qB60) : w.heap.size ≤ gb258)); have n3_ := Aside0.mk ((by rw [hg]; exact (below_size qB60) : w.heap.size ≤ gb258)); clear HB; have HB := n0_; have BK258 := n1_; have GW258 := n2_; have GE258 := n3_; clear n0_ n1_ n2_ n3_; clear hb hbox hg; have hcz24_0 : w23.cell? ⟨gb258, 0, none⟩ = some (.int .i64 0) := (blk_cell BK258.out 0).trans rfl; have hcz24_1 : w23.cell? ⟨gb258, 1, none⟩ = some (.int .i64 0) := (blk_cell BK258.out 1).trans rfl; have hcz24_2 : w23.cell? ⟨gb258, 2, none⟩ = some (.int .i64 0) := (blk_cell BK258.out 2).trans rfl; have hfz24_0 := blk_frozen BK258.out 0; have hfz24_1 := blk_frozen BK258.out 1; have hfz24_2 := blk_frozen BK258.out 2; have p259 : 0 ≤ (0 : Int) := (by omega); have q259 : 0 < (l0.length : Int) := of_decide_eq_true qB121; obtain ⟨ad259, e259, hx259_0, hx259_1, hx259_2⟩ := at_T37 HR0.out 0 p259 q259; obtain rfl : ad257 = ad259 := (by injection e259); have qi259 : (0 < l0.length) = True := eq_true (by omega); (try rw [show ((0 : Int)).toNat = 0 from rfl] at hx259_0); (try rw [show 0 * 3 = 0 from rfl] at hx259_0); (try rw [Addr.add_zero'] at hx259_0); (try rw [show ((0 : Int)).toNat = 0 from rfl] at hx259_1); (try rw [show 0 * 3 = 0 from rfl] at hx259_1); (try rw [Addr.add_zero'] at hx259_1); (try rw [show ((0 : Int)).toNat = 0 from rfl] at hx259_2); (try rw [show 0 * 3 = 0 from rfl] at hx259_2); (try rw [Addr.add_zero'] at hx259_2); have hn259_0 : ad257.block ≠ gb258 := Nat.ne_of_lt (Nat.lt_of_lt_of_le qB119 GW258.out); have hn259_1 : ad257.block ≠ gb258 := Nat.ne_of_lt (Nat.lt_of_lt_of_le qB119 GW258.out); have hn259_2 : ad257.block ≠ gb258 := Nat.ne_of_lt (Nat.lt_of_lt_of_le qB119 GW258.out); replace hx259_0 := (HB.out.cell (World.block_lt_of_cell? w _ hx259_0)).trans hx259_0; replace hx259_1 := (HB.out.cell (World.block_lt_of_cell? w _ hx259_1)).trans hx259_1; replace hx259_2 := (HB.out.cell (World.block_lt_of_cell? w _ hx259_2)).trans hx259_2; replace hx259_0 := (cell_far (p := ⟨gb258, 0, none⟩) qB62 (.int .i64 ((rd_T37 l0 x23_2).f0))).trans hx259_0; replace hx259_1 := (cell_far (p := ⟨gb258, 0, none⟩) qB62 (.int .i64 ((rd_T37 l0 x23_2).f0))).trans hx259_1; replace hx259_2 := (cell_far (p := ⟨gb258, 0, none⟩) qB62 (.int .i64 ((rd_T37 l0 x23_2).f0))).trans hx259_2; replace hx259_0 := (cell_far (p := ⟨gb258, 1, none⟩) qB63 (.int .i64 ((rd_T37 l0 x23_2).f1))).trans hx259_0; replace hx259_1 := (cell_far (p := ⟨gb258, 1, none⟩) qB63 (.int .i64 ((rd_T37 l0 x23_2).f1))).trans hx259_1; replace hx259_2 := (cell_far (p := ⟨gb258, 1, none⟩) qB63 (.int .i64 ((rd_T37 l0 x23_2).f1))).trans hx259_2; replace hx259_0 := (cell_far (p := ⟨gb258, 2, none⟩) qB64 (.int .i64 ((rd_T37 l0 x23_2).f2))).trans hx259_0; replace hx259_1 := (cell_far (p := ⟨gb258, 2, none⟩) qB64 (.int .i64 ((rd_T37 l0 x23_2).f2))).trans hx259_1; replace hx259_2 := (cell_far (p := ⟨gb258, 2, none⟩) qB64 (.int .i64 ((rd_T37 l0 x23_2).f2))).trans hx259_2; (try have hy259_0 := fun (n_ : Nat) => (show (((((w23.drewN n_).setCell ⟨gb258, 0, none⟩ (.int .i64 ((rd_T37 l0 x23_2).f0))).setCell ⟨gb258, 1, none⟩ (.int .i64 ((rd_T37 l0 x23_2).f1))).setCell ⟨gb258, 2, none⟩ (.int .i64 ((rd_T37 l0 x23_2).f2)))).cell? _ = some _ from hx259_0)); (try have hy259_1 := fun (n_ : Nat) => (show (((((w23.drewN n_).setCell ⟨gb258, 0, none⟩ (.int .i64 ((rd_T37 l0 x23_2).f0))).setCell ⟨gb258, 1, none⟩ (.int .i64 ((rd_T37 l0 x23_2).f1))).setCell ⟨gb258, 2, none⟩ (.int .i64 ((rd_T37 l0 x23_2).f2)))).cell? _ = some _ from hx259_1)); (try have hy259_2 := fun (n_ : Nat) => (show (((((w23.drewN n_).setCell ⟨gb258, 0, none⟩ (.int .i64 ((rd_T37 l0 x23_2).f0))).setCell ⟨gb258, 1, none⟩ (.int .i64 ((rd_T37 l0 x23_2).f1))).setCell ⟨gb258, 2, none⟩ (.int .i64 ((rd_T37 l0 x23_2).f2)))).cell? _ = some _ from hx259_2)); clear hn259_0; clear hn259_1; clear hn259_2; replace p259 := eq_true p259; replace q259 := eq_true q259; have p260 : 0 ≤ (0 : Int) := (by omega); have q260 : 0 < (l0.length : Int) := of_decide_eq_true qB121; obtain ⟨ad260, e260, hx260_0, hx260_1, hx260_2⟩ := at_T37 HR0.out 0 p260 q260; obtain rfl : ad257 = ad260 := (by injection e260); have qi260 : (0 < l0.length) = True := eq_true (by omega); (try rw [show ((0 : Int)).toNat = 0 from rfl] at hx260_0); (try rw [show 0 * 3 = 0 from rfl] at hx260_0); (try rw [Addr.add_zero'] at hx260_0); (try rw [show ((0 : Int)).toNat = 0 from rfl] at hx260_1); (try rw [show 0 * 3 = 0 from rfl] at hx260_1); (try rw [Addr.add_zero'] at hx260_1); (try rw [show ((0 : Int)).toNat = 0 from rfl] at hx260_2); (try rw [show 0 * 3 = 0 from rfl] at hx260_2); (try rw [Addr.add_zero'] at hx260_2); have hn260_0 : ad257.block ≠ gb258 := Nat.ne_of_lt (Nat.lt_of_lt_of_le qB120 GW258.out); have hn260_1 : ad257.block ≠ gb258 := Nat.ne_of_lt (Nat.lt_of_lt_of_le qB120 GW258.out); have hn260_2 : ad257.block ≠ gb258 := Nat.ne_of_lt (Nat.lt_of_lt_of_le qB120 GW258.out); replace hx260_0 := (HB.out.cell (World.block_lt_of_cell? w _ hx260_0)).trans hx260_0; replace hx260_1 := (HB.out.cell (World.block_lt_of_cell? w _ hx260_1)).trans hx260_1; replace hx260_2 := (HB.out.cell (World.block_lt_of_cell? w _ hx260_2)).trans hx260_2; replace hx260_0 := (cell_far (p := ⟨gb258, 0, none⟩) qB65 (.int .i64 ((rd_T37 l0 x23_2).f0))).trans hx260_0; replace hx260_1 := (cell_far (p := ⟨gb258, 0, none⟩) qB65 (.int .i64 ((rd_T37 l0 x23_2).f0))).trans hx260_1; replace hx260_2 := (cell_far (p := ⟨gb258, 0, none⟩) qB65 (.int .i64 ((rd_T37 l0 x23_2).f0))).trans hx260_2; replace hx260_0 := (cell_far (p := ⟨gb258, 1, none⟩) qB66 (.int .i64 ((rd_T37 l0 x23_2).f1))).trans hx260_0; replace hx260_1 := (cell_far (p := ⟨gb258, 1, none⟩) qB66 (.int .i64 ((rd_T37 l0 x23_2).f1))).trans hx260_1; replace hx260_2 := (cell_far (p := ⟨gb258, 1, none⟩) qB66 (.int .i64 ((rd_T37 l0 x23_2).f1))).trans hx260_2; replace hx260_0 := (cell_far (p := ⟨gb258, 2, none⟩) qB67 (.int .i64 ((rd_T37 l0 x23_2).f2))).trans hx260_0; replace hx260_1 := (cell_far (p := ⟨gb258, 2, none⟩) qB67 (.int .i64 ((rd_T37 l0 x23_2).f2))).trans hx260_1; replace hx260_2 := (cell_far (p := ⟨gb258, 2, none⟩) qB67 (.int .i64 ((rd_T37 l0 x23_2).f2))).trans hx260_2; (try have hy260_0 := fun (n_ : Nat) => (show (((((w23.drewN n_).setCell ⟨gb258, 0, none⟩ (.int .i64 ((rd_T37 l0 x23_2).f0))).setCell ⟨gb258, 1, none⟩ (.int .i64 ((rd_T37 l0 x23_2).f1))).setCell ⟨gb258, 2, none⟩ (.int .i64 ((rd_T37 l0 x23_2).f2)))).cell? _ = some _ from hx260_0)); (try have hy260_1 := fun (n_ : Nat) => (show (((((w23.drewN n_).setCell ⟨gb258, 0, none⟩ (.int .i64 ((rd_T37 l0 x23_2).f0))).setCell ⟨gb258, 1, none⟩ (.int .i64 ((rd_T37 l0 x23_2).f1))).setCell ⟨gb258, 2, none⟩ (.int .i64 ((rd_T37 l0 x23_2).f2)))).cell? _ = some _ from hx260_1)); (try have hy260_2 := fun (n_ : Nat) => (show (((((w23.drewN n_).setCell ⟨gb258, 0, none⟩ (.int .i64 ((rd_T37 l0 x23_2).f0))).setCell ⟨gb258, 1, none⟩ (.int .i64 ((rd_T37 l0 x23_2).f1))).setCell ⟨gb258, 2, none⟩ (.int .i64 ((rd_T37 l0 x23_2).f2)))).cell? _ = some _ from hx260_2)); clear hn260_0; clear hn260_1; clear hn260_2; replace p260 := eq_true p260; replace q260 := eq_true q260))
             repeat (go_quiet (first | ((with_reducible refine gate_dst (N := 6) rfl ?_); refine box_event ?hg (N := 6) ?hd (cs := #[.int .i64 0, .int .i64 0, .int .i64 0]) (t := 37) ?hr ?_; (case hd => rfl); (case hg => rfl); (case hr => first | (go_simp; done) | (go_simp; rfl)); intro gb258 hg w23 hbox hb; have n0_ := Aside0.mk (below_step qB60 hb); have n1_ := Aside0.mk (hbox); have n2_ := Aside0.mk ((by rw [hg]; exact (below_size qB60) : w.heap.size ≤ gb258)); have n3_ := Aside0.mk ((by rw [hg]; exact (below_size qB60) : w.heap.size ≤ gb258)); clear HB; have HB := n0_; have BK258 := n1_; have GW258 := n2_; have GE258 := n3_; clear n0_ n1_ n2_ n3_; clear hb hbox hg; have hcz24_0 : w23.cell? ⟨gb258, 0, none⟩ = some (.int .i64 0) := (blk_cell BK258.out 0).trans rfl; have hcz24_1 : w23.cell? ⟨gb258, 1, none⟩ = some (.int .i64 0) := (blk_cell BK258.out 1).trans rfl; have hcz24_2 : w23.cell? ⟨gb258, 2, none⟩ = some (.int .i64 0) := (blk_cell BK258.out 2).trans rfl; have hfz24_0 := blk_frozen BK258.out 0; have hfz24_1 := blk_frozen BK258.out 1; have hfz24_2 := blk_frozen BK258.out 2; have p259 : 0 ≤ (0 : Int) := (by omega); have q259 : 0 < (l0.length : Int) := of_decide_eq_true qB121; obtain ⟨ad259, e259, hx259_0, hx259_1, hx259_2⟩ := at_T37 HR0.out 0 p259 q259; obtain rfl : ad257 = ad259 := (by injection e259); have qi259 : (0 < l0.length) = True := eq_true (by omega); (try rw [show ((0 : Int)).toNat = 0 from rfl] at hx259_0); (try rw [show 0 * 3 = 0 from rfl] at hx259_0); (try rw [Addr.add_zero'] at hx259_0); (try rw [show ((0 : Int)).toNat = 0 from rfl] at hx259_1); (try rw [show 0 * 3 = 0 from rfl] at hx259_1); (try rw [Addr.add_zero'] at hx259_1); (try rw [show ((0 : Int)).toNat = 0 from rfl] at hx259_2); (try rw [show 0 * 3 = 0 from rfl] at hx259_2); (try rw [Addr.add_zero'] at hx259_2); have hn259_0 : ad257.block ≠ gb258 := Nat.ne_of_lt (Nat.lt_of_lt_of_le qB119 GW258.out); have hn259_1 : ad257.block ≠ gb258 := Nat.ne_of_lt (Nat.lt_of_lt_of_le qB119 GW258.out); have hn259_2 : ad257.block ≠ gb258 := Nat.ne_of_lt (Nat.lt_of_lt_of_le qB119 GW258.out); replace hx259_0 := (HB.out.cell (World.block_lt_of_cell? w _ hx259_0)).trans hx259_0; replace hx259_1 := (HB.out.cell (World.block_lt_of_cell? w _ hx259_1)).trans hx259_1; replace hx259_2 := (HB.out.cell (World.block_lt_of_cell? w _ hx259_2)).trans hx259_2; replace hx259_0 := (cell_far (p := ⟨gb258, 0, none⟩) qB62 (.int .i64 ((rd_T37 l0 x23_2).f0))).trans hx259_0; replace hx259_1 := (cell_far (p := ⟨gb258, 0, none⟩) qB62 (.int .i64 ((rd_T37 l0 x23_2).f0))).trans hx259_1; replace hx259_2 := (cell_far (p := ⟨gb258, 0, none⟩) qB62 (.int .i64 ((rd_T37 l0 x23_2).f0))).trans hx259_2; replace hx259_0 := (cell_far (p := ⟨gb258, 1, none⟩) qB63 (.int .i64 ((rd_T37 l0 x23_2).f1))).trans hx259_0; replace hx259_1 := (cell_far (p := ⟨gb258, 1, none⟩) qB63 (.int .i64 ((rd_T37 l0 x23_2).f1))).trans hx259_1; replace hx259_2 := (cell_far (p := ⟨gb258, 1, none⟩) qB63 (.int .i64 ((rd_T37 l0 x23_2).f1))).trans hx259_2; replace hx259_0 := (cell_far (p := ⟨gb258, 2, none⟩) qB64 (.int .i64 ((rd_T37 l0 x23_2).f2))).trans hx259_0; replace hx259_1 := (cell_far (p := ⟨gb258, 2, none⟩) qB64 (.int .i64 ((rd_T37 l0 x23_2).f2))).trans hx259_1; replace hx259_2 := (cell_far (p := ⟨gb258, 2, none⟩) qB64 (.int .i64 ((rd_T37 l0 x23_2).f2))).trans hx259_2; (try have hy259_0 := fun (n_ : Nat) => (show (((((w23.drewN n_).setCell ⟨gb258, 0, none⟩ (.int .i64 ((rd_T37 l0 x23_2).f0))).setCell ⟨gb258, 1, none⟩ (.int .i64 ((rd_T37 l0 x23_2).f1))).setCell ⟨gb258, 2, none⟩ (.int .i64 ((rd_T37 l0 x23_2).f2)))).cell? _ = some _ from hx259_0)); (try have hy259_1 := fun (n_ : Nat) => (show (((((w23.drewN n_).setCell ⟨gb258, 0, none⟩ (.int .i64 ((rd_T37 l0 x23_2).f0))).setCell ⟨gb258, 1, none⟩ (.int .i64 ((rd_T37 l0 x23_2).f1))).setCell ⟨gb258, 2, none⟩ (.int .i64 ((rd_T37 l0 x23_2).f2)))).cell? _ = some _ from hx259_1)); (try have hy259_2 := fun (n_ : Nat) => (show (((((w23.drewN n_).setCell ⟨gb258, 0, none⟩ (.int .i64 ((rd_T37 l0 x23_2).f0))).setCell ⟨gb258, 1, none⟩ (.int .i64 ((rd_T37 l0 x23_2).f1))).setCell ⟨gb258, 2, none⟩ (.int .i64 ((rd_T37 l0 x23_2).f2)))).cell? _ = some _ from hx259_2)); clear hn259_0; clear hn259_1; clear hn259_2; replace p259 := eq_true p259; replace q259 := eq_true q259; have p260 : 0 ≤ (0 : Int) := (by omega); have q260 : 0 < (l0.length : Int) := of_decide_eq_true qB121; obtain ⟨ad260, e260, hx260_0, hx260_1, hx260_2⟩ := at_T37 HR0.out 0 p260 q260; obtain rfl : ad257 = ad260 := (by injection e260); have qi260 : (0 < l0.length) = True := eq_true (by omega); (try rw [show ((0 : Int)).toNat = 0 from rfl] at hx260_0); (try rw [show 0 * 3 = 0 from rfl] at hx260_0); (try rw [Addr.add_zero'] at hx260_0); (try rw [show ((0 : Int)).toNat = 0 from rfl] at hx260_1); (try rw [show 0 * 3 = 0 from rfl] at hx260_1); (try rw [Addr.add_zero'] at hx260_1); (try rw [show ((0 : Int)).toNat = 0 from rfl] at hx260_2); (try rw [show 0 * 3 = 0 from rfl] at hx260_2); (try rw [Addr.add_zero'] at hx260_2); have hn260_0 : ad257.block ≠ gb258 := Nat.ne_of_lt (Nat.lt_of_lt_of_le qB120 GW258.out); have hn260_1 : ad257.block ≠ gb258 := Nat.ne_of_lt (Nat.lt_of_lt_of_le qB120 GW258.out); have hn260_2 : ad257.block ≠ gb258 := Nat.ne_of_lt (Nat.lt_of_lt_of_le qB120 GW258.out); replace hx260_0 := (HB.out.cell (World.block_lt_of_cell? w _ hx260_0)).trans hx260_0; replace hx260_1 := (HB.out.cell (World.block_lt_of_cell? w _ hx260_1)).trans hx260_1; replace hx260_2 := (HB.out.cell (World.block_lt_of_cell? w _ hx260_2)).trans hx260_2; replace hx260_0 := (cell_far (p := ⟨gb258, 0, none⟩) qB65 (.int .i64 ((rd_T37 l0 x23_2).f0))).trans hx260_0; replace hx260_1 := (cell_far (p := ⟨gb258, 0, none⟩) qB65 (.int .i64 ((rd_T37 l0 x23_2).f0))).trans hx260_1; replace hx260_2 := (cell_far (p := ⟨gb258, 0, none⟩) qB65 (.int .i64 ((rd_T37 l0 x23_2).f0))).trans hx260_2; replace hx260_0 := (cell_far (p := ⟨gb258, 1, none⟩) qB66 (.int .i64 ((rd_T37 l0 x23_2).f1))).trans hx260_0; replace hx260_1 := (cell_far (p := ⟨gb258, 1, none⟩) qB66 (.int .i64 ((rd_T37 l0 x23_2).f1))).trans hx260_1; replace hx260_2 := (cell_far (p := ⟨gb258, 1, none⟩) qB66 (.int .i64 ((rd_T37 l0 x23_2).f1))).trans hx260_2; replace hx260_0 := (cell_far (p := ⟨gb258, 2, none⟩) qB67 (.int .i64 ((rd_T37 l0 x23_2).f2))).trans hx260_0; replace hx260_1 := (cell_far (p := ⟨gb258, 2, none⟩) qB67 (.int .i64 ((rd_T37 l0 x23_2).f2))).trans hx260_1; replace hx260_2 := (cell_far (p := ⟨gb258, 2, none⟩) qB67 (.int .i64 ((rd_T37 l0 x23_2).f2))).trans hx260_2; (try have hy260_0 := fun (n_ : Nat) => (show (((((w23.drewN n_).setCell ⟨gb258, 0, none⟩ (.int .i64 ((rd_T37 l0 x23_2).f0))).setCell ⟨gb258, 1, none⟩ (.int .i64 ((rd_T37 l0 x23_2).f1))).setCell ⟨gb258, 2, none⟩ (.int .i64 ((rd_T37 l0 x23_2).f2)))).cell? _ = some _ from hx260_0)); (try have hy260_1 := fun (n_ : Nat) => (show (((((w23.drewN n_).setCell ⟨gb258, 0, none⟩ (.int .i64 ((rd_T37 l0 x23_2).f0))).setCell ⟨gb258, 1, none⟩ (.int .i64 ((rd_T37 l0 x23_2).f1))).setCell ⟨gb258, 2, none⟩ (.int .i64 ((rd_T37 l0 x23_2).f2)))).cell? _ = some _ from hx260_1)); (try have hy260_2 := fun (n_ : Nat) => (show (((((w23.drewN n_).setCell ⟨gb258, 0, none⟩ (.int .i64 ((rd_T37 l0 x23_2).f0))).setCell ⟨gb258, 1, none⟩ (.int .i64 ((rd_T37 l0 x23_2).f1))).setCell ⟨gb258, 2, none⟩ (.int .i64 ((rd_T37 l0 x23_2).f2)))).cell? _ = some _ from hx260_2)); clear hn260_0; clear hn260_1; clear hn260_2; replace p260 := eq_true p260; replace q260 := eq_true q260)); try go_wp2_with (first | ((with_reducible refine gate_dst (N := 6) rfl ?_); refine box_event ?hg (N := 6) ?hd (cs := #[.int .i64 0, .int .i64 0, .int .i64 0]) (t := 37) ?hr ?_; (case hd => rfl); (case hg => rfl); (case hr => first | (go_simp; done) | (go_simp; rfl)); intro gb258 hg w23 hbox hb; have n0_ := Aside0.mk (below_step qB60 hb); have n1_ := Aside0.mk (hbox); have n2_ := Aside0.mk ((by rw [hg]; exact (below_size qB60) : w.heap.size ≤ gb258)); have n3_ := Aside0.mk ((by rw [hg]; exact (below_size qB60) : w.heap.size ≤ gb258)); clear HB; have HB := n0_; have BK258 := n1_; have GW258 := n2_; have GE258 := n3_; clear n0_ n1_ n2_ n3_; clear hb hbox hg; have hcz24_0 : w23.cell? ⟨gb258, 0, none⟩ = some (.int .i64 0) := (blk_cell BK258.out 0).trans rfl; have hcz24_1 : w23.cell? ⟨gb258, 1, none⟩ = some (.int .i64 0) := (blk_cell BK258.out 1).trans rfl; have hcz24_2 : w23.cell? ⟨gb258, 2, none⟩ = some (.int .i64 0) := (blk_cell BK258.out 2).trans rfl; have hfz24_0 := blk_frozen BK258.out 0; have hfz24_1 := blk_frozen BK258.out 1; have hfz24_2 := blk_frozen BK258.out 2; have p259 : 0 ≤ (0 : Int) := (by omega); have q259 : 0 < (l0.length : Int) := of_decide_eq_true qB121; obtain ⟨ad259, e259, hx259_0, hx259_1, hx259_2⟩ := at_T37 HR0.out 0 p259 q259; obtain rfl : ad257 = ad259 := (by injection e259); have qi259 : (0 < l0.length) = True := eq_true (by omega); (try rw [show ((0 : Int)).toNat = 0 from rfl] at hx259_0); (try rw [show 0 * 3 = 0 from rfl] at hx259_0); (try rw [Addr.add_zero'] at hx259_0); (try rw [show ((0 : Int)).toNat = 0 from rfl] at hx259_1); (try rw [show 0 * 3 = 0 from rfl] at hx259_1); (try rw [Addr.add_zero'] at hx259_1); (try rw [show ((0 : Int)).toNat = 0 from rfl] at hx259_2); (try rw [show 0 * 3 = 0 from rfl] at hx259_2); (try rw [Addr.add_zero'] at hx259_2); have hn259_0 : ad257.block ≠ gb258 := Nat.ne_of_lt (Nat.lt_of_lt_of_le qB119 GW258.out); have hn259_1 : ad257.block ≠ gb258 := Nat.ne_of_lt (Nat.lt_of_lt_of_le qB119 GW258.out); have hn259_2 : ad257.block ≠ gb258 := Nat.ne_of_lt (Nat.lt_of_lt_of_le qB119 GW258.out); replace hx259_0 := (HB.out.cell (World.block_lt_of_cell? w _ hx259_0)).trans hx259_0; replace hx259_1 := (HB.out.cell (World.block_lt_of_cell? w _ hx259_1)).trans hx259_1; replace hx259_2 := (HB.out.cell (World.block_lt_of_cell? w _ hx259_2)).trans hx259_2; replace hx259_0 := (cell_far (p := ⟨gb258, 0, none⟩) qB62 (.int .i64 ((rd_T37 l0 x23_2).f0))).trans hx259_0; replace hx259_1 := (cell_far (p := ⟨gb258, 0, none⟩) qB62 (.int .i64 ((rd_T37 l0 x23_2).f0))).trans hx259_1; replace hx259_2 := (cell_far (p := ⟨gb258, 0, none⟩) qB62 (.int .i64 ((rd_T37 l0 x23_2).f0))).trans hx259_2; replace hx259_0 := (cell_far (p := ⟨gb258, 1, none⟩) qB63 (.int .i64 ((rd_T37 l0 x23_2).f1))).trans hx259_0; replace hx259_1 := (cell_far (p := ⟨gb258, 1, none⟩) qB63 (.int .i64 ((rd_T37 l0 x23_2).f1))).trans hx259_1; replace hx259_2 := (cell_far (p := ⟨gb258, 1, none⟩) qB63 (.int .i64 ((rd_T37 l0 x23_2).f1))).trans hx259_2; replace hx259_0 := (cell_far (p := ⟨gb258, 2, none⟩) qB64 (.int .i64 ((rd_T37 l0 x23_2).f2))).trans hx259_0; replace hx259_1 := (cell_far (p := ⟨gb258, 2, none⟩) qB64 (.int .i64 ((rd_T37 l0 x23_2).f2))).trans hx259_1; replace hx259_2 := (cell_far (p := ⟨gb258, 2, none⟩) qB64 (.int .i64 ((rd_T37 l0 x23_2).f2))).trans hx259_2; (try have hy259_0 := fun (n_ : Nat) => (show (((((w23.drewN n_).setCell ⟨gb258, 0, none⟩ (.int .i64 ((rd_T37 l0 x23_2).f0))).setCell ⟨gb258, 1, none⟩ (.int .i64 ((rd_T37 l0 x23_2).f1))).setCell ⟨gb258, 2, none⟩ (.int .i64 ((rd_T37 l0 x23_2).f2)))).cell? _ = some _ from hx259_0)); (try have hy259_1 := fun (n_ : Nat) => (show (((((w23.drewN n_).setCell ⟨gb258, 0, none⟩ (.int .i64 ((rd_T37 l0 x23_2).f0))).setCell ⟨gb258, 1, none⟩ (.int .i64 ((rd_T37 l0 x23_2).f1))).setCell ⟨gb258, 2, none⟩ (.int .i64 ((rd_T37 l0 x23_2).f2)))).cell? _ = some _ from hx259_1)); (try have hy259_2 := fun (n_ : Nat) => (show (((((w23.drewN n_).setCell ⟨gb258, 0, none⟩ (.int .i64 ((rd_T37 l0 x23_2).f0))).setCell ⟨gb258, 1, none⟩ (.int .i64 ((rd_T37 l0 x23_2).f1))).setCell ⟨gb258, 2, none⟩ (.int .i64 ((rd_T37 l0 x23_2).f2)))).cell? _ = some _ from hx259_2)); clear hn259_0; clear hn259_1; clear hn259_2; replace p259 := eq_true p259; replace q259 := eq_true q259; have p260 : 0 ≤ (0 : Int) := (by omega); have q260 : 0 < (l0.length : Int) := of_decide_eq_true qB121; obtain ⟨ad260, e260, hx260_0, hx260_1, hx260_2⟩ := at_T37 HR0.out 0 p260 q260; obtain rfl : ad257 = ad260 := (by injection e260); have qi260 : (0 < l0.length) = True := eq_true (by omega); (try rw [show ((0 : Int)).toNat = 0 from rfl] at hx260_0); (try rw [show 0 * 3 = 0 from rfl] at hx260_0); (try rw [Addr.add_zero'] at hx260_0); (try rw [show ((0 : Int)).toNat = 0 from rfl] at hx260_1); (try rw [show 0 * 3 = 0 from rfl] at hx260_1); (try rw [Addr.add_zero'] at hx260_1); (try rw [show ((0 : Int)).toNat = 0 from rfl] at hx260_2); (try rw [show 0 * 3 = 0 from rfl] at hx260_2); (try rw [Addr.add_zero'] at hx260_2); have hn260_0 : ad257.block ≠ gb258 := Nat.ne_of_lt (Nat.lt_of_lt_of_le qB120 GW258.out); have hn260_1 : ad257.block ≠ gb258 := Nat.ne_of_lt (Nat.lt_of_lt_of_le qB120 GW258.out); have hn260_2 : ad257.block ≠ gb258 := Nat.ne_of_lt (Nat.lt_of_lt_of_le qB120 GW258.out); replace hx260_0 := (HB.out.cell (World.block_lt_of_cell? w _ hx260_0)).trans hx260_0; replace hx260_1 := (HB.out.cell (World.block_lt_of_cell? w _ hx260_1)).trans hx260_1; replace hx260_2 := (HB.out.cell (World.block_lt_of_cell? w _ hx260_2)).trans hx260_2; replace hx260_0 := (cell_far (p := ⟨gb258, 0, none⟩) qB65 (.int .i64 ((rd_T37 l0 x23_2).f0))).trans hx260_0; replace hx260_1 := (cell_far (p := ⟨gb258, 0, none⟩) qB65 (.int .i64 ((rd_T37 l0 x23_2).f0))).trans hx260_1; replace hx260_2 := (cell_far (p := ⟨gb258, 0, none⟩) qB65 (.int .i64 ((rd_T37 l0 x23_2).f0))).trans hx260_2; replace hx260_0 := (cell_far (p := ⟨gb258, 1, none⟩) qB66 (.int .i64 ((rd_T37 l0 x23_2).f1))).trans hx260_0; replace hx260_1 := (cell_far (p := ⟨gb258, 1, none⟩) qB66 (.int .i64 ((rd_T37 l0 x23_2).f1))).trans hx260_1; replace hx260_2 := (cell_far (p := ⟨gb258, 1, none⟩) qB66 (.int .i64 ((rd_T37 l0 x23_2).f1))).trans hx260_2; replace hx260_0 := (cell_far (p := ⟨gb258, 2, none⟩) qB67 (.int .i64 ((rd_T37 l0 x23_2).f2))).trans hx260_0; replace hx260_1 := (cell_far (p := ⟨gb258, 2, none⟩) qB67 (.int .i64 ((rd_T37 l0 x23_2).f2))).trans hx260_1; replace hx260_2 := (cell_far (p := ⟨gb258, 2, none⟩) qB67 (.int .i64 ((rd_T37 l0 x23_2).f2))).trans hx260_2; (try have hy260_0 := fun (n_ : Nat) => (show (((((w23.drewN n_).setCell ⟨gb258, 0, none⟩ (.int .i64 ((rd_T37 l0 x23_2).f0))).setCell ⟨gb258, 1, none⟩ (.int .i64 ((rd_T37 l0 x23_2).f1))).setCell ⟨gb258, 2, none⟩ (.int .i64 ((rd_T37 l0 x23_2).f2)))).cell? _ = some _ from hx260_0)); (try have hy260_1 := fun (n_ : Nat) => (show (((((w23.drewN n_).setCell ⟨gb258, 0, none⟩ (.int .i64 ((rd_T37 l0 x23_2).f0))).setCell ⟨gb258, 1, none⟩ (.int .i64 ((rd_T37 l0 x23_2).f1))).setCell ⟨gb258, 2, none⟩ (.int .i64 ((rd_T37 l0 x23_2).f2)))).cell? _ = some _ from hx260_1)); (try have hy260_2 := fun (n_ : Nat) => (show (((((w23.drewN n_).setCell ⟨gb258, 0, none⟩ (.int .i64 ((rd_T37 l0 x23_2).f0))).setCell ⟨gb258, 1, none⟩ (.int .i64 ((rd_T37 l0 x23_2).f1))).setCell ⟨gb258, 2, none⟩ (.int .i64 ((rd_T37 l0 x23_2).f2)))).cell? _ = some _ from hx260_2)); clear hn260_0; clear hn260_1; clear hn260_2; replace p260 := eq_true p260; replace q260 := eq_true q260)))
             go_ret
             exact ⟨by first | rfl | (simp [errW_none, errW_some] <;> rfl) | (simp [*, errW_none, errW_some] <;> rfl), by repeat (first | (with_reducible first | exact HB.out | apply below_alloc | apply pw_below_drewN | apply below_drew1 | refine below_set ?_ GE258.out) | exact HB.out)⟩
           ·rw [if_neg c19] at H
            have c19b0 : (((rd_T37 l0 x23_2).f0) == ((rd_T37 l0 0).f0)) = false := beq_eq_false_iff_ne.mpr c19
            have c19b1 : (((rd_T37 l0 x23_2).f0) != ((rd_T37 l0 0).f0)) = true := bne_iff_ne.mpr c19
            obtain rfl := Option.some.inj H
            have p257 : 0 ≤ (x23_2 : Int) := of_decide_eq_true qB121
            have q257 : x23_2 < (l0.length : Int) := of_decide_eq_true qB121
            obtain ⟨ad257, e257, hx257_0, hx257_1, hx257_2⟩ := at_T37 HR0.out x23_2 p257 q257
            cases e257
            replace hx257_0 := (HB.out.cell (World.block_lt_of_cell? w _ hx257_0)).trans hx257_0
            replace hx257_1 := (HB.out.cell (World.block_lt_of_cell? w _ hx257_1)).trans hx257_1
            replace hx257_2 := (HB.out.cell (World.block_lt_of_cell? w _ hx257_2)).trans hx257_2
            replace p257 := eq_true p257
            replace q257 := eq_true q257
            go_wp2_with (first | ((with_reducible refine gate_dst (N := 6) rfl ?_); refine box_event ?hg (N := 6) ?hd (cs := #[.int .i64 0, .int .i64 0, .int .i64 0]) (t := 37) ?hr ?_; (case hd => rfl); (case hg => rfl); (case hr => first | (go_simp; done) | (go_simp; rfl)); intro gb258 hg w25 hbox hb; have n0_ := Aside0.mk (below_step qB60 hb); have n1_ := Aside0.mk (hbox); have n2_ := Aside0.mk ((by rw [hg]; exact (below_size qB60) : w.heap.size ≤ gb258)); have n3_ := Aside0.mk ((by rw [hg]; exact (below_size qB60) : w.heap.size ≤ gb258)); clear HB; have HB := n0_; have BK258 := n1_; have GW258 := n2_; have GE258 := n3_; clear n0_ n1_ n2_ n3_; clear hb hbox hg; have hcz26_0 : w25.cell? ⟨gb258, 0, none⟩ = some (.int .i64 0) := (blk_cell BK258.out 0).trans rfl; have hcz26_1 : w25.cell? ⟨gb258, 1, none⟩ = some (.int .i64 0) := (blk_cell BK258.out 1).trans rfl; have hcz26_2 : w25.cell? ⟨gb258, 2, none⟩ = some (.int .i64 0) := (blk_cell BK258.out 2).trans rfl; have hfz26_0 := blk_frozen BK258.out 0; have hfz26_1 := blk_frozen BK258.out 1; have hfz26_2 := blk_frozen BK258.out 2; have p259 : 0 ≤ (0 : Int) := (by omega); have q259 : 0 < (l0.length : Int) := of_decide_eq_true qB121; obtain ⟨ad259, e259, hx259_0, hx259_1, hx259_2⟩ := at_T37 HR0.out 0 p259 q259; obtain rfl : ad257 = ad259 := (by injection e259); have qi259 : (0 < l0.length) = True := eq_true (by omega); (try rw [show ((0 : Int)).toNat = 0 from rfl] at hx259_0); (try rw [show 0 * 3 = 0 from rfl] at hx259_0); (try rw [Addr.add_zero'] at hx259_0); (try rw [show ((0 : Int)).toNat = 0 from rfl] at hx259_1); (try rw [show 0 * 3 = 0 from rfl] at hx259_1); (try rw [Addr.add_zero'] at hx259_1); (try rw [show ((0 : Int)).toNat = 0 from rfl] at hx259_2); (try rw [show 0 * 3 = 0 from rfl] at hx259_2); (try rw [Addr.add_zero'] at hx259_2); have hn259_0 : ad257.block ≠ gb258 := Nat.ne_of_lt (Nat.lt_of_lt_of_le qB119 GW258.out); have hn259_1 : ad257.block ≠ gb258 := Nat.ne_of_lt (Nat.lt_of_lt_of_le qB119 GW258.out); have hn259_2 : ad257.block ≠ gb258 := Nat.ne_of_lt (Nat.lt_of_lt_of_le qB119 GW258.out); replace hx259_0 := (HB.out.cell (World.block_lt_of_cell? w _ hx259_0)).trans hx259_0; replace hx259_1 := (HB.out.cell (World.block_lt_of_cell? w _ hx259_1)).trans hx259_1; replace hx259_2 := (HB.out.cell (World.block_lt_of_cell? w _ hx259_2)).trans hx259_2; replace hx259_0 := (cell_far (p := ⟨gb258, 0, none⟩) qB62 (.int .i64 ((rd_T37 l0 x23_2).f0))).trans hx259_0; replace hx259_1 := (cell_far (p := ⟨gb258, 0, none⟩) qB62 (.int .i64 ((rd_T37 l0 x23_2).f0))).trans hx259_1; replace hx259_2 := (cell_far (p := ⟨gb258, 0, none⟩) qB62 (.int .i64 ((rd_T37 l0 x23_2).f0))).trans hx259_2; replace hx259_0 := (cell_far (p := ⟨gb258, 1, none⟩) qB63 (.int .i64 ((rd_T37 l0 x23_2).f1))).trans hx259_0; replace hx259_1 := (cell_far (p := ⟨gb258, 1, none⟩) qB63 (.int .i64 ((rd_T37 l0 x23_2).f1))).trans hx259_1; replace hx259_2 := (cell_far (p := ⟨gb258, 1, none⟩) qB63 (.int .i64 ((rd_T37 l0 x23_2).f1))).trans hx259_2; replace hx259_0 := (cell_far (p := ⟨gb258, 2, none⟩) qB64 (.int .i64 ((rd_T37 l0 x23_2).f2))).trans hx259_0; replace hx259_1 := (cell_far (p := ⟨gb258, 2, none⟩) qB64 (.int .i64 ((rd_T37 l0 x23_2).f2))).trans hx259_1; replace hx259_2 := (cell_far (p := ⟨gb258, 2, none⟩) qB64 (.int .i64 ((rd_T37 l0 x23_2).f2))).trans hx259_2; (try have hy259_0 := fun (n_ : Nat) => (show (((((w25.drewN n_).setCell ⟨gb258, 0, none⟩ (.int .i64 ((rd_T37 l0 x23_2).f0))).setCell ⟨gb258, 1, none⟩ (.int .i64 ((rd_T37 l0 x23_2).f1))).setCell ⟨gb258, 2, none⟩ (.int .i64 ((rd_T37 l0 x23_2).f2)))).cell? _ = some _ from hx259_0)); (try have hy259_1 := fun (n_ : Nat) => (show (((((w25.drewN n_).setCell ⟨gb258, 0, none⟩ (.int .i64 ((rd_T37 l0 x23_2).f0))).setCell ⟨gb258, 1, none⟩ (.int .i64 ((rd_T37 l0 x23_2).f1))).setCell ⟨gb258, 2, none⟩ (.int .i64 ((rd_T37 l0 x23_2).f2)))).cell? _ = some _ from hx259_1)); (try have hy259_2 := fun (n_ : Nat) => (show (((((w25.drewN n_).setCell ⟨gb258, 0, none⟩ (.int .i64 ((rd_T37 l0 x23_2).f0))).setCell ⟨gb258, 1, none⟩ (.int .i64 ((rd_T37 l0 x23_2).f1))).setCell ⟨gb258, 2, none⟩ (.int .i64 ((rd_T37 l0 x23_2).f2)))).cell? _ = some _ from hx259_2)); clear hn259_0; clear hn259_1; clear hn259_2; replace p259 := eq_true p259; replace q259 := eq_true q259))
            repeat (go_quiet (first | ((with_reducible refine gate_dst (N := 6) rfl ?_); refine box_event ?hg (N := 6) ?hd (cs := #[.int .i64 0, .int .i64 0, .int .i64 0]) (t := 37) ?hr ?_; (case hd => rfl); (case hg => rfl); (case hr => first | (go_simp; done) | (go_simp; rfl)); intro gb258 hg w25 hbox hb; have n0_ := Aside0.mk (below_step qB60 hb); have n1_ := Aside0.mk (hbox); have n2_ := Aside0.mk ((by rw [hg]; exact (below_size qB60) : w.heap.size ≤ gb258)); have n3_ := Aside0.mk ((by rw [hg]; exact (below_size qB60) : w.heap.size ≤ gb258)); clear HB; have HB := n0_; have BK258 := n1_; have GW258 := n2_; have GE258 := n3_; clear n0_ n1_ n2_ n3_; clear hb hbox hg; have hcz26_0 : w25.cell? ⟨gb258, 0, none⟩ = some (.int .i64 0) := (blk_cell BK258.out 0).trans rfl; have hcz26_1 : w25.cell? ⟨gb258, 1, none⟩ = some (.int .i64 0) := (blk_cell BK258.out 1).trans rfl; have hcz26_2 : w25.cell? ⟨gb258, 2, none⟩ = some (.int .i64 0) := (blk_cell BK258.out 2).trans rfl; have hfz26_0 := blk_frozen BK258.out 0; have hfz26_1 := blk_frozen BK258.out 1; have hfz26_2 := blk_frozen BK258.out 2; have p259 : 0 ≤ (0 : Int) := (by omega); have q259 : 0 < (l0.length : Int) := of_decide_eq_true qB121; obtain ⟨ad259, e259, hx259_0, hx259_1, hx259_2⟩ := at_T37 HR0.out 0 p259 q259; obtain rfl : ad257 = ad259 := (by injection e259); have qi259 : (0 < l0.length) = True := eq_true (by omega); (try rw [show ((0 : Int)).toNat = 0 from rfl] at hx259_0); (try rw [show 0 * 3 = 0 from rfl] at hx259_0); (try rw [Addr.add_zero'] at hx259_0); (try rw [show ((0 : Int)).toNat = 0 from rfl] at hx259_1); (try rw [show 0 * 3 = 0 from rfl] at hx259_1); (try rw [Addr.add_zero'] at hx259_1); (try rw [show ((0 : Int)).toNat = 0 from rfl] at hx259_2); (try rw [show 0 * 3 = 0 from rfl] at hx259_2); (try rw [Addr.add_zero'] at hx259_2); have hn259_0 : ad257.block ≠ gb258 := Nat.ne_of_lt (Nat.lt_of_lt_of_le qB119 GW258.out); have hn259_1 : ad257.block ≠ gb258 := Nat.ne_of_lt (Nat.lt_of_lt_of_le qB119 GW258.out); have hn259_2 : ad257.block ≠ gb258 := Nat.ne_of_lt (Nat.lt_of_lt_of_le qB119 GW258.out); replace hx259_0 := (HB.out.cell (World.block_lt_of_cell? w _ hx259_0)).trans hx259_0; replace hx259_1 := (HB.out.cell (World.block_lt_of_cell? w _ hx259_1)).trans hx259_1; replace hx259_2 := (HB.out.cell (World.block_lt_of_cell? w _ hx259_2)).trans hx259_2; replace hx259_0 := (cell_far (p := ⟨gb258, 0, none⟩) qB62 (.int .i64 ((rd_T37 l0 x23_2).f0))).trans hx259_0; replace hx259_1 := (cell_far (p := ⟨gb258, 0, none⟩) qB62 (.int .i64 ((rd_T37 l0 x23_2).f0))).trans hx259_1; replace hx259_2 := (cell_far (p := ⟨gb258, 0, none⟩) qB62 (.int .i64 ((rd_T37 l0 x23_2).f0))).trans hx259_2; replace hx259_0 := (cell_far (p := ⟨gb258, 1, none⟩) qB63 (.int .i64 ((rd_T37 l0 x23_2).f1))).trans hx259_0; replace hx259_1 := (cell_far (p := ⟨gb258, 1, none⟩) qB63 (.int .i64 ((rd_T37 l0 x23_2).f1))).trans hx259_1; replace hx259_2 := (cell_far (p := ⟨gb258, 1, none⟩) qB63 (.int .i64 ((rd_T37 l0 x23_2).f1))).trans hx259_2; replace hx259_0 := (cell_far (p := ⟨gb258, 2, none⟩) qB64 (.int .i64 ((rd_T37 l0 x23_2).f2))).trans hx259_0; replace hx259_1 := (cell_far (p := ⟨gb258, 2, none⟩) qB64 (.int .i64 ((rd_T37 l0 x23_2).f2))).trans hx259_1; replace hx259_2 := (cell_far (p := ⟨gb258, 2, none⟩) qB64 (.int .i64 ((rd_T37 l0 x23_2).f2))).trans hx259_2; (try have hy259_0 := fun (n_ : Nat) => (show (((((w25.drewN n_).setCell ⟨gb258, 0, none⟩ (.int .i64 ((rd_T37 l0 x23_2).f0))).setCell ⟨gb258, 1, none⟩ (.int .i64 ((rd_T37 l0 x23_2).f1))).setCell ⟨gb258, 2, none⟩ (.int .i64 ((rd_T37 l0 x23_2).f2)))).cell? _ = some _ from hx259_0)); (try have hy259_1 := fun (n_ : Nat) => (show (((((w25.drewN n_).setCell ⟨gb258, 0, none⟩ (.int .i64 ((rd_T37 l0 x23_2).f0))).setCell ⟨gb258, 1, none⟩ (.int .i64 ((rd_T37 l0 x23_2).f1))).setCell ⟨gb258, 2, none⟩ (.int .i64 ((rd_T37 l0 x23_2).f2)))).cell? _ = some _ from hx259_1)); (try have hy259_2 := fun (n_ : Nat) => (show (((((w25.drewN n_).setCell ⟨gb258, 0, none⟩ (.int .i64 ((rd_T37 l0 x23_2).f0))).setCell ⟨gb258, 1, none⟩ (.int .i64 ((rd_T37 l0 x23_2).f1))).setCell ⟨gb258, 2, none⟩ (.int .i64 ((rd_T37 l0 x23_2).f2)))).cell? _ = some _ from hx259_2)); clear hn259_0; clear hn259_1; clear hn259_2; replace p259 := eq_true p259; replace q259 := eq_true q259)); try go_wp2_with (first | ((with_reducible refine gate_dst (N := 6) rfl ?_); refine box_event ?hg (N := 6) ?hd (cs := #[.int .i64 0, .int .i64 0, .int .i64 0]) (t := 37) ?hr ?_; (case hd => rfl); (case hg => rfl); (case hr => first | (go_simp; done) | (go_simp; rfl)); intro gb258 hg w25 hbox hb; have n0_ := Aside0.mk (below_step qB60 hb); have n1_ := Aside0.mk (hbox); have n2_ := Aside0.mk ((by rw [hg]; exact (below_size qB60) : w.heap.size ≤ gb258)); have n3_ := Aside0.mk ((by rw [hg]; exact (below_size qB60) : w.heap.size ≤ gb258)); clear HB; have HB := n0_; have BK258 := n1_; have GW258 := n2_; have GE258 := n3_; clear n0_ n1_ n2_ n3_; clear hb hbox hg; have hcz26_0 : w25.cell? ⟨gb258, 0, none⟩ = some (.int .i64 0) := (blk_cell BK258.out 0).trans rfl; have hcz26_1 : w25.cell? ⟨gb258, 1, none⟩ = some (.int .i64 0) := (blk_cell BK258.out 1).trans rfl; have hcz26_2 : w25.cell? ⟨gb258, 2, none⟩ = some (.int .i64 0) := (blk_cell BK258.out 2).trans rfl; have hfz26_0 := blk_frozen BK258.out 0; have hfz26_1 := blk_frozen BK258.out 1; have hfz26_2 := blk_frozen BK258.out 2; have p259 : 0 ≤ (0 : Int) := (by omega); have q259 : 0 < (l0.length : Int) := of_decide_eq_true qB121; obtain ⟨ad259, e259, hx259_0, hx259_1, hx259_2⟩ := at_T37 HR0.out 0 p259 q259; obtain rfl : ad257 = ad259 := (by injection e259); have qi259 : (0 < l0.length) = True := eq_true (by omega); (try rw [show ((0 : Int)).toNat = 0 from rfl] at hx259_0); (try rw [show 0 * 3 = 0 from rfl] at hx259_0); (try rw [Addr.add_zero'] at hx259_0); (try rw [show ((0 : Int)).toNat = 0 from rfl] at hx259_1); (try rw [show 0 * 3 = 0 from rfl] at hx259_1); (try rw [Addr.add_zero'] at hx259_1); (try rw [show ((0 : Int)).toNat = 0 from rfl] at hx259_2); (try rw [show 0 * 3 = 0 from rfl] at hx259_2); (try rw [Addr.add_zero'] at hx259_2); have hn259_0 : ad257.block ≠ gb258 := Nat.ne_of_lt (Nat.lt_of_lt_of_le qB119 GW258.out); have hn259_1 : ad257.block ≠ gb258 := Nat.ne_of_lt (Nat.lt_of_lt_of_le qB119 GW258.out); have hn259_2 : ad257.block ≠ gb258 := Nat.ne_of_lt (Nat.lt_of_lt_of_le qB119 GW258.out); replace hx259_0 := (HB.out.cell (World.block_lt_of_cell? w _ hx259_0)).trans hx259_0; replace hx259_1 := (HB.out.cell (World.block_lt_of_cell? w _ hx259_1)).trans hx259_1; replace hx259_2 := (HB.out.cell (World.block_lt_of_cell? w _ hx259_2)).trans hx259_2; replace hx259_0 := (cell_far (p := ⟨gb258, 0, none⟩) qB62 (.int .i64 ((rd_T37 l0 x23_2).f0))).trans hx259_0; replace hx259_1 := (cell_far (p := ⟨gb258, 0, none⟩) qB62 (.int .i64 ((rd_T37 l0 x23_2).f0))).trans hx259_1; replace hx259_2 := (cell_far (p := ⟨gb258, 0, none⟩) qB62 (.int .i64 ((rd_T37 l0 x23_2).f0))).trans hx259_2; replace hx259_0 := (cell_far (p := ⟨gb258, 1, none⟩) qB63 (.int .i64 ((rd_T37 l0 x23_2).f1))).trans hx259_0; replace hx259_1 := (cell_far (p := ⟨gb258, 1, none⟩) qB63 (.int .i64 ((rd_T37 l0 x23_2).f1))).trans hx259_1; replace hx259_2 := (cell_far (p := ⟨gb258, 1, none⟩) qB63 (.int .i64 ((rd_T37 l0 x23_2).f1))).trans hx259_2; replace hx259_0 := (cell_far (p := ⟨gb258, 2, none⟩) qB64 (.int .i64 ((rd_T37 l0 x23_2).f2))).trans hx259_0; replace hx259_1 := (cell_far (p := ⟨gb258, 2, none⟩) qB64 (.int .i64 ((rd_T37 l0 x23_2).f2))).trans hx259_1; replace hx259_2 := (cell_far (p := ⟨gb258, 2, none⟩) qB64 (.int .i64 ((rd_T37 l0 x23_2).f2))).trans hx259_2; (try have hy259_0 := fun (n_ : Nat) => (show (((((w25.drewN n_).setCell ⟨gb258, 0, none⟩ (.int .i64 ((rd_T37 l0 x23_2).f0))).setCell ⟨gb258, 1, none⟩ (.int .i64 ((rd_T37 l0 x23_2).f1))).setCell ⟨gb258, 2, none⟩ (.int .i64 ((rd_T37 l0 x23_2).f2)))).cell? _ = some _ from hx259_0)); (try have hy259_1 := fun (n_ : Nat) => (show (((((w25.drewN n_).setCell ⟨gb258, 0, none⟩ (.int .i64 ((rd_T37 l0 x23_2).f0))).setCell ⟨gb258, 1, none⟩ (.int .i64 ((rd_T37 l0 x23_2).f1))).setCell ⟨gb258, 2, none⟩ (.int .i64 ((rd_T37 l0 x23_2).f2)))).cell? _ = some _ from hx259_1)); (try have hy259_2 := fun (n_ : Nat) => (show (((((w25.drewN n_).setCell ⟨gb258, 0, none⟩ (.int .i64 ((rd_T37 l0 x23_2).f0))).setCell ⟨gb258, 1, none⟩ (.int .i64 ((rd_T37 l0 x23_2).f1))).setCell ⟨gb258, 2, none⟩ (.int .i64 ((rd_T37 l0 x23_2).f2)))).cell? _ = some _ from hx259_2)); clear hn259_0; clear hn259_1; clear hn259_2; replace p259 := eq_true p259; replace q259 := eq_true q259)))
            go_ret
            exact ⟨by first | rfl | (simp [errW_none, errW_some] <;> rfl) | (simp [*, errW_none, errW_some] <;> rfl), by repeat (first | (with_reducible first | exact HB.out | apply below_alloc | apply pw_below_drewN | apply below_drew1 | refine below_set ?_ GE258.out) | exact HB.out)⟩
          ·rw [if_neg c18] at H
           exact absurd H (by simp)
         ·rw [if_neg c17] at H
          exact absurd H (by simp)
        ·rw [if_neg c16] at H
         exact absurd H (by simp)
       ·rw [if_neg c15] at H
        have c15b0 : decide (x23_2 < (l0.length : Int)) = false := decide_eq_false c15
        clear c15
        obtain rfl := Option.some.inj H
        go_wp2
        repeat (go_quiet (fail); try go_wp2)
        go_ret
        exact ⟨by first | rfl | (simp [errW_none, errW_some] <;> rfl) | (simp [*, errW_none, errW_some] <;> rfl), by repeat (first | (with_reducible first | exact HB.out | apply below_alloc | apply pw_below_drewN | apply below_drew1) | exact HB.out)⟩
    ·replace c14 := Bool.eq_false_iff.mpr c14
     subst c14
     have H1 : (some 2) = some r := by rw [if_neg (show ¬ (false = true) by decide)] at H; exact H
     clear H
     have H := H1
     clear H1
     obtain rfl := Option.some.inj H
     go_wp2_with (first | (go_at_call 71; (with_reducible refine (impl_within.calls (l0.length : Int) 1 4 false _ A13.out).mono ?_); rintro e w' ⟨rfl, ⟨nd, rfl⟩⟩; (try first | exact ⟨rfl, _, World.drewN_drewN _ _ _⟩ | exact ⟨rfl, _, Eq.trans (World.drewN_drewN _ _ _) (congrArg (World.drewN _) (Nat.add_assoc _ _ _))⟩)))
     repeat (go_quiet (first | (go_at_call 71; (with_reducible refine (impl_within.calls (l0.length : Int) 1 4 false _ A13.out).mono ?_); rintro e w' ⟨rfl, ⟨nd, rfl⟩⟩; (try first | exact ⟨rfl, _, World.drewN_drewN _ _ _⟩ | exact ⟨rfl, _, Eq.trans (World.drewN_drewN _ _ _) (congrArg (World.drewN _) (Nat.add_assoc _ _ _))⟩))); try go_wp2_with (first | (go_at_call 71; (with_reducible refine (impl_within.calls (l0.length : Int) 1 4 false _ A13.out).mono ?_); rintro e w' ⟨rfl, ⟨nd, rfl⟩⟩; (try first | exact ⟨rfl, _, World.drewN_drewN _ _ _⟩ | exact ⟨rfl, _, Eq.trans (World.drewN_drewN _ _ _) (congrArg (World.drewN _) (Nat.add_assoc _ _ _))⟩))))
     go_ret
     exact ⟨by first | rfl | (simp [errW_none, errW_some] <;> rfl) | (simp [*, errW_none, errW_some] <;> rfl), by repeat (first | (with_reducible first | exact HB.out | apply below_alloc | apply pw_below_drewN | apply below_drew1) | exact HB.out)⟩

/-! ### bits_Mul32: function 96 -/
def bits_Mul32.f (a0 : Int) (a1 : Int) : Option (Int × Int) := some (((IntKind.u64.wrap ((IntKind.u64.wrap (a0)) * (IntKind.u64.wrap (a1)))) / 4294967296) % 4294967296, (IntKind.u64.wrap ((IntKind.u64.wrap (a0)) * (IntKind.u64.wrap (a1)))) % 4294967296)
set_option maxHeartbeats 8000000 in
set_option maxRecDepth 100000 in
theorem bits_Mul32.calls (a0 : Int) (a1 : Int) (r1 : Int) (r2 : Int) (w : World) (h : bits_Mul32.f a0 a1 = some (r1, r2)) :
  Calls Try.prog 96 #[.int .u32 a0, .int .u32 a1] w fun e w' => e = .returned (.tuple #[.int .u32 r1, .int .u32 r2]) ∧ Drawn0 w w' := by
 have H : (some (((IntKind.u64.wrap ((IntKind.u64.wrap (a0)) * (IntKind.u64.wrap (a1)))) / 4294967296) % 4294967296, (IntKind.u64.wrap ((IntKind.u64.wrap (a0)) * (IntKind.u64.wrap (a1)))) % 4294967296)) = some (r1, r2) := h
 clear h
 simp only [Option.some.injEq, Prod.mk.injEq] at H
 obtain ⟨rfl, rfl⟩ := H
 go_enter Try.func96, Try.ntmps96
 go_wp2
 go_ret2
 exact ⟨by first | rfl | (simp; done) | (simp [*]; done), by repeat (first | exact Drawn0.refl _ | apply Drawn0.step)⟩

/-! ### bits_Mul64: function 97 -/
def bits_Mul64.f (a0 : Int) (a1 : Int) : Option (Int × Int) := some (IntKind.u64.wrap ((IntKind.u64.wrap ((IntKind.u64.wrap ((a0 / 4294967296) * (a1 / 4294967296))) + ((IntKind.u64.wrap ((IntKind.u64.wrap ((a0 / 4294967296) * (Go.bits .and .u64 a1 4294967295))) + ((IntKind.u64.wrap ((Go.bits .and .u64 a0 4294967295) * (Go.bits .and .u64 a1 4294967295))) / 4294967296))) / 4294967296))) + ((IntKind.u64.wrap ((Go.bits .and .u64 (IntKind.u64.wrap ((IntKind.u64.wrap ((a0 / 4294967296) * (Go.bits .and .u64 a1 4294967295))) + ((IntKind.u64.wrap ((Go.bits .and .u64 a0 4294967295) * (Go.bits .and .u64 a1 4294967295))) / 4294967296))) 4294967295) + (IntKind.u64.wrap ((Go.bits .and .u64 a0 4294967295) * (a1 / 4294967296))))) / 4294967296)), IntKind.u64.wrap (a0 * a1))
set_option maxHeartbeats 8000000 in
set_option maxRecDepth 100000 in
theorem bits_Mul64.calls (a0 : Int) (a1 : Int) (r1 : Int) (r2 : Int) (w : World) (h : bits_Mul64.f a0 a1 = some (r1, r2)) :
  Calls Try.prog 97 #[.int .u64 a0, .int .u64 a1] w fun e w' => e = .returned (.tuple #[.int .u64 r1, .int .u64 r2]) ∧ Drawn0 w w' := by
 have H : (some (IntKind.u64.wrap ((IntKind.u64.wrap ((IntKind.u64.wrap ((a0 / 4294967296) * (a1 / 4294967296))) + ((IntKind.u64.wrap ((IntKind.u64.wrap ((a0 / 4294967296) * (Go.bits .and .u64 a1 4294967295))) + ((IntKind.u64.wrap ((Go.bits .and .u64 a0 4294967295) * (Go.bits .and .u64 a1 4294967295))) / 4294967296))) / 4294967296))) + ((IntKind.u64.wrap ((Go.bits .and .u64 (IntKind.u64.wrap ((IntKind.u64.wrap ((a0 / 4294967296) * (Go.bits .and .u64 a1 4294967295))) + ((IntKind.u64.wrap ((Go.bits .and .u64 a0 4294967295) * (Go.bits .and .u64 a1 4294967295))) / 4294967296))) 4294967295) + (IntKind.u64.wrap ((Go.bits .and .u64 a0 4294967295) * (a1 / 4294967296))))) / 4294967296)), IntKind.u64.wrap (a0 * a1))) = some (r1, r2) := h
 clear h
 simp only [Option.some.injEq, Prod.mk.injEq] at H
 obtain ⟨rfl, rfl⟩ := H
 go_enter Try.func97, Try.ntmps97
 go_wp2
 go_ret2
 exact ⟨by first | rfl | (simp; done) | (simp [*]; done), by repeat (first | exact Drawn0.refl _ | apply Drawn0.step)⟩

/-! ### bits_Mul: function 90 -/
def bits_Mul.f (a0 : Int) (a1 : Int) : Option (Int × Int) := (bits_Mul64.f a0 a1).bind fun bt261 => (some (bt261.1, bt261.2))
set_option maxHeartbeats 8000000 in
set_option maxRecDepth 100000 in
theorem bits_Mul.calls (a0 : Int) (a1 : Int) (r1 : Int) (r2 : Int) (w : World) (h : bits_Mul.f a0 a1 = some (r1, r2)) :
  Calls Try.prog 90 #[.int .u64 a0, .int .u64 a1] w fun e w' => e = .returned (.tuple #[.int .u64 r1, .int .u64 r2]) ∧ Drawn0 w w' := by
 have H : ((bits_Mul64.f a0 a1).bind fun bt261 => (some (bt261.1, bt261.2))) = some (r1, r2) := h
 clear h
 replace H := Option.bind_eq_some_iff.mp H
 obtain ⟨⟨t261, t262⟩, A30, H⟩ := H
 replace H : (some (t261, t262)) = some (r1, r2) := H
 have A3 := Aside0.mk A30
 clear A30
 simp only [Option.some.injEq, Prod.mk.injEq] at H
 obtain ⟨rfl, rfl⟩ := H
 go_enter Try.func90, Try.ntmps90
 go_wp2_with (first | ((with_reducible refine gate_callee (f := 97) rfl ?_); refine goesL_ (some 25) rfl rfl Try.func97 (by kernel_rfl) rfl #[.int .u64 a0, .int .u64 a1] rfl qB57 ?_; (with_reducible refine (bits_Mul64.calls a0 a1 t261 t262 _ A3.out).mono ?_); rintro e w' ⟨rfl, ⟨nd, rfl⟩⟩; refine ⟨_, rfl, ?_⟩))
 go_ret2
 exact ⟨by first | rfl | (simp; done) | (simp [*]; done), by repeat (first | exact Drawn0.refl _ | apply Drawn0.step)⟩

/-! ### slices_Repeat_int64_int64: function 78 -/
def slices_Repeat_int64_int64.f (l0 : List Int) (a1 : Int) : Option (List Int) := if l0.length = 1 ∧ 0 ≤ a1 ∧ a1 ≤ 64 then some (List.replicate a1.toNat (rd l0 0)) else none
-- HAND
theorem hrp_mul64 (n : Nat) (hn : n ≤ 64) (w : World) :
  Calls Try.prog 97 #[.int .u64 1, .int .u64 n] w fun e w' => e = .returned (.tuple #[.int .u64 0, .int .u64 n]) ∧ Drawn0 w w' := by
 go_enter Try.func97, Try.ntmps97
 go_wp2
 go_ret2
 refine ⟨?_, ?_⟩
 ·simp
  clear w
  revert n
  decide +kernel
 ·repeat (first | exact Drawn0.refl _ | apply Drawn0.step)
theorem hrp_w (n : Nat) (hn : n ≤ 64) : IntKind.u64.wrap (n : Int) = n := by revert n; decide +kernel
theorem hrp_mul (a b : Int) (n : Nat) (ha : a = 1) (hb : b = n) (hn : n ≤ 64) (w : World) :
  Calls Try.prog 90 #[.int .u64 a, .int .u64 b] w fun e w' => e = .returned (.tuple #[.int .u64 0, .int .u64 n]) ∧ Drawn0 w w' := by
 subst ha hb
 go_enter Try.func90, Try.ntmps90
 go_wp2_with (go_at_call 97; refine (hrp_mul64 n hn _).mono ?_; rintro e w' ⟨rfl, ⟨nd, rfl⟩⟩)
 go_ret2
 exact ⟨by first | rfl | (simp; done), by repeat (first | exact Drawn0.refl _ | exact ⟨_, rfl⟩ | apply Drawn0.step)⟩
theorem hrp_info : (Try.prog.info? 2).map (fun i => (i.zero, i.size, i.bytes)) = some (some (.int .i64 0), 1, 8) := by kernel_rfl
theorem hrp_size : (Try.prog.info? 2).map (·.size) = some 1 := by kernel_rfl
/-- The row that is filled: its first k cells are x. -/
def hrp_row (w : World) (base g n cap k : Nat) (x : Int) : Prop :=
 (base ≤ g ∧ n ≤ cap ∧ cap ≤ maxLen) ∧ ∃ cur : List Value, w.heap[g]? = some (.cells cur.toArray 2 (0, 0)) ∧ cur.length = cap ∧ ∀ j, j < k → cur[j]? = some (.int .i64 x)
theorem hrp_made {w : World} {base m : Nat} {ok : Nat → Prop} {v : Value} {n : Nat} (x : Int) (h : Kd.R (Kd.int .i64) 2 w base ok v (List.replicate n 0)) (hb : ∃ b, v.ownBlock = some b ∧ m ≤ b) :
  ∃ g cap, v = .slice (some ⟨g, 0, none⟩) n cap ∧ hrp_row w base g n cap 0 x := by
 obtain ⟨_, inner, ⟨_, ho⟩, _⟩ := h
 rw [List.length_replicate] at ho
 rcases ho with ⟨rfl, _⟩ | ⟨g, cap, cur, rfl, hg, hh, h1, h2, h3, _⟩
 ·obtain ⟨b, hb, _⟩ := hb
  simp [Value.ownBlock] at hb
 ·exact ⟨g, cap, rfl, ⟨hg, h1, h2⟩, cur.toList, by simpa using hh, by have : cur.size = cap * 1 := h3; simp; omega, fun j hj => by omega⟩
theorem hrp_splice (L : List Value) (k m : Nat) (v : Value) (h : k + m ≤ L.length) (hL : ∀ j, j < k → L[j]? = some v) :
  (splice L k (List.replicate m v)).length = L.length ∧ ∀ j, j < k + m → (splice L k (List.replicate m v))[j]? = some v := by
 refine ⟨length_splice _ _ _ (by simpa using h), fun j hj => ?_⟩
 unfold splice
 by_cases h1 : j < k
 ·rw [List.getElem?_append_left (by simp; omega), List.getElem?_take_of_lt h1]
  exact hL j h1
 ·rw [List.getElem?_append_right (by simp; omega), List.length_take, Nat.min_eq_left (by omega), List.getElem?_append_left (by simp; omega), List.getElem?_replicate]
  rw [if_pos (by omega)]
theorem hrp_src {w w4 : World} {A0 : Option Addr} {x : Int} {c1 n : Nat} (hr : Kd.C (Kd.int .i64) w A0 [x].length [x]) (hb : Below w.heap.size w w4) (hc : c1 = min 1 n) (dp : Option Addr) (hp : 0 < (List.replicate c1 (Value.int .i64 x)).length) :
  dp = dp ∧ ∃ ad, A0 = some ad ∧ ∀ j v, (List.replicate c1 (Value.int .i64 x))[j]? = some v → w4.cell? (ad.add j) = some v := by
 obtain ⟨ad, ha, hx⟩ := Kd.at_int (Kd.C_below hr hb) 0 (by omega) (by simp)
 refine ⟨rfl, ad, ha, fun j v hv => ?_⟩
 rw [List.getElem?_replicate] at hv
 split at hv
 ·obtain rfl : j = 0 := by omega
  obtain rfl := Option.some.inj hv
  simpa [rd] using hx
 ·cases hv
theorem hrp_own {w : World} {g n k m : Nat} {x : Int} {cur : List Value} (hh : w.heap[g]? = some (.cells cur.toArray 2 (0, 0))) (hx : ∀ j, j < k → cur[j]? = some (.int .i64 x)) (hm : m = min k (n - k)) (hp : 0 < (List.replicate m (Value.int .i64 x)).length) :
  (some ⟨g, k, none⟩ : Option Addr) = some ⟨g, k, none⟩ ∧ ∃ ad, (some ⟨g, 0, none⟩ : Option Addr) = some ad ∧ ∀ j v, (List.replicate m (Value.int .i64 x))[j]? = some v → w.cell? (ad.add j) = some v := by
 refine ⟨rfl, _, rfl, fun j v hv => ?_⟩
 rw [List.getElem?_replicate] at hv
 split at hv
 ·obtain rfl := Option.some.inj hv
  have hj : j < k := by omega
  have ha : (⟨g, 0, none⟩ : Addr).add j = ⟨g, j, none⟩ := by
   unfold Addr.add
   split
   ·rename_i h0; rw [h0]
   ·simp
  rw [ha]
  simp [World.cell?, hh, hx j hj]
 ·cases hv
theorem hrp_filled {w5 : World} {base g n cap k m : Nat} {x : Int} {cur : List Value} (h1 : base ≤ g ∧ n ≤ cap ∧ cap ≤ maxLen) (hl : cur.length = cap) (hk : k + m ≤ cap) (hx : ∀ j, j < k → cur[j]? = some (.int .i64 x))
  (hg : Hid (w5.heap[g]? = some (.cells (splice cur k (List.replicate m (.int .i64 x))).toArray 2 (0, 0)))) : hrp_row w5 base g n cap (k + m) x := by
 obtain ⟨e1, e2⟩ := hrp_splice cur k m (.int .i64 x) (by omega) hx
 exact ⟨h1, _, hg, by omega, e2⟩
theorem hrp_done {w : World} {base g n cap : Nat} {x : Int} (h : hrp_row w base g n cap n x) :
  Kd.R (Kd.int .i64) 2 w base (fun _ => True) (.slice (some ⟨g, 0, none⟩) n cap) (List.replicate n x) := by
 obtain ⟨⟨h1, h2, h3⟩, cur, hh, hl, hx⟩ := h
 refine Kd.R_of_own ?_ (fun _ _ => trivial)
 refine ⟨by simp [encs], .inr ⟨g, cap, cur.toArray, by simp, h1, hh, by simpa using h2, h3, by simp; omega, ?_⟩⟩
 refine List.ext_getElem? fun j => ?_
 simp only [List.length_replicate, Nat.mul_one, encs, List.map_replicate]
 by_cases hj : j < n
 ·rw [List.getElem?_take_of_lt hj, List.getElem?_replicate, if_pos hj]
  exact hx j hj
 ·rw [List.getElem?_eq_none (by simp; omega), List.getElem?_eq_none (by simp; omega)]
set_option maxHeartbeats 8000000 in
set_option maxRecDepth 100000 in
theorem slices_Repeat_int64_int64.calls (A0 : Option Addr) (c0 : Nat) (l0 : List Int) (a1 : Int) (r : List Int) (w : World) (hr0 : Kd.C (Kd.int .i64) w A0 l0.length l0) (hc0 : l0.length ≤ c0) (h : slices_Repeat_int64_int64.f l0 a1 = some r) :
  Calls Try.prog 78 #[.slice A0 l0.length c0, .int .i64 a1] w fun e w' => ∃ v0_ : Value, e = .returned (v0_) ∧ Kd.R (Kd.int .i64) 2 w' w.heap.size (fun _ => True) v0_ r ∧ Below w.heap.size w w' := by
 have HR0 := Aside0.mk hr0
 have HC0 := Aside0.mk hc0
 have HB := Aside0.mk (Below.refl w.heap.size w)
 unfold slices_Repeat_int64_int64.f at h
 by_cases c : l0.length = 1 ∧ 0 ≤ a1 ∧ a1 ≤ 64
 ·rw [if_pos c] at h
  obtain rfl := Option.some.inj h
  clear h
  obtain ⟨n, rfl⟩ : ∃ n : Nat, a1 = n := ⟨a1.toNat, by omega⟩
  obtain ⟨x, rfl⟩ : ∃ x, l0 = [x] := List.length_eq_one_iff.mp c.1
  have hn : n ≤ 64 := by omega
  have b1 : decide ((n : Int) < 0) = false := decide_eq_false (by omega)
  have b2 : decide ((9223372036854775807 : Int) < n) = false := decide_eq_false (by omega)
  have b3 : wrap64 (n : Int) = n := by rw [wrap64]; omega
  have LN := Aside0.mk hn
  obtain ⟨c1, hc1⟩ : ∃ c1, c1 = min 1 n := ⟨_, rfl⟩
  have LC := Aside0.mk hc1
  clear c hr0 hc0 hn hc1
  go_enter Try.func78, Try.ntmps78
  go_wp2_with (first
   | (go_at_call 90; refine (hrp_mul _ _ n rfl (hrp_w n LN.out) LN.out _).mono ?_; rintro e w' ⟨rfl, ⟨nd, rfl⟩⟩)
   | ((with_reducible refine gate_dst (N := 30) rfl ?_); refine Kd.R_make (Kd.int .i64) _ 2 rfl (N := 30) rfl 25 _ _ rfl (wrap64 (n : Int)) rfl rfl Try.underlying25 (.int .i64 0) 8 hrp_info rfl (by decide) (by omega) 0 (ok := fun _ => True) (okp := fun _ => True) rfl (fun _ hk => hk) trivial (by rw [b3]; omega) (by rw [b3]; have := LN.out; omega) (Below.refl _ _) (Nat.le_refl _) ?_; intro v4 w4 ho hb hg_ hnew_; rw [show (wrap64 (n : Int)).toNat = n by rw [b3]; rfl] at ho; obtain ⟨g, cap, rfl, HW⟩ := hrp_made x ho hnew_; have HG : Aside0 (hrp_row w4 w.heap.size g n cap 0 x) := Aside0.mk HW; have HB' := Aside0.mk (below_step (pw_below_drewN HB.out _) hb); clear HB; have HB := HB'; clear HB' ho hb hg_ hnew_ HW; obtain ⟨cur, hcur⟩ := HG.out.2; have HH := Aside0.mk hcur; clear hcur)
   | ((with_reducible refine gate_builtin (b := .copy) (xs := #[.tmp 31, .tmp 32]) rfl ?_); refine wpList_copy_splice rfl (.tmp 31) (.tmp 32) 25 25 rfl 2 Try.underlying25 hrp_size (some ⟨g, 0, none⟩) A0 n cap 1 c0 rfl rfl g 0 cur 2 HH.out.1 (List.replicate c1 (.int .i64 x)) ?h1 ?h2 ?h3 ?h4 w.heap.size w HB.out HG.out.1.1 ?h5; (case h1 => rw [List.length_replicate]; exact LC.out); (case h2 => exact hrp_src HR0.out HB.out LC.out _); (case h3 => have := LC.out; have := HG.out.1.2.1; have := HH.out.2.1; rw [List.length_replicate]; omega); (case h4 => intro u hu; rw [List.eq_of_mem_replicate hu]; rfl); intro w5 hg5 hb5; have HG5 := Aside0.mk (hrp_filled (k := 0) (m := c1) HG.out.1 HH.out.2.1 (by have := LC.out; have := HG.out.1.2.1; omega) HH.out.2.2 hg5); clear HB HG HH; have HB := Aside0.mk hb5; clear hb5 hg5; (try simp only [List.length_replicate]))
   )
  go_loopg [8] (n + 1) (fun kq v8 w' => ∃ k : Nat, v8 = .int .i64 k ∧ Aside0 (n + 1 ≤ kq + k ∧ k ≤ n ∧ (1 ≤ n → 1 ≤ k)) ∧ Aside0 (hrp_row w' w.heap.size g n cap k x) ∧ Aside0 (Below w.heap.size w w'))
  case atStart => exact ⟨c1, rfl, ⟨by have := LC.out; omega, by have := LC.out; omega, by have := LC.out; omega⟩, by simpa using HG5, HB⟩
  case round =>
   obtain ⟨k, rfl, HA, HK, HB6⟩ := hrel
   by_cases hlt : k < n
   ·obtain ⟨m, hm⟩ : ∃ m, m = min k (n - k) := ⟨_, rfl⟩
    have LM := Aside0.mk hm
    obtain ⟨cur, hcur⟩ := HK.out.2
    have HH := Aside0.mk hcur
    have hp0 : (0 : Int) ≤ (k : Int) := by omega
    have hp1 : (k : Int) ≤ (n : Int) := by omega
    have hp2 : ((k : Int)).toNat = k := by omega
    have hp3 : k ≤ n := by omega
    have hp4 : k ≤ cap := by have := HK.out.1.2.1; omega
    have hp5 : ¬ cap = k := by have := HK.out.1.2.1; omega
    clear hm hcur HB
    go_wp2_with fail
    go_region_law (refine step_copy_splice rfl (.tmp 41) (.tmp 44) 25 25 rfl 2 Try.underlying25 hrp_size (some ⟨g, k, none⟩) (some ⟨g, 0, none⟩) (n - k) (cap - k) k cap (by simp [Act.eval, Act.put] <;> omega) (by simp [Act.eval, Act.put]) g k cur 2 HH.out.1 (List.replicate m (.int .i64 x)) (by rw [List.length_replicate]; exact LM.out) (hrp_own HH.out.1 HH.out.2.2 LM.out) (by have := LM.out; have := HH.out.2.1; have := HK.out.1.2.1; rw [List.length_replicate]; omega) (fun u hu => by rw [List.eq_of_mem_replicate hu]; rfl) w.heap.size w (by repeat (first | exact HB6.out | apply below_drew1)) HK.out.1.1 ?_; intro w5 hg5 hb5)
    have HK5 := Aside0.mk (hrp_filled (k := k) (m := m) HK.out.1 HH.out.2.1 (by have := LM.out; have := HK.out.1.2.1; omega) HH.out.2.2 hg5)
    have HB5 := Aside0.mk hb5
    have hmr : IntKind.i64.wrap ((k : Int) + (m : Int)) = (k : Int) + (m : Int) := by have := LM.out; have := LN.out; rw [IntKind.wrap_i64]; omega
    clear hb5 hg5 HK HB6
    go_wp2
    go_roundg (gk - 1)
    case measure => have := HA.out; omega
    case rel => exact ⟨k + m, by simp [hmr], ⟨by have := HA.out; have := LM.out; omega, by have := HA.out; have := LM.out; omega, by have := HA.out; have := LM.out; omega⟩, HK5, HB5⟩
   ·go_wp2
    go_ret
    have e : k = n := by have := HA.out.2.1; omega
    subst e
    exact ⟨_, rfl, by simpa [rd] using hrp_done HK.out, HB6.out⟩
 ·rw [if_neg c] at h
  cases h

/-! ### impl_indices: function 81 -/
mutual
def impl_indices.l0 : Nat → Int → Int → Option (List Int × Int)
 | 0, _, _ => none
 | k + 1, x0, x4 => (slices_Repeat_int64_int64.f (([(-1)] : List Int)) x0).bind fun t269 => (impl_indices.l1 k x0 x4 t269 1 0)
def impl_indices.l1 : Nat → Int → Int → List Int → Int → Int → Option (List Int × Int)
 | 0, _, _, _, _, _ => none
 | k + 1, x0, x4, x5, x6, x7 => if 0 ≤ x6 then (if x6 < (x5.length : Int) then (if (rd x5 x6) < 0 then (if x0 = 0 then (none) else (impl_indices.l1 k x0 x4 (x5.set (x6 : Int).toNat x7) (Int.tmod (wrap64 (x6 * x4)) x0) (wrap64 (x7 + 1)))) else (if x7 = (wrap64 (x0 - 1)) then (some (x5, x4)) else (impl_indices.l0 k x0 (wrap64 (x4 + 1))))) else (none)) else (none)
end
def impl_indices.f (k : Nat) (a0 : Int) : Option (List Int × Int) := impl_indices.l0 k a0 1
theorem impl_indices.mono_l : ∀ k, (∀ y0 y1, LeO (impl_indices.l0 k y0 y1) (impl_indices.l0 (k + 1) y0 y1)) ∧ (∀ y0 y1 y2 y3 y4, LeO (impl_indices.l1 k y0 y1 y2 y3 y4) (impl_indices.l1 (k + 1) y0 y1 y2 y3 y4))
 | 0 => ⟨fun _ _ r h => by simp [impl_indices.l0] at h, fun _ _ _ _ _ r h => by simp [impl_indices.l1] at h⟩
 | k + 1 => by
  obtain ⟨ih0, ih1⟩ := impl_indices.mono_l k
  refine ⟨?_, ?_⟩
  ·intro y0 y1
   unfold impl_indices.l0
   repeat' first
   | (with_reducible exact ih0 _ _)
   | (with_reducible exact ih1 _ _ _ _ _)
   | (with_reducible exact LeO.refl _)
   | (with_reducible exact LeO.none _)
   | (with_reducible refine LeO.ite ?_ ?_)
   | (with_reducible refine LeO.bind ?_ (fun _ => ?_))
   | exact ih0 _ _
   | exact ih1 _ _ _ _ _
   | exact LeO.none _
   | refine LeO.ite ?_ ?_
   | refine LeO.bind ?_ (fun _ => ?_)
  ·intro y0 y1 y2 y3 y4
   unfold impl_indices.l1
   repeat' first
   | (with_reducible exact ih0 _ _)
   | (with_reducible exact ih1 _ _ _ _ _)
   | (with_reducible exact LeO.refl _)
   | (with_reducible exact LeO.none _)
   | (with_reducible refine LeO.ite ?_ ?_)
   | (with_reducible refine LeO.bind ?_ (fun _ => ?_))
   | exact ih0 _ _
   | exact ih1 _ _ _ _ _
   | exact LeO.none _
   | refine LeO.ite ?_ ?_
   | refine LeO.bind ?_ (fun _ => ?_)
theorem impl_indices.mono : ∀ a0 k, LeO (impl_indices.f k a0) (impl_indices.f (k + 1) a0) := by
 intro a0 k
 obtain ⟨ih0, ih1⟩ := impl_indices.mono_l k
 unfold impl_indices.f
 repeat' first
   | (with_reducible exact ih0 _ _)
   | (with_reducible exact ih1 _ _ _ _ _)
   | (with_reducible exact LeO.refl _)
   | (with_reducible exact LeO.none _)
   | (with_reducible refine LeO.ite ?_ ?_)
   | (with_reducible refine LeO.bind ?_ (fun _ => ?_))
   | exact ih0 _ _
   | exact ih1 _ _ _ _ _
   | exact LeO.none _
   | refine LeO.ite ?_ ?_
   | refine LeO.bind ?_ (fun _ => ?_)
set_option maxHeartbeats 8000000 in
set_option maxRecDepth 100000 in
theorem impl_indices.calls (k : Nat) (a0 : Int) (r1 : List Int) (r2 : Int) (w : World) (h : impl_indices.f k a0 = some (r1, r2)) :
  Calls Try.prog 81 #[.int .i64 a0] w fun e w' => ∃ v0_ : Value, e = .returned (.tuple #[v0_, .int .i64 r2]) ∧ Kd.R (Kd.int .i64) 2 w' w.heap.size (fun _ => True) v0_ r1 ∧ Below w.heap.size w w' := by
 have HB := Aside0.mk (Below.refl w.heap.size w)
 have H : (impl_indices.l0 k a0 1) = some (r1, r2) := h
 clear h
 have H' := Aside0.mk H
 clear H
 go_enter Try.func81, Try.ntmps81
 go_wp2
 try simp only [Act.put, List.setIfInBounds_toArray, List.set_cons_succ, List.set_cons_zero]
 go_loopg [4] k (fun kq v4 w' => ∃ (x4_1 : Int), v4 = .int .i64 x4_1 ∧ Aside0 (impl_indices.l0 kq a0 x4_1 = some (r1, r2)) ∧ Aside0 (kq ≤ k) ∧ Aside0 (Below w.heap.size w w'))
 case atStart => exact ⟨(1), qB122, H', ⟨Nat.le_refl _⟩, ⟨by repeat (first | (with_reducible first | exact HB.out | apply below_alloc | apply pw_below_drewN | apply below_drew1) | exact HB.out)⟩⟩
 case round =>
  clear H'
  obtain ⟨x4_1, rfl, HA, HK1, HB⟩ := hrel
  cases gk with
  | zero => exact absurd HA.out (by simp [impl_indices.l0])
  | succ k1 =>
   have H := HA.out
   clear HA
   simp only [impl_indices.l0] at H
   obtain ⟨y266, hy266⟩ : ∃ y_ : List Int, y_ = (([(-1)] : List Int)) := ⟨_, rfl⟩
   replace H : ((slices_Repeat_int64_int64.f y266 a0).bind fun t269 => (impl_indices.l1 k1 a0 x4_1 t269 1 0)) = some (r1, r2) := by first | (rw [hy266]; with_reducible exact H) | (have H2_ := (Option.bind_some _ _).symm.trans H; rw [hy266]; with_reducible exact H2_) | (have H2_ := (Option.bind_some _ _).symm.trans H; with_reducible exact H2_) | with_reducible exact H | (rw [hy266]; exact H) | exact H
   have Ny266 := Aside0.mk hy266
   clear hy266
   replace H := Option.bind_eq_some_iff.mp H
   obtain ⟨t269, A20, H⟩ := H
   replace H : (impl_indices.l1 k1 a0 x4_1 t269 1 0) = some (r1, r2) := H
   have A2 := Aside0.mk A20
   clear A20
   have H' := Aside0.mk H
   clear H
   go_wp2_with (first | ((with_reducible refine gate_dst (N := 10) rfl ?_); refine Kd.R_lit (Kd.int .i64) _ 2 ?hg (N := 10) ?hd (xs := ([(-1)] : List Int)) (inner := [.int .i64 (-1)]) (ok := fun _ => True) (okp := fun _ => True) ?hr ?hp (fun _ hk => hk) trivial (Below.refl _ _) (Nat.le_refl _) (by simp) ?_; (case hd => rfl); (case hg => rfl); (case hr => first | (go_simp; done) | (go_simp; rfl)); (case hp => exact (Reps.one (show Kd.M (Kd.int .i64) _ _ _ (-1) [.int .i64 (-1)] from rfl) (Reps.none _ _))); intro v267 w3 ho4 hb hg_ hnew_; clear hg_ hnew_; (first | rw [← Ny266.out] at ho4 | (simp only [Int.reduceToNat] at ho4; rw [← Ny266.out] at ho4)); have n0_ := Aside0.mk (Kd.R_lower ho4 (below_size qB60)); have n1_ := Aside0.mk (below_step qB60 hb); clear HB; have HO268 := n0_; have HB := n1_; clear n0_ n1_; clear hb ho4; obtain ⟨Ao5, co5, eo5⟩ := Kd.R_slice HO268.out; subst eo5) | ((with_reducible refine gate_callee (f := 78) rfl ?_); refine goesL_ (some 12) rfl rfl Try.func78 (by kernel_rfl) rfl #[.slice Ao5 y266.length co5, .int .i64 a0] rfl qB57 ?_; (with_reducible refine (slices_Repeat_int64_int64.calls _ _ y266 a0 t269 _ ?side1 ?side2 A2.out).mono ?_); (case side1 => repeat (first | exact (Kd.R_reads' HO268.out).2.2 | (with_reducible refine Kd.C_alloc ?_ _) | (with_reducible refine Kd.C_drewN ?_ _) | (with_reducible refine Kd.C_drew ?_))); (case side2 => exact (Kd.R_reads' HO268.out).2.1); rintro e w6 ⟨v270, rfl, ho0, hb⟩; refine ⟨_, rfl, ?_⟩; have n0_ := Aside0.mk (Kd.R_elder' qB106 (Kd.R_base ho0) hb); have n1_ := Aside0.mk (Kd.R_lower (Kd.R_new' ho0 (Kd.R_lt qB106)) (below_size qB60)); have n2_ := Aside0.mk (below_step qB60 hb); clear HO268; clear HB; have HO268 := n0_; have HO271 := n1_; have HB := n2_; clear n0_ n1_ n2_; (try clear hb); (try clear hb2); (try clear hk); (try clear hi); (try clear ho0)))
   try simp only [Act.put, List.setIfInBounds_toArray, List.set_cons_succ, List.set_cons_zero]
   go_loopg [6, 7] k1 (fun kq v6 v7 w' => ∃ (x5_2 : List Int) (x6_2 : Int) (x7_2 : Int), v6 = .int .i64 x6_2 ∧ v7 = .int .i64 x7_2 ∧ Aside0 (impl_indices.l1 kq a0 x4_1 x5_2 x6_2 x7_2 = some (r1, r2)) ∧ Aside0 (kq ≤ k1) ∧ Aside0 (Kd.R (Kd.int .i64) 2 w' w.heap.size (fun _ => True) v270 x5_2) ∧ Aside0 (Below w.heap.size w w'))
   case atStart => exact ⟨(t269), (1), (0), qB122, qB122, H', ⟨Nat.le_refl _⟩, ⟨by (with_reducible repeat (first | apply Kd.R_alloc | apply Kd.R_drewN | apply Kd.R_drew)); exact Kd.R_mono HO271.out (fun _ hk => trivial)⟩, ⟨by repeat (first | (with_reducible first | exact HB.out | apply below_alloc | apply pw_below_drewN | apply below_drew1) | exact HB.out)⟩⟩
   case round =>
    clear H'
    try clear p2
    obtain ⟨x5_2, x6_2, x7_2, rfl, rfl, HA, HK2, HO_5, HB⟩ := hrel
    cases gk with
    | zero => exact absurd HA.out (by simp [impl_indices.l1])
    | succ k2 =>
     have H := HA.out
     clear HA
     simp only [impl_indices.l1] at H
     by_cases c7 : 0 ≤ x6_2
     ·rw [if_pos c7] at H
      have c7b0 : decide (0 ≤ x6_2) = true := decide_eq_true c7
      clear c7
      by_cases c8 : x6_2 < (x5_2.length : Int)
      ·rw [if_pos c8] at H
       have c8b0 : decide (x6_2 < (x5_2.length : Int)) = true := decide_eq_true c8
       clear c8
       by_cases c9 : (rd x5_2 x6_2) < 0
       ·rw [if_pos c9] at H
        have c9b0 : decide ((rd x5_2 x6_2) < 0) = true := decide_eq_true c9
        clear c9
        obtain ⟨y273, hy273⟩ : ∃ y_ : List Int, y_ = (x5_2.set (x6_2 : Int).toNat x7_2) := ⟨_, rfl⟩
        replace H : (if a0 = 0 then (none) else (impl_indices.l1 k2 a0 x4_1 y273 (Int.tmod (wrap64 (x6_2 * x4_1)) a0) (wrap64 (x7_2 + 1)))) = some (r1, r2) := by first | (rw [hy273]; with_reducible exact H) | (have H2_ := (Option.bind_some _ _).symm.trans H; rw [hy273]; with_reducible exact H2_) | (have H2_ := (Option.bind_some _ _).symm.trans H; with_reducible exact H2_) | with_reducible exact H | (rw [hy273]; exact H) | exact H
        have Ny273 := Aside0.mk hy273
        clear hy273
        by_cases c11 : a0 = 0
        ·rw [if_pos c11] at H
         exact absurd H (by simp)
        ·rw [if_neg c11] at H
         have c11b0 : (a0 == 0) = false := beq_eq_false_iff_ne.mpr c11
         have c11b1 : (a0 != 0) = true := bne_iff_ne.mpr c11
         have H' := Aside0.mk H
         clear H
         obtain ⟨Ao12, co12, eo12⟩ := Kd.R_slice HO_5.out
         subst eo12
         have p272 : 0 ≤ (x6_2 : Int) := of_decide_eq_true qB121
         have q272 : x6_2 < (x5_2.length : Int) := of_decide_eq_true qB121
         obtain ⟨ad272, e272, hx272_0⟩ := Kd.at_int (Kd.R_reads' HO_5.out).2.2 x6_2 p272 q272
         cases e272
         replace p272 := eq_true p272
         replace q272 := eq_true q272
         have p10 : 0 ≤ (x6_2 : Int) := of_decide_eq_true qB121
         have q10 : (x6_2 : Int) < ((x5_2.length : Int) : Int) := of_decide_eq_true qB121
         obtain ⟨go10, co10, eo10, gb10, gl10, cl10, HG10⟩ := Kd.R_form HO_5.out (by omega)
         (first | cases eo10 | (injection eo10 with ea_ en_ ec_; (first | subst ea_ | (injection ea_ with ea_; subst ea_)); subst ec_; clear en_))
         have GB10 := Aside0.mk gb10
         have GG10 := Aside0.mk HG10
         clear gb10 gl10 HG10
         (first | simp only [add_plain] at hx272_0 | skip)
         obtain ⟨hx10_0, hf10_0⟩ := Kd.R_celln 0 HO_5.out (x6_2 : Int) p10 q10
         replace p10 := eq_true p10
         replace q10 := eq_true q10
         have HP13 := Kd.R_putg HO_5.out (x6_2 : Int) x7_2
         go_wp2_with (first | ((with_reducible refine gate_store (t := 2) (p := 21) rfl ?_); refine store_event (t := 2) (p := 21) (v := ?vo_w14) (w1 := (wr.setCell ⟨go10, (x6_2 : Int).toNat, none⟩ (.int .i64 x7_2))) ?hg ?ho ?hn ?hr ?_; (case ho => rfl); (case hg => rfl); (case hn => rfl); (case hr => first | (go_simp; done) | (go_simp; rfl)); intro w14 hw; have hg : wr.grownBy w14 (some go10) := (by rw [hw]; exact HP13.2); have hp_ : Kd.R (Kd.int .i64) 2 w14 w.heap.size (fun _ => True) (.slice (some ⟨go10, 0, none⟩) x5_2.length co12) y273 := (by rw [hw, Ny273.out]; exact HP13.1); clear HP13; have n0_ := Aside0.mk (hp_); have n1_ := Aside0.mk ((by rw [hw]; exact below_set (HB.out) GB10.out : Below w.heap.size w w14)); clear HO_5; clear HB; have HO_5 := n0_; have HB := n1_; clear n0_ n1_; clear hg hw hp_))
         (first | go_roundg k2 | ((try simp only [add_plain] at *); go_roundg k2))
         case measure => have := HK1.out; have := HK2.out; omega
         case rel => exact ⟨(y273), (Int.tmod (wrap64 (x6_2 * x4_1)) a0), (wrap64 (x7_2 + 1)), qB122, qB122, H', ⟨by have := HK1.out; have := HK2.out; omega⟩, ⟨by (with_reducible repeat (first | apply Kd.R_alloc | apply Kd.R_drewN | apply Kd.R_drew)); exact HO_5.out⟩, ⟨by repeat (first | (with_reducible first | exact HB.out | apply below_alloc | apply pw_below_drewN | apply below_drew1) | exact HB.out)⟩⟩
       ·rw [if_neg c9] at H
        have c9b0 : decide ((rd x5_2 x6_2) < 0) = false := decide_eq_false c9
        clear c9
        by_cases c15 : x7_2 = (wrap64 (a0 - 1))
        ·rw [if_pos c15] at H
         have c15b0 : (x7_2 == (wrap64 (a0 - 1))) = true := beq_iff_eq.mpr c15
         have c15b1 : (x7_2 != (wrap64 (a0 - 1))) = false := bne_eq_false_iff_eq.mpr c15
         clear c15
         simp only [Option.some.injEq, Prod.mk.injEq] at H
         obtain ⟨rfl, rfl⟩ := H
         obtain ⟨Ao16, co16, eo16⟩ := Kd.R_slice HO_5.out
         subst eo16
         have p272 : 0 ≤ (x6_2 : Int) := of_decide_eq_true qB121
         have q272 : x6_2 < (x5_2.length : Int) := of_decide_eq_true qB121
         obtain ⟨ad272, e272, hx272_0⟩ := Kd.at_int (Kd.R_reads' HO_5.out).2.2 x6_2 p272 q272
         cases e272
         replace p272 := eq_true p272
         replace q272 := eq_true q272
         go_wp2
         go_ret2
         exact ⟨_, by first | rfl | (simp [errW_none, errW_some] <;> rfl) | (simp [*, errW_none, errW_some] <;> rfl), by (with_reducible repeat (first | apply Kd.R_alloc | apply Kd.R_drewN | apply Kd.R_drew)); exact HO_5.out, by repeat (first | (with_reducible first | exact HB.out | apply below_alloc | apply pw_below_drewN | apply below_drew1) | exact HB.out)⟩
        ·rw [if_neg c15] at H
         have c15b0 : (x7_2 == (wrap64 (a0 - 1))) = false := beq_eq_false_iff_ne.mpr c15
         have c15b1 : (x7_2 != (wrap64 (a0 - 1))) = true := bne_iff_ne.mpr c15
         have H' := Aside0.mk H
         clear H
         obtain ⟨Ao17, co17, eo17⟩ := Kd.R_slice HO_5.out
         subst eo17
         have p272 : 0 ≤ (x6_2 : Int) := of_decide_eq_true qB121
         have q272 : x6_2 < (x5_2.length : Int) := of_decide_eq_true qB121
         obtain ⟨ad272, e272, hx272_0⟩ := Kd.at_int (Kd.R_reads' HO_5.out).2.2 x6_2 p272 q272
         cases e272
         replace p272 := eq_true p272
         replace q272 := eq_true q272
         go_wp2
         (first | go_roundg k2 | ((try simp only [add_plain] at *); go_roundg k2))
         case measure => have := HK1.out; have := HK2.out; omega
         case rel => exact ⟨(wrap64 (x4_1 + 1)), qB122, H', ⟨by have := HK1.out; have := HK2.out; omega⟩, ⟨by repeat (first | (with_reducible first | exact HB.out | apply below_alloc | apply pw_below_drewN | apply below_drew1) | exact HB.out)⟩⟩
      ·rw [if_neg c8] at H
       exact absurd H (by simp)
     ·rw [if_neg c7] at H
      exact absurd H (by simp)

/-! ### impl_exponents: function 76 -/
def impl_exponents.l0 : Nat → List Int → Int → Int → Int → Int → Int → Option (List Int)
 | 0, _, _, _, _, _, _ => none
 | k + 1, x3, x14, x15, x275000, x275001, x275002 => if x15 < x14 then (if 0 ≤ x15 then (if x15 < (x3.length : Int) then (if x15 > 0 then (if x275001 = 0 then (none) else (impl_exponents.l0 k (x3.set (x15 : Int).toNat (Int.tmod (wrap64 ((rd x3 x15) * x275002)) x275001)) x14 (wrap64 (x15 + 1)) x275000 x275001 x275002)) else (impl_exponents.l0 k x3 x14 (wrap64 (x15 + 1)) x275000 x275001 x275002)) else (none)) else (none)) else (some x3)
def impl_exponents.f (k : Nat) (a0_0 : Int) (a0_1 : Int) (a0_2 : Int) : Option (List Int) := (impl_indices.f k a0_0).bind fun bt275 => (impl_exponents.l0 k bt275.1 (bt275.1.length : Int) 0 a0_0 a0_1 a0_2)
theorem impl_exponents.mono_l : ∀ k, (∀ y0 y1 y2 y3 y4 y5, LeO (impl_exponents.l0 k y0 y1 y2 y3 y4 y5) (impl_exponents.l0 (k + 1) y0 y1 y2 y3 y4 y5))
 | 0 => fun _ _ _ _ _ _ r h => by simp [impl_exponents.l0] at h
 | k + 1 => by
  have ih0 := impl_exponents.mono_l k
  ·intro y0 y1 y2 y3 y4 y5
   unfold impl_exponents.l0
   repeat' first
   | (with_reducible exact ih0 _ _ _ _ _ _)
   | (with_reducible exact impl_indices.mono _ _)
   | (with_reducible exact LeO.refl _)
   | (with_reducible exact LeO.none _)
   | (with_reducible refine LeO.ite ?_ ?_)
   | (with_reducible refine LeO.bind ?_ (fun _ => ?_))
   | exact ih0 _ _ _ _ _ _
   | exact impl_indices.mono _ _
   | exact LeO.none _
   | refine LeO.ite ?_ ?_
   | refine LeO.bind ?_ (fun _ => ?_)
theorem impl_exponents.mono : ∀ a0 a1 a2 k, LeO (impl_exponents.f k a0 a1 a2) (impl_exponents.f (k + 1) a0 a1 a2) := by
 intro a0 a1 a2 k
 have ih0 := impl_exponents.mono_l k
 unfold impl_exponents.f
 repeat' first
   | (with_reducible exact ih0 _ _ _ _ _ _)
   | (with_reducible exact impl_indices.mono _ _)
   | (with_reducible exact LeO.refl _)
   | (with_reducible exact LeO.none _)
   | (with_reducible refine LeO.ite ?_ ?_)
   | (with_reducible refine LeO.bind ?_ (fun _ => ?_))
   | exact ih0 _ _ _ _ _ _
   | exact impl_indices.mono _ _
   | exact LeO.none _
   | refine LeO.ite ?_ ?_
   | refine LeO.bind ?_ (fun _ => ?_)
set_option maxHeartbeats 8000000 in
set_option maxRecDepth 100000 in
theorem impl_exponents.calls (k : Nat) (a0_0 : Int) (a0_1 : Int) (a0_2 : Int) (r : List Int) (w : World) (h : impl_exponents.f k a0_0 a0_1 a0_2 = some r) :
  Calls Try.prog 76 #[.agg #[.int .i64 a0_0, .int .i64 a0_1, .int .i64 a0_2]] w fun e w' => ∃ v0_ : Value, e = .returned (v0_) ∧ Kd.R (Kd.int .i64) 2 w' w.heap.size (fun _ => True) v0_ r ∧ Below w.heap.size w w' := by
 have hu37 := Try.underlying37
 have HB := Aside0.mk (Below.refl w.heap.size w)
 have H : ((impl_indices.f k a0_0).bind fun bt275 => (impl_exponents.l0 k bt275.1 (bt275.1.length : Int) 0 a0_0 a0_1 a0_2)) = some r := h
 clear h
 replace H := Option.bind_eq_some_iff.mp H
 obtain ⟨⟨t275, t276⟩, A20, H⟩ := H
 replace H : (impl_exponents.l0 k t275 (t275.length : Int) 0 a0_0 a0_1 a0_2) = some r := H
 have A2 := Aside0.mk A20
 clear A20
 have H' := Aside0.mk H
 clear H
 go_enter Try.func76, Try.ntmps76
 go_wp2_with (first | ((with_reducible refine gate_dst (N := 1) rfl ?_); refine box_event ?hg (N := 1) ?hd (cs := #[.int .i64 a0_0, .int .i64 a0_1, .int .i64 a0_2]) (t := 37) ?hr ?_; (case hd => rfl); (case hg => rfl); (case hr => first | (go_simp; done) | (go_simp; rfl)); intro gb274 hg w3 hbox hb; have n0_ := Aside0.mk (below_step qB60 hb); have n1_ := Aside0.mk (hbox); have n2_ := Aside0.mk ((by rw [hg]; exact (below_size qB60) : w.heap.size ≤ gb274)); have n3_ := Aside0.mk ((by rw [hg]; exact (below_size qB60) : w.heap.size ≤ gb274)); clear HB; have HB := n0_; have BK274 := n1_; have GW274 := n2_; have GE274 := n3_; clear n0_ n1_ n2_ n3_; clear hb hbox hg; have hcz4_0 : w3.cell? ⟨gb274, 0, none⟩ = some (.int .i64 a0_0) := (blk_cell BK274.out 0).trans rfl; have hcz4_1 : w3.cell? ⟨gb274, 1, none⟩ = some (.int .i64 a0_1) := (blk_cell BK274.out 1).trans rfl; have hcz4_2 : w3.cell? ⟨gb274, 2, none⟩ = some (.int .i64 a0_2) := (blk_cell BK274.out 2).trans rfl; have hfz4_0 := blk_frozen BK274.out 0; have hfz4_1 := blk_frozen BK274.out 1; have hfz4_2 := blk_frozen BK274.out 2) | ((with_reducible refine gate_callee (f := 81) rfl ?_); refine goesL_ (some 10) rfl rfl Try.func81 (by kernel_rfl) rfl #[.int .i64 a0_0] rfl qB57 ?_; (with_reducible refine (impl_indices.calls k a0_0 t275 t276 _ A2.out).mono ?_); rintro e w5 ⟨v277, rfl, ho0, hb⟩; refine ⟨_, rfl, ?_⟩; have n0_ := Aside0.mk (Kd.R_lower ho0 (below_size qB42)); have n1_ := Aside0.mk (blk_below (g := gb274) (o := .cells #[.int .i64 a0_0, .int .i64 a0_1, .int .i64 a0_2] 37 (0, 0)) qB82 hb); have n2_ := Aside0.mk (below_step qB42 hb); clear BK274; clear HB; have HO278 := n0_; have BK274 := n1_; have HB := n2_; clear n0_ n1_ n2_; (try clear hb); (try clear hb2); (try clear hk); (try clear hi); (try clear ho0); obtain ⟨Ao6, co6, eo6⟩ := Kd.R_slice HO278.out; subst eo6))
 try simp only [Act.put, List.setIfInBounds_toArray, List.set_cons_succ, List.set_cons_zero]
 go_loopg [15] k (fun kq v15 w' => ∃ (x3_1 : List Int) (x15_1 : Int), v15 = .int .i64 x15_1 ∧ Aside0 (impl_exponents.l0 kq x3_1 (t275.length : Int) x15_1 a0_0 a0_1 a0_2 = some r) ∧ Aside0 (kq ≤ k) ∧ Aside0 (Kd.R (Kd.int .i64) 2 w' w.heap.size (fun _ => True) (.slice Ao6 t275.length co6) x3_1) ∧ Aside0 (w'.heap[gb274]? = some (.cells #[.int .i64 a0_0, .int .i64 a0_1, .int .i64 a0_2] 37 (0, 0))) ∧ Aside0 (Below w.heap.size w w'))
 case atStart => exact ⟨(t275), (0), qB122, H', ⟨Nat.le_refl _⟩, ⟨by (with_reducible repeat (first | apply Kd.R_alloc | apply Kd.R_drewN | apply Kd.R_drew)); exact HO278.out⟩, ⟨by (with_reducible repeat (first | refine blk_drewN ?_ _ | refine blk_drew ?_ | refine blk_alloc ?_ _)); exact BK274.out⟩, ⟨by repeat (first | (with_reducible first | exact HB.out | apply below_alloc | apply pw_below_drewN | apply below_drew1 | refine below_set ?_ GE274.out) | exact HB.out)⟩⟩
 case round =>
  clear H'
  try clear p2
  try clear hcz4_0
  try clear hcz4_1
  try clear hcz4_2
  try clear hfz4_0
  try clear hfz4_1
  try clear hfz4_2
  obtain ⟨x3_1, x15_1, rfl, HA, HK1, HO_3, BK274, HB⟩ := hrel
  have hl3_1 := (Kd.R_reads' HO_3.out).1
  rw [hl3_1] at HO_3
  (try simp only [hl3_1])
  (try simp only [hl3_1] at BK274)
  cases gk with
  | zero => exact absurd HA.out (by simp [impl_exponents.l0])
  | succ k1 =>
   have H := HA.out
   clear HA
   simp only [impl_exponents.l0] at H
   by_cases c7 : x15_1 < (t275.length : Int)
   ·rw [if_pos c7] at H
    have c7b0 : decide (x15_1 < (t275.length : Int)) = true := decide_eq_true c7
    clear c7
    by_cases c8 : 0 ≤ x15_1
    ·rw [if_pos c8] at H
     have c8b0 : decide (0 ≤ x15_1) = true := decide_eq_true c8
     clear c8
     by_cases c9 : x15_1 < (x3_1.length : Int)
     ·rw [if_pos c9] at H
      have c9b0 : decide (x15_1 < (x3_1.length : Int)) = true := decide_eq_true c9
      clear c9
      by_cases c10 : x15_1 > 0
      ·rw [if_pos c10] at H
       have c10b0 : decide (0 < x15_1) = true := decide_eq_true c10
       clear c10
       by_cases c11 : a0_1 = 0
       ·rw [if_pos c11] at H
        exact absurd H (by simp)
       ·rw [if_neg c11] at H
        have c11b0 : (a0_1 == 0) = false := beq_eq_false_iff_ne.mpr c11
        have c11b1 : (a0_1 != 0) = true := bne_iff_ne.mpr c11
        obtain ⟨y280, hy280⟩ : ∃ y_ : List Int, y_ = (x3_1.set (x15_1 : Int).toNat (Int.tmod (wrap64 ((rd x3_1 x15_1) * a0_2)) a0_1)) := ⟨_, rfl⟩
        replace H : (impl_exponents.l0 k1 y280 (t275.length : Int) (wrap64 (x15_1 + 1)) a0_0 a0_1 a0_2) = some r := by first | (rw [hy280]; with_reducible exact H) | (have H2_ := (Option.bind_some _ _).symm.trans H; rw [hy280]; with_reducible exact H2_) | (have H2_ := (Option.bind_some _ _).symm.trans H; with_reducible exact H2_) | with_reducible exact H | (rw [hy280]; exact H) | exact H
        have Ny280 := Aside0.mk hy280
        clear hy280
        have H' := Aside0.mk H
        clear H
        have p279 : 0 ≤ (x15_1 : Int) := of_decide_eq_true qB121
        have q279 : x15_1 < (x3_1.length : Int) := of_decide_eq_true qB121
        obtain ⟨ad279, e279, hx279_0⟩ := Kd.at_int (Kd.R_reads' HO_3.out).2.2 x15_1 p279 q279
        cases e279
        replace p279 := eq_true p279
        replace q279 := eq_true q279
        have hcz13_0 : wr.cell? ⟨gb274, 0, none⟩ = some (.int .i64 a0_0) := (blk_cell BK274.out 0).trans rfl
        have hcz13_1 : wr.cell? ⟨gb274, 1, none⟩ = some (.int .i64 a0_1) := (blk_cell BK274.out 1).trans rfl
        have hcz13_2 : wr.cell? ⟨gb274, 2, none⟩ = some (.int .i64 a0_2) := (blk_cell BK274.out 2).trans rfl
        have hfz13_0 := blk_frozen BK274.out 0
        have hfz13_1 := blk_frozen BK274.out 1
        have hfz13_2 := blk_frozen BK274.out 2
        have p12 : 0 ≤ (x15_1 : Int) := of_decide_eq_true qB121
        have q12 : (x15_1 : Int) < ((x3_1.length : Int) : Int) := of_decide_eq_true qB121
        obtain ⟨go12, co12, eo12, gb12, gl12, cl12, HG12⟩ := Kd.R_form HO_3.out (by omega)
        (first | cases eo12 | (injection eo12 with ea_ en_ ec_; (first | subst ea_ | (injection ea_ with ea_; subst ea_)); subst ec_; clear en_))
        have GB12 := Aside0.mk gb12
        have GG12 := Aside0.mk HG12
        clear gb12 gl12 HG12
        (first | simp only [add_plain] at hx279_0 | skip)
        obtain ⟨hx12_0, hf12_0⟩ := Kd.R_celln 0 HO_3.out (x15_1 : Int) p12 q12
        replace p12 := eq_true p12
        replace q12 := eq_true q12
        have HP14 := Kd.R_putg HO_3.out (x15_1 : Int) (Int.tmod (wrap64 ((rd x3_1 x15_1) * a0_2)) a0_1)
        go_wp2_with (first | ((with_reducible refine gate_store (t := 2) (p := 31) rfl ?_); refine store_event (t := 2) (p := 31) (v := ?vo_w15) (w1 := (wr.setCell ⟨go12, (x15_1 : Int).toNat, none⟩ (.int .i64 (Int.tmod (wrap64 ((rd x3_1 x15_1) * a0_2)) a0_1)))) ?hg ?ho ?hn ?hr ?_; (case ho => rfl); (case hg => rfl); (case hn => rfl); (case hr => first | (go_simp; done) | (go_simp; rfl)); intro w15 hw; have hg : wr.grownBy w15 (some go12) := (by rw [hw]; exact HP14.2); have hp_ : Kd.R (Kd.int .i64) 2 w15 w.heap.size (fun _ => True) (.slice (some ⟨go12, 0, none⟩) x3_1.length co6) y280 := (by rw [hw, Ny280.out]; exact HP14.1); clear HP14; have n0_ := Aside0.mk (hp_); have n1_ := Aside0.mk (blk_grown (g := gb274) (o := .cells #[.int .i64 a0_0, .int .i64 a0_1, .int .i64 a0_2] 37 (0, 0)) qB82 hg (Kd.R_ne HO_3.out BK274.out (by decide))); have n2_ := Aside0.mk ((by rw [hw]; exact below_set (HB.out) GB12.out : Below w.heap.size w w15)); clear HO_3; clear BK274; clear HB; have HO_3 := n0_; have BK274 := n1_; have HB := n2_; clear n0_ n1_ n2_; clear hg hw hp_))
        (try simp only [← hl3_1])
        (first | go_roundg k1 | ((try simp only [add_plain] at *); go_roundg k1))
        case measure => have := HK1.out; omega
        case rel => exact ⟨(y280), (wrap64 (x15_1 + 1)), qB122, H', ⟨by have := HK1.out; omega⟩, ⟨by (try simp only [hl3_1]); (with_reducible repeat (first | apply Kd.R_alloc | apply Kd.R_drewN | apply Kd.R_drew)); exact HO_3.out⟩, ⟨by (try simp only [hl3_1]); (with_reducible repeat (first | refine blk_drewN ?_ _ | refine blk_drew ?_ | refine blk_alloc ?_ _)); exact BK274.out⟩, ⟨by repeat (first | (with_reducible first | exact HB.out | apply below_alloc | apply pw_below_drewN | apply below_drew1 | refine below_set ?_ GE274.out) | exact HB.out)⟩⟩
      ·rw [if_neg c10] at H
       have c10b0 : decide (0 < x15_1) = false := decide_eq_false c10
       clear c10
       have H' := Aside0.mk H
       clear H
       have p279 : 0 ≤ (x15_1 : Int) := of_decide_eq_true qB121
       have q279 : x15_1 < (x3_1.length : Int) := of_decide_eq_true qB121
       obtain ⟨ad279, e279, hx279_0⟩ := Kd.at_int (Kd.R_reads' HO_3.out).2.2 x15_1 p279 q279
       cases e279
       replace p279 := eq_true p279
       replace q279 := eq_true q279
       go_wp2
       (try simp only [← hl3_1])
       (first | go_roundg k1 | ((try simp only [add_plain] at *); go_roundg k1))
       case measure => have := HK1.out; omega
       case rel => exact ⟨(x3_1), (wrap64 (x15_1 + 1)), qB122, H', ⟨by have := HK1.out; omega⟩, ⟨by (try simp only [hl3_1]); (with_reducible repeat (first | apply Kd.R_alloc | apply Kd.R_drewN | apply Kd.R_drew)); exact HO_3.out⟩, ⟨by (try simp only [hl3_1]); (with_reducible repeat (first | refine blk_drewN ?_ _ | refine blk_drew ?_ | refine blk_alloc ?_ _)); exact BK274.out⟩, ⟨by repeat (first | (with_reducible first | exact HB.out | apply below_alloc | apply pw_below_drewN | apply below_drew1 | refine below_set ?_ GE274.out) | exact HB.out)⟩⟩
     ·rw [if_neg c9] at H
      exact absurd H (by simp)
    ·rw [if_neg c8] at H
     exact absurd H (by simp)
   ·rw [if_neg c7] at H
    have c7b0 : decide (x15_1 < (t275.length : Int)) = false := decide_eq_false c7
    have c7b0_0 := c7b0
    (try rw [hl3_1] at c7b0_0)
    clear c7
    obtain rfl := Option.some.inj H
    go_wp2
    go_ret
    exact ⟨_, by first | rfl | (simp [errW_none, errW_some] <;> rfl) | (simp [*, errW_none, errW_some] <;> rfl), by (with_reducible repeat (first | apply Kd.R_alloc | apply Kd.R_drewN | apply Kd.R_drew)); exact HO_3.out, by repeat (first | (with_reducible first | exact HB.out | apply below_alloc | apply pw_below_drewN | apply below_drew1 | refine below_set ?_ GE274.out) | exact HB.out)⟩

end Go.Proofs.Ythdpdiahkphklaa.PFnExactJacobiSum
