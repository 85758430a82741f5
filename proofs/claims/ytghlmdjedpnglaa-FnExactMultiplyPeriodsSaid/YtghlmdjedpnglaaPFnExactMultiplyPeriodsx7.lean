/- The functions that the law reaches, as plain functions, each with the proof that the program comes to it; no condition. Written by a program of this session (wip/mp.py) over the printing of the kit; what is marked HAND is told by hand. -/
import Derived.Test.YtghlmdjedpnglaaPFnExactMultiplyPeriodsx0
namespace Go.Proofs.Ytghlmdjedpnglaa.PFnExactMultiplyPeriods
open Go.RowKit Go.Proofs.YtghlmdjedpnglaaW.PrintWords Go.Proofs.YtghlmdjedpnglaaW.PrintLast Go.Proofs.YtghlmdjedpnglaaW.PrintMore
attribute [local go_sem] max2_int min2_int max_two min_two max_three min_three max_four min_four   -- for this text's walks alone
set_option linter.unusedVariables false
set_option linter.unusedSimpArgs false

/-- A state of type 58 at block g of W; what its slices lead to came in by w0. -/
def IsS58 (w0 W : World) (g : Nat) (f0 : Int) (f1 : Int) (f2 : Int) (f3 : List Int) : Prop := ∃ A3 c3, W.heap[g]? = some (.cells #[.int .i64 f0, .int .i64 f1, .int .i64 f2, .slice A3 f3.length c3] 58 (0, 0)) ∧ w0.heap.size ≤ g ∧ Kd.C (Kd.int .i64) w0 A3 f3.length f3
theorem IsS58.grown {w0 W : World} {g : Nat} {f0 : Int} {f1 : Int} {f2 : Int} {f3 : List Int} {W1 : World} {row : Option Nat} (h : IsS58 w0 W g f0 f1 f2 f3) (hw : W.grownBy W1 row) (hne : some g ≠ row) : IsS58 w0 W1 g f0 f1 f2 f3 := by
  obtain ⟨A3, c3, hb, hg, hr3⟩ := h
  exact ⟨A3, c3, blk_grown hb hw hne, hg, hr3⟩
theorem IsS58.own_neN {w0 W : World} {g : Nat} {f0 : Int} {f1 : Int} {f2 : Int} {f3 : List Int} {α : Type} {d : Kd α} {e : Nat} {base : Nat} {ok : Nat → Prop} {v : Value} {xs : List α} (h : IsS58 w0 W g f0 f1 f2 f3) (ho : Kd.N d e W base ok v xs) (ht : e ≠ 58) : some g ≠ v.ownBlock := by
  obtain ⟨A3, c3, hb, hg, hr3⟩ := h
  exact Kd.N_ne ho hb ht
theorem IsS58.fresh {w0 W : World} {g : Nat} {f0 : Int} {f1 : Int} {f2 : Int} {f3 : List Int} (h : IsS58 w0 W g f0 f1 f2 f3) : ∀ k, W.heap.size ≤ k → k ≠ g := by
  obtain ⟨A3, c3, hb, hg, hr3⟩ := h
  exact Kd.freshB hb
theorem IsS58.kept {w0 W : World} {g : Nat} {f0 : Int} {f1 : Int} {f2 : Int} {f3 : List Int} {W1 : World} {S : Nat → Prop} (h : IsS58 w0 W g f0 f1 f2 f3) (hk : Kept W W1 S) (hne : ¬ S g) : IsS58 w0 W1 g f0 f1 f2 f3 := by
  obtain ⟨A3, c3, hb, hg, hr3⟩ := h
  exact ⟨A3, c3, blk_kept hb hk hne, hg, hr3⟩
theorem IsS58.below {w0 W : World} {g : Nat} {f0 : Int} {f1 : Int} {f2 : Int} {f3 : List Int} {W1 : World} (h : IsS58 w0 W g f0 f1 f2 f3) (hw : Below W.heap.size W W1) : IsS58 w0 W1 g f0 f1 f2 f3 := h.grown (grown_of_below hw none) (by simp)
theorem IsS58.alloc {w0 W : World} {g : Nat} {f0 : Int} {f1 : Int} {f2 : Int} {f3 : List Int} (h : IsS58 w0 W g f0 f1 f2 f3) (o : Obj) : IsS58 w0 (W.alloc o) g f0 f1 f2 f3 := h.below (below_alloc (Below.refl _ _) o)
theorem IsS58.drewN {w0 W : World} {g : Nat} {f0 : Int} {f1 : Int} {f2 : Int} {f3 : List Int} (h : IsS58 w0 W g f0 f1 f2 f3) (m : Nat) : IsS58 w0 (W.drewN m) g f0 f1 f2 f3 := h
theorem IsS58.drew {w0 W : World} {g : Nat} {f0 : Int} {f1 : Int} {f2 : Int} {f3 : List Int} (h : IsS58 w0 W g f0 f1 f2 f3) : IsS58 w0 W.drew g f0 f1 f2 f3 := h
theorem IsS58.at_ {w0 W : World} {g : Nat} {f0 : Int} {f1 : Int} {f2 : Int} {f3 : List Int} {w' : World} {m : Nat} (hq : W.drewN m = w') (h : IsS58 w0 W g f0 f1 f2 f3) : IsS58 w0 w' g f0 f1 f2 f3 := by subst hq; exact IsS58.drewN h m
theorem IsS58.apart {w0 W : World} {g : Nat} {f0 : Int} {f1 : Int} {f2 : Int} {f3 : List Int} {α : Type} {d : Kd α} {e : Nat} {base : Nat} {ok : Nat → Prop} {v : Value} {xs : List α} (h : IsS58 w0 W g f0 f1 f2 f3) (ho : d.R e W base ok v xs) (ht : ∀ q, q ∈ e :: d.E → q ≠ 58) : d.R e W base (fun k => ok k ∧ k ≠ g) v xs := by
  obtain ⟨A3, c3, hb, hg, hr3⟩ := h
  exact Kd.R_types ho hb ht
theorem IsS58.own_ne {w0 W : World} {g : Nat} {f0 : Int} {f1 : Int} {f2 : Int} {f3 : List Int} {α : Type} {d : Kd α} {e : Nat} {base : Nat} {ok : Nat → Prop} {v : Value} {xs : List α} (h : IsS58 w0 W g f0 f1 f2 f3) (ho : d.R e W base ok v xs) (ht : e ≠ 58) : some g ≠ v.ownBlock := by
  obtain ⟨A3, c3, hb, hg, hr3⟩ := h
  exact Kd.R_ne ho hb ht
theorem IsS58.apartQ {w0 W : World} {g : Nat} {f0 : Int} {f1 : Int} {f2 : Int} {f3 : List Int} {α : Type} {d : Kd α} {e : Nat} {base : Nat} {ok : Nat → Prop} {v : Value} {xs : List α} (h : IsS58 w0 W g f0 f1 f2 f3) (ho : d.Q e W base ok v xs) (ht : ∀ q, q ∈ e :: d.E → q ≠ 58) : d.Q e W base (fun k => ok k ∧ k ≠ g) v xs := by
  obtain ⟨A3, c3, hb, hg, hr3⟩ := h
  exact Kd.Q_types ho hb ht
theorem IsS58.own_neQ {w0 W : World} {g : Nat} {f0 : Int} {f1 : Int} {f2 : Int} {f3 : List Int} {α : Type} {d : Kd α} {e : Nat} {base : Nat} {ok : Nat → Prop} {v : Value} {xs : List α} (h : IsS58 w0 W g f0 f1 f2 f3) (ho : d.Q e W base ok v xs) (ht : e ≠ 58) : some g ≠ v.ownBlock := by
  obtain ⟨A3, c3, hb, hg, hr3⟩ := h
  exact Kd.Q_ne ho hb ht
theorem IsS58.apartS {w0 W : World} {g : Nat} {f0 : Int} {f1 : Int} {f2 : Int} {f3 : List Int} {α : Type} {d : Kd α} {e : Nat} {base : Nat} {ok : Nat → Prop} {v : Value} {xs : List α} (h : IsS58 w0 W g f0 f1 f2 f3) (ho : d.S e W base ok v xs) (ht : ∀ q, q ∈ e :: d.E → q ≠ 58) : d.S e W base (fun k => ok k ∧ k ≠ g) v xs := by
  obtain ⟨A3, c3, hb, hg, hr3⟩ := h
  exact Kd.S_types ho hb ht
theorem IsS58.own_neS {w0 W : World} {g : Nat} {f0 : Int} {f1 : Int} {f2 : Int} {f3 : List Int} {α : Type} {d : Kd α} {e : Nat} {base : Nat} {ok : Nat → Prop} {v : Value} {xs : List α} (h : IsS58 w0 W g f0 f1 f2 f3) (ho : d.S e W base ok v xs) (ht : e ≠ 58) : some g ≠ v.ownBlock := by
  obtain ⟨A3, c3, hb, hg, hr3⟩ := h
  exact Kd.S_ne ho hb ht
theorem IsS58.lt {w0 W : World} {g : Nat} {f0 : Int} {f1 : Int} {f2 : Int} {f3 : List Int} (h : IsS58 w0 W g f0 f1 f2 f3) : g < W.heap.size := by
  obtain ⟨A3, c3, hb, hg, hr3⟩ := h
  exact blk_lt hb
theorem IsS58.ge {w0 W : World} {g : Nat} {f0 : Int} {f1 : Int} {f2 : Int} {f3 : List Int} (h : IsS58 w0 W g f0 f1 f2 f3) : w0.heap.size ≤ g := by
  obtain ⟨A3, c3, hb, hg, hr3⟩ := h
  exact hg
theorem IsS58.ne_blk {w0 W : World} {g : Nat} {f0 : Int} {f1 : Int} {f2 : Int} {f3 : List Int} {a : Nat} {cs : Array Value} {t : TypeId} {fr : Nat × Nat} (h : IsS58 w0 W g f0 f1 f2 f3) (hb2 : W.heap[a]? = some (.cells cs t fr)) (ht : t ≠ 58) : g ≠ a := by
  obtain ⟨A3, c3, hb, hg, hr3⟩ := h
  rintro rfl
  rw [hb] at hb2
  injection hb2 with hb2
  injection hb2 with _ ht2
  exact ht ht2.symm
theorem IsS58.far {w0 W : World} {g : Nat} {f0 : Int} {f1 : Int} {f2 : Int} {f3 : List Int} {p : Addr} (h : IsS58 w0 W g f0 f1 f2 f3) (hne : g ≠ p.block) (u : Value) : IsS58 w0 (W.setCell p u) g f0 f1 f2 f3 := by
  obtain ⟨A3, c3, hb, hg, hr3⟩ := h
  exact ⟨A3, c3, blk_far hb hne u, hg, hr3⟩
theorem cellS58_0 {W : World} {g : Nat} {A3 : Option Addr} {c3 : Nat} {f0 : Int} {f1 : Int} {f2 : Int} {f3 : List Int} (h : W.heap[g]? = some (.cells #[.int .i64 f0, .int .i64 f1, .int .i64 f2, .slice A3 f3.length c3] 58 (0, 0))) : W.cell? ⟨g, 0, none⟩ = some (.int .i64 f0) := (blk_cell h 0).trans rfl
theorem IsS58.set_0 {w0 W : World} {g : Nat} {f0 : Int} {f1 : Int} {f2 : Int} {f3 : List Int} (h : IsS58 w0 W g f0 f1 f2 f3) (x : Int) : IsS58 w0 (W.setCell ⟨g, 0, none⟩ (.int .i64 x)) g x f1 f2 f3 := by
  obtain ⟨A3, c3, hb, hg, hr3⟩ := h
  exact ⟨A3, c3, by simpa using blk_set hb 0 (.int .i64 x), hg, hr3⟩
theorem cellS58_1 {W : World} {g : Nat} {A3 : Option Addr} {c3 : Nat} {f0 : Int} {f1 : Int} {f2 : Int} {f3 : List Int} (h : W.heap[g]? = some (.cells #[.int .i64 f0, .int .i64 f1, .int .i64 f2, .slice A3 f3.length c3] 58 (0, 0))) : W.cell? ⟨g, 1, none⟩ = some (.int .i64 f1) := (blk_cell h 1).trans rfl
theorem IsS58.set_1 {w0 W : World} {g : Nat} {f0 : Int} {f1 : Int} {f2 : Int} {f3 : List Int} (h : IsS58 w0 W g f0 f1 f2 f3) (x : Int) : IsS58 w0 (W.setCell ⟨g, 1, none⟩ (.int .i64 x)) g f0 x f2 f3 := by
  obtain ⟨A3, c3, hb, hg, hr3⟩ := h
  exact ⟨A3, c3, by simpa using blk_set hb 1 (.int .i64 x), hg, hr3⟩
theorem cellS58_2 {W : World} {g : Nat} {A3 : Option Addr} {c3 : Nat} {f0 : Int} {f1 : Int} {f2 : Int} {f3 : List Int} (h : W.heap[g]? = some (.cells #[.int .i64 f0, .int .i64 f1, .int .i64 f2, .slice A3 f3.length c3] 58 (0, 0))) : W.cell? ⟨g, 2, none⟩ = some (.int .i64 f2) := (blk_cell h 2).trans rfl
theorem IsS58.set_2 {w0 W : World} {g : Nat} {f0 : Int} {f1 : Int} {f2 : Int} {f3 : List Int} (h : IsS58 w0 W g f0 f1 f2 f3) (x : Int) : IsS58 w0 (W.setCell ⟨g, 2, none⟩ (.int .i64 x)) g f0 f1 x f3 := by
  obtain ⟨A3, c3, hb, hg, hr3⟩ := h
  exact ⟨A3, c3, by simpa using blk_set hb 2 (.int .i64 x), hg, hr3⟩
theorem cellS58_3 {W : World} {g : Nat} {A3 : Option Addr} {c3 : Nat} {f0 : Int} {f1 : Int} {f2 : Int} {f3 : List Int} (h : W.heap[g]? = some (.cells #[.int .i64 f0, .int .i64 f1, .int .i64 f2, .slice A3 f3.length c3] 58 (0, 0))) : W.cell? ⟨g, 3, none⟩ = some (.slice A3 f3.length c3) := (blk_cell h 3).trans rfl
theorem IsS58.new (w0 W : World) (A3 : Option Addr) (c3 : Nat) (f0 : Int) (f1 : Int) (f2 : Int) (f3 : List Int) (hB : Below w0.heap.size w0 W) (hr3 : Kd.C (Kd.int .i64) w0 A3 f3.length f3) : IsS58 w0 (W.alloc (.cells #[.int .i64 f0, .int .i64 f1, .int .i64 f2, .slice A3 f3.length c3] 58)) W.heap.size f0 f1 f2 f3 := ⟨A3, c3, by simpa using heap_alloc_new W _, hB.size, hr3⟩

/-! ### impl_periods_table: function 71 -/
mutual
def impl_periods_table.l0 : Nat → List (List Int) → Int → Int → Int → Int → Int → List Int → Option ((List (List Int)) × Int × Int × Int)
  | 0, _, _, _, _, _, _, _ => none
  | k + 1, x3, x12, x13, x1000, x1001, x1002, x1003 => if x13 < x12 then (if 0 ≤ x1001 then (if (x1001 : Int).toNat ≤ 35184372088832 then (if 0 ≤ x13 then (if x13 < (x3.length : Int) then (impl_periods_table.l0 k (x3.set (x13 : Int).toNat (List.replicate (x1001 : Int).toNat 0)) x12 (wrap64 (x13 + 1)) x1000 x1001 x1002 x1003) else (none)) else (none)) else (none)) else (none)) else (impl_periods_table.l1 k x3 1 x1000 x1001 x1002 x1003)
def impl_periods_table.l1 : Nat → List (List Int) → Int → Int → Int → Int → List Int → Option ((List (List Int)) × Int × Int × Int)
  | 0, _, _, _, _, _, _ => none
  | k + 1, x3, x5, x1000, x1001, x1002, x1003 => if x5 < (wrap64 (x1000 - 1)) then (if 0 ≤ x5 then (if x5 < (x1003.length : Int) then (if 0 ≤ (rd x1003 x5) then (if (rd x1003 x5) < (x3.length : Int) then (if 0 ≤ (wrap64 (x5 + 1)) then (if (wrap64 (x5 + 1)) < (x1003.length : Int) then (if 0 ≤ (rd x1003 (wrap64 (x5 + 1))) then (if (rd x1003 (wrap64 (x5 + 1))) < ((rd_L1 x3 (rd x1003 x5)).length : Int) then (impl_periods_table.l1 k (x3.set ((rd x1003 x5) : Int).toNat ((rd_L1 x3 (rd x1003 x5)).set ((rd x1003 (wrap64 (x5 + 1))) : Int).toNat (wrap64 ((rd (rd_L1 x3 (rd x1003 x5)) (rd x1003 (wrap64 (x5 + 1)))) + 1)))) (wrap64 (x5 + 1)) x1000 x1001 x1002 x1003) else (none)) else (none)) else (none)) else (none)) else (none)) else (none)) else (none)) else (none)) else (some (x3, x1000, x1001, x1002))
end
def impl_periods_table.f (k : Nat) (s0_0 : Int) (s0_1 : Int) (s0_2 : Int) (s0_3 : List Int) : Option ((List (List Int)) × Int × Int × Int) := if 0 ≤ s0_1 then (if (s0_1 : Int).toNat ≤ 11728124029610 then ((some (List.replicate (s0_1 : Int).toNat [] : List (List Int))).bind fun y197 => (impl_periods_table.l0 k y197 (y197.length : Int) 0 s0_0 s0_1 s0_2 s0_3)) else (none)) else (none)
theorem impl_periods_table.mono_l : ∀ k, (∀ y0 y1 y2 y3 y4 y5 y6, LeO (impl_periods_table.l0 k y0 y1 y2 y3 y4 y5 y6) (impl_periods_table.l0 (k + 1) y0 y1 y2 y3 y4 y5 y6)) ∧ (∀ y0 y1 y2 y3 y4 y5, LeO (impl_periods_table.l1 k y0 y1 y2 y3 y4 y5) (impl_periods_table.l1 (k + 1) y0 y1 y2 y3 y4 y5))
  | 0 => ⟨fun _ _ _ _ _ _ _ r h => by simp [impl_periods_table.l0] at h, fun _ _ _ _ _ _ r h => by simp [impl_periods_table.l1] at h⟩
  | k + 1 => by
    obtain ⟨ih0, ih1⟩ := impl_periods_table.mono_l k
    refine ⟨?_, ?_⟩
    · intro y0 y1 y2 y3 y4 y5 y6
      unfold impl_periods_table.l0
      repeat' first
      | (with_reducible exact ih0 _ _ _ _ _ _ _)
      | (with_reducible exact ih1 _ _ _ _ _ _)
      | (with_reducible exact LeO.refl _)
      | (with_reducible exact LeO.none _)
      | (with_reducible refine LeO.ite ?_ ?_)
      | (with_reducible refine LeO.bind ?_ (fun _ => ?_))
      | exact ih0 _ _ _ _ _ _ _
      | exact ih1 _ _ _ _ _ _
      | exact LeO.none _
      | refine LeO.ite ?_ ?_
      | refine LeO.bind ?_ (fun _ => ?_)
    · intro y0 y1 y2 y3 y4 y5
      unfold impl_periods_table.l1
      repeat' first
      | (with_reducible exact ih0 _ _ _ _ _ _ _)
      | (with_reducible exact ih1 _ _ _ _ _ _)
      | (with_reducible exact LeO.refl _)
      | (with_reducible exact LeO.none _)
      | (with_reducible refine LeO.ite ?_ ?_)
      | (with_reducible refine LeO.bind ?_ (fun _ => ?_))
      | exact ih0 _ _ _ _ _ _ _
      | exact ih1 _ _ _ _ _ _
      | exact LeO.none _
      | refine LeO.ite ?_ ?_
      | refine LeO.bind ?_ (fun _ => ?_)
theorem impl_periods_table.mono : ∀ a0 a1 a2 a3 k, LeO (impl_periods_table.f k a0 a1 a2 a3) (impl_periods_table.f (k + 1) a0 a1 a2 a3) := by
  intro a0 a1 a2 a3 k
  obtain ⟨ih0, ih1⟩ := impl_periods_table.mono_l k
  unfold impl_periods_table.f
  repeat' first
      | (with_reducible exact ih0 _ _ _ _ _ _ _)
      | (with_reducible exact ih1 _ _ _ _ _ _)
      | (with_reducible exact LeO.refl _)
      | (with_reducible exact LeO.none _)
      | (with_reducible refine LeO.ite ?_ ?_)
      | (with_reducible refine LeO.bind ?_ (fun _ => ?_))
      | exact ih0 _ _ _ _ _ _ _
      | exact ih1 _ _ _ _ _ _
      | exact LeO.none _
      | refine LeO.ite ?_ ?_
      | refine LeO.bind ?_ (fun _ => ?_)
set_option maxHeartbeats 8000000 in
set_option maxRecDepth 100000 in
theorem impl_periods_table.calls (k : Nat) (g : Nat) (s0_0 : Int) (s0_1 : Int) (s0_2 : Int) (s0_3 : List Int) (r1 : List (List Int)) (r2 : Int) (r3 : Int) (r4 : Int) (w0 w : World) (hI : IsS58 w0 w g s0_0 s0_1 s0_2 s0_3) (hB : Below w0.heap.size w0 w) (h : impl_periods_table.f k s0_0 s0_1 s0_2 s0_3 = some (r1, r2, r3, r4)) :
    Calls Try.prog 71 #[.pointer (some ⟨g, 0, none⟩)] w fun e w' => ∃ v0_ : Value, e = .returned (v0_) ∧ Kd.S (Kd.slice 2 (Kd.int .i64)) 25 w' w.heap.size (fun _ => True) v0_ r1 ∧ IsS58 w0 w' g r2 r3 r4 s0_3 ∧ Below w0.heap.size w0 w' ∧ KeepBut w w' g none := by
  have HI0 := Aside0.mk hI
  have HK := Aside0.mk (KeepBut.refl w g none)
  have HL := Aside0.mk hB.size
  clear hI
  have HW0 := Aside0.mk hB.size
  have HB := Aside0.mk hB
  clear hB
  have H : (if 0 ≤ s0_1 then (if (s0_1 : Int).toNat ≤ 11728124029610 then ((some (List.replicate (s0_1 : Int).toNat [] : List (List Int))).bind fun y197 => (impl_periods_table.l0 k y197 (y197.length : Int) 0 s0_0 s0_1 s0_2 s0_3)) else (none)) else (none)) = some (r1, r2, r3, r4) := h
  clear h
  by_cases c2 : 0 ≤ s0_1
  · rw [if_pos c2] at H
    have c2b0 := eq_true c2
    have c2b1 : decide (0 ≤ s0_1) = true := decide_eq_true c2
    clear c2
    by_cases c3 : (s0_1 : Int).toNat ≤ 11728124029610
    · rw [if_pos c3] at H
      have c3b0 := eq_true c3
      have c3b1 : decide ((s0_1 : Int).toNat ≤ 11728124029610) = true := decide_eq_true c3
      clear c3
      obtain ⟨y197, hy197⟩ : ∃ y_ : List (List Int), y_ = (List.replicate (s0_1 : Int).toNat []) := ⟨_, rfl⟩
      replace H : (impl_periods_table.l0 k y197 (y197.length : Int) 0 s0_0 s0_1 s0_2 s0_3) = some (r1, r2, r3, r4) := by first | (rw [hy197]; with_reducible exact H) | (have H2_ := (Option.bind_some _ _).symm.trans H; rw [hy197]; with_reducible exact H2_) | (have H2_ := (Option.bind_some _ _).symm.trans H; with_reducible exact H2_) | with_reducible exact H | (rw [hy197]; exact H) | exact H
      have Ny197 := Aside0.mk hy197
      clear hy197
      have H' := Aside0.mk H
      clear H
      obtain ⟨ASz4_3, cSz4_3, HGz4, hgz4, HSz4_3⟩ := HI0.out
      have hcz4_0 := cellS58_0 HGz4
      have hcz4_1 := cellS58_1 HGz4
      have hcz4_2 := cellS58_2 HGz4
      have hcz4_3 := cellS58_3 HGz4
      have hfz4_0 := blk_frozen HGz4 0
      have hfz4_1 := blk_frozen HGz4 1
      have hfz4_2 := blk_frozen HGz4 2
      clear HGz4 hgz4
      go_enter Try.func71, Try.ntmps71
      go_wp2_with (first | ((with_reducible refine gate_dst (N := 10) rfl ?_); refine Kd.S_make (Kd.slice 2 (Kd.int .i64)) _ 25 rfl (N := 10) rfl 78 _ _ rfl s0_1 rfl rfl Try.underlying78 (.slice none 0 0) 24 info25 rfl (by decide) (by omega) [] (ok := fun _ => True) (okp := fun _ => True) ⟨_, rfl, Kd.R_nil _ _ _ _ _⟩ (fun _ hk => hk) trivial (of_decide_eq_true qB37) (Nat.le_trans (Nat.mul_le_mul_right _ (of_decide_eq_true qB37 : s0_1.toNat ≤ 11728124029610)) (by omega)) (Below.refl _ _) (Nat.le_refl _) ?_; intro v198 w5 ho6 hb hg_ hnew_; clear hg_ hnew_; (first | rw [← Ny197.out] at ho6 | (simp only [Int.reduceToNat] at ho6; rw [← Ny197.out] at ho6)); have n0_ := Aside0.mk (Kd.S_lower ho6 (keep_size (w := w) (g := g) (row := none) qB6)); have n1_ := Aside0.mk (IsS58.below qB3 hb); have n2_ := Aside0.mk (KeepBut.trans qB6 (KeepBut.of_below hb g none) (.inl rfl)); have n3_ := Aside0.mk (below_step qB4 hb); clear HI0; clear HK; clear HB; have HO199 := n0_; have HI0 := n1_; have HK := n2_; have HB := n3_; clear n0_ n1_ n2_ n3_; clear hb ho6; obtain ⟨Ao7, co7, eo7⟩ := Kd.S_slice HO199.out; subst eo7))
      try simp only [Act.put, List.setIfInBounds_toArray, List.set_cons_succ, List.set_cons_zero]
      go_loopg [13] k (fun kq v13 w' => ∃ (x3_1 : List (List Int)) (x13_1 : Int), v13 = .int .i64 x13_1 ∧ Aside0 (impl_periods_table.l0 kq x3_1 (y197.length : Int) x13_1 s0_0 s0_1 s0_2 s0_3 = some (r1, r2, r3, r4)) ∧ Aside0 (kq ≤ k) ∧ Aside0 (Kd.S (Kd.slice 2 (Kd.int .i64)) 25 w' w.heap.size (fun _ => True) (.slice Ao7 y197.length co7) x3_1) ∧ Aside0 (IsS58 w0 w' g s0_0 s0_1 s0_2 s0_3) ∧ Aside0 (KeepBut w w' g none) ∧ Aside0 (Below w0.heap.size w0 w'))
      case atStart => exact ⟨(y197), (0), qB38, H', ⟨Nat.le_refl _⟩, ⟨by (with_reducible repeat (first | apply Kd.S_alloc | apply Kd.S_drewN | apply Kd.S_drew)); exact HO199.out⟩, ⟨by repeat (first | (with_reducible first | exact HI0.out | apply IsS58.alloc | apply IsS58.drewN | apply IsS58.drew | apply IsS58.set_0 | apply IsS58.set_1 | apply IsS58.set_2) | exact HI0.out)⟩, ⟨by repeat (first | (with_reducible first | exact HK.out | apply KeepBut.set_ | apply keep_drewN | apply keep_drew | apply keep_alloc) | exact HK.out)⟩, ⟨by repeat (first | (with_reducible first | exact HB.out | apply below_alloc | apply pw_below_drewN | apply below_drew1 | refine below_set ?_ (IsS58.ge HI0.out)) | exact HB.out)⟩⟩
      case round =>
        clear H'
        try clear c2
        try clear c2b0
        try clear c2b1
        try clear p2
        try clear c3
        try clear c3b0
        try clear c3b1
        try clear c7
        try clear hcz4_0
        try clear hcz4_1
        try clear hcz4_2
        try clear hcz4_3
        try clear hfz4_0
        try clear hfz4_1
        try clear hfz4_2
        obtain ⟨x3_1, x13_1, rfl, HA, HK1, HO_3, HI0, HK, HB⟩ := hrel
        have hl3_1 := (Kd.S_reads' HO_3.out).1
        rw [hl3_1] at HO_3
        (try simp only [hl3_1])
        cases gk with
        | zero => exact absurd HA.out (by simp [impl_periods_table.l0])
        | succ k1 =>
          have H := HA.out
          clear HA
          simp only [impl_periods_table.l0] at H
          by_cases c8 : x13_1 < (y197.length : Int)
          · rw [if_pos c8] at H
            have c8b0 : decide (x13_1 < (y197.length : Int)) = true := decide_eq_true c8
            clear c8
            by_cases c9 : 0 ≤ s0_1
            · rw [if_pos c9] at H
              have c9b0 := eq_true c9
              have c9b1 : decide (0 ≤ s0_1) = true := decide_eq_true c9
              clear c9
              by_cases c10 : (s0_1 : Int).toNat ≤ 35184372088832
              · rw [if_pos c10] at H
                have c10b0 := eq_true c10
                have c10b1 : decide ((s0_1 : Int).toNat ≤ 35184372088832) = true := decide_eq_true c10
                clear c10
                obtain ⟨y200, hy200⟩ : ∃ y_ : List Int, y_ = (List.replicate (s0_1 : Int).toNat 0) := ⟨_, rfl⟩
                replace H : (if 0 ≤ x13_1 then (if x13_1 < (x3_1.length : Int) then (impl_periods_table.l0 k1 (x3_1.set (x13_1 : Int).toNat y200) (y197.length : Int) (wrap64 (x13_1 + 1)) s0_0 s0_1 s0_2 s0_3) else (none)) else (none)) = some (r1, r2, r3, r4) := by first | (rw [hy200]; with_reducible exact H) | (have H2_ := (Option.bind_some _ _).symm.trans H; rw [hy200]; with_reducible exact H2_) | (have H2_ := (Option.bind_some _ _).symm.trans H; with_reducible exact H2_) | with_reducible exact H | (rw [hy200]; exact H) | exact H
                have Ny200 := Aside0.mk hy200
                clear hy200
                by_cases c11 : 0 ≤ x13_1
                · rw [if_pos c11] at H
                  have c11b0 : decide (0 ≤ x13_1) = true := decide_eq_true c11
                  clear c11
                  by_cases c12 : x13_1 < (x3_1.length : Int)
                  · rw [if_pos c12] at H
                    have c12b0 : decide (x13_1 < (x3_1.length : Int)) = true := decide_eq_true c12
                    clear c12
                    obtain ⟨y203, hy203⟩ : ∃ y_ : List (List Int), y_ = (x3_1.set (x13_1 : Int).toNat y200) := ⟨_, rfl⟩
                    replace H : (impl_periods_table.l0 k1 y203 (y197.length : Int) (wrap64 (x13_1 + 1)) s0_0 s0_1 s0_2 s0_3) = some (r1, r2, r3, r4) := by first | (rw [hy203]; with_reducible exact H) | (have H2_ := (Option.bind_some _ _).symm.trans H; rw [hy203]; with_reducible exact H2_) | (have H2_ := (Option.bind_some _ _).symm.trans H; with_reducible exact H2_) | with_reducible exact H | (rw [hy203]; exact H) | exact H
                    have Ny203 := Aside0.mk hy203
                    clear hy203
                    have H' := Aside0.mk H
                    clear H
                    obtain ⟨ASz14_3, cSz14_3, HGz14, hgz14, HSz14_3⟩ := HI0.out
                    have hcz14_0 := cellS58_0 HGz14
                    have hcz14_1 := cellS58_1 HGz14
                    have hcz14_2 := cellS58_2 HGz14
                    have hcz14_3 := cellS58_3 HGz14
                    have hfz14_0 := blk_frozen HGz14 0
                    have hfz14_1 := blk_frozen HGz14 1
                    have hfz14_2 := blk_frozen HGz14 2
                    clear HGz14 hgz14
                    go_wp2_with (first | ((with_reducible refine gate_dst (N := 22) rfl ?_); refine Kd.R_make (Kd.int .i64) _ 2 rfl (N := 22) rfl 25 _ _ rfl s0_1 rfl rfl Try.underlying25 (.int .i64 0) 8 info2 rfl (by decide) (by omega) 0 (ok := fun _ => True) (okp := fun _ => True) rfl (fun _ hk => hk) trivial (of_decide_eq_true qB37) (Nat.le_trans (Nat.mul_le_mul_right _ (of_decide_eq_true qB37 : s0_1.toNat ≤ 35184372088832)) (by omega)) (Below.refl _ _) (Nat.le_refl _) ?_; intro v201 w15 ho16 hb hg_ hnew_; clear hg_ hnew_; (first | rw [← Ny200.out] at ho16 | (simp only [Int.reduceToNat] at ho16; rw [← Ny200.out] at ho16)); have n0_ := Aside0.mk (Kd.S_elder' (by (with_reducible repeat (first | apply Kd.S_alloc | apply Kd.S_drewN | apply Kd.S_drew)); exact HO_3.out) (Kd.R_base ho16) hb); have n1_ := Aside0.mk (Kd.R_lower ho16 (keep_size (w := w) (g := g) (row := none) qB6)); have n2_ := Aside0.mk (IsS58.below qB3 hb); have n3_ := Aside0.mk (KeepBut.trans qB6 (KeepBut.of_below hb g none) (.inl rfl)); have n4_ := Aside0.mk (below_step qB4 hb); clear HO_3; clear HI0; clear HK; clear HB; have HO_3 := n0_; have HO202 := n1_; have HI0 := n2_; have HK := n3_; have HB := n4_; clear n0_ n1_ n2_ n3_ n4_; clear hb ho16; have p13 : 0 ≤ (x13_1 : Int) := of_decide_eq_true qB37; have q13 : (x13_1 : Int) < ((x3_1.length : Int) : Int) := of_decide_eq_true qB37; obtain ⟨go13, co13, eo13, gb13, gl13, cl13, HG13⟩ := Kd.S_form HO_3.out (by omega); (first | cases eo13 | (injection eo13 with ea_ en_ ec_; (first | subst ea_ | (injection ea_ with ea_; subst ea_)); subst ec_; clear en_)); have GB13 := Aside0.mk gb13; have GG13 := Aside0.mk HG13; clear gb13 gl13 HG13; obtain ⟨_, ce13, hcl13, hM13, hcc13, hfr13, _, _⟩ := Kd.S_elem HO_3.out [] (x13_1 : Int) p13 q13; obtain ⟨ve13_0, rfl, ge13_0⟩ := hM13; have hx13_0 := hcc13 0 _ rfl; have hf13_0 := hfr13 0; (try simp only [show ((Kd.slice 2 (Kd.int .i64))).sz = 1 from rfl, Nat.mul_one, Nat.add_zero] at hx13_0); (try simp only [show ((Kd.slice 2 (Kd.int .i64))).sz = 1 from rfl, Nat.mul_one, Nat.add_zero] at hf13_0); clear hcl13 hcc13 hfr13; (try clear hM13); replace p13 := eq_true p13; replace q13 := eq_true q13; have n_ := Aside0.mk (Kd.S_mono (ok' := (fun k_ => some k_ ≠ (v201 : Value).ownBlock)) HO_3.out (fun k_ hk => hk.2)); clear HO_3; have HO_3 := n_; clear n_; have HX17 := Aside0.mk (show Kd.S (Kd.slice 2 (Kd.int .i64)) 25 w15 w.heap.size (fun k_ => ((fun _ => True)) k_ ∧ ¬ ((fun k_ => some k_ = (v201 : Value).ownBlock)) k_) (.slice (some ⟨go13, 0, none⟩) x3_1.length co7) x3_1 from (by (with_reducible repeat (first | apply Kd.S_alloc | apply Kd.S_drewN | apply Kd.S_drew)); exact Kd.S_mono HO_3.out (fun k_ hk => ⟨trivial, fun e_ => hk e_⟩))); obtain ⟨oki17, ce17, hcl17, hM17, hcc17, hfr17, hoki17, hH17⟩ := Kd.S_elem HX17.out [] (x13_1 : Int) (of_decide_eq_true qB37) (by have h_ : (x13_1 : Int) < ((x3_1.length : Int) : Int) := of_decide_eq_true qB37; first | exact h_ | (have e_ := (Kd.S_reads' HO_3.out).1; omega) | simpa using h_); obtain ⟨ve17_0, rfl, ge17_0⟩ := hM17; have HP17 := Kd.S_seg hH17 (of_decide_eq_true qB37) (by have h_ : (x13_1 : Int) < ((x3_1.length : Int) : Int) := of_decide_eq_true qB37; first | exact h_ | (have e_ := (Kd.S_reads' HO_3.out).1; omega) | simpa using h_) (seg := [v201]) (j := 0) (show 1 ≤ 1 from by decide) (x' := y200) (Kd.M_row (Kd.R_mono (Kd.R_tight rfl (Kd.R_mono (ok' := fun k_ => ((fun _ => True)) k_ ∧ k_ ≠ go13) (Kd.R_apart' (HO202.out) (Kd.S_typed HO_3.out) (by decide)) (fun k_ hk => ⟨trivial, fun e_ => (hk.2) (by rw [e_]; rfl)⟩))) (fun _ h_ => Or.inr (h_)))) (fun _ hk => hk) (fun k_ hk_ => ((Kd.R_mono (ok' := fun k_ => ((fun _ => True)) k_ ∧ k_ ≠ go13) (Kd.R_apart' (HO202.out) (Kd.S_typed HO_3.out) (by decide)) (fun k_ hk => ⟨trivial, fun e_ => (hk.2) (by rw [e_]; rfl)⟩))).1 k_ hk_.symm); have hx17_0 := hcc17 0 _ rfl; (try simp only [show ((Kd.slice 2 (Kd.int .i64))).sz = 1 from rfl, Nat.mul_one, Nat.add_zero] at hx17_0); have hf17_0 := hfr17 0; (try simp only [show ((Kd.slice 2 (Kd.int .i64))).sz = 1 from rfl, Nat.mul_one, Nat.add_zero] at hf17_0); clear hcl17 hcc17 hfr17 hoki17 hH17; (try clear hM17); (try simp only [show ((Kd.slice 2 (Kd.int .i64))).sz = 1 from rfl, Nat.mul_one, Nat.add_zero] at HP17)) | ((with_reducible refine gate_store (t := 25) (p := 23) rfl ?_); refine store_event (t := 25) (p := 23) (v := ?vo_w18) (w1 := (w15.setCell ⟨go13, (x13_1 : Int).toNat, none⟩ (v201))) ?hg ?ho ?hn ?hr ?_; (case ho => rfl); (case hg => rfl); (case hn => rfl); (case hr => first | (obtain ⟨A_, c_, e_⟩ := Kd.R_slice HO202.out; subst e_; first | (go_simp; done) | (go_simp; rfl)) | (go_simp; done) | (go_simp; rfl)); intro w18 hw; have hg : w15.grownBy w18 (some go13) := (by rw [hw]; exact HP17.2); have hp_ : Kd.S (Kd.slice 2 (Kd.int .i64)) 25 w18 w.heap.size (fun _ => True) (.slice (some ⟨go13, 0, none⟩) x3_1.length co7) y203 := (by rw [hw, Ny203.out]; exact HP17.1); clear HP17; have n0_ := Aside0.mk (hp_); have n1_ := Aside0.mk (IsS58.grown qB3 hg (IsS58.own_neS HI0.out HO_3.out (by decide))); have n2_ := Aside0.mk ((by rw [hw]; exact below_set (HB.out) (Nat.le_trans HL.out GB13.out) : Below w0.heap.size w0 w18)); have n3_ := Aside0.mk (KeepBut.trans qB6 (KeepBut.of_grown hg g) (Kd.S_base2 HO_3.out)); clear HO_3; clear HI0; clear HB; clear HK; clear HO202; have HO_3 := n0_; have HI0 := n1_; have HB := n2_; have HK := n3_; clear n0_ n1_ n2_ n3_; clear hg hw hp_))
                    (try simp only [← hl3_1])
                    (first | go_roundg k1 | ((try simp only [add_plain] at *); go_roundg k1))
                    case measure => have := HK1.out; omega
                    case rel => exact ⟨(y203), (wrap64 (x13_1 + 1)), qB38, H', ⟨by have := HK1.out; omega⟩, ⟨by (try simp only [hl3_1]); (with_reducible repeat (first | apply Kd.S_alloc | apply Kd.S_drewN | apply Kd.S_drew)); exact HO_3.out⟩, ⟨by repeat (first | (with_reducible first | exact HI0.out | apply IsS58.alloc | apply IsS58.drewN | apply IsS58.drew | apply IsS58.set_0 | apply IsS58.set_1 | apply IsS58.set_2) | exact HI0.out)⟩, ⟨by repeat (first | (with_reducible first | exact HK.out | apply KeepBut.set_ | apply keep_drewN | apply keep_drew | apply keep_alloc) | exact HK.out)⟩, ⟨by repeat (first | (with_reducible first | exact HB.out | apply below_alloc | apply pw_below_drewN | apply below_drew1 | refine below_set ?_ (IsS58.ge HI0.out)) | exact HB.out)⟩⟩
                  · rw [if_neg c12] at H
                    exact absurd H (by simp)
                · rw [if_neg c11] at H
                  exact absurd H (by simp)
              · rw [if_neg c10] at H
                exact absurd H (by simp)
            · rw [if_neg c9] at H
              exact absurd H (by simp)
          · rw [if_neg c8] at H
            have c8b0 : decide (x13_1 < (y197.length : Int)) = false := decide_eq_false c8
            have c8b0_0 := c8b0
            (try rw [hl3_1] at c8b0_0)
            clear c8
            have H' := Aside0.mk H
            clear H
            go_wp2
            try simp only [Act.put, List.setIfInBounds_toArray, List.set_cons_succ, List.set_cons_zero]
            go_loopg [5] k1 (fun kq v5 w' => ∃ (x3_2 : List (List Int)) (x5_2 : Int), v5 = .int .i64 x5_2 ∧ Aside0 (impl_periods_table.l1 kq x3_2 x5_2 s0_0 s0_1 s0_2 s0_3 = some (r1, r2, r3, r4)) ∧ Aside0 (kq ≤ k1) ∧ Aside0 (Kd.S (Kd.slice 2 (Kd.int .i64)) 25 w' w.heap.size (fun _ => True) (.slice Ao7 x3_1.length co7) x3_2) ∧ Aside0 (IsS58 w0 w' g s0_0 s0_1 s0_2 s0_3) ∧ Aside0 (KeepBut w w' g none) ∧ Aside0 (Below w0.heap.size w0 w'))
            case atStart => exact ⟨(x3_1), (1), qB38, H', ⟨Nat.le_refl _⟩, ⟨by (try simp only [hl3_1]); (with_reducible repeat (first | apply Kd.S_alloc | apply Kd.S_drewN | apply Kd.S_drew)); exact HO_3.out⟩, ⟨by repeat (first | (with_reducible first | exact HI0.out | apply IsS58.alloc | apply IsS58.drewN | apply IsS58.drew | apply IsS58.set_0 | apply IsS58.set_1 | apply IsS58.set_2) | exact HI0.out)⟩, ⟨by repeat (first | (with_reducible first | exact HK.out | apply KeepBut.set_ | apply keep_drewN | apply keep_drew | apply keep_alloc) | exact HK.out)⟩, ⟨by repeat (first | (with_reducible first | exact HB.out | apply below_alloc | apply pw_below_drewN | apply below_drew1 | refine below_set ?_ (IsS58.ge HI0.out)) | exact HB.out)⟩⟩
            case round =>
              clear H'
              try clear c1
              try clear p1
              try clear q1
              try clear hx1
              try clear hf1
              try clear c2
              try clear c2b0
              try clear c2b1
              try clear p2
              try clear c3
              try clear c3b0
              try clear c3b1
              try clear p6
              try clear c7
              try clear c8
              try clear c8b0
              try clear c9
              try clear c9b0
              try clear c9b1
              try clear c10
              try clear c10b0
              try clear c10b1
              try clear c11
              try clear c11b0
              try clear c12
              try clear c12b0
              try clear c13
              try clear p13
              try clear q13
              try clear hx13
              try clear hf13
              try clear c17
              try clear hx17
              try clear hf17
              try clear hcz14_0
              try clear hcz14_1
              try clear hcz14_2
              try clear hcz14_3
              try clear hcz4_0
              try clear hcz4_1
              try clear hcz4_2
              try clear hcz4_3
              try clear hfz14_0
              try clear hfz14_1
              try clear hfz14_2
              try clear hfz4_0
              try clear hfz4_1
              try clear hfz4_2
              try clear hx13_0
              try clear hx17_0
              try clear p13
              try clear p2
              try clear q13
              obtain ⟨x3_2, x5_2, rfl, HA, HK2, HO_3, HI0, HK, HB⟩ := hrel
              have hl3_2 := (Kd.S_reads' HO_3.out).1
              rw [hl3_2] at HO_3
              (try simp only [hl3_2])
              cases gk with
              | zero => exact absurd HA.out (by simp [impl_periods_table.l1])
              | succ k2 =>
                have H := HA.out
                clear HA
                simp only [impl_periods_table.l1] at H
                by_cases c19 : x5_2 < (wrap64 (s0_0 - 1))
                · rw [if_pos c19] at H
                  have c19b0 : decide (x5_2 < (wrap64 (s0_0 - 1))) = true := decide_eq_true c19
                  clear c19
                  by_cases c20 : 0 ≤ x5_2
                  · rw [if_pos c20] at H
                    have c20b0 : decide (0 ≤ x5_2) = true := decide_eq_true c20
                    clear c20
                    by_cases c21 : x5_2 < (s0_3.length : Int)
                    · rw [if_pos c21] at H
                      have c21b0 : decide (x5_2 < (s0_3.length : Int)) = true := decide_eq_true c21
                      clear c21
                      by_cases c22 : 0 ≤ (rd s0_3 x5_2)
                      · rw [if_pos c22] at H
                        have c22b0 : decide (0 ≤ (rd s0_3 x5_2)) = true := decide_eq_true c22
                        clear c22
                        by_cases c23 : (rd s0_3 x5_2) < (x3_2.length : Int)
                        · rw [if_pos c23] at H
                          have c23b0 : decide ((rd s0_3 x5_2) < (x3_2.length : Int)) = true := decide_eq_true c23
                          clear c23
                          obtain ⟨ji24, hji24⟩ : ∃ j_ : Int, (wrap64 (x5_2 + 1)) = j_ := ⟨_, rfl⟩
                          replace H : (if 0 ≤ (ji24) then (if (ji24) < (s0_3.length : Int) then (if 0 ≤ (rd s0_3 (ji24)) then (if (rd s0_3 (ji24)) < ((rd_L1 x3_2 (rd s0_3 x5_2)).length : Int) then (impl_periods_table.l1 k2 (x3_2.set ((rd s0_3 x5_2) : Int).toNat ((rd_L1 x3_2 (rd s0_3 x5_2)).set ((rd s0_3 (ji24)) : Int).toNat (wrap64 ((rd (rd_L1 x3_2 (rd s0_3 x5_2)) (rd s0_3 (ji24))) + 1)))) ji24 s0_0 s0_1 s0_2 s0_3) else (none)) else (none)) else (none)) else (none)) = some (r1, r2, r3, r4) := by first | (rw [hji24] at H; exact H) | (simp only [hji24] at H ⊢; exact H)
                          have hji24w : (IntKind.i64.wrap (x5_2 + 1)) = ji24 := (i64_w _).trans hji24
                          by_cases c25 : 0 ≤ (ji24)
                          · rw [if_pos c25] at H
                            have c25b0 : decide (0 ≤ (ji24)) = true := decide_eq_true c25
                            clear c25
                            by_cases c26 : (ji24) < (s0_3.length : Int)
                            · rw [if_pos c26] at H
                              have c26b0 : decide ((ji24) < (s0_3.length : Int)) = true := decide_eq_true c26
                              clear c26
                              by_cases c27 : 0 ≤ (rd s0_3 (ji24))
                              · rw [if_pos c27] at H
                                have c27b0 : decide (0 ≤ (rd s0_3 (ji24))) = true := decide_eq_true c27
                                clear c27
                                by_cases c28 : (rd s0_3 (ji24)) < ((rd_L1 x3_2 (rd s0_3 x5_2)).length : Int)
                                · rw [if_pos c28] at H
                                  have c28b0 : decide ((rd s0_3 (ji24)) < ((rd_L1 x3_2 (rd s0_3 x5_2)).length : Int)) = true := decide_eq_true c28
                                  clear c28
                                  obtain ⟨y208, hy208⟩ : ∃ y_ : List Int, y_ = ((rd_L1 x3_2 (rd s0_3 x5_2)).set ((rd s0_3 (ji24)) : Int).toNat (wrap64 ((rd (rd_L1 x3_2 (rd s0_3 x5_2)) (rd s0_3 (ji24))) + 1))) := ⟨_, rfl⟩
                                  replace H : (impl_periods_table.l1 k2 (x3_2.set ((rd s0_3 x5_2) : Int).toNat y208) ji24 s0_0 s0_1 s0_2 s0_3) = some (r1, r2, r3, r4) := by first | (rw [hy208]; with_reducible exact H) | (have H2_ := (Option.bind_some _ _).symm.trans H; rw [hy208]; with_reducible exact H2_) | (have H2_ := (Option.bind_some _ _).symm.trans H; with_reducible exact H2_) | with_reducible exact H | (rw [hy208]; exact H) | exact H
                                  have Ny208 := Aside0.mk hy208
                                  clear hy208
                                  obtain ⟨y210, hy210⟩ : ∃ y_ : List (List Int), y_ = (x3_2.set ((rd s0_3 x5_2) : Int).toNat y208) := ⟨_, rfl⟩
                                  replace H : (impl_periods_table.l1 k2 y210 ji24 s0_0 s0_1 s0_2 s0_3) = some (r1, r2, r3, r4) := by first | (rw [hy210]; with_reducible exact H) | (have H2_ := (Option.bind_some _ _).symm.trans H; rw [hy210]; with_reducible exact H2_) | (have H2_ := (Option.bind_some _ _).symm.trans H; with_reducible exact H2_) | with_reducible exact H | (rw [hy210]; exact H) | exact H
                                  have Ny210 := Aside0.mk hy210
                                  clear hy210
                                  have H' := Aside0.mk H
                                  clear H
                                  obtain ⟨ASz30_3, cSz30_3, HGz30, hgz30, HSz30_3⟩ := HI0.out
                                  have hcz30_0 := cellS58_0 HGz30
                                  have hcz30_1 := cellS58_1 HGz30
                                  have hcz30_2 := cellS58_2 HGz30
                                  have hcz30_3 := cellS58_3 HGz30
                                  have hfz30_0 := blk_frozen HGz30 0
                                  have hfz30_1 := blk_frozen HGz30 1
                                  have hfz30_2 := blk_frozen HGz30 2
                                  clear HGz30 hgz30
                                  have p204 : 0 ≤ (x5_2 : Int) := of_decide_eq_true qB37
                                  have q204 : x5_2 < (s0_3.length : Int) := of_decide_eq_true qB37
                                  obtain ⟨ad204, e204, hx204_0⟩ := Kd.at_int HSz30_3 x5_2 p204 q204
                                  cases e204
                                  replace hx204_0 := pw_cell_below HB.out hx204_0
                                  replace p204 := eq_true p204
                                  replace q204 := eq_true q204
                                  have p205 : 0 ≤ ((rd s0_3 x5_2) : Int) := of_decide_eq_true qB37
                                  have q205 : (rd s0_3 x5_2) < (x3_2.length : Int) := of_decide_eq_true qB37
                                  obtain ⟨ad205, A205_0, c205_0, e205, hx205_0, hl205_0, hi205_0⟩ := at_L1 (Kd.S_reads' HO_3.out).2.2 (rd s0_3 x5_2) p205 q205
                                  cases e205
                                  obtain ⟨ce205, hce205, hMe205, hcc205⟩ := Kd.S_get HO_3.out [] (rd s0_3 x5_2) p205 (by first | exact q205 | exact of_decide_eq_true qB37 | (have e_ := (Kd.S_reads' HO_3.out).1; omega))
                                  obtain ⟨ve205_0, rfl, ge205_0⟩ := hMe205
                                  have hv205_0 := hcc205 0 _ rfl
                                  rw [Nat.add_zero, show ((Kd.slice 2 (Kd.int .i64))).sz = 1 from rfl, Nat.mul_one] at hv205_0
                                  replace hv205_0 := Option.some.inj (hv205_0.symm.trans hx205_0)
                                  rw [hv205_0] at ge205_0
                                  have HL205_0 := Aside0.mk (show Kd.R (Kd.int .i64) 2 _ _ _ _ (rd_L1 x3_2 (rd s0_3 x5_2)) from ge205_0)
                                  clear hv205_0 ge205_0
                                  have HX205_0 := Aside0.mk hx205_0
                                  clear hcc205 hce205
                                  have HR205_0 := Aside0.mk hi205_0
                                  have HC205_0 := Aside0.mk hl205_0
                                  clear hi205_0 hl205_0
                                  replace p205 := eq_true p205
                                  replace q205 := eq_true q205
                                  have p206 : 0 ≤ ((ji24) : Int) := of_decide_eq_true qB37
                                  have q206 : (ji24) < (s0_3.length : Int) := of_decide_eq_true qB37
                                  obtain ⟨ad206, e206, hx206_0⟩ := Kd.at_int HSz30_3 (ji24) p206 q206
                                  obtain rfl : ad204 = ad206 := (by injection e206)
                                  replace hx206_0 := pw_cell_below HB.out hx206_0
                                  replace p206 := eq_true p206
                                  replace q206 := eq_true q206
                                  have p207 : 0 ≤ ((rd s0_3 (ji24)) : Int) := of_decide_eq_true qB37
                                  have q207 : (rd s0_3 (ji24)) < ((rd_L1 x3_2 (rd s0_3 x5_2)).length : Int) := of_decide_eq_true qB37
                                  obtain ⟨ad207, e207, hx207_0⟩ := Kd.at_int (by repeat (first | (with_reducible exact HR205_0.out) | (with_reducible refine Kd.C_alloc ?_ _) | (with_reducible refine Kd.C_drewN ?_ _) | (with_reducible refine Kd.C_drew ?_) | exact HR205_0.out)) (rd s0_3 (ji24)) p207 q207
                                  cases e207
                                  replace p207 := eq_true p207
                                  replace q207 := eq_true q207
                                  have p29 : 0 ≤ ((rd s0_3 (ji24)) : Int) := of_decide_eq_true qB37
                                  have q29 : ((rd s0_3 (ji24)) : Int) < (((rd_L1 x3_2 (rd s0_3 x5_2)).length : Int) : Int) := of_decide_eq_true qB37
                                  obtain ⟨go29, co29, eo29, gb29, gl29, cl29, HG29⟩ := Kd.R_form HL205_0.out (by omega)
                                  (first | cases eo29 | (injection eo29 with ea_ en_ ec_; (first | subst ea_ | (injection ea_ with ea_; subst ea_)); subst ec_; clear en_))
                                  have GB29 := Aside0.mk gb29
                                  have GG29 := Aside0.mk HG29
                                  clear gb29 gl29 HG29
                                  (first | simp only [add_plain] at hx207_0 | skip)
                                  obtain ⟨hx29_0, hf29_0⟩ := Kd.R_celln 0 HL205_0.out ((rd s0_3 (ji24)) : Int) p29 q29
                                  replace p29 := eq_true p29
                                  replace q29 := eq_true q29
                                  have hq31 : ((rd s0_3 x5_2) : Int) < (x3_2.length : Int) := (by have h_ : ((rd s0_3 x5_2) : Int) < ((x3_2.length : Int) : Int) := of_decide_eq_true qB37; first | exact h_ | (have e_ := (Kd.S_reads' HO_3.out).1; omega) | simpa only [List.length_set, List.length_set] using h_)
                                  obtain ⟨oki31, ce31, hcl31, hM31, hcc31, hok31, hbk31⟩ := Kd.S_borrow HO_3.out [] ((rd s0_3 x5_2) : Int) (of_decide_eq_true qB37) hq31
                                  obtain ⟨ve31_0, rfl, ge31_0⟩ := hM31
                                  have hv31 := hcc31 0 _ rfl
                                  rw [Nat.add_zero, show ((Kd.slice 2 (Kd.int .i64))).sz = 1 from rfl, Nat.mul_one] at hv31
                                  replace hv31 := Option.some.inj (hv31.symm.trans HX205_0.out)
                                  subst hv31
                                  clear hcc31 hcl31
                                  replace ge31_0 := (show Kd.R (Kd.int .i64) 2 _ _ _ _ (rd_L1 x3_2 (rd s0_3 x5_2)) from ge31_0)
                                  have HP31 := Kd.R_putg ge31_0 ((rd s0_3 (ji24)) : Int) (wrap64 ((rd (rd_L1 x3_2 (rd s0_3 x5_2)) (rd s0_3 (ji24))) + 1))
                                  go_wp2_with fail
                                  go_region
                                  obtain ⟨w32, hw⟩ : ∃ w_ : World, w_ = (wr.setCell ⟨go29, ((rd s0_3 (ji24)) : Int).toNat, none⟩ (.int .i64 (wrap64 ((rd (rd_L1 x3_2 (rd s0_3 x5_2)) (rd s0_3 (ji24))) + 1)))) := ⟨_, rfl⟩
                                  rw [← hw]
                                  have hg : wr.grownBy w32 (some go29) := (by rw [hw]; exact HP31.2)
                                  have hz_ : Kd.R (Kd.int .i64) 2 w32 w.heap.size oki31 (.slice (some ⟨go29, 0, none⟩) (rd_L1 x3_2 (rd s0_3 x5_2)).length c205_0) y208 := (by rw [hw, Ny208.out]; exact HP31.1)
                                  have hp_ : Kd.S (Kd.slice 2 (Kd.int .i64)) 25 w32 w.heap.size (fun _ => True) (.slice (some ad205) x3_2.length co7) y210 := (by rw [Ny210.out]; exact hbk31 hg (fun k_ e_ => by injection e_ with e_; subst e_; exact ge31_0.1 _ rfl) (Kd.M_row hz_))
                                  have hm_ := Kd.R_mono hz_ hok31
                                  clear HP31 hbk31
                                  have n0_ := Aside0.mk (hp_)
                                  have n1_ := Aside0.mk (IsS58.grown qB3 hg (IsS58.own_ne HI0.out HL205_0.out (by decide)))
                                  have n2_ := Aside0.mk ((by rw [hw]; exact below_set (HB.out) (Nat.le_trans HL.out GB29.out) : Below w0.heap.size w0 w32))
                                  have n3_ := Aside0.mk (KeepBut.trans qB6 (KeepBut.of_grown hg g) (Kd.R_base2 HL205_0.out))
                                  have n4_ := Aside0.mk (hm_)
                                  have n5_ := Aside0.mk ((Kd.R_reads' hm_).2.1)
                                  clear HO_3
                                  clear HI0
                                  clear HB
                                  clear HK
                                  clear HL205_0
                                  have HO_3 := n0_
                                  have HI0 := n1_
                                  have HB := n2_
                                  have HK := n3_
                                  have HL211 := n4_
                                  have HC209 := n5_
                                  clear n0_ n1_ n2_ n3_ n4_ n5_
                                  clear hg hw hp_ hz_ hm_ hok31
                                  go_wp2
                                  (try simp only [← hl3_2])
                                  (first | go_roundg k2 | ((try simp only [add_plain] at *); go_roundg k2))
                                  case measure => have := HK1.out; have := HK2.out; omega
                                  case rel => exact ⟨(y210), (ji24), (by first | rfl | (simp; done) | (simp only [← hji24] <;> (first | rfl | simp)) | (simp [*]; done)), H', ⟨by have := HK1.out; have := HK2.out; omega⟩, ⟨by (try simp only [hl3_1]); (try simp only [hl3_2]); (with_reducible repeat (first | apply Kd.S_alloc | apply Kd.S_drewN | apply Kd.S_drew)); exact HO_3.out⟩, ⟨by repeat (first | (with_reducible first | exact HI0.out | apply IsS58.alloc | apply IsS58.drewN | apply IsS58.drew | apply IsS58.set_0 | apply IsS58.set_1 | apply IsS58.set_2) | exact HI0.out)⟩, ⟨by repeat (first | (with_reducible first | exact HK.out | apply KeepBut.set_ | apply keep_drewN | apply keep_drew | apply keep_alloc) | exact HK.out)⟩, ⟨by repeat (first | (with_reducible first | exact HB.out | apply below_alloc | apply pw_below_drewN | apply below_drew1 | refine below_set ?_ (IsS58.ge HI0.out)) | exact HB.out)⟩⟩
                                · rw [if_neg c28] at H
                                  exact absurd H (by simp)
                              · rw [if_neg c27] at H
                                exact absurd H (by simp)
                            · rw [if_neg c26] at H
                              exact absurd H (by simp)
                          · rw [if_neg c25] at H
                            exact absurd H (by simp)
                        · rw [if_neg c23] at H
                          exact absurd H (by simp)
                      · rw [if_neg c22] at H
                        exact absurd H (by simp)
                    · rw [if_neg c21] at H
                      exact absurd H (by simp)
                  · rw [if_neg c20] at H
                    exact absurd H (by simp)
                · rw [if_neg c19] at H
                  have c19b0 : decide (x5_2 < (wrap64 (s0_0 - 1))) = false := decide_eq_false c19
                  clear c19
                  simp only [Option.some.injEq, Prod.mk.injEq] at H
                  obtain ⟨rfl, rfl, rfl, rfl⟩ := H
                  obtain ⟨ASz33_3, cSz33_3, HGz33, hgz33, HSz33_3⟩ := HI0.out
                  have hcz33_0 := cellS58_0 HGz33
                  have hcz33_1 := cellS58_1 HGz33
                  have hcz33_2 := cellS58_2 HGz33
                  have hcz33_3 := cellS58_3 HGz33
                  have hfz33_0 := blk_frozen HGz33 0
                  have hfz33_1 := blk_frozen HGz33 1
                  have hfz33_2 := blk_frozen HGz33 2
                  clear HGz33 hgz33
                  go_wp2
                  go_ret
                  exact ⟨_, by first | rfl | (simp [errW_none, errW_some] <;> rfl) | (simp [*, errW_none, errW_some] <;> rfl), by (with_reducible repeat (first | apply Kd.S_alloc | apply Kd.S_drewN | apply Kd.S_drew)); exact HO_3.out, by repeat (first | (with_reducible first | exact HI0.out | apply IsS58.alloc | apply IsS58.drewN | apply IsS58.drew | apply IsS58.set_0 | apply IsS58.set_1 | apply IsS58.set_2) | exact HI0.out), by repeat (first | (with_reducible first | exact HB.out | apply below_alloc | apply pw_below_drewN | apply below_drew1 | refine below_set ?_ (IsS58.ge HI0.out)) | exact HB.out), by repeat (first | (with_reducible first | exact HK.out | apply KeepBut.set_ | apply keep_drewN | apply keep_drew | apply keep_alloc) | exact HK.out)⟩
    · rw [if_neg c3] at H
      exact absurd H (by simp)
  · rw [if_neg c2] at H
    exact absurd H (by simp)

end Go.Proofs.Ytghlmdjedpnglaa.PFnExactMultiplyPeriods
