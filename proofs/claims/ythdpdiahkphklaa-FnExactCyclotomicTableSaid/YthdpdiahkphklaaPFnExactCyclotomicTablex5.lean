/- The functions that the law reaches, as plain functions, each with the proof that the program comes to it; no condition. Written by a program of this session (wip/mp.py) over the printing of the kit; what is marked HAND is told by hand. -/
import Derived.Test.YthdpdiahkphklaaPFnExactCyclotomicTablex0
import Derived.Test.YthdpdiahkphklaaPFnExactCyclotomicTablex2
import Derived.Test.YthdpdiahkphklaaPFnExactCyclotomicTablex3
import Derived.Test.YthdpdiahkphklaaPFnExactCyclotomicTablex4
namespace Go.Proofs.Ythdpdiahkphklaa.PFnExactCyclotomicTable
open Go.RowKit Go.Proofs.YthdpdiahkphklaaW.PrintWords Go.Proofs.YthdpdiahkphklaaW.PrintLast Go.Proofs.YthdpdiahkphklaaW.PrintMore
attribute [local go_sem] max2_int min2_int max_two min_two max_three min_three max_four min_four   -- for this text's walks alone
set_option linter.unusedVariables false
set_option linter.unusedSimpArgs false

/-! ### laws_FnExactCyclotomicTable: function 7 -/
-- HAND
theorem nMark_both {w0 w : World} {u v : Value} {l s l2 : List (List Int)} {a n : Int} (hb : laws_markSS_B.f l a = some n) (ha : laws_markSS_A.f l a = some l2) (hB : Below w0.heap.size w0 w)
    (hN : ∃ N, w0.heap.size ≤ N ∧ Kd.S (Kd.slice 2 (Kd.int .i64)) 25 w w0.heap.size (fun k => k < N) v s ∧ Kd.S (Kd.slice 2 (Kd.int .i64)) 25 w N (fun _ => True) u l) :
    Calls Try.prog 28 #[u, .int .i64 a] w fun e w' => e = .returned (.int .i64 n) ∧ Kd.S (Kd.slice 2 (Kd.int .i64)) 25 w' w0.heap.size (fun k => some k ≠ u.ownBlock) v s ∧ Kd.S (Kd.slice 2 (Kd.int .i64)) 25 w' w0.heap.size (fun k => some k ≠ v.ownBlock) u l2 ∧ Below w0.heap.size w0 w' := by
  obtain ⟨N, h0, hs, hu⟩ := hN
  unfold laws_markSS_B.f at hb
  unfold laws_markSS_A.f at ha
  by_cases c : l.length ≤ 1000000 ∧ l.all (fun x => decide (x.length ≤ 1000000)) = true
  · rw [if_pos c] at hb ha
    obtain rfl := Option.some.inj hb
    obtain rfl := Option.some.inj ha
    have hu2 : Kd.S (Kd.slice 2 (Kd.int .i64)) 25 w w0.heap.size (fun k => N ≤ k) u l := Kd.S_lower (Kd.S_mono (Kd.S_bound hu) (fun k hk => hk.2.1)) h0
    refine (nMarkS_calls w0 w _ u l a hB hu2 c.1 (fun x hx => by simpa using List.all_eq_true.mp c.2 x hx)).mono ?_
    rintro e w' ⟨rfl, h1, h2, h3⟩
    refine ⟨rfl, Kd.S_mono (Kd.S_step hs (fun k hk hlt => h3.2 k hlt (fun h => by omega))) (fun k hk he => ?_), Kd.S_mono h1 (fun k hk he => ?_), h2⟩
    · have := Kd.S_base hu k he.symm
      omega
    · have := (Kd.S_R hs).1 k he.symm
      omega
  · rw [if_neg c] at hb
    cases hb
mutual
def laws_FnExactCyclotomicTable.j0 : Nat → Int → Int → List (List Int) → Int → List (List Int) → Bool → Option (Bool)
  | 0, _, _, _, _, _, _ => none
  | k + 1, x0, x1, x5, x6, x7, x33 => if x33 = true then (some false) else ((laws_markSS_B.f x7 1).bind fun t210 => ((laws_markSS_A.f x7 1).bind fun t211 => ((laws_heldInt64SS.f k t211 1).bind fun t214 => (if t214 < 0 then (some false) else (if t214 = t210 then ((impl_CyclotomicTable.f k x0 x1).bind fun bt215 => ((laws_eqInt64SS.f k bt215.1 x5).bind fun t219 => (if t219 = true then (laws_FnExactCyclotomicTable.j1 k t211 t210 (bt215.2 != x6)) else (laws_FnExactCyclotomicTable.j1 k t211 t210 true)))) else (some false))))))
def laws_FnExactCyclotomicTable.j1 : Nat → List (List Int) → Int → Bool → Option (Bool)
  | 0, _, _, _ => none
  | k + 1, x7, x9, x59 => if x59 = true then (some false) else ((laws_heldInt64SS.f k x7 1).bind fun t220 => (if t220 < 0 then (some false) else (if t220 = x9 then (some true) else (some false))))
end
def laws_FnExactCyclotomicTable.f (k : Nat) (a0 : Int) (a1 : Int) : Option (Bool) := (spec_CyclotomicTable.f k a0 a1).bind fun bt201 => ((impl_CyclotomicTable.f k a0 a1).bind fun bt205 => ((laws_eqInt64SS.f k bt205.1 bt201.1).bind fun t209 => (if t209 = true then (laws_FnExactCyclotomicTable.j0 k a0 a1 bt201.1 bt201.2 bt205.1 (bt205.2 != bt201.2)) else (laws_FnExactCyclotomicTable.j0 k a0 a1 bt201.1 bt201.2 bt205.1 true))))
theorem laws_FnExactCyclotomicTable.mono_l : ∀ k, (∀ y0 y1 y2 y3 y4 y5, LeO (laws_FnExactCyclotomicTable.j0 k y0 y1 y2 y3 y4 y5) (laws_FnExactCyclotomicTable.j0 (k + 1) y0 y1 y2 y3 y4 y5)) ∧ (∀ y0 y1 y2, LeO (laws_FnExactCyclotomicTable.j1 k y0 y1 y2) (laws_FnExactCyclotomicTable.j1 (k + 1) y0 y1 y2))
  | 0 => ⟨fun _ _ _ _ _ _ r h => by simp [laws_FnExactCyclotomicTable.j0] at h, fun _ _ _ r h => by simp [laws_FnExactCyclotomicTable.j1] at h⟩
  | k + 1 => by
    obtain ⟨ih0, ih1⟩ := laws_FnExactCyclotomicTable.mono_l k
    refine ⟨?_, ?_⟩
    · intro y0 y1 y2 y3 y4 y5
      unfold laws_FnExactCyclotomicTable.j0
      repeat' first
      | (with_reducible exact ih0 _ _ _ _ _ _)
      | (with_reducible exact ih1 _ _ _)
      | (with_reducible exact impl_CyclotomicTable.mono _ _ _)
      | (with_reducible exact laws_eqInt64SS.mono _ _ _)
      | (with_reducible exact laws_heldInt64SS.mono _ _ _)
      | (with_reducible exact spec_CyclotomicTable.mono _ _ _)
      | (with_reducible exact LeO.refl _)
      | (with_reducible exact LeO.none _)
      | (with_reducible refine LeO.ite ?_ ?_)
      | (with_reducible refine LeO.bind ?_ (fun _ => ?_))
      | exact ih0 _ _ _ _ _ _
      | exact ih1 _ _ _
      | exact impl_CyclotomicTable.mono _ _ _
      | exact laws_eqInt64SS.mono _ _ _
      | exact laws_heldInt64SS.mono _ _ _
      | exact spec_CyclotomicTable.mono _ _ _
      | exact LeO.none _
      | refine LeO.ite ?_ ?_
      | refine LeO.bind ?_ (fun _ => ?_)
    · intro y0 y1 y2
      unfold laws_FnExactCyclotomicTable.j1
      repeat' first
      | (with_reducible exact ih0 _ _ _ _ _ _)
      | (with_reducible exact ih1 _ _ _)
      | (with_reducible exact impl_CyclotomicTable.mono _ _ _)
      | (with_reducible exact laws_eqInt64SS.mono _ _ _)
      | (with_reducible exact laws_heldInt64SS.mono _ _ _)
      | (with_reducible exact spec_CyclotomicTable.mono _ _ _)
      | (with_reducible exact LeO.refl _)
      | (with_reducible exact LeO.none _)
      | (with_reducible refine LeO.ite ?_ ?_)
      | (with_reducible refine LeO.bind ?_ (fun _ => ?_))
      | exact ih0 _ _ _ _ _ _
      | exact ih1 _ _ _
      | exact impl_CyclotomicTable.mono _ _ _
      | exact laws_eqInt64SS.mono _ _ _
      | exact laws_heldInt64SS.mono _ _ _
      | exact spec_CyclotomicTable.mono _ _ _
      | exact LeO.none _
      | refine LeO.ite ?_ ?_
      | refine LeO.bind ?_ (fun _ => ?_)
theorem laws_FnExactCyclotomicTable.mono : ∀ a0 a1 k, LeO (laws_FnExactCyclotomicTable.f k a0 a1) (laws_FnExactCyclotomicTable.f (k + 1) a0 a1) := by
  intro a0 a1 k
  obtain ⟨ih0, ih1⟩ := laws_FnExactCyclotomicTable.mono_l k
  unfold laws_FnExactCyclotomicTable.f
  repeat' first
      | (with_reducible exact ih0 _ _ _ _ _ _)
      | (with_reducible exact ih1 _ _ _)
      | (with_reducible exact impl_CyclotomicTable.mono _ _ _)
      | (with_reducible exact laws_eqInt64SS.mono _ _ _)
      | (with_reducible exact laws_heldInt64SS.mono _ _ _)
      | (with_reducible exact spec_CyclotomicTable.mono _ _ _)
      | (with_reducible exact LeO.refl _)
      | (with_reducible exact LeO.none _)
      | (with_reducible refine LeO.ite ?_ ?_)
      | (with_reducible refine LeO.bind ?_ (fun _ => ?_))
      | exact ih0 _ _ _ _ _ _
      | exact ih1 _ _ _
      | exact impl_CyclotomicTable.mono _ _ _
      | exact laws_eqInt64SS.mono _ _ _
      | exact laws_heldInt64SS.mono _ _ _
      | exact spec_CyclotomicTable.mono _ _ _
      | exact LeO.none _
      | refine LeO.ite ?_ ?_
      | refine LeO.bind ?_ (fun _ => ?_)
-- HAND
set_option maxHeartbeats 8000000 in
set_option maxRecDepth 100000 in
theorem laws_FnExactCyclotomicTable.calls (k : Nat) (a0 : Int) (a1 : Int) (r : Bool) (w : World) (h : laws_FnExactCyclotomicTable.f k a0 a1 = some r) :
    Calls Try.prog 7 #[.int .i64 a0, .int .i64 a1] w fun e w' => e = .returned (.bool r) ∧ Below w.heap.size w w' := by
  have HB := Aside0.mk (Below.refl w.heap.size w)
  have H : ((spec_CyclotomicTable.f k a0 a1).bind fun bt201 => ((impl_CyclotomicTable.f k a0 a1).bind fun bt205 => ((laws_eqInt64SS.f k bt205.1 bt201.1).bind fun t209 => (if t209 = true then (laws_FnExactCyclotomicTable.j0 k a0 a1 bt201.1 bt201.2 bt205.1 (bt205.2 != bt201.2)) else (laws_FnExactCyclotomicTable.j0 k a0 a1 bt201.1 bt201.2 bt205.1 true))))) = some r := h
  clear h
  replace H := Option.bind_eq_some_iff.mp H
  obtain ⟨⟨t201, t202⟩, A30, H⟩ := H
  replace H : ((impl_CyclotomicTable.f k a0 a1).bind fun bt205 => ((laws_eqInt64SS.f k bt205.1 t201).bind fun t209 => (if t209 = true then (laws_FnExactCyclotomicTable.j0 k a0 a1 t201 t202 bt205.1 (bt205.2 != t202)) else (laws_FnExactCyclotomicTable.j0 k a0 a1 t201 t202 bt205.1 true)))) = some r := H
  have A3 := Aside0.mk A30
  clear A30
  replace H := Option.bind_eq_some_iff.mp H
  obtain ⟨⟨t205, t206⟩, A40, H⟩ := H
  replace H : ((laws_eqInt64SS.f k t205 t201).bind fun t209 => (if t209 = true then (laws_FnExactCyclotomicTable.j0 k a0 a1 t201 t202 t205 (t206 != t202)) else (laws_FnExactCyclotomicTable.j0 k a0 a1 t201 t202 t205 true))) = some r := H
  have A4 := Aside0.mk A40
  clear A40
  have HC5 := Aside0.mk H
  clear H
  go_enter Try.func7, Try.ntmps7
  go_upto_region 3 with (first | ((with_reducible refine gate_callee (f := 25) rfl ?_); refine goesL_ (some 16) rfl rfl Try.func25 (by kernel_rfl) rfl #[.int .i64 a0, .int .i64 a1] rfl qB6 ?_; (with_reducible refine (spec_CyclotomicTable.calls k a0 a1 t201 t202 _ A3.out).mono ?_); rintro e w6 ⟨v203, rfl, ho0, hb⟩; refine ⟨_, rfl, ?_⟩; have n0_ := Aside0.mk (Kd.S_lower ho0 (below_size qB7)); have n1_ := Aside0.mk (below_step qB7 hb); clear HB; have HO204 := n0_; have HB := n1_; clear n0_ n1_; (try clear hb); (try clear hb2); (try clear hk); (try clear hi); (try clear ho0)) | ((with_reducible refine gate_callee (f := 26) rfl ?_); refine goesL_ (some 22) rfl rfl Try.func26 (by kernel_rfl) rfl #[.int .i64 a0, .int .i64 a1] rfl qB6 ?_; (with_reducible refine (impl_CyclotomicTable.calls k a0 a1 t205 t206 _ A4.out).mono ?_); rintro e w7 ⟨v207, rfl, ho0, hb⟩; refine ⟨_, rfl, ?_⟩; have HNN := Aside0.mk (show ∃ N_, w.heap.size ≤ N_ ∧ Kd.S (Kd.slice 2 (Kd.int .i64)) 25 _ w.heap.size (fun k_ => k_ < N_) v203 t201 ∧ Kd.S (Kd.slice 2 (Kd.int .i64)) 25 _ N_ (fun _ => True) v207 t205 from ⟨_, below_size qB7, Kd.S_mono (Kd.S_old qB13 hb) (fun _ hk => hk.2), ho0⟩); have n0_ := Aside0.mk (Kd.S_elder' qB13 (Kd.S_base ho0) hb); have n1_ := Aside0.mk (Kd.S_lower (Kd.S_new' ho0 (Kd.S_lt qB13)) (below_size qB7)); have n2_ := Aside0.mk (below_step qB7 hb); clear HO204; clear HB; have HO204 := n0_; have HO208 := n1_; have HB := n2_; clear n0_ n1_ n2_; (try clear hb); (try clear hb2); (try clear hk); (try clear hi); (try clear ho0)))
  (try simp only [Act.put, List.setIfInBounds_toArray, List.set_cons_zero, List.set_cons_succ])
  go_cut [33] (fun v33 wc => ∃ (kq : Nat) (x33_4 : Bool), v33 = .bool x33_4 ∧ Aside0 (laws_FnExactCyclotomicTable.j0 kq a0 a1 t201 t202 t205 x33_4 = some r) ∧ Aside0 (kq ≤ k) ∧ Aside0 (Kd.S (Kd.slice 2 (Kd.int .i64)) 25 wc w.heap.size (fun k_ => some k_ ≠ (v207 : Value).ownBlock) v203 t201) ∧ Aside0 (Kd.S (Kd.slice 2 (Kd.int .i64)) 25 wc w.heap.size (fun k_ => some k_ ≠ (v203 : Value).ownBlock) v207 t205) ∧ Aside0 (Below w.heap.size w wc) ∧ Aside0 (∃ N_, w.heap.size ≤ N_ ∧ Kd.S (Kd.slice 2 (Kd.int .i64)) 25 wc w.heap.size (fun k_ => k_ < N_) v203 t201 ∧ Kd.S (Kd.slice 2 (Kd.int .i64)) 25 wc N_ (fun _ => True) v207 t205))
  case first =>
    have H := HC5.out
    clear HC5
    replace H := Option.bind_eq_some_iff.mp H
    obtain ⟨t209, A80, H⟩ := H
    replace H : (if t209 = true then (laws_FnExactCyclotomicTable.j0 k a0 a1 t201 t202 t205 (t206 != t202)) else (laws_FnExactCyclotomicTable.j0 k a0 a1 t201 t202 t205 true)) = some r := H
    have A8 := Aside0.mk A80
    clear A80
    by_cases c9 : t209 = true
    · subst c9
      have H1 : (laws_FnExactCyclotomicTable.j0 k a0 a1 t201 t202 t205 (t206 != t202)) = some r := by rw [if_pos rfl] at H; exact H
      clear H
      have H := H1
      clear H1
      have H' := Aside0.mk H
      clear H
      obtain ⟨Ao10, co10, eo10⟩ := Kd.S_slice HO208.out
      subst eo10
      obtain ⟨Ao11, co11, eo11⟩ := Kd.S_slice HO204.out
      subst eo11
      go_wp2_with (first | ((with_reducible refine gate_callee (f := 27) rfl ?_); refine goesL_ (some 27) rfl rfl Try.func27 (by kernel_rfl) rfl #[.slice Ao10 t205.length co10, .slice Ao11 t201.length co11] rfl qB6 ?_; (with_reducible refine (laws_eqInt64SS.calls k _ _ t205 _ _ t201 true _ ?side1 ?side2 ?side3 ?side4 A8.out).mono ?_); (case side1 => repeat (first | exact (Kd.S_reads' HO208.out).2.2 | (with_reducible refine Kd.C_alloc ?_ _) | (with_reducible refine Kd.C_drewN ?_ _) | (with_reducible refine Kd.C_drew ?_))); (case side2 => exact (Kd.S_reads' HO208.out).2.1); (case side3 => repeat (first | exact (Kd.S_reads' HO204.out).2.2 | (with_reducible refine Kd.C_alloc ?_ _) | (with_reducible refine Kd.C_drewN ?_ _) | (with_reducible refine Kd.C_drew ?_))); (case side4 => exact (Kd.S_reads' HO204.out).2.1); rintro e w' ⟨rfl, ⟨nd, rfl⟩⟩; refine ⟨_, rfl, ?_⟩))
      go_meet
      case rel => exact ⟨_, ((t206 != t202)), qB22, H', ⟨by first | omega | exact Nat.le_refl _⟩, ⟨by (with_reducible repeat (first | apply Kd.S_alloc | apply Kd.S_drewN | apply Kd.S_drew)); exact Kd.S_mono HO204.out (fun _ hk => hk.2)⟩, ⟨by (with_reducible repeat (first | apply Kd.S_alloc | apply Kd.S_drewN | apply Kd.S_drew)); exact Kd.S_mono HO208.out (fun _ hk => hk.2)⟩, ⟨by repeat (first | (with_reducible first | exact HB.out | apply below_alloc | apply pw_below_drewN | apply below_drew1) | exact HB.out)⟩, ⟨by obtain ⟨N_, h0_, h1_, h2_⟩ := HNN.out; exact ⟨N_, h0_, by (with_reducible repeat (first | apply Kd.S_alloc | apply Kd.S_drewN | apply Kd.S_drew)); exact h1_, by (with_reducible repeat (first | apply Kd.S_alloc | apply Kd.S_drewN | apply Kd.S_drew)); exact h2_⟩⟩⟩
    · replace c9 := Bool.eq_false_iff.mpr c9
      subst c9
      have H1 : (laws_FnExactCyclotomicTable.j0 k a0 a1 t201 t202 t205 true) = some r := by rw [if_neg (show ¬ (false = true) by decide)] at H; exact H
      clear H
      have H := H1
      clear H1
      have H' := Aside0.mk H
      clear H
      obtain ⟨Ao12, co12, eo12⟩ := Kd.S_slice HO208.out
      subst eo12
      obtain ⟨Ao13, co13, eo13⟩ := Kd.S_slice HO204.out
      subst eo13
      go_wp2_with (first | ((with_reducible refine gate_callee (f := 27) rfl ?_); refine goesL_ (some 27) rfl rfl Try.func27 (by kernel_rfl) rfl #[.slice Ao12 t205.length co12, .slice Ao13 t201.length co13] rfl qB6 ?_; (with_reducible refine (laws_eqInt64SS.calls k _ _ t205 _ _ t201 false _ ?side1 ?side2 ?side3 ?side4 A8.out).mono ?_); (case side1 => repeat (first | exact (Kd.S_reads' HO208.out).2.2 | (with_reducible refine Kd.C_alloc ?_ _) | (with_reducible refine Kd.C_drewN ?_ _) | (with_reducible refine Kd.C_drew ?_))); (case side2 => exact (Kd.S_reads' HO208.out).2.1); (case side3 => repeat (first | exact (Kd.S_reads' HO204.out).2.2 | (with_reducible refine Kd.C_alloc ?_ _) | (with_reducible refine Kd.C_drewN ?_ _) | (with_reducible refine Kd.C_drew ?_))); (case side4 => exact (Kd.S_reads' HO204.out).2.1); rintro e w' ⟨rfl, ⟨nd, rfl⟩⟩; refine ⟨_, rfl, ?_⟩))
      go_meet
      case rel => exact ⟨_, (true), qB22, H', ⟨by first | omega | exact Nat.le_refl _⟩, ⟨by (with_reducible repeat (first | apply Kd.S_alloc | apply Kd.S_drewN | apply Kd.S_drew)); exact Kd.S_mono HO204.out (fun _ hk => hk.2)⟩, ⟨by (with_reducible repeat (first | apply Kd.S_alloc | apply Kd.S_drewN | apply Kd.S_drew)); exact Kd.S_mono HO208.out (fun _ hk => hk.2)⟩, ⟨by repeat (first | (with_reducible first | exact HB.out | apply below_alloc | apply pw_below_drewN | apply below_drew1) | exact HB.out)⟩, ⟨by obtain ⟨N_, h0_, h1_, h2_⟩ := HNN.out; exact ⟨N_, h0_, by (with_reducible repeat (first | apply Kd.S_alloc | apply Kd.S_drewN | apply Kd.S_drew)); exact h1_, by (with_reducible repeat (first | apply Kd.S_alloc | apply Kd.S_drewN | apply Kd.S_drew)); exact h2_⟩⟩⟩
  case rest =>
    clear HC5
    try clear c2
    try clear p2
    try clear c7
    try clear c9
    obtain ⟨kq, x33_4, rfl, HA, HJ4, HO_5, HO_7, HB, HNN⟩ := hcut
    cases kq with
    | zero => exact absurd HA.out (by simp [laws_FnExactCyclotomicTable.j0])
    | succ kj4 =>
      have H := HA.out
      clear HA
      simp only [laws_FnExactCyclotomicTable.j0] at H
      by_cases c14 : x33_4 = true
      · subst c14
        have H1 : (some false) = some r := by rw [if_pos rfl] at H; exact H
        clear H
        have H := H1
        clear H1
        obtain rfl := Option.some.inj H
        go_wp2
        go_ret
        exact ⟨by first | rfl | (simp [errW_none, errW_some] <;> rfl) | (simp [*, errW_none, errW_some] <;> rfl), by repeat (first | (with_reducible first | exact HB.out | apply below_alloc | apply pw_below_drewN | apply below_drew1) | exact HB.out)⟩
      · replace c14 := Bool.eq_false_iff.mpr c14
        subst c14
        have H1 : ((laws_markSS_B.f t205 1).bind fun t210 => ((laws_markSS_A.f t205 1).bind fun t211 => ((laws_heldInt64SS.f kj4 t211 1).bind fun t214 => (if t214 < 0 then (some false) else (if t214 = t210 then ((impl_CyclotomicTable.f kj4 a0 a1).bind fun bt215 => ((laws_eqInt64SS.f kj4 bt215.1 t201).bind fun t219 => (if t219 = true then (laws_FnExactCyclotomicTable.j1 kj4 t211 t210 (bt215.2 != t202)) else (laws_FnExactCyclotomicTable.j1 kj4 t211 t210 true)))) else (some false)))))) = some r := by rw [if_neg (show ¬ (false = true) by decide)] at H; exact H
        clear H
        have H := H1
        clear H1
        replace H := Option.bind_eq_some_iff.mp H
        obtain ⟨t210, A150, H⟩ := H
        replace H : ((laws_markSS_A.f t205 1).bind fun t211 => ((laws_heldInt64SS.f kj4 t211 1).bind fun t214 => (if t214 < 0 then (some false) else (if t214 = t210 then ((impl_CyclotomicTable.f kj4 a0 a1).bind fun bt215 => ((laws_eqInt64SS.f kj4 bt215.1 t201).bind fun t219 => (if t219 = true then (laws_FnExactCyclotomicTable.j1 kj4 t211 t210 (bt215.2 != t202)) else (laws_FnExactCyclotomicTable.j1 kj4 t211 t210 true)))) else (some false))))) = some r := H
        have A15 := Aside0.mk A150
        clear A150
        replace H := Option.bind_eq_some_iff.mp H
        obtain ⟨t211, A160, H⟩ := H
        replace H : ((laws_heldInt64SS.f kj4 t211 1).bind fun t214 => (if t214 < 0 then (some false) else (if t214 = t210 then ((impl_CyclotomicTable.f kj4 a0 a1).bind fun bt215 => ((laws_eqInt64SS.f kj4 bt215.1 t201).bind fun t219 => (if t219 = true then (laws_FnExactCyclotomicTable.j1 kj4 t211 t210 (bt215.2 != t202)) else (laws_FnExactCyclotomicTable.j1 kj4 t211 t210 true)))) else (some false)))) = some r := H
        have A16 := Aside0.mk A160
        clear A160
        replace H := Option.bind_eq_some_iff.mp H
        obtain ⟨t214, A170, H⟩ := H
        replace H : (if t214 < 0 then (some false) else (if t214 = t210 then ((impl_CyclotomicTable.f kj4 a0 a1).bind fun bt215 => ((laws_eqInt64SS.f kj4 bt215.1 t201).bind fun t219 => (if t219 = true then (laws_FnExactCyclotomicTable.j1 kj4 t211 t210 (bt215.2 != t202)) else (laws_FnExactCyclotomicTable.j1 kj4 t211 t210 true)))) else (some false))) = some r := H
        have A17 := Aside0.mk A170
        clear A170
        by_cases c18 : t214 < 0
        · rw [if_pos c18] at H
          have c18b0 : decide (t214 < 0) = true := decide_eq_true c18
          clear c18
          obtain rfl := Option.some.inj H
          obtain ⟨Ao19, co19, eo19⟩ := Kd.S_slice HO_7.out
          subst eo19
          go_wp2_with (first | ((with_reducible refine gate_callee (f := 28) rfl ?_); refine goesL_ (some 36) rfl rfl Try.func28 (by kernel_rfl) rfl #[.slice Ao19 t205.length co19, .int .i64 1] rfl qB6 ?_; refine (nMark_both A15.out A16.out qB7 qB1).mono ?_; rintro e w20 ⟨rfl, h1_, h2_, h3_⟩; refine ⟨_, rfl, ?_⟩; obtain ⟨v212, hv_⟩ : ∃ v_ : Value, v_ = .slice Ao19 t205.length co19 := ⟨_, rfl⟩; (try rw [← hv_]); have n0_ := Aside0.mk (show Kd.S (Kd.slice 2 (Kd.int .i64)) 25 w20 w.heap.size (fun k_ => some k_ ≠ (.slice Ao19 t205.length co19 : Value).ownBlock ∧ some k_ ≠ (v212 : Value).ownBlock) _ t201 from Kd.S_mono h1_ (fun k_ hk_ => ⟨hk_, by rw [hv_]; exact hk_⟩)); have n2_ := Aside0.mk (show Kd.S (Kd.slice 2 (Kd.int .i64)) 25 w20 w.heap.size (fun k_ => (True ∧ some k_ ≠ (_ : Value).ownBlock) ∧ True) v212 t211 from Kd.S_mono (by rw [hv_]; exact h2_) (fun k_ hk_ => ⟨⟨trivial, hk_⟩, trivial⟩)); have n1_ := Aside0.mk (show Kd.S (Kd.slice 2 (Kd.int .i64)) 25 w20 w.heap.size (fun k_ => (some k_ ≠ (_ : Value).ownBlock) ∧ True) (.slice Ao19 t205.length co19) t211 from Kd.S_mono h2_ (fun k_ hk_ => ⟨hk_, trivial⟩)); have n3_ := Aside0.mk h3_; clear HO_5 HO_7 HB; have HO_5 := n0_; have HO_7 := n1_; have HO213 := n2_; have HB := n3_; clear n0_ n1_ n2_ n3_ h1_ h2_ h3_ hv_; obtain ⟨Ao21, co21, eo21⟩ := Kd.S_slice HO213.out; subst eo21) | ((with_reducible refine gate_callee (f := 29) rfl ?_); refine goesL_ (some 39) rfl rfl Try.func29 (by kernel_rfl) rfl #[.slice Ao21 t211.length co21, .int .i64 1] rfl qB6 ?_; (with_reducible refine (laws_heldInt64SS.calls kj4 _ _ t211 1 t214 _ ?side1 ?side2 A17.out).mono ?_); (case side1 => repeat (first | exact (Kd.S_reads' HO213.out).2.2 | (with_reducible refine Kd.C_alloc ?_ _) | (with_reducible refine Kd.C_drewN ?_ _) | (with_reducible refine Kd.C_drew ?_))); (case side2 => exact (Kd.S_reads' HO213.out).2.1); rintro e w' ⟨rfl, ⟨nd, rfl⟩⟩; refine ⟨_, rfl, ?_⟩))
          go_ret
          exact ⟨by first | rfl | (simp [errW_none, errW_some] <;> rfl) | (simp [*, errW_none, errW_some] <;> rfl), by repeat (first | (with_reducible first | exact HB.out | apply below_alloc | apply pw_below_drewN | apply below_drew1) | exact HB.out)⟩
        · rw [if_neg c18] at H
          have c18b0 : decide (t214 < 0) = false := decide_eq_false c18
          clear c18
          by_cases c22 : t214 = t210
          · rw [if_pos c22] at H
            have c22b0 : (t214 == t210) = true := beq_iff_eq.mpr c22
            have c22b1 : (t214 != t210) = false := bne_eq_false_iff_eq.mpr c22
            clear c22
            replace H := Option.bind_eq_some_iff.mp H
            obtain ⟨⟨t215, t216⟩, A230, H⟩ := H
            replace H : ((laws_eqInt64SS.f kj4 t215 t201).bind fun t219 => (if t219 = true then (laws_FnExactCyclotomicTable.j1 kj4 t211 t210 (t216 != t202)) else (laws_FnExactCyclotomicTable.j1 kj4 t211 t210 true))) = some r := H
            have A23 := Aside0.mk A230
            clear A230
            have HC24 := Aside0.mk H
            clear H
            obtain ⟨Ao25, co25, eo25⟩ := Kd.S_slice HO_7.out
            subst eo25
            go_upto_region 14 with (first | ((with_reducible refine gate_callee (f := 28) rfl ?_); refine goesL_ (some 36) rfl rfl Try.func28 (by kernel_rfl) rfl #[.slice Ao25 t205.length co25, .int .i64 1] rfl qB6 ?_; refine (nMark_both A15.out A16.out qB7 qB1).mono ?_; rintro e w26 ⟨rfl, h1_, h2_, h3_⟩; refine ⟨_, rfl, ?_⟩; obtain ⟨v212, hv_⟩ : ∃ v_ : Value, v_ = .slice Ao25 t205.length co25 := ⟨_, rfl⟩; (try rw [← hv_]); have n0_ := Aside0.mk (show Kd.S (Kd.slice 2 (Kd.int .i64)) 25 w26 w.heap.size (fun k_ => some k_ ≠ (.slice Ao25 t205.length co25 : Value).ownBlock ∧ some k_ ≠ (v212 : Value).ownBlock) _ t201 from Kd.S_mono h1_ (fun k_ hk_ => ⟨hk_, by rw [hv_]; exact hk_⟩)); have n2_ := Aside0.mk (show Kd.S (Kd.slice 2 (Kd.int .i64)) 25 w26 w.heap.size (fun k_ => (True ∧ some k_ ≠ (_ : Value).ownBlock) ∧ True) v212 t211 from Kd.S_mono (by rw [hv_]; exact h2_) (fun k_ hk_ => ⟨⟨trivial, hk_⟩, trivial⟩)); have n1_ := Aside0.mk (show Kd.S (Kd.slice 2 (Kd.int .i64)) 25 w26 w.heap.size (fun k_ => (some k_ ≠ (_ : Value).ownBlock) ∧ True) (.slice Ao25 t205.length co25) t211 from Kd.S_mono h2_ (fun k_ hk_ => ⟨hk_, trivial⟩)); have n3_ := Aside0.mk h3_; clear HO_5 HO_7 HB; have HO_5 := n0_; have HO_7 := n1_; have HO213 := n2_; have HB := n3_; clear n0_ n1_ n2_ n3_ h1_ h2_ h3_ hv_; obtain ⟨Ao27, co27, eo27⟩ := Kd.S_slice HO213.out; subst eo27) | ((with_reducible refine gate_callee (f := 29) rfl ?_); refine goesL_ (some 39) rfl rfl Try.func29 (by kernel_rfl) rfl #[.slice Ao27 t211.length co27, .int .i64 1] rfl qB6 ?_; (with_reducible refine (laws_heldInt64SS.calls kj4 _ _ t211 1 t214 _ ?side1 ?side2 A17.out).mono ?_); (case side1 => repeat (first | exact (Kd.S_reads' HO213.out).2.2 | (with_reducible refine Kd.C_alloc ?_ _) | (with_reducible refine Kd.C_drewN ?_ _) | (with_reducible refine Kd.C_drew ?_))); (case side2 => exact (Kd.S_reads' HO213.out).2.1); rintro e w' ⟨rfl, ⟨nd, rfl⟩⟩; refine ⟨_, rfl, ?_⟩) | ((with_reducible refine gate_callee (f := 26) rfl ?_); refine goesL_ (some 48) rfl rfl Try.func26 (by kernel_rfl) rfl #[.int .i64 a0, .int .i64 a1] rfl qB6 ?_; (with_reducible refine (impl_CyclotomicTable.calls kj4 a0 a1 t215 t216 _ A23.out).mono ?_); rintro e w28 ⟨v217, rfl, ho0, hb⟩; refine ⟨_, rfl, ?_⟩; have n0_ := Aside0.mk (Kd.S_elder' qB17 (Kd.S_base ho0) hb); have n1_ := Aside0.mk (Kd.S_elder' qB18 (Kd.S_base ho0) hb); have n2_ := Aside0.mk (Kd.S_elder' qB14 (Kd.S_base ho0) hb); have n3_ := Aside0.mk (Kd.S_lower (Kd.S_new' (Kd.S_new' (Kd.S_new' ho0 (Kd.S_lt qB17)) (Kd.S_lt qB18)) (Kd.S_lt qB14)) (below_size qB7)); have n4_ := Aside0.mk (below_step qB7 hb); clear HO_5; clear HO_7; clear HO213; clear HB; have HO_5 := n0_; have HO_7 := n1_; have HO213 := n2_; have HO218 := n3_; have HB := n4_; clear n0_ n1_ n2_ n3_ n4_; (try clear hb); (try clear hb2); (try clear hk); (try clear hi); (try clear ho0)))
            (try simp only [Act.put, List.setIfInBounds_toArray, List.set_cons_zero, List.set_cons_succ])
            go_cut [59] (fun v59 wc => ∃ (kq : Nat) (x59_23 : Bool), v59 = .bool x59_23 ∧ Aside0 (laws_FnExactCyclotomicTable.j1 kq t211 t210 x59_23 = some r) ∧ Aside0 (kq ≤ kj4) ∧ Aside0 (Kd.S (Kd.slice 2 (Kd.int .i64)) 25 wc w.heap.size (fun _ => True) (.slice Ao27 t211.length co27) t211) ∧ Aside0 (Below w.heap.size w wc))
            case first =>
              have H := HC24.out
              clear HC24
              replace H := Option.bind_eq_some_iff.mp H
              obtain ⟨t219, A290, H⟩ := H
              replace H : (if t219 = true then (laws_FnExactCyclotomicTable.j1 kj4 t211 t210 (t216 != t202)) else (laws_FnExactCyclotomicTable.j1 kj4 t211 t210 true)) = some r := H
              have A29 := Aside0.mk A290
              clear A290
              by_cases c30 : t219 = true
              · subst c30
                have H1 : (laws_FnExactCyclotomicTable.j1 kj4 t211 t210 (t216 != t202)) = some r := by rw [if_pos rfl] at H; exact H
                clear H
                have H := H1
                clear H1
                have H' := Aside0.mk H
                clear H
                obtain ⟨Ao31, co31, eo31⟩ := Kd.S_slice HO218.out
                subst eo31
                obtain ⟨Ao32, co32, eo32⟩ := Kd.S_slice HO_5.out
                subst eo32
                go_wp2_with (first | ((with_reducible refine gate_callee (f := 27) rfl ?_); refine goesL_ (some 53) rfl rfl Try.func27 (by kernel_rfl) rfl #[.slice Ao31 t215.length co31, .slice Ao32 t201.length co32] rfl qB6 ?_; (with_reducible refine (laws_eqInt64SS.calls kj4 _ _ t215 _ _ t201 true _ ?side1 ?side2 ?side3 ?side4 A29.out).mono ?_); (case side1 => repeat (first | exact (Kd.S_reads' HO218.out).2.2 | (with_reducible refine Kd.C_alloc ?_ _) | (with_reducible refine Kd.C_drewN ?_ _) | (with_reducible refine Kd.C_drew ?_))); (case side2 => exact (Kd.S_reads' HO218.out).2.1); (case side3 => repeat (first | exact (Kd.S_reads' HO_5.out).2.2 | (with_reducible refine Kd.C_alloc ?_ _) | (with_reducible refine Kd.C_drewN ?_ _) | (with_reducible refine Kd.C_drew ?_))); (case side4 => exact (Kd.S_reads' HO_5.out).2.1); rintro e w' ⟨rfl, ⟨nd, rfl⟩⟩; refine ⟨_, rfl, ?_⟩))
                go_meet
                case rel => exact ⟨_, ((t216 != t202)), qB22, H', ⟨by have := HJ4.out; first | omega | exact Nat.le_refl _⟩, ⟨by (with_reducible repeat (first | apply Kd.S_alloc | apply Kd.S_drewN | apply Kd.S_drew)); exact Kd.S_mono HO213.out (fun _ hk => trivial)⟩, ⟨by repeat (first | (with_reducible first | exact HB.out | apply below_alloc | apply pw_below_drewN | apply below_drew1) | exact HB.out)⟩⟩
              · replace c30 := Bool.eq_false_iff.mpr c30
                subst c30
                have H1 : (laws_FnExactCyclotomicTable.j1 kj4 t211 t210 true) = some r := by rw [if_neg (show ¬ (false = true) by decide)] at H; exact H
                clear H
                have H := H1
                clear H1
                have H' := Aside0.mk H
                clear H
                obtain ⟨Ao33, co33, eo33⟩ := Kd.S_slice HO218.out
                subst eo33
                obtain ⟨Ao34, co34, eo34⟩ := Kd.S_slice HO_5.out
                subst eo34
                go_wp2_with (first | ((with_reducible refine gate_callee (f := 27) rfl ?_); refine goesL_ (some 53) rfl rfl Try.func27 (by kernel_rfl) rfl #[.slice Ao33 t215.length co33, .slice Ao34 t201.length co34] rfl qB6 ?_; (with_reducible refine (laws_eqInt64SS.calls kj4 _ _ t215 _ _ t201 false _ ?side1 ?side2 ?side3 ?side4 A29.out).mono ?_); (case side1 => repeat (first | exact (Kd.S_reads' HO218.out).2.2 | (with_reducible refine Kd.C_alloc ?_ _) | (with_reducible refine Kd.C_drewN ?_ _) | (with_reducible refine Kd.C_drew ?_))); (case side2 => exact (Kd.S_reads' HO218.out).2.1); (case side3 => repeat (first | exact (Kd.S_reads' HO_5.out).2.2 | (with_reducible refine Kd.C_alloc ?_ _) | (with_reducible refine Kd.C_drewN ?_ _) | (with_reducible refine Kd.C_drew ?_))); (case side4 => exact (Kd.S_reads' HO_5.out).2.1); rintro e w' ⟨rfl, ⟨nd, rfl⟩⟩; refine ⟨_, rfl, ?_⟩))
                go_meet
                case rel => exact ⟨_, (true), qB22, H', ⟨by have := HJ4.out; first | omega | exact Nat.le_refl _⟩, ⟨by (with_reducible repeat (first | apply Kd.S_alloc | apply Kd.S_drewN | apply Kd.S_drew)); exact Kd.S_mono HO213.out (fun _ hk => trivial)⟩, ⟨by repeat (first | (with_reducible first | exact HB.out | apply below_alloc | apply pw_below_drewN | apply below_drew1) | exact HB.out)⟩⟩
            case rest =>
              clear HC24
              try clear c1
              try clear c2
              try clear p2
              try clear c3
              try clear c7
              try clear c9
              try clear c12
              try clear c14
              try clear c18
              try clear c18b0
              try clear c22
              try clear c22b0
              try clear c22b1
              try clear c25
              try clear c26
              try clear c27
              try clear c29
              try clear c30
              try clear p2
              obtain ⟨kq, x59_23, rfl, HA, HJ23, HO_7, HB⟩ := hcut
              cases kq with
              | zero => exact absurd HA.out (by simp [laws_FnExactCyclotomicTable.j1])
              | succ kj23 =>
                have H := HA.out
                clear HA
                simp only [laws_FnExactCyclotomicTable.j1] at H
                by_cases c35 : x59_23 = true
                · subst c35
                  have H1 : (some false) = some r := by rw [if_pos rfl] at H; exact H
                  clear H
                  have H := H1
                  clear H1
                  obtain rfl := Option.some.inj H
                  go_wp2
                  go_ret
                  exact ⟨by first | rfl | (simp [errW_none, errW_some] <;> rfl) | (simp [*, errW_none, errW_some] <;> rfl), by repeat (first | (with_reducible first | exact HB.out | apply below_alloc | apply pw_below_drewN | apply below_drew1) | exact HB.out)⟩
                · replace c35 := Bool.eq_false_iff.mpr c35
                  subst c35
                  have H1 : ((laws_heldInt64SS.f kj23 t211 1).bind fun t220 => (if t220 < 0 then (some false) else (if t220 = t210 then (some true) else (some false)))) = some r := by rw [if_neg (show ¬ (false = true) by decide)] at H; exact H
                  clear H
                  have H := H1
                  clear H1
                  replace H := Option.bind_eq_some_iff.mp H
                  obtain ⟨t220, A360, H⟩ := H
                  replace H : (if t220 < 0 then (some false) else (if t220 = t210 then (some true) else (some false))) = some r := H
                  have A36 := Aside0.mk A360
                  clear A360
                  by_cases c37 : t220 < 0
                  · rw [if_pos c37] at H
                    have c37b0 : decide (t220 < 0) = true := decide_eq_true c37
                    clear c37
                    obtain rfl := Option.some.inj H
                    go_wp2_with (first | ((with_reducible refine gate_callee (f := 29) rfl ?_); refine goesL_ (some 62) rfl rfl Try.func29 (by kernel_rfl) rfl #[.slice Ao27 t211.length co27, .int .i64 1] rfl qB6 ?_; (with_reducible refine (laws_heldInt64SS.calls kj23 _ _ t211 1 t220 _ ?side1 ?side2 A36.out).mono ?_); (case side1 => repeat (first | exact (Kd.S_reads' HO_7.out).2.2 | (with_reducible refine Kd.C_alloc ?_ _) | (with_reducible refine Kd.C_drewN ?_ _) | (with_reducible refine Kd.C_drew ?_))); (case side2 => exact (Kd.S_reads' HO_7.out).2.1); rintro e w' ⟨rfl, ⟨nd, rfl⟩⟩; refine ⟨_, rfl, ?_⟩))
                    go_ret
                    exact ⟨by first | rfl | (simp [errW_none, errW_some] <;> rfl) | (simp [*, errW_none, errW_some] <;> rfl), by repeat (first | (with_reducible first | exact HB.out | apply below_alloc | apply pw_below_drewN | apply below_drew1) | exact HB.out)⟩
                  · rw [if_neg c37] at H
                    have c37b0 : decide (t220 < 0) = false := decide_eq_false c37
                    clear c37
                    by_cases c38 : t220 = t210
                    · rw [if_pos c38] at H
                      have c38b0 : (t220 == t210) = true := beq_iff_eq.mpr c38
                      have c38b1 : (t220 != t210) = false := bne_eq_false_iff_eq.mpr c38
                      clear c38
                      obtain rfl := Option.some.inj H
                      go_wp2_with (first | ((with_reducible refine gate_callee (f := 29) rfl ?_); refine goesL_ (some 62) rfl rfl Try.func29 (by kernel_rfl) rfl #[.slice Ao27 t211.length co27, .int .i64 1] rfl qB6 ?_; (with_reducible refine (laws_heldInt64SS.calls kj23 _ _ t211 1 t220 _ ?side1 ?side2 A36.out).mono ?_); (case side1 => repeat (first | exact (Kd.S_reads' HO_7.out).2.2 | (with_reducible refine Kd.C_alloc ?_ _) | (with_reducible refine Kd.C_drewN ?_ _) | (with_reducible refine Kd.C_drew ?_))); (case side2 => exact (Kd.S_reads' HO_7.out).2.1); rintro e w' ⟨rfl, ⟨nd, rfl⟩⟩; refine ⟨_, rfl, ?_⟩))
                      go_ret
                      exact ⟨by first | rfl | (simp [errW_none, errW_some] <;> rfl) | (simp [*, errW_none, errW_some] <;> rfl), by repeat (first | (with_reducible first | exact HB.out | apply below_alloc | apply pw_below_drewN | apply below_drew1) | exact HB.out)⟩
                    · rw [if_neg c38] at H
                      have c38b0 : (t220 == t210) = false := beq_eq_false_iff_ne.mpr c38
                      have c38b1 : (t220 != t210) = true := bne_iff_ne.mpr c38
                      obtain rfl := Option.some.inj H
                      go_wp2_with (first | ((with_reducible refine gate_callee (f := 29) rfl ?_); refine goesL_ (some 62) rfl rfl Try.func29 (by kernel_rfl) rfl #[.slice Ao27 t211.length co27, .int .i64 1] rfl qB6 ?_; (with_reducible refine (laws_heldInt64SS.calls kj23 _ _ t211 1 t220 _ ?side1 ?side2 A36.out).mono ?_); (case side1 => repeat (first | exact (Kd.S_reads' HO_7.out).2.2 | (with_reducible refine Kd.C_alloc ?_ _) | (with_reducible refine Kd.C_drewN ?_ _) | (with_reducible refine Kd.C_drew ?_))); (case side2 => exact (Kd.S_reads' HO_7.out).2.1); rintro e w' ⟨rfl, ⟨nd, rfl⟩⟩; refine ⟨_, rfl, ?_⟩))
                      go_ret
                      exact ⟨by first | rfl | (simp [errW_none, errW_some] <;> rfl) | (simp [*, errW_none, errW_some] <;> rfl), by repeat (first | (with_reducible first | exact HB.out | apply below_alloc | apply pw_below_drewN | apply below_drew1) | exact HB.out)⟩
          · rw [if_neg c22] at H
            have c22b0 : (t214 == t210) = false := beq_eq_false_iff_ne.mpr c22
            have c22b1 : (t214 != t210) = true := bne_iff_ne.mpr c22
            obtain rfl := Option.some.inj H
            obtain ⟨Ao39, co39, eo39⟩ := Kd.S_slice HO_7.out
            subst eo39
            go_wp2_with (first | ((with_reducible refine gate_callee (f := 28) rfl ?_); refine goesL_ (some 36) rfl rfl Try.func28 (by kernel_rfl) rfl #[.slice Ao39 t205.length co39, .int .i64 1] rfl qB6 ?_; refine (nMark_both A15.out A16.out qB7 qB1).mono ?_; rintro e w40 ⟨rfl, h1_, h2_, h3_⟩; refine ⟨_, rfl, ?_⟩; obtain ⟨v212, hv_⟩ : ∃ v_ : Value, v_ = .slice Ao39 t205.length co39 := ⟨_, rfl⟩; (try rw [← hv_]); have n0_ := Aside0.mk (show Kd.S (Kd.slice 2 (Kd.int .i64)) 25 w40 w.heap.size (fun k_ => some k_ ≠ (.slice Ao39 t205.length co39 : Value).ownBlock ∧ some k_ ≠ (v212 : Value).ownBlock) _ t201 from Kd.S_mono h1_ (fun k_ hk_ => ⟨hk_, by rw [hv_]; exact hk_⟩)); have n2_ := Aside0.mk (show Kd.S (Kd.slice 2 (Kd.int .i64)) 25 w40 w.heap.size (fun k_ => (True ∧ some k_ ≠ (_ : Value).ownBlock) ∧ True) v212 t211 from Kd.S_mono (by rw [hv_]; exact h2_) (fun k_ hk_ => ⟨⟨trivial, hk_⟩, trivial⟩)); have n1_ := Aside0.mk (show Kd.S (Kd.slice 2 (Kd.int .i64)) 25 w40 w.heap.size (fun k_ => (some k_ ≠ (_ : Value).ownBlock) ∧ True) (.slice Ao39 t205.length co39) t211 from Kd.S_mono h2_ (fun k_ hk_ => ⟨hk_, trivial⟩)); have n3_ := Aside0.mk h3_; clear HO_5 HO_7 HB; have HO_5 := n0_; have HO_7 := n1_; have HO213 := n2_; have HB := n3_; clear n0_ n1_ n2_ n3_ h1_ h2_ h3_ hv_; obtain ⟨Ao41, co41, eo41⟩ := Kd.S_slice HO213.out; subst eo41) | ((with_reducible refine gate_callee (f := 29) rfl ?_); refine goesL_ (some 39) rfl rfl Try.func29 (by kernel_rfl) rfl #[.slice Ao41 t211.length co41, .int .i64 1] rfl qB6 ?_; (with_reducible refine (laws_heldInt64SS.calls kj4 _ _ t211 1 t214 _ ?side1 ?side2 A17.out).mono ?_); (case side1 => repeat (first | exact (Kd.S_reads' HO213.out).2.2 | (with_reducible refine Kd.C_alloc ?_ _) | (with_reducible refine Kd.C_drewN ?_ _) | (with_reducible refine Kd.C_drew ?_))); (case side2 => exact (Kd.S_reads' HO213.out).2.1); rintro e w' ⟨rfl, ⟨nd, rfl⟩⟩; refine ⟨_, rfl, ?_⟩))
            go_ret
            exact ⟨by first | rfl | (simp [errW_none, errW_some] <;> rfl) | (simp [*, errW_none, errW_some] <;> rfl), by repeat (first | (with_reducible first | exact HB.out | apply below_alloc | apply pw_below_drewN | apply below_drew1) | exact HB.out)⟩

/-- THE ONE PURE STATEMENT of laws_FnExactCyclotomicTable: yours. -/
def laws_FnExactCyclotomicTable.Pure : Prop := ∀ (a0 : Int) (a1 : Int), (Lit.int .i64 a0).wf = true → (Lit.int .i64 a1).wf = true → ∃ k, laws_FnExactCyclotomicTable.f k a0 a1 = some true
theorem laws_FnExactCyclotomicTable.walk (P : laws_FnExactCyclotomicTable.Pure) (a0 : Int) (a1 : Int) (w : World) (w0 : (Lit.int .i64 a0).wf = true) (w1 : (Lit.int .i64 a1).wf = true) :
    Calls Try.prog 7 #[.int .i64 a0, .int .i64 a1] w fun e w' => e = .returned (.bool true) ∧ Below w.heap.size w w' := by
  obtain ⟨k, h⟩ := P a0 a1 w0 w1
  refine (laws_FnExactCyclotomicTable.calls k a0 a1 true w h).mono ?_
  rintro e w' ⟨rfl, hd⟩
  exact ⟨rfl, hd⟩

end Go.Proofs.Ythdpdiahkphklaa.PFnExactCyclotomicTable
