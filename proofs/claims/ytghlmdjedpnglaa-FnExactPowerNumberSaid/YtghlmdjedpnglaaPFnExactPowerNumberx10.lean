/- The functions that the law reaches, as plain functions, each with the proof that the program comes to it; no condition. Written by a program of this session (wip/mp.py) over the printing of the kit; what is marked HAND is told by hand. -/
import Derived.Test.YtghlmdjedpnglaaPFnExactPowerNumberx0
import Derived.Test.YtghlmdjedpnglaaPFnExactPowerNumberx3
namespace Go.Proofs.Ytghlmdjedpnglaa.PFnExactPowerNumber
open Go.RowKit Go.Proofs.YtghlmdjedpnglaaW.PrintWords Go.Proofs.YtghlmdjedpnglaaW.PrintLast Go.Proofs.YtghlmdjedpnglaaW.PrintMore
attribute [local go_sem] max2_int min2_int max_two min_two max_three min_three max_four min_four   -- for this text's walks alone
set_option linter.unusedVariables false
set_option linter.unusedSimpArgs false

-- NOT PRINTED: function 107 (slices_partitionOrdered_int64)

-- NOT PRINTED: function 86 (slices_pdqsortOrdered_int64)

-- NOT PRINTED: function 64 (slices_Sort_int64_int64)

/-! ### slices_Compact_int64_int64: function 65 -/
-- HAND
theorem hdp_asc : ∀ (l m : List Int), l.Pairwise (· < ·) → m.Pairwise (· < ·) → (∀ x, x ∈ l ↔ x ∈ m) → l = m
  | [], [], _, _, _ => rfl
  | [], b :: m, _, _, h => by have := (h b).mpr (by simp); cases this
  | a :: l, [], _, _, h => by have := (h a).mp (by simp); cases this
  | a :: l, b :: m, hl, hm, h => by
    rw [List.pairwise_cons] at hl hm
    have e : a = b := by
      have h1 := (h a).mp (by simp)
      have h2 := (h b).mpr (by simp)
      simp only [List.mem_cons] at h1 h2
      rcases h1 with h1 | h1
      · exact h1
      · rcases h2 with h2 | h2
        · exact h2.symm
        · have := hm.1 a h1; have := hl.1 b h2; omega
    subst e
    rw [hdp_asc l m hl.2 hm.2 (fun x => ⟨fun hx => ?_, fun hx => ?_⟩)]
    · have h1 := (h x).mp (List.mem_cons_of_mem _ hx)
      simp only [List.mem_cons] at h1
      rcases h1 with h1 | h1
      · have := hl.1 x hx; omega
      · exact h1
    · have h1 := (h x).mpr (List.mem_cons_of_mem _ hx)
      simp only [List.mem_cons] at h1
      rcases h1 with h1 | h1
      · have := hm.1 x hx; omega
      · exact h1
/-- The different numbers of a list (of numbers from 0 to 99), ascending. -/
def hdp_set (l : List Int) : List Int := ((List.range 100).map fun b : Nat => (b : Int)).filter fun b => l.contains b
def hdp_sorted (l : List Int) : List Int := l.mergeSort fun x y => decide (x ≤ y)
theorem hdp_compact_eq (l : List Int) (h : ∀ x ∈ l, 0 ≤ x ∧ x < 100) : Go.Lib.compactUpTo (hdp_sorted l).toArray (hdp_sorted l).length = hdp_set l := by
  obtain ⟨s, hs⟩ : ∃ s, s = hdp_sorted l := ⟨_, rfl⟩
  have hp : s.Perm l := by rw [hs]; exact List.mergeSort_perm _ _
  have ho : s.Pairwise (· ≤ ·) := by
    have := List.pairwise_mergeSort (le := fun x y : Int => decide (x ≤ y)) (fun a b c h1 h2 => by simp at *; omega) (fun a b => by simp; omega) l
    rw [hs]
    exact this.imp (fun h => by simpa using h)
  rw [← hs]
  have gE : ∀ j, j < s.length → s.toArray[j]! = s.getD j 0 := fun j hj => by
    rw [getElem!_pos s.toArray j (by simpa using hj)]
    simp [List.getD_eq_getElem?_getD, List.getElem?_eq_getElem hj]
  have hmono : ∀ i j, i ≤ j → j < s.length → s.getD i 0 ≤ s.getD j 0 := by
    intro i j hij hj
    rcases Nat.lt_or_ge i j with h1 | h1
    · rw [List.getD_eq_getElem?_getD, List.getD_eq_getElem?_getD, List.getElem?_eq_getElem (by omega), List.getElem?_eq_getElem hj]
      exact List.pairwise_iff_getElem.mp ho i j (by omega) hj h1
    · rw [show i = j by omega]; exact Int.le_refl _
  refine hdp_asc _ _ ?_ ?_ (fun x => ?_)
  · unfold Go.Lib.compactUpTo
    rw [List.pairwise_map, List.pairwise_filter]
    refine List.Pairwise.imp_of_mem ?_ (List.pairwise_lt_range (n := s.length))
    intro a b ha hb hab _ hkb
    rw [List.mem_range] at ha hb
    rw [gE a ha, gE b hb]
    have h1 := hmono a (b - 1) (by omega) (by omega)
    have h2 := hmono (b - 1) b (by omega) hb
    have h3 : s.getD b 0 ≠ s.getD (b - 1) 0 := by
      simp only [Go.Lib.keeps, decide_eq_true_eq] at hkb
      rcases hkb with hkb | hkb
      · omega
      · rw [gE b hb, gE (b - 1) (by omega)] at hkb; exact hkb
    omega
  · unfold hdp_set
    refine List.Pairwise.filter _ ?_
    rw [List.pairwise_map]
    exact (List.pairwise_lt_range (n := 100)).imp (fun h => by omega)
  · have e1 : x ∈ hdp_set l ↔ x ∈ l := by
      unfold hdp_set
      simp only [List.mem_filter, List.mem_map, List.mem_range, List.contains_iff_mem]
      refine ⟨fun h => h.2, fun hx => ⟨⟨x.toNat, ?_, ?_⟩, hx⟩⟩ <;> have := h x hx <;> omega
    rw [e1, ← hp.mem_iff]
    unfold Go.Lib.compactUpTo
    simp only [List.mem_map, List.mem_filter, List.mem_range]
    constructor
    · rintro ⟨j, ⟨hj, _⟩, rfl⟩
      rw [gE j hj, List.getD_eq_getElem?_getD, List.getElem?_eq_getElem hj]
      exact List.getElem_mem hj
    · intro hx
      obtain ⟨j, hj, e⟩ := List.getElem_of_mem hx
      have key : ∀ m, m < s.length → s.getD m 0 = x → ∃ q, (q < s.length ∧ Go.Lib.keeps s.toArray q = true) ∧ s.toArray[q]! = x := by
        intro m
        induction m with
        | zero => intro hm e; exact ⟨0, ⟨hm, by simp [Go.Lib.keeps]⟩, by rw [gE 0 hm, e]⟩
        | succ m ih =>
          intro hm e
          by_cases c : s.getD m 0 = x
          · exact ih (by omega) c
          · refine ⟨m + 1, ⟨hm, ?_⟩, by rw [gE _ hm, e]⟩
            simp only [Go.Lib.keeps, decide_eq_true_eq]
            right
            rw [gE _ hm, Nat.add_sub_cancel, gE m (by omega), e]
            exact fun h => c h.symm
      exact key j hj (by rw [List.getD_eq_getElem?_getD, List.getElem?_eq_getElem hj]; simpa using e)
theorem hdp_sort {W : World} {base g cap : Nat} {ok : Nat → Prop} {l : List Int} (HO : Kd.R (Kd.int .i64) 2 W base ok (.slice (some ⟨g, 0, none⟩) l.length cap) l) (hl : l.length ≤ 1000) :
    Calls Try.prog 64 #[.slice (some ⟨g, 0, none⟩) l.length cap] W fun e w' => e = .returned (.tuple #[]) ∧ Kd.R (Kd.int .i64) 2 w' base ok (.slice (some ⟨g, 0, none⟩) l.length cap) (hdp_sorted l) ∧ W.grownBy w' (some g) := by
  have hok := HO.1
  have hown := Kd.own_of_R HO
  rcases hown.2 with ⟨h', _⟩ | ⟨g', cap', cur, h', hb, hh, hc1, hc2, hc3, hc4⟩
  · cases h'
  · have hgg : g = g' := by injection h' with h'; injection h' with h'; injection h' with h'
    have hcc : cap = cap' := by injection h'
    subst hgg hcc
    have ht : cur.toList.take l.length = l.map (Value.int .i64) := by simpa [encs] using hc4
    have hH := holds_of_blockI hh ht
    have hc := AnyM.slices_Sort_int Try.laysSort g 0 cap l W hH (blk_lt hh) (by omega)
    change Calls Try.prog 64 _ _ _ at hc
    refine hc.mono ?_
    rintro e w' ⟨rfl, n, os, rfl⟩
    have hp : (hdp_sorted l).length = l.length := (List.mergeSort_perm _ _).length_eq
    refine ⟨rfl, Kd.R_of_own ?_ hok, grownBy_sortedI _⟩
    have := ownsRow_sortedI (n := n) (os := os) (base := base) hp hb hh hc1 hc2 hc3
    rw [hp]
    exact this
theorem hdp_compact {W : World} {base g cap : Nat} {ok : Nat → Prop} {s : List Int} (HO : Kd.R (Kd.int .i64) 2 W base ok (.slice (some ⟨g, 0, none⟩) s.length cap) s) (hl : s.length ≤ 1000) :
    Calls Try.prog 65 #[.slice (some ⟨g, 0, none⟩) s.length cap] W fun e w' => ∃ v, e = .returned v ∧ Kd.R (Kd.int .i64) 2 w' base ok v (Go.Lib.compactUpTo s.toArray s.length) ∧ W.grownBy w' (some g) := by
  have hok := HO.1
  have hown := Kd.own_of_R HO
  rcases hown.2 with ⟨h', _⟩ | ⟨g', cap', cur, h', hb, hh, hc1, hc2, hc3, hc4⟩
  · cases h'
  · have hgg : g = g' := by injection h' with h'; injection h' with h'; injection h' with h'
    have hcc : cap = cap' := by injection h'
    subst hgg hcc
    have ht : cur.toList.take s.length = s.map (Value.int .i64) := by simpa [encs] using hc4
    have hH := holds_of_blockI hh ht
    have hc := AnyE.slices_Compact Try.laysCompact (Value.int .i64) (fun _ => rfl) (EqlAt.intD _ _ _) (NeqAt.intD _ _ _) (0 : Int) (fun w => Try.zeroValue2 w) g 0 cap s.toArray W hH (by simp; omega) (by simpa using hc1)
    change Calls Try.prog 65 _ _ _ at hc
    rw [List.size_toArray] at hc
    refine hc.mono ?_
    rintro e w' ⟨rfl, q, rfl⟩
    obtain ⟨c, hcq⟩ : ∃ c, c = Go.Lib.compactUpTo s.toArray s.length := ⟨_, rfl⟩
    rw [← hcq]
    have hcl : c.length ≤ s.length := by
      rw [hcq]; unfold Go.Lib.compactUpTo
      rw [List.length_map]
      exact Nat.le_trans (List.length_filter_le _ _) (by simp)
    have hp : (c ++ List.replicate (s.length - c.length) (0 : Int)).length = s.length := by simp; omega
    have h1 := ownsRow_sortedI (n := q) (os := #[]) (base := base) hp hb hh hc1 hc2 hc3
    rw [Go.Sort.grow_empty] at h1
    have h2 : Kd.R (Kd.int .i64) 2 (Go.Sort.putRow (Value.int .i64) (Go.Sort.ahead W q) g 0 (c ++ List.replicate (s.length - c.length) (0 : Int)).toArray) base ok (.slice (some ⟨g, 0, none⟩) s.length cap) (c ++ List.replicate (s.length - c.length) (0 : Int)) := by
      refine Kd.R_of_own ?_ hok
      rw [hp]
      exact h1
    have h3 := Kd.R_take h2 (m := c.length) (by omega)
    rw [List.take_left'] at h3
    · have hg := grownBy_sortedI (n := q) (os := #[]) (w := W) (g := g) (c ++ List.replicate (s.length - c.length) (0 : Int)).toArray
      rw [Go.Sort.grow_empty] at hg
      exact ⟨_, rfl, h3, hg⟩
    · rfl
def slices_Compact_int64_int64.f (l0 : List Int) : Option (List Int) := some (hdp_set l0)

/-! ### impl_dset: function 144 -/
-- HAND
def impl_dset.f (l0 : List Int) : Option (List Int) := if 0 < l0.length ∧ l0.length ≤ 1000 ∧ l0.all (fun x => decide (0 ≤ x) && decide (x < 100)) then some (hdp_set l0) else none

/-! ### impl_differentPowers: function 39 -/
-- HAND
theorem hdp_sorted_len (l : List Int) : (hdp_sorted l).length = l.length := (List.mergeSort_perm _ _).length_eq
theorem hdp_compact2 {W : World} {base g cap n : Nat} {ok : Nat → Prop} {s : List Int} (hn : n = s.length) (HO : Kd.R (Kd.int .i64) 2 W base ok (.slice (some ⟨g, 0, none⟩) n cap) s) (hl : s.length ≤ 1000) :
    Calls Try.prog 65 #[.slice (some ⟨g, 0, none⟩) n cap] W fun e w' => ∃ v, e = .returned v ∧ Kd.R (Kd.int .i64) 2 w' base ok v (Go.Lib.compactUpTo s.toArray s.length) ∧ W.grownBy w' (some g) := by
  subst hn
  exact hdp_compact HO hl
theorem hdp_dset {l r : List Int} (h : impl_dset.f l = some r) : r = hdp_set l ∧ 0 < l.length ∧ l.length ≤ 1000 ∧ ∀ x ∈ l, 0 ≤ x ∧ x < 100 := by
  unfold impl_dset.f at h
  by_cases c : 0 < l.length ∧ l.length ≤ 1000 ∧ l.all (fun x => decide (0 ≤ x) && decide (x < 100)) = true
  · rw [if_pos c] at h
    exact ⟨(Option.some.inj h).symm, c.1, c.2.1, fun x hx => by simpa using List.all_eq_true.mp c.2.2 x hx⟩
  · rw [if_neg c] at h
    cases h
def impl_differentPowers.f (k : Nat) (a0 : Int) (a1 : Int) : Option (List Int) := (impl_powersOf.f k a0 a1).bind fun t270 => ((impl_dset.f t270).bind fun t273 => (some t273))
theorem impl_differentPowers.mono : ∀ a0 a1 k, LeO (impl_differentPowers.f k a0 a1) (impl_differentPowers.f (k + 1) a0 a1) := by
  intro a0 a1 k
  unfold impl_differentPowers.f
  repeat' first
      | (with_reducible exact impl_powersOf.mono _ _ _)
      | (with_reducible exact LeO.refl _)
      | (with_reducible exact LeO.none _)
      | (with_reducible refine LeO.ite ?_ ?_)
      | (with_reducible refine LeO.bind ?_ (fun _ => ?_))
      | exact impl_powersOf.mono _ _ _
      | exact LeO.none _
      | refine LeO.ite ?_ ?_
      | refine LeO.bind ?_ (fun _ => ?_)
set_option maxHeartbeats 8000000 in
set_option maxRecDepth 100000 in
theorem impl_differentPowers.calls (k : Nat) (a0 : Int) (a1 : Int) (r : List Int) (w : World) (h : impl_differentPowers.f k a0 a1 = some r) :
    Calls Try.prog 39 #[.int .i64 a0, .int .i64 a1] w fun e w' => ∃ v0_ : Value, e = .returned (v0_) ∧ Kd.R (Kd.int .i64) 2 w' w.heap.size (fun _ => True) v0_ r ∧ Below w.heap.size w w' := by
  have HB := Aside0.mk (Below.refl w.heap.size w)
  have H : ((impl_powersOf.f k a0 a1).bind fun t270 => ((impl_dset.f t270).bind fun t273 => (some t273))) = some r := h
  clear h
  replace H := Option.bind_eq_some_iff.mp H
  obtain ⟨t270, A30, H⟩ := H
  replace H : ((impl_dset.f t270).bind fun t273 => (some t273)) = some r := H
  have A3 := Aside0.mk A30
  clear A30
  replace H := Option.bind_eq_some_iff.mp H
  obtain ⟨t273, A40, H⟩ := H
  replace H : (some t273) = some r := H
  have A4 := Aside0.mk A40
  clear A40
  obtain rfl := Option.some.inj H
  obtain ⟨hd1_, hd2_, hd3_, hd4_⟩ := hdp_dset A4.out
  have HD1 := Aside0.mk hd1_
  have HD2 := Aside0.mk hd2_
  have HD3 := Aside0.mk hd3_
  have HD4 := Aside0.mk hd4_
  clear hd1_ hd2_ hd3_ hd4_
  go_enter Try.func39, Try.ntmps39
  go_wp2_with (first | ((with_reducible refine gate_callee (f := 63) rfl ?_); refine goesL_ (some 8) rfl rfl Try.func63 (by kernel_rfl) rfl #[.int .i64 a0, .int .i64 a1] rfl (by (try simp only [List.map_toArray, List.map_cons, List.map_nil]); first | done | rfl | (simp only [List.length_drop, List.length_take]; rfl)) ?_; (with_reducible refine (impl_powersOf.calls k a0 a1 t270 _ A3.out).mono ?_); rintro e w5 ⟨v271, rfl, ho0, hb⟩; refine ⟨_, rfl, ?_⟩; have n0_ := Aside0.mk (Kd.R_lower ho0 (below_size (by repeat (first | (with_reducible first | exact HB.out | apply below_alloc | apply pw_below_drewN | apply below_drew1) | exact HB.out)))); have n1_ := Aside0.mk (below_step (by repeat (first | (with_reducible first | exact HB.out | apply below_alloc | apply pw_below_drewN | apply below_drew1) | exact HB.out)) hb); clear HB; have HO272 := n0_; have HB := n1_; clear n0_ n1_; (try clear hb); (try clear hb2); (try clear hk); (try clear hi); (try clear ho0); obtain ⟨go6, co6, eo6, hb_, hl_, _⟩ := Kd.R_form HO272.out HD2.out; subst eo6; have HG := Aside0.mk hb_; clear hb_ hl_) | ((with_reducible refine gate_callee (f := 64) rfl ?_); refine goesL_ (some 10) rfl rfl Try.func64 (by kernel_rfl) rfl #[.slice (some ⟨go6, 0, none⟩) t270.length co6] rfl (by (try simp only [List.map_toArray, List.map_cons, List.map_nil]); first | done | rfl | (simp only [List.length_drop, List.length_take]; rfl)) ?_; refine (hdp_sort (by (with_reducible repeat (first | apply Kd.R_alloc | apply Kd.R_drewN | apply Kd.R_drew)); exact HO272.out) HD3.out).mono ?_; rintro e wS_ ⟨rfl, h1_, h2_⟩; refine ⟨_, rfl, ?_⟩; have n0_ := Aside0.mk h1_; have n1_ := Aside0.mk (Below.grown (by repeat (first | (with_reducible first | exact HB.out | apply below_alloc | apply pw_below_drewN | apply below_drew1) | exact HB.out)) h2_ (below_size (by repeat (first | (with_reducible first | exact HB.out | apply below_alloc | apply pw_below_drewN | apply below_drew1) | exact HB.out))) (fun k_ e_ => by cases e_; exact HG.out)); clear HO272 HB; have HO272 := n0_; have HB := n1_; clear n0_ n1_ h1_ h2_) | ((with_reducible refine gate_callee (f := 65) rfl ?_); refine goesL_ (some 12) rfl rfl Try.func65 (by kernel_rfl) rfl #[.slice (some ⟨go6, 0, none⟩) t270.length co6] rfl (by (try simp only [List.map_toArray, List.map_cons, List.map_nil]); first | done | rfl | (simp only [List.length_drop, List.length_take]; rfl)) ?_; refine (hdp_compact2 (hdp_sorted_len t270).symm (by (with_reducible repeat (first | apply Kd.R_alloc | apply Kd.R_drewN | apply Kd.R_drew)); exact HO272.out) (by rw [hdp_sorted_len]; exact HD3.out)).mono ?_; rintro e wC_ ⟨v274, rfl, h1_, h2_⟩; refine ⟨_, rfl, ?_⟩; rw [hdp_compact_eq t270 HD4.out, ← HD1.out] at h1_; have n0_ := Aside0.mk h1_; have n1_ := Aside0.mk (Below.grown (by repeat (first | (with_reducible first | exact HB.out | apply below_alloc | apply pw_below_drewN | apply below_drew1) | exact HB.out)) h2_ (below_size (by repeat (first | (with_reducible first | exact HB.out | apply below_alloc | apply pw_below_drewN | apply below_drew1) | exact HB.out))) (fun k_ e_ => by cases e_; exact HG.out)); clear HB; have HO275 := n0_; have HB := n1_; clear n0_ n1_ h1_ h2_))
  go_ret
  exact ⟨_, by first | rfl | (simp [errW_none, errW_some] <;> rfl) | (simp [*, errW_none, errW_some] <;> rfl), by (with_reducible repeat (first | apply Kd.R_alloc | apply Kd.R_drewN | apply Kd.R_drew)); exact Kd.R_mono HO275.out (fun _ hk => trivial), by repeat (first | (with_reducible first | exact HB.out | apply below_alloc | apply pw_below_drewN | apply below_drew1) | exact HB.out)⟩

/-! ### slices_Index_bool_bool: function 72 -/
def slices_Index_bool_bool.l0 : Nat → List Bool → Bool → Int → Int → Option (Int)
  | 0, _, _, _, _ => none
  | k + 1, x0, x1, x7, x8 => if x8 < x7 then (if 0 ≤ x8 then (if x8 < (x0.length : Int) then (if (x1 == (rdOf false x0 x8)) = true then (some x8) else (slices_Index_bool_bool.l0 k x0 x1 x7 (wrap64 (x8 + 1)))) else (none)) else (none)) else (some (-1))
def slices_Index_bool_bool.f (k : Nat) (l0 : List Bool) (a1 : Bool) : Option (Int) := slices_Index_bool_bool.l0 k l0 a1 (l0.length : Int) 0
theorem slices_Index_bool_bool.mono_l : ∀ k, (∀ y0 y1 y2 y3, LeO (slices_Index_bool_bool.l0 k y0 y1 y2 y3) (slices_Index_bool_bool.l0 (k + 1) y0 y1 y2 y3))
  | 0 => fun _ _ _ _ r h => by simp [slices_Index_bool_bool.l0] at h
  | k + 1 => by
    have ih0 := slices_Index_bool_bool.mono_l k
    · intro y0 y1 y2 y3
      unfold slices_Index_bool_bool.l0
      repeat' first
      | (with_reducible exact ih0 _ _ _ _)
      | (with_reducible exact LeO.refl _)
      | (with_reducible exact LeO.none _)
      | (with_reducible refine LeO.ite ?_ ?_)
      | (with_reducible refine LeO.bind ?_ (fun _ => ?_))
      | exact ih0 _ _ _ _
      | exact LeO.none _
      | refine LeO.ite ?_ ?_
      | refine LeO.bind ?_ (fun _ => ?_)
theorem slices_Index_bool_bool.mono : ∀ a0 a1 k, LeO (slices_Index_bool_bool.f k a0 a1) (slices_Index_bool_bool.f (k + 1) a0 a1) := by
  intro a0 a1 k
  have ih0 := slices_Index_bool_bool.mono_l k
  unfold slices_Index_bool_bool.f
  repeat' first
      | (with_reducible exact ih0 _ _ _ _)
      | (with_reducible exact LeO.refl _)
      | (with_reducible exact LeO.none _)
      | (with_reducible refine LeO.ite ?_ ?_)
      | (with_reducible refine LeO.bind ?_ (fun _ => ?_))
      | exact ih0 _ _ _ _
      | exact LeO.none _
      | refine LeO.ite ?_ ?_
      | refine LeO.bind ?_ (fun _ => ?_)
set_option maxHeartbeats 8000000 in
set_option maxRecDepth 100000 in
theorem slices_Index_bool_bool.calls (k : Nat) (A0 : Option Addr) (c0 : Nat) (l0 : List Bool) (a1 : Bool) (r : Int) (w : World) (hr0 : Kd.C Kd.bool w A0 l0.length l0) (hc0 : l0.length ≤ c0) (h : slices_Index_bool_bool.f k l0 a1 = some r) :
    Calls Try.prog 72 #[.slice A0 l0.length c0, .bool a1] w fun e w' => e = .returned (.int .i64 r) ∧ Drawn0 w w' := by
  have HR0 := Aside0.mk hr0
  have HC0 := Aside0.mk hc0
  clear hr0 hc0
  have H : (slices_Index_bool_bool.l0 k l0 a1 (l0.length : Int) 0) = some r := h
  clear h
  have H' := Aside0.mk H
  clear H
  go_enter Try.func72, Try.ntmps72
  go_wp2
  try simp only [Act.put, List.setIfInBounds_toArray, List.set_cons_succ, List.set_cons_zero]
  go_loopg [8] k (fun kq v8 w' => ∃ (x8_1 : Int), v8 = .int .i64 x8_1 ∧ Aside0 (slices_Index_bool_bool.l0 kq l0 a1 (l0.length : Int) x8_1 = some r) ∧ Aside0 (kq ≤ k) ∧ Drawn0 w w')
  case atStart => exact ⟨(0), (by first | rfl | (simp; done) | (simp [*]; done)), H', ⟨Nat.le_refl _⟩, by repeat (first | exact Drawn0.refl _ | apply Drawn0.step)⟩
  case round =>
    clear H'
    try clear p2
    obtain ⟨x8_1, rfl, HA, HK1, ⟨m1, rfl⟩⟩ := hrel
    cases gk with
    | zero => exact absurd HA.out (by simp [slices_Index_bool_bool.l0])
    | succ k1 =>
      have H := HA.out
      clear HA
      simp only [slices_Index_bool_bool.l0] at H
      by_cases c3 : x8_1 < (l0.length : Int)
      · rw [if_pos c3] at H
        have c3b0 : decide (x8_1 < (l0.length : Int)) = true := decide_eq_true c3
        clear c3
        by_cases c4 : 0 ≤ x8_1
        · rw [if_pos c4] at H
          have c4b0 : decide (0 ≤ x8_1) = true := decide_eq_true c4
          clear c4
          by_cases c5 : x8_1 < (l0.length : Int)
          · rw [if_pos c5] at H
            have c5b0 : decide (x8_1 < (l0.length : Int)) = true := decide_eq_true c5
            clear c5
            by_cases c6 : (a1 == (rdOf false l0 x8_1)) = true
            · rw [if_pos c6] at H
              have c6b0 : (a1 == (rdOf false l0 x8_1)) = true := c6
              (try (have c6b1 : decide (a1 = (rdOf false l0 x8_1)) = true := by simpa using c6))
              (try (have c6b2 : (a1 == (rdOf false l0 x8_1)) = true := by simpa using c6))
              clear c6
              obtain rfl := Option.some.inj H
              have p276 : 0 ≤ (x8_1 : Int) := of_decide_eq_true (by first | (with_reducible assumption) | assumption)
              have q276 : x8_1 < (l0.length : Int) := of_decide_eq_true (by first | (with_reducible assumption) | assumption)
              obtain ⟨ad276, e276, hx276_0⟩ := Kd.at_bool HR0.out x8_1 p276 q276
              cases e276
              replace p276 := eq_true p276
              replace q276 := eq_true q276
              go_wp2
              go_ret
              exact ⟨by first | rfl | (simp; done) | (simp [*]; done), by repeat (first | exact Drawn0.refl _ | apply Drawn0.step)⟩
            · rw [if_neg c6] at H
              have c6b0 : (a1 == (rdOf false l0 x8_1)) = false := by simpa using c6
              (try (have c6b1 : decide (a1 = (rdOf false l0 x8_1)) = false := by simpa using c6))
              (try (have c6b2 : (a1 == (rdOf false l0 x8_1)) = false := by simpa using c6))
              (try (have c6b3 : ¬ (a1 = (rdOf false l0 x8_1)) := by simpa using c6))
              clear c6
              have H' := Aside0.mk H
              clear H
              have p276 : 0 ≤ (x8_1 : Int) := of_decide_eq_true (by first | (with_reducible assumption) | assumption)
              have q276 : x8_1 < (l0.length : Int) := of_decide_eq_true (by first | (with_reducible assumption) | assumption)
              obtain ⟨ad276, e276, hx276_0⟩ := Kd.at_bool HR0.out x8_1 p276 q276
              cases e276
              replace p276 := eq_true p276
              replace q276 := eq_true q276
              go_wp2
              (first | go_roundg k1 | ((try simp only [add_plain] at *); go_roundg k1))
              case measure => have := HK1.out; omega
              case rel => exact ⟨(wrap64 (x8_1 + 1)), (by first | rfl | (simp; done) | (simp [*]; done)), H', ⟨by have := HK1.out; omega⟩, by repeat (first | exact Drawn0.refl _ | apply Drawn0.step)⟩
          · rw [if_neg c5] at H
            exact absurd H (by simp)
        · rw [if_neg c4] at H
          exact absurd H (by simp)
      · rw [if_neg c3] at H
        have c3b0 : decide (x8_1 < (l0.length : Int)) = false := decide_eq_false c3
        clear c3
        obtain rfl := Option.some.inj H
        go_wp2
        go_ret
        exact ⟨by first | rfl | (simp; done) | (simp [*]; done), by repeat (first | exact Drawn0.refl _ | apply Drawn0.step)⟩

/-! ### slices_Contains_bool_bool: function 47 -/
def slices_Contains_bool_bool.f (k : Nat) (l0 : List Bool) (a1 : Bool) : Option (Bool) := (slices_Index_bool_bool.f k l0 a1).bind fun t277 => (some (decide (t277 ≥ 0)))
theorem slices_Contains_bool_bool.mono : ∀ a0 a1 k, LeO (slices_Contains_bool_bool.f k a0 a1) (slices_Contains_bool_bool.f (k + 1) a0 a1) := by
  intro a0 a1 k
  unfold slices_Contains_bool_bool.f
  repeat' first
      | (with_reducible exact slices_Index_bool_bool.mono _ _ _)
      | (with_reducible exact LeO.refl _)
      | (with_reducible exact LeO.none _)
      | (with_reducible refine LeO.ite ?_ ?_)
      | (with_reducible refine LeO.bind ?_ (fun _ => ?_))
      | exact slices_Index_bool_bool.mono _ _ _
      | exact LeO.none _
      | refine LeO.ite ?_ ?_
      | refine LeO.bind ?_ (fun _ => ?_)
set_option maxHeartbeats 8000000 in
set_option maxRecDepth 100000 in
theorem slices_Contains_bool_bool.calls (k : Nat) (A0 : Option Addr) (c0 : Nat) (l0 : List Bool) (a1 : Bool) (r : Bool) (w : World) (hr0 : Kd.C Kd.bool w A0 l0.length l0) (hc0 : l0.length ≤ c0) (h : slices_Contains_bool_bool.f k l0 a1 = some r) :
    Calls Try.prog 47 #[.slice A0 l0.length c0, .bool a1] w fun e w' => e = .returned (.bool r) ∧ Drawn0 w w' := by
  have HR0 := Aside0.mk hr0
  have HC0 := Aside0.mk hc0
  clear hr0 hc0
  have H : ((slices_Index_bool_bool.f k l0 a1).bind fun t277 => (some (decide (t277 ≥ 0)))) = some r := h
  clear h
  replace H := Option.bind_eq_some_iff.mp H
  obtain ⟨t277, A30, H⟩ := H
  replace H : (some (decide (t277 ≥ 0))) = some r := H
  have A3 := Aside0.mk A30
  clear A30
  obtain rfl := Option.some.inj H
  go_enter Try.func47, Try.ntmps47
  go_wp2_with (first | ((with_reducible refine gate_callee (f := 72) rfl ?_); refine goesL_ (some 7) rfl rfl Try.func72 (by kernel_rfl) rfl #[.slice A0 l0.length c0, .bool a1] rfl (by (try simp only [List.map_toArray, List.map_cons, List.map_nil]); first | done | rfl | (simp only [List.length_drop, List.length_take]; rfl)) ?_; (with_reducible refine (slices_Index_bool_bool.calls k _ _ l0 a1 t277 _ ?side1 ?side2 A3.out).mono ?_); (case side1 => repeat (first | exact HR0.out | (with_reducible refine Kd.C_alloc ?_ _) | (with_reducible refine Kd.C_drewN ?_ _) | (with_reducible refine Kd.C_drew ?_))); (case side2 => exact HC0.out); rintro e w' ⟨rfl, ⟨nd, rfl⟩⟩; refine ⟨_, rfl, ?_⟩))
  go_ret
  exact ⟨by first | rfl | (simp; done) | (simp [*]; done), by repeat (first | exact Drawn0.refl _ | apply Drawn0.step)⟩

end Go.Proofs.Ytghlmdjedpnglaa.PFnExactPowerNumber
