/- The functions that the law reaches, as plain functions, each with the proof that the program comes to it; no condition. Written by a program of this session (wip/mp.py) over the printing of the kit; what is marked HAND is told by hand. -/
import Derived.Test.YthdpdiahkphklabPFnExactPowersOfx0
import Derived.Test.YthdpdiahkphklabPFnExactPowersOfx1
import Derived.Test.YthdpdiahkphklabPFnExactPowersOfx2
namespace Go.Proofs.Ythdpdiahkphklab.PFnExactPowersOf
open Go.RowKit Go.Proofs.YthdpdiahkphklabW.PrintWords Go.Proofs.YthdpdiahkphklabW.PrintLast Go.Proofs.YthdpdiahkphklabW.PrintMore
attribute [local go_sem] max2_int min2_int max_two min_two max_three min_three max_four min_four   -- for this text's walks alone
set_option linter.unusedVariables false
set_option linter.unusedSimpArgs false

-- NOT PRINTED: function 118 (slices_partitionOrdered_int64)

-- NOT PRINTED: function 95 (slices_pdqsortOrdered_int64)

-- NOT PRINTED: function 76 (slices_Sort_int64_int64)

/-! ### slices_Compact_int64_int64: function 77 -/
-- HAND
theorem hdp_asc : ∀ (l m : List Int), l.Pairwise (· < ·) → m.Pairwise (· < ·) → (∀ x, x ∈ l ↔ x ∈ m) → l = m
  | [], [], _, _, _ => rfl
  | [], b :: m, _, _, h => by have := (h b).mpr (by simp); cases this
  | a :: l, [], _, _, h => by have := (h a).mp (by simp); cases this
  | a :: l, b :: m, hl, hm, h => by
    rw [List.pairwise_cons] at hl hm
    have e : a = b := by
      have h1 := (h a).mp (by simp)
      have h2 := (h b).mpr (by simp)
      simp only [List.mem_cons] at h1 h2
      rcases h1 with h1 | h1
      · exact h1
      · rcases h2 with h2 | h2
        · exact h2.symm
        · have := hm.1 a h1; have := hl.1 b h2; omega
    subst e
    rw [hdp_asc l m hl.2 hm.2 (fun x => ⟨fun hx => ?_, fun hx => ?_⟩)]
    · have h1 := (h x).mp (List.mem_cons_of_mem _ hx)
      simp only [List.mem_cons] at h1
      rcases h1 with h1 | h1
      · have := hl.1 x hx; omega
      · exact h1
    · have h1 := (h x).mpr (List.mem_cons_of_mem _ hx)
      simp only [List.mem_cons] at h1
      rcases h1 with h1 | h1
      · have := hm.1 x hx; omega
      · exact h1
/-- The different numbers of a list (of numbers from 0 to 99), ascending. -/
def hdp_set (l : List Int) : List Int := ((List.range 100).map fun b : Nat => (b : Int)).filter fun b => l.contains b
def hdp_sorted (l : List Int) : List Int := l.mergeSort fun x y => decide (x ≤ y)
theorem hdp_compact_eq (l : List Int) (h : ∀ x ∈ l, 0 ≤ x ∧ x < 100) : Go.Lib.compactUpTo (hdp_sorted l).toArray (hdp_sorted l).length = hdp_set l := by
  obtain ⟨s, hs⟩ : ∃ s, s = hdp_sorted l := ⟨_, rfl⟩
  have hp : s.Perm l := by rw [hs]; exact List.mergeSort_perm _ _
  have ho : s.Pairwise (· ≤ ·) := by
    have := List.pairwise_mergeSort (le := fun x y : Int => decide (x ≤ y)) (fun a b c h1 h2 => by simp at *; omega) (fun a b => by simp; omega) l
    rw [hs]
    exact this.imp (fun h => by simpa using h)
  rw [← hs]
  have gE : ∀ j, j < s.length → s.toArray[j]! = s.getD j 0 := fun j hj => by
    rw [getElem!_pos s.toArray j (by simpa using hj)]
    simp [List.getD_eq_getElem?_getD, List.getElem?_eq_getElem hj]
  have hmono : ∀ i j, i ≤ j → j < s.length → s.getD i 0 ≤ s.getD j 0 := by
    intro i j hij hj
    rcases Nat.lt_or_ge i j with h1 | h1
    · rw [List.getD_eq_getElem?_getD, List.getD_eq_getElem?_getD, List.getElem?_eq_getElem (by omega), List.getElem?_eq_getElem hj]
      exact List.pairwise_iff_getElem.mp ho i j (by omega) hj h1
    · rw [show i = j by omega]; exact Int.le_refl _
  refine hdp_asc _ _ ?_ ?_ (fun x => ?_)
  · unfold Go.Lib.compactUpTo
    rw [List.pairwise_map, List.pairwise_filter]
    refine List.Pairwise.imp_of_mem ?_ (List.pairwise_lt_range (n := s.length))
    intro a b ha hb hab _ hkb
    rw [List.mem_range] at ha hb
    rw [gE a ha, gE b hb]
    have h1 := hmono a (b - 1) (by omega) (by omega)
    have h2 := hmono (b - 1) b (by omega) hb
    have h3 : s.getD b 0 ≠ s.getD (b - 1) 0 := by
      simp only [Go.Lib.keeps, decide_eq_true_eq] at hkb
      rcases hkb with hkb | hkb
      · omega
      · rw [gE b hb, gE (b - 1) (by omega)] at hkb; exact hkb
    omega
  · unfold hdp_set
    refine List.Pairwise.filter _ ?_
    rw [List.pairwise_map]
    exact (List.pairwise_lt_range (n := 100)).imp (fun h => by omega)
  · have e1 : x ∈ hdp_set l ↔ x ∈ l := by
      unfold hdp_set
      simp only [List.mem_filter, List.mem_map, List.mem_range, List.contains_iff_mem]
      refine ⟨fun h => h.2, fun hx => ⟨⟨x.toNat, ?_, ?_⟩, hx⟩⟩ <;> have := h x hx <;> omega
    rw [e1, ← hp.mem_iff]
    unfold Go.Lib.compactUpTo
    simp only [List.mem_map, List.mem_filter, List.mem_range]
    constructor
    · rintro ⟨j, ⟨hj, _⟩, rfl⟩
      rw [gE j hj, List.getD_eq_getElem?_getD, List.getElem?_eq_getElem hj]
      exact List.getElem_mem hj
    · intro hx
      obtain ⟨j, hj, e⟩ := List.getElem_of_mem hx
      have key : ∀ m, m < s.length → s.getD m 0 = x → ∃ q, (q < s.length ∧ Go.Lib.keeps s.toArray q = true) ∧ s.toArray[q]! = x := by
        intro m
        induction m with
        | zero => intro hm e; exact ⟨0, ⟨hm, by simp [Go.Lib.keeps]⟩, by rw [gE 0 hm, e]⟩
        | succ m ih =>
          intro hm e
          by_cases c : s.getD m 0 = x
          · exact ih (by omega) c
          · refine ⟨m + 1, ⟨hm, ?_⟩, by rw [gE _ hm, e]⟩
            simp only [Go.Lib.keeps, decide_eq_true_eq]
            right
            rw [gE _ hm, Nat.add_sub_cancel, gE m (by omega), e]
            exact fun h => c h.symm
      exact key j hj (by rw [List.getD_eq_getElem?_getD, List.getElem?_eq_getElem hj]; simpa using e)
theorem hdp_sort {W : World} {base g cap : Nat} {ok : Nat → Prop} {l : List Int} (HO : Kd.R (Kd.int .i64) 2 W base ok (.slice (some ⟨g, 0, none⟩) l.length cap) l) (hl : l.length ≤ 1000) :
    Calls Try.prog 76 #[.slice (some ⟨g, 0, none⟩) l.length cap] W fun e w' => e = .returned (.tuple #[]) ∧ Kd.R (Kd.int .i64) 2 w' base ok (.slice (some ⟨g, 0, none⟩) l.length cap) (hdp_sorted l) ∧ W.grownBy w' (some g) := by
  have hok := HO.1
  have hown := Kd.own_of_R HO
  rcases hown.2 with ⟨h', _⟩ | ⟨g', cap', cur, h', hb, hh, hc1, hc2, hc3, hc4⟩
  · cases h'
  · have hgg : g = g' := by injection h' with h'; injection h' with h'; injection h' with h'
    have hcc : cap = cap' := by injection h'
    subst hgg hcc
    have ht : cur.toList.take l.length = l.map (Value.int .i64) := by simpa [encs] using hc4
    have hH := holds_of_blockI hh ht
    have hc := AnyM.slices_Sort_int Try.laysSort g 0 cap l W hH (blk_lt hh) (by omega)
    change Calls Try.prog 76 _ _ _ at hc
    refine hc.mono ?_
    rintro e w' ⟨rfl, n, os, rfl⟩
    have hp : (hdp_sorted l).length = l.length := (List.mergeSort_perm _ _).length_eq
    refine ⟨rfl, Kd.R_of_own ?_ hok, grownBy_sortedI _⟩
    have := ownsRow_sortedI (n := n) (os := os) (base := base) hp hb hh hc1 hc2 hc3
    rw [hp]
    exact this
theorem hdp_compact {W : World} {base g cap : Nat} {ok : Nat → Prop} {s : List Int} (HO : Kd.R (Kd.int .i64) 2 W base ok (.slice (some ⟨g, 0, none⟩) s.length cap) s) (hl : s.length ≤ 1000) :
    Calls Try.prog 77 #[.slice (some ⟨g, 0, none⟩) s.length cap] W fun e w' => ∃ v, e = .returned v ∧ Kd.R (Kd.int .i64) 2 w' base ok v (Go.Lib.compactUpTo s.toArray s.length) ∧ W.grownBy w' (some g) := by
  have hok := HO.1
  have hown := Kd.own_of_R HO
  rcases hown.2 with ⟨h', _⟩ | ⟨g', cap', cur, h', hb, hh, hc1, hc2, hc3, hc4⟩
  · cases h'
  · have hgg : g = g' := by injection h' with h'; injection h' with h'; injection h' with h'
    have hcc : cap = cap' := by injection h'
    subst hgg hcc
    have ht : cur.toList.take s.length = s.map (Value.int .i64) := by simpa [encs] using hc4
    have hH := holds_of_blockI hh ht
    have hc := AnyE.slices_Compact Try.laysCompact (Value.int .i64) (fun _ => rfl) (EqlAt.intD _ _ _) (NeqAt.intD _ _ _) (0 : Int) (fun w => Try.zeroValue2 w) g 0 cap s.toArray W hH (by simp; omega) (by simpa using hc1)
    change Calls Try.prog 77 _ _ _ at hc
    rw [List.size_toArray] at hc
    refine hc.mono ?_
    rintro e w' ⟨rfl, q, rfl⟩
    obtain ⟨c, hcq⟩ : ∃ c, c = Go.Lib.compactUpTo s.toArray s.length := ⟨_, rfl⟩
    rw [← hcq]
    have hcl : c.length ≤ s.length := by
      rw [hcq]; unfold Go.Lib.compactUpTo
      rw [List.length_map]
      exact Nat.le_trans (List.length_filter_le _ _) (by simp)
    have hp : (c ++ List.replicate (s.length - c.length) (0 : Int)).length = s.length := by simp; omega
    have h1 := ownsRow_sortedI (n := q) (os := #[]) (base := base) hp hb hh hc1 hc2 hc3
    rw [Go.Sort.grow_empty] at h1
    have h2 : Kd.R (Kd.int .i64) 2 (Go.Sort.putRow (Value.int .i64) (Go.Sort.ahead W q) g 0 (c ++ List.replicate (s.length - c.length) (0 : Int)).toArray) base ok (.slice (some ⟨g, 0, none⟩) s.length cap) (c ++ List.replicate (s.length - c.length) (0 : Int)) := by
      refine Kd.R_of_own ?_ hok
      rw [hp]
      exact h1
    have h3 := Kd.R_take h2 (m := c.length) (by omega)
    rw [List.take_left'] at h3
    · have hg := grownBy_sortedI (n := q) (os := #[]) (w := W) (g := g) (c ++ List.replicate (s.length - c.length) (0 : Int)).toArray
      rw [Go.Sort.grow_empty] at hg
      exact ⟨_, rfl, h3, hg⟩
    · rfl
def slices_Compact_int64_int64.f (l0 : List Int) : Option (List Int) := some (hdp_set l0)

/-! ### impl_dset: function 157 -/
-- HAND
def impl_dset.f (l0 : List Int) : Option (List Int) := if 0 < l0.length ∧ l0.length ≤ 1000 ∧ l0.all (fun x => decide (0 ≤ x) && decide (x < 100)) then some (hdp_set l0) else none

/-! ### impl_differentPowers: function 48 -/
-- HAND
theorem hdp_sorted_len (l : List Int) : (hdp_sorted l).length = l.length := (List.mergeSort_perm _ _).length_eq
theorem hdp_compact2 {W : World} {base g cap n : Nat} {ok : Nat → Prop} {s : List Int} (hn : n = s.length) (HO : Kd.R (Kd.int .i64) 2 W base ok (.slice (some ⟨g, 0, none⟩) n cap) s) (hl : s.length ≤ 1000) :
    Calls Try.prog 77 #[.slice (some ⟨g, 0, none⟩) n cap] W fun e w' => ∃ v, e = .returned v ∧ Kd.R (Kd.int .i64) 2 w' base ok v (Go.Lib.compactUpTo s.toArray s.length) ∧ W.grownBy w' (some g) := by
  subst hn
  exact hdp_compact HO hl
theorem hdp_dset {l r : List Int} (h : impl_dset.f l = some r) : r = hdp_set l ∧ 0 < l.length ∧ l.length ≤ 1000 ∧ ∀ x ∈ l, 0 ≤ x ∧ x < 100 := by
  unfold impl_dset.f at h
  by_cases c : 0 < l.length ∧ l.length ≤ 1000 ∧ l.all (fun x => decide (0 ≤ x) && decide (x < 100)) = true
  · rw [if_pos c] at h
    exact ⟨(Option.some.inj h).symm, c.1, c.2.1, fun x hx => by simpa using List.all_eq_true.mp c.2.2 x hx⟩
  · rw [if_neg c] at h
    cases h
def impl_differentPowers.f (k : Nat) (a0 : Int) (a1 : Int) : Option (List Int) := (impl_powersOf.f k a0 a1).bind fun t265 => ((impl_dset.f t265).bind fun t268 => (some t268))
theorem impl_differentPowers.mono : ∀ a0 a1 k, LeO (impl_differentPowers.f k a0 a1) (impl_differentPowers.f (k + 1) a0 a1) := by
  intro a0 a1 k
  unfold impl_differentPowers.f
  repeat' first
      | (with_reducible exact impl_powersOf.mono _ _ _)
      | (with_reducible exact LeO.refl _)
      | (with_reducible exact LeO.none _)
      | (with_reducible refine LeO.ite ?_ ?_)
      | (with_reducible refine LeO.bind ?_ (fun _ => ?_))
      | exact impl_powersOf.mono _ _ _
      | exact LeO.none _
      | refine LeO.ite ?_ ?_
      | refine LeO.bind ?_ (fun _ => ?_)
set_option maxHeartbeats 8000000 in
set_option maxRecDepth 100000 in
theorem impl_differentPowers.calls (k : Nat) (a0 : Int) (a1 : Int) (r : List Int) (w : World) (h : impl_differentPowers.f k a0 a1 = some r) :
    Calls Try.prog 48 #[.int .i64 a0, .int .i64 a1] w fun e w' => ∃ v0_ : Value, e = .returned (v0_) ∧ Kd.R (Kd.int .i64) 2 w' w.heap.size (fun _ => True) v0_ r ∧ Below w.heap.size w w' := by
  have HB := Aside0.mk (Below.refl w.heap.size w)
  have H : ((impl_powersOf.f k a0 a1).bind fun t265 => ((impl_dset.f t265).bind fun t268 => (some t268))) = some r := h
  clear h
  replace H := Option.bind_eq_some_iff.mp H
  obtain ⟨t265, A30, H⟩ := H
  replace H : ((impl_dset.f t265).bind fun t268 => (some t268)) = some r := H
  have A3 := Aside0.mk A30
  clear A30
  replace H := Option.bind_eq_some_iff.mp H
  obtain ⟨t268, A40, H⟩ := H
  replace H : (some t268) = some r := H
  have A4 := Aside0.mk A40
  clear A40
  obtain rfl := Option.some.inj H
  obtain ⟨hd1_, hd2_, hd3_, hd4_⟩ := hdp_dset A4.out
  have HD1 := Aside0.mk hd1_
  have HD2 := Aside0.mk hd2_
  have HD3 := Aside0.mk hd3_
  have HD4 := Aside0.mk hd4_
  clear hd1_ hd2_ hd3_ hd4_
  go_enter Try.func48, Try.ntmps48
  go_wp2_with (first | ((with_reducible refine gate_callee (f := 75) rfl ?_); refine goesL_ (some 8) rfl rfl Try.func75 (by kernel_rfl) rfl #[.int .i64 a0, .int .i64 a1] rfl qB9 ?_; (with_reducible refine (impl_powersOf.calls k a0 a1 t265 _ A3.out).mono ?_); rintro e w5 ⟨v266, rfl, ho0, hb⟩; refine ⟨_, rfl, ?_⟩; have n0_ := Aside0.mk (Kd.R_lower ho0 (below_size qB10)); have n1_ := Aside0.mk (below_step qB10 hb); clear HB; have HO267 := n0_; have HB := n1_; clear n0_ n1_; (try clear hb); (try clear hb2); (try clear hk); (try clear hi); (try clear ho0); obtain ⟨go6, co6, eo6, hb_, hl_, _⟩ := Kd.R_form HO267.out HD2.out; subst eo6; have HG := Aside0.mk hb_; clear hb_ hl_) | ((with_reducible refine gate_callee (f := 76) rfl ?_); refine goesL_ (some 10) rfl rfl Try.func76 (by kernel_rfl) rfl #[.slice (some ⟨go6, 0, none⟩) t265.length co6] rfl qB9 ?_; refine (hdp_sort qB14 HD3.out).mono ?_; rintro e wS_ ⟨rfl, h1_, h2_⟩; refine ⟨_, rfl, ?_⟩; have n0_ := Aside0.mk h1_; have n1_ := Aside0.mk (Below.grown qB10 h2_ (below_size qB10) (fun k_ e_ => by cases e_; exact HG.out)); clear HO267 HB; have HO267 := n0_; have HB := n1_; clear n0_ n1_ h1_ h2_) | ((with_reducible refine gate_callee (f := 77) rfl ?_); refine goesL_ (some 12) rfl rfl Try.func77 (by kernel_rfl) rfl #[.slice (some ⟨go6, 0, none⟩) t265.length co6] rfl qB9 ?_; refine (hdp_compact2 (hdp_sorted_len t265).symm qB14 (by rw [hdp_sorted_len]; exact HD3.out)).mono ?_; rintro e wC_ ⟨v269, rfl, h1_, h2_⟩; refine ⟨_, rfl, ?_⟩; rw [hdp_compact_eq t265 HD4.out, ← HD1.out] at h1_; have n0_ := Aside0.mk h1_; have n1_ := Aside0.mk (Below.grown qB10 h2_ (below_size qB10) (fun k_ e_ => by cases e_; exact HG.out)); clear HB; have HO270 := n0_; have HB := n1_; clear n0_ n1_ h1_ h2_))
  go_ret
  exact ⟨_, by first | rfl | (simp [errW_none, errW_some] <;> rfl) | (simp [*, errW_none, errW_some] <;> rfl), by (with_reducible repeat (first | apply Kd.R_alloc | apply Kd.R_drewN | apply Kd.R_drew)); exact Kd.R_mono HO270.out (fun _ hk => trivial), by repeat (first | (with_reducible first | exact HB.out | apply below_alloc | apply pw_below_drewN | apply below_drew1) | exact HB.out)⟩

/-! ### impl_PowersOf: function 20 -/
def impl_PowersOf.f (k : Nat) (a0 : Int) (a1 : Int) : Option (List Int × Int) := (impl_isPrime.f k a0).bind fun t271 => (if t271 = true then ((impl_isExponent.f a1).bind fun t272 => (if t272 = true then ((impl_differentPowers.f k a0 a1).bind fun t273 => (some (t273, 0))) else (some (([] : List Int), 2)))) else (some (([] : List Int), 2)))
theorem impl_PowersOf.mono : ∀ a0 a1 k, LeO (impl_PowersOf.f k a0 a1) (impl_PowersOf.f (k + 1) a0 a1) := by
  intro a0 a1 k
  unfold impl_PowersOf.f
  repeat' first
      | (with_reducible exact impl_differentPowers.mono _ _ _)
      | (with_reducible exact impl_isPrime.mono _ _)
      | (with_reducible exact LeO.refl _)
      | (with_reducible exact LeO.none _)
      | (with_reducible refine LeO.ite ?_ ?_)
      | (with_reducible refine LeO.bind ?_ (fun _ => ?_))
      | exact impl_differentPowers.mono _ _ _
      | exact impl_isPrime.mono _ _
      | exact LeO.none _
      | refine LeO.ite ?_ ?_
      | refine LeO.bind ?_ (fun _ => ?_)
set_option maxHeartbeats 8000000 in
set_option maxRecDepth 100000 in
theorem impl_PowersOf.calls (k : Nat) (a0 : Int) (a1 : Int) (r1 : List Int) (r2 : Int) (w : World) (h : impl_PowersOf.f k a0 a1 = some (r1, r2)) :
    Calls Try.prog 20 #[.int .i64 a0, .int .i64 a1] w fun e w' => ∃ v0_ : Value, e = .returned (.tuple #[v0_, .int .i64 r2]) ∧ Kd.R (Kd.int .i64) 2 w' w.heap.size (fun _ => True) v0_ r1 ∧ Below w.heap.size w w' := by
  have HB := Aside0.mk (Below.refl w.heap.size w)
  have H : ((impl_isPrime.f k a0).bind fun t271 => (if t271 = true then ((impl_isExponent.f a1).bind fun t272 => (if t272 = true then ((impl_differentPowers.f k a0 a1).bind fun t273 => (some (t273, 0))) else (some (([] : List Int), 2)))) else (some (([] : List Int), 2)))) = some (r1, r2) := h
  clear h
  replace H := Option.bind_eq_some_iff.mp H
  obtain ⟨t271, A30, H⟩ := H
  replace H : (if t271 = true then ((impl_isExponent.f a1).bind fun t272 => (if t272 = true then ((impl_differentPowers.f k a0 a1).bind fun t273 => (some (t273, 0))) else (some (([] : List Int), 2)))) else (some (([] : List Int), 2))) = some (r1, r2) := H
  have A3 := Aside0.mk A30
  clear A30
  by_cases c4 : t271 = true
  · subst c4
    have H1 : ((impl_isExponent.f a1).bind fun t272 => (if t272 = true then ((impl_differentPowers.f k a0 a1).bind fun t273 => (some (t273, 0))) else (some (([] : List Int), 2)))) = some (r1, r2) := by rw [if_pos rfl] at H; exact H
    clear H
    have H := H1
    clear H1
    replace H := Option.bind_eq_some_iff.mp H
    obtain ⟨t272, A50, H⟩ := H
    replace H : (if t272 = true then ((impl_differentPowers.f k a0 a1).bind fun t273 => (some (t273, 0))) else (some (([] : List Int), 2))) = some (r1, r2) := H
    have A5 := Aside0.mk A50
    clear A50
    by_cases c6 : t272 = true
    · subst c6
      have H1 : ((impl_differentPowers.f k a0 a1).bind fun t273 => (some (t273, 0))) = some (r1, r2) := by rw [if_pos rfl] at H; exact H
      clear H
      have H := H1
      clear H1
      replace H := Option.bind_eq_some_iff.mp H
      obtain ⟨t273, A70, H⟩ := H
      replace H : (some (t273, 0)) = some (r1, r2) := H
      have A7 := Aside0.mk A70
      clear A70
      simp only [Option.some.injEq, Prod.mk.injEq] at H
      obtain ⟨rfl, rfl⟩ := H
      go_enter Try.func20, Try.ntmps20
      go_wp2_with (first | ((with_reducible refine gate_callee (f := 46) rfl ?_); refine goesL_ (some 7) rfl rfl Try.func46 (by kernel_rfl) rfl #[.int .i64 a0] rfl qB9 ?_; (with_reducible refine (impl_isPrime.calls k a0 true _ A3.out).mono ?_); rintro e w' ⟨rfl, ⟨nd, rfl⟩⟩; refine ⟨_, rfl, ?_⟩) | (go_at_call 47; (with_reducible refine (impl_isExponent.calls a1 true _ A5.out).mono ?_); rintro e w' ⟨rfl, ⟨nd, rfl⟩⟩) | ((with_reducible refine gate_callee (f := 48) rfl ?_); refine goesL_ (some 16) rfl rfl Try.func48 (by kernel_rfl) rfl #[.int .i64 a0, .int .i64 a1] rfl qB9 ?_; (with_reducible refine (impl_differentPowers.calls k a0 a1 t273 _ A7.out).mono ?_); rintro e w8 ⟨v274, rfl, ho0, hb⟩; refine ⟨_, rfl, ?_⟩; have n0_ := Aside0.mk (Kd.R_lower ho0 (below_size qB10)); have n1_ := Aside0.mk (below_step qB10 hb); clear HB; have HO275 := n0_; have HB := n1_; clear n0_ n1_; (try clear hb); (try clear hb2); (try clear hk); (try clear hi); (try clear ho0)))
      go_ret2
      exact ⟨_, by first | rfl | (simp [errW_none, errW_some] <;> rfl) | (simp [*, errW_none, errW_some] <;> rfl), by (with_reducible repeat (first | apply Kd.R_alloc | apply Kd.R_drewN | apply Kd.R_drew)); exact HO275.out, by repeat (first | (with_reducible first | exact HB.out | apply below_alloc | apply pw_below_drewN | apply below_drew1) | exact HB.out)⟩
    · replace c6 := Bool.eq_false_iff.mpr c6
      subst c6
      have H1 : (some (([] : List Int), 2)) = some (r1, r2) := by rw [if_neg (show ¬ (false = true) by decide)] at H; exact H
      clear H
      have H := H1
      clear H1
      simp only [Option.some.injEq, Prod.mk.injEq] at H
      obtain ⟨rfl, rfl⟩ := H
      go_enter Try.func20, Try.ntmps20
      go_wp2_with (first | ((with_reducible refine gate_callee (f := 46) rfl ?_); refine goesL_ (some 7) rfl rfl Try.func46 (by kernel_rfl) rfl #[.int .i64 a0] rfl qB9 ?_; (with_reducible refine (impl_isPrime.calls k a0 true _ A3.out).mono ?_); rintro e w' ⟨rfl, ⟨nd, rfl⟩⟩; refine ⟨_, rfl, ?_⟩) | (go_at_call 47; (with_reducible refine (impl_isExponent.calls a1 false _ A5.out).mono ?_); rintro e w' ⟨rfl, ⟨nd, rfl⟩⟩))
      go_ret2
      exact ⟨_, by first | rfl | (simp [errW_none, errW_some] <;> rfl) | (simp [*, errW_none, errW_some] <;> rfl), by first | exact Kd.R_nil _ _ _ _ _ | exact Kd.N_nil _ _ _ _ _ | exact Kd.V_nil _ _ _ _ _ | exact Kd.Q_nil _ _ _ _ _ | exact Kd.S_nil _ _ _ _ _, by repeat (first | (with_reducible first | exact HB.out | apply below_alloc | apply pw_below_drewN | apply below_drew1) | exact HB.out)⟩
  · replace c4 := Bool.eq_false_iff.mpr c4
    subst c4
    have H1 : (some (([] : List Int), 2)) = some (r1, r2) := by rw [if_neg (show ¬ (false = true) by decide)] at H; exact H
    clear H
    have H := H1
    clear H1
    simp only [Option.some.injEq, Prod.mk.injEq] at H
    obtain ⟨rfl, rfl⟩ := H
    go_enter Try.func20, Try.ntmps20
    go_wp2_with (first | ((with_reducible refine gate_callee (f := 46) rfl ?_); refine goesL_ (some 7) rfl rfl Try.func46 (by kernel_rfl) rfl #[.int .i64 a0] rfl qB9 ?_; (with_reducible refine (impl_isPrime.calls k a0 false _ A3.out).mono ?_); rintro e w' ⟨rfl, ⟨nd, rfl⟩⟩; refine ⟨_, rfl, ?_⟩))
    go_ret2
    exact ⟨_, by first | rfl | (simp [errW_none, errW_some] <;> rfl) | (simp [*, errW_none, errW_some] <;> rfl), by first | exact Kd.R_nil _ _ _ _ _ | exact Kd.N_nil _ _ _ _ _ | exact Kd.V_nil _ _ _ _ _ | exact Kd.Q_nil _ _ _ _ _ | exact Kd.S_nil _ _ _ _ _, by repeat (first | (with_reducible first | exact HB.out | apply below_alloc | apply pw_below_drewN | apply below_drew1) | exact HB.out)⟩

/-! ### laws_FnExactPowersOf: function 5 -/
mutual
def laws_FnExactPowersOf.j0 : Nat → Int → Int → List Int → Int → List Int → Bool → Option (Bool)
  | 0, _, _, _, _, _, _ => none
  | k + 1, x0, x1, x5, x6, x7, x33 => if x33 = true then (some false) else ((laws_markInt64S.f k x7 1).bind fun bt285 => ((laws_heldInt64S.f k bt285.2 1).bind fun t287 => (if t287 < 0 then (some false) else (if t287 = bt285.1 then ((impl_PowersOf.f k x0 x1).bind fun bt288 => ((laws_eqInt64S.f k bt288.1 x5).bind fun t292 => (if t292 = true then (laws_FnExactPowersOf.j1 k bt285.2 bt285.1 (bt288.2 != x6)) else (laws_FnExactPowersOf.j1 k bt285.2 bt285.1 true)))) else (some false)))))
def laws_FnExactPowersOf.j1 : Nat → List Int → Int → Bool → Option (Bool)
  | 0, _, _, _ => none
  | k + 1, x7, x9, x59 => if x59 = true then (some false) else ((laws_heldInt64S.f k x7 1).bind fun t293 => (if t293 < 0 then (some false) else (if t293 = x9 then (some true) else (some false))))
end
def laws_FnExactPowersOf.f (k : Nat) (a0 : Int) (a1 : Int) : Option (Bool) := (spec_PowersOf.f k a0 a1).bind fun bt276 => ((impl_PowersOf.f k a0 a1).bind fun bt280 => ((laws_eqInt64S.f k bt280.1 bt276.1).bind fun t284 => (if t284 = true then (laws_FnExactPowersOf.j0 k a0 a1 bt276.1 bt276.2 bt280.1 (bt280.2 != bt276.2)) else (laws_FnExactPowersOf.j0 k a0 a1 bt276.1 bt276.2 bt280.1 true))))
theorem laws_FnExactPowersOf.mono_l : ∀ k, (∀ y0 y1 y2 y3 y4 y5, LeO (laws_FnExactPowersOf.j0 k y0 y1 y2 y3 y4 y5) (laws_FnExactPowersOf.j0 (k + 1) y0 y1 y2 y3 y4 y5)) ∧ (∀ y0 y1 y2, LeO (laws_FnExactPowersOf.j1 k y0 y1 y2) (laws_FnExactPowersOf.j1 (k + 1) y0 y1 y2))
  | 0 => ⟨fun _ _ _ _ _ _ r h => by simp [laws_FnExactPowersOf.j0] at h, fun _ _ _ r h => by simp [laws_FnExactPowersOf.j1] at h⟩
  | k + 1 => by
    obtain ⟨ih0, ih1⟩ := laws_FnExactPowersOf.mono_l k
    refine ⟨?_, ?_⟩
    · intro y0 y1 y2 y3 y4 y5
      unfold laws_FnExactPowersOf.j0
      repeat' first
      | (with_reducible exact ih0 _ _ _ _ _ _)
      | (with_reducible exact ih1 _ _ _)
      | (with_reducible exact impl_PowersOf.mono _ _ _)
      | (with_reducible exact laws_eqInt64S.mono _ _ _)
      | (with_reducible exact laws_heldInt64S.mono _ _ _)
      | (with_reducible exact laws_markInt64S.mono _ _ _)
      | (with_reducible exact spec_PowersOf.mono _ _ _)
      | (with_reducible exact LeO.refl _)
      | (with_reducible exact LeO.none _)
      | (with_reducible refine LeO.ite ?_ ?_)
      | (with_reducible refine LeO.bind ?_ (fun _ => ?_))
      | exact ih0 _ _ _ _ _ _
      | exact ih1 _ _ _
      | exact impl_PowersOf.mono _ _ _
      | exact laws_eqInt64S.mono _ _ _
      | exact laws_heldInt64S.mono _ _ _
      | exact laws_markInt64S.mono _ _ _
      | exact spec_PowersOf.mono _ _ _
      | exact LeO.none _
      | refine LeO.ite ?_ ?_
      | refine LeO.bind ?_ (fun _ => ?_)
    · intro y0 y1 y2
      unfold laws_FnExactPowersOf.j1
      repeat' first
      | (with_reducible exact ih0 _ _ _ _ _ _)
      | (with_reducible exact ih1 _ _ _)
      | (with_reducible exact impl_PowersOf.mono _ _ _)
      | (with_reducible exact laws_eqInt64S.mono _ _ _)
      | (with_reducible exact laws_heldInt64S.mono _ _ _)
      | (with_reducible exact laws_markInt64S.mono _ _ _)
      | (with_reducible exact spec_PowersOf.mono _ _ _)
      | (with_reducible exact LeO.refl _)
      | (with_reducible exact LeO.none _)
      | (with_reducible refine LeO.ite ?_ ?_)
      | (with_reducible refine LeO.bind ?_ (fun _ => ?_))
      | exact ih0 _ _ _ _ _ _
      | exact ih1 _ _ _
      | exact impl_PowersOf.mono _ _ _
      | exact laws_eqInt64S.mono _ _ _
      | exact laws_heldInt64S.mono _ _ _
      | exact laws_markInt64S.mono _ _ _
      | exact spec_PowersOf.mono _ _ _
      | exact LeO.none _
      | refine LeO.ite ?_ ?_
      | refine LeO.bind ?_ (fun _ => ?_)
theorem laws_FnExactPowersOf.mono : ∀ a0 a1 k, LeO (laws_FnExactPowersOf.f k a0 a1) (laws_FnExactPowersOf.f (k + 1) a0 a1) := by
  intro a0 a1 k
  obtain ⟨ih0, ih1⟩ := laws_FnExactPowersOf.mono_l k
  unfold laws_FnExactPowersOf.f
  repeat' first
      | (with_reducible exact ih0 _ _ _ _ _ _)
      | (with_reducible exact ih1 _ _ _)
      | (with_reducible exact impl_PowersOf.mono _ _ _)
      | (with_reducible exact laws_eqInt64S.mono _ _ _)
      | (with_reducible exact laws_heldInt64S.mono _ _ _)
      | (with_reducible exact laws_markInt64S.mono _ _ _)
      | (with_reducible exact spec_PowersOf.mono _ _ _)
      | (with_reducible exact LeO.refl _)
      | (with_reducible exact LeO.none _)
      | (with_reducible refine LeO.ite ?_ ?_)
      | (with_reducible refine LeO.bind ?_ (fun _ => ?_))
      | exact ih0 _ _ _ _ _ _
      | exact ih1 _ _ _
      | exact impl_PowersOf.mono _ _ _
      | exact laws_eqInt64S.mono _ _ _
      | exact laws_heldInt64S.mono _ _ _
      | exact laws_markInt64S.mono _ _ _
      | exact spec_PowersOf.mono _ _ _
      | exact LeO.none _
      | refine LeO.ite ?_ ?_
      | refine LeO.bind ?_ (fun _ => ?_)
set_option maxHeartbeats 8000000 in
set_option maxRecDepth 100000 in
theorem laws_FnExactPowersOf.calls (k : Nat) (a0 : Int) (a1 : Int) (r : Bool) (w : World) (h : laws_FnExactPowersOf.f k a0 a1 = some r) :
    Calls Try.prog 5 #[.int .i64 a0, .int .i64 a1] w fun e w' => e = .returned (.bool r) ∧ Below w.heap.size w w' := by
  have HB := Aside0.mk (Below.refl w.heap.size w)
  have H : ((spec_PowersOf.f k a0 a1).bind fun bt276 => ((impl_PowersOf.f k a0 a1).bind fun bt280 => ((laws_eqInt64S.f k bt280.1 bt276.1).bind fun t284 => (if t284 = true then (laws_FnExactPowersOf.j0 k a0 a1 bt276.1 bt276.2 bt280.1 (bt280.2 != bt276.2)) else (laws_FnExactPowersOf.j0 k a0 a1 bt276.1 bt276.2 bt280.1 true))))) = some r := h
  clear h
  replace H := Option.bind_eq_some_iff.mp H
  obtain ⟨⟨t276, t277⟩, A30, H⟩ := H
  replace H : ((impl_PowersOf.f k a0 a1).bind fun bt280 => ((laws_eqInt64S.f k bt280.1 t276).bind fun t284 => (if t284 = true then (laws_FnExactPowersOf.j0 k a0 a1 t276 t277 bt280.1 (bt280.2 != t277)) else (laws_FnExactPowersOf.j0 k a0 a1 t276 t277 bt280.1 true)))) = some r := H
  have A3 := Aside0.mk A30
  clear A30
  replace H := Option.bind_eq_some_iff.mp H
  obtain ⟨⟨t280, t281⟩, A40, H⟩ := H
  replace H : ((laws_eqInt64S.f k t280 t276).bind fun t284 => (if t284 = true then (laws_FnExactPowersOf.j0 k a0 a1 t276 t277 t280 (t281 != t277)) else (laws_FnExactPowersOf.j0 k a0 a1 t276 t277 t280 true))) = some r := H
  have A4 := Aside0.mk A40
  clear A40
  have HC5 := Aside0.mk H
  clear H
  go_enter Try.func5, Try.ntmps5
  go_upto_region 3 with (first | ((with_reducible refine gate_callee (f := 19) rfl ?_); refine goesL_ (some 16) rfl rfl Try.func19 (by kernel_rfl) rfl #[.int .i64 a0, .int .i64 a1] rfl qB9 ?_; (with_reducible refine (spec_PowersOf.calls k a0 a1 t276 t277 _ A3.out).mono ?_); rintro e w6 ⟨v278, rfl, ho0, hb⟩; refine ⟨_, rfl, ?_⟩; have n0_ := Aside0.mk (Kd.R_lower ho0 (below_size qB10)); have n1_ := Aside0.mk (below_step qB10 hb); clear HB; have HO279 := n0_; have HB := n1_; clear n0_ n1_; (try clear hb); (try clear hb2); (try clear hk); (try clear hi); (try clear ho0)) | ((with_reducible refine gate_callee (f := 20) rfl ?_); refine goesL_ (some 22) rfl rfl Try.func20 (by kernel_rfl) rfl #[.int .i64 a0, .int .i64 a1] rfl qB9 ?_; (with_reducible refine (impl_PowersOf.calls k a0 a1 t280 t281 _ A4.out).mono ?_); rintro e w7 ⟨v282, rfl, ho0, hb⟩; refine ⟨_, rfl, ?_⟩; have n0_ := Aside0.mk (Kd.R_elder' qB15 (Kd.R_base ho0) hb); have n1_ := Aside0.mk (Kd.R_lower (Kd.R_new' ho0 (Kd.R_lt qB15)) (below_size qB10)); have n2_ := Aside0.mk (below_step qB10 hb); clear HO279; clear HB; have HO279 := n0_; have HO283 := n1_; have HB := n2_; clear n0_ n1_ n2_; (try clear hb); (try clear hb2); (try clear hk); (try clear hi); (try clear ho0)))
  (try simp only [Act.put, List.setIfInBounds_toArray, List.set_cons_zero, List.set_cons_succ])
  go_cut [33] (fun v33 wc => ∃ (kq : Nat) (x33_4 : Bool), v33 = .bool x33_4 ∧ Aside0 (laws_FnExactPowersOf.j0 kq a0 a1 t276 t277 t280 x33_4 = some r) ∧ Aside0 (kq ≤ k) ∧ Aside0 (Kd.R (Kd.int .i64) 2 wc w.heap.size (fun k_ => some k_ ≠ (v282 : Value).ownBlock) v278 t276) ∧ Aside0 (Kd.R (Kd.int .i64) 2 wc w.heap.size (fun k_ => some k_ ≠ (v278 : Value).ownBlock) v282 t280) ∧ Aside0 (Below w.heap.size w wc))
  case first =>
    have H := HC5.out
    clear HC5
    replace H := Option.bind_eq_some_iff.mp H
    obtain ⟨t284, A80, H⟩ := H
    replace H : (if t284 = true then (laws_FnExactPowersOf.j0 k a0 a1 t276 t277 t280 (t281 != t277)) else (laws_FnExactPowersOf.j0 k a0 a1 t276 t277 t280 true)) = some r := H
    have A8 := Aside0.mk A80
    clear A80
    by_cases c9 : t284 = true
    · subst c9
      have H1 : (laws_FnExactPowersOf.j0 k a0 a1 t276 t277 t280 (t281 != t277)) = some r := by rw [if_pos rfl] at H; exact H
      clear H
      have H := H1
      clear H1
      have H' := Aside0.mk H
      clear H
      obtain ⟨Ao10, co10, eo10⟩ := Kd.R_slice HO283.out
      subst eo10
      obtain ⟨Ao11, co11, eo11⟩ := Kd.R_slice HO279.out
      subst eo11
      go_wp2_with (first | ((with_reducible refine gate_callee (f := 10) rfl ?_); refine goesL_ (some 27) rfl rfl Try.func10 (by kernel_rfl) rfl #[.slice Ao10 t280.length co10, .slice Ao11 t276.length co11] rfl qB9 ?_; (with_reducible refine (laws_eqInt64S.calls k _ _ t280 _ _ t276 true _ ?side1 ?side2 ?side3 ?side4 A8.out).mono ?_); (case side1 => repeat (first | exact (Kd.R_reads' HO283.out).2.2 | (with_reducible refine Kd.C_alloc ?_ _) | (with_reducible refine Kd.C_drewN ?_ _) | (with_reducible refine Kd.C_drew ?_))); (case side2 => exact (Kd.R_reads' HO283.out).2.1); (case side3 => repeat (first | exact (Kd.R_reads' HO279.out).2.2 | (with_reducible refine Kd.C_alloc ?_ _) | (with_reducible refine Kd.C_drewN ?_ _) | (with_reducible refine Kd.C_drew ?_))); (case side4 => exact (Kd.R_reads' HO279.out).2.1); rintro e w' ⟨rfl, ⟨nd, rfl⟩⟩; refine ⟨_, rfl, ?_⟩))
      go_meet
      case rel => exact ⟨_, ((t281 != t277)), qB20, H', ⟨by first | omega | exact Nat.le_refl _⟩, ⟨by (with_reducible repeat (first | apply Kd.R_alloc | apply Kd.R_drewN | apply Kd.R_drew)); exact Kd.R_mono HO279.out (fun _ hk => hk.2)⟩, ⟨by (with_reducible repeat (first | apply Kd.R_alloc | apply Kd.R_drewN | apply Kd.R_drew)); exact Kd.R_mono HO283.out (fun _ hk => hk.2)⟩, ⟨by repeat (first | (with_reducible first | exact HB.out | apply below_alloc | apply pw_below_drewN | apply below_drew1) | exact HB.out)⟩⟩
    · replace c9 := Bool.eq_false_iff.mpr c9
      subst c9
      have H1 : (laws_FnExactPowersOf.j0 k a0 a1 t276 t277 t280 true) = some r := by rw [if_neg (show ¬ (false = true) by decide)] at H; exact H
      clear H
      have H := H1
      clear H1
      have H' := Aside0.mk H
      clear H
      obtain ⟨Ao12, co12, eo12⟩ := Kd.R_slice HO283.out
      subst eo12
      obtain ⟨Ao13, co13, eo13⟩ := Kd.R_slice HO279.out
      subst eo13
      go_wp2_with (first | ((with_reducible refine gate_callee (f := 10) rfl ?_); refine goesL_ (some 27) rfl rfl Try.func10 (by kernel_rfl) rfl #[.slice Ao12 t280.length co12, .slice Ao13 t276.length co13] rfl qB9 ?_; (with_reducible refine (laws_eqInt64S.calls k _ _ t280 _ _ t276 false _ ?side1 ?side2 ?side3 ?side4 A8.out).mono ?_); (case side1 => repeat (first | exact (Kd.R_reads' HO283.out).2.2 | (with_reducible refine Kd.C_alloc ?_ _) | (with_reducible refine Kd.C_drewN ?_ _) | (with_reducible refine Kd.C_drew ?_))); (case side2 => exact (Kd.R_reads' HO283.out).2.1); (case side3 => repeat (first | exact (Kd.R_reads' HO279.out).2.2 | (with_reducible refine Kd.C_alloc ?_ _) | (with_reducible refine Kd.C_drewN ?_ _) | (with_reducible refine Kd.C_drew ?_))); (case side4 => exact (Kd.R_reads' HO279.out).2.1); rintro e w' ⟨rfl, ⟨nd, rfl⟩⟩; refine ⟨_, rfl, ?_⟩))
      go_meet
      case rel => exact ⟨_, (true), qB20, H', ⟨by first | omega | exact Nat.le_refl _⟩, ⟨by (with_reducible repeat (first | apply Kd.R_alloc | apply Kd.R_drewN | apply Kd.R_drew)); exact Kd.R_mono HO279.out (fun _ hk => hk.2)⟩, ⟨by (with_reducible repeat (first | apply Kd.R_alloc | apply Kd.R_drewN | apply Kd.R_drew)); exact Kd.R_mono HO283.out (fun _ hk => hk.2)⟩, ⟨by repeat (first | (with_reducible first | exact HB.out | apply below_alloc | apply pw_below_drewN | apply below_drew1) | exact HB.out)⟩⟩
  case rest =>
    clear HC5
    try clear c1
    try clear c2
    try clear p2
    try clear c5
    try clear c9
    try clear c10
    obtain ⟨kq, x33_4, rfl, HA, HJ4, HO_5, HO_7, HB⟩ := hcut
    cases kq with
    | zero => exact absurd HA.out (by simp [laws_FnExactPowersOf.j0])
    | succ kj4 =>
      have H := HA.out
      clear HA
      simp only [laws_FnExactPowersOf.j0] at H
      by_cases c14 : x33_4 = true
      · subst c14
        have H1 : (some false) = some r := by rw [if_pos rfl] at H; exact H
        clear H
        have H := H1
        clear H1
        obtain rfl := Option.some.inj H
        go_wp2
        go_ret
        exact ⟨by first | rfl | (simp [errW_none, errW_some] <;> rfl) | (simp [*, errW_none, errW_some] <;> rfl), by repeat (first | (with_reducible first | exact HB.out | apply below_alloc | apply pw_below_drewN | apply below_drew1) | exact HB.out)⟩
      · replace c14 := Bool.eq_false_iff.mpr c14
        subst c14
        have H1 : ((laws_markInt64S.f kj4 t280 1).bind fun bt285 => ((laws_heldInt64S.f kj4 bt285.2 1).bind fun t287 => (if t287 < 0 then (some false) else (if t287 = bt285.1 then ((impl_PowersOf.f kj4 a0 a1).bind fun bt288 => ((laws_eqInt64S.f kj4 bt288.1 t276).bind fun t292 => (if t292 = true then (laws_FnExactPowersOf.j1 kj4 bt285.2 bt285.1 (bt288.2 != t277)) else (laws_FnExactPowersOf.j1 kj4 bt285.2 bt285.1 true)))) else (some false))))) = some r := by rw [if_neg (show ¬ (false = true) by decide)] at H; exact H
        clear H
        have H := H1
        clear H1
        replace H := Option.bind_eq_some_iff.mp H
        obtain ⟨⟨t285, t286⟩, A150, H⟩ := H
        replace H : ((laws_heldInt64S.f kj4 t286 1).bind fun t287 => (if t287 < 0 then (some false) else (if t287 = t285 then ((impl_PowersOf.f kj4 a0 a1).bind fun bt288 => ((laws_eqInt64S.f kj4 bt288.1 t276).bind fun t292 => (if t292 = true then (laws_FnExactPowersOf.j1 kj4 t286 t285 (bt288.2 != t277)) else (laws_FnExactPowersOf.j1 kj4 t286 t285 true)))) else (some false)))) = some r := H
        have A15 := Aside0.mk A150
        clear A150
        replace H := Option.bind_eq_some_iff.mp H
        obtain ⟨t287, A160, H⟩ := H
        replace H : (if t287 < 0 then (some false) else (if t287 = t285 then ((impl_PowersOf.f kj4 a0 a1).bind fun bt288 => ((laws_eqInt64S.f kj4 bt288.1 t276).bind fun t292 => (if t292 = true then (laws_FnExactPowersOf.j1 kj4 t286 t285 (bt288.2 != t277)) else (laws_FnExactPowersOf.j1 kj4 t286 t285 true)))) else (some false))) = some r := H
        have A16 := Aside0.mk A160
        clear A160
        by_cases c17 : t287 < 0
        · rw [if_pos c17] at H
          have c17b0 : decide (t287 < 0) = true := decide_eq_true c17
          clear c17
          obtain rfl := Option.some.inj H
          obtain ⟨Ao18, co18, eo18⟩ := Kd.R_slice HO_7.out
          subst eo18
          go_wp2_with (first | ((with_reducible refine gate_callee (f := 11) rfl ?_); refine goesL_ (some 36) rfl rfl Try.func11 (by kernel_rfl) rfl #[.slice Ao18 t280.length co18, .int .i64 1] rfl qB9 ?_; (with_reducible refine (laws_markInt64S.calls kj4 (fun k_ => some k_ = (.slice Ao18 t280.length co18 : Value).ownBlock) (.slice Ao18 t280.length co18) t280 1 t285 t286 w _ ?side1 ?side2 A15.out).mono ?_); (case side1 => repeat (first | (with_reducible first | exact HB.out | apply below_alloc | apply pw_below_drewN | apply below_drew1) | exact HB.out)); (case side2 => exact Kd.R_tight rfl HO_7.out); rintro e w19 ⟨rfl, hy0, hb, hkp⟩; refine ⟨_, rfl, ?_⟩; have n0_ := Aside0.mk (Kd.R_mono (ok' := fun k_ => some k_ ≠ (.slice Ao18 t280.length co18 : Value).ownBlock) (Kd.R_keptB (HO_5.out) hkp (fun k_ hk_ hs_ => (hk_) hs_)) (fun k_ hk_ => hk_.1)); have n1_ := Aside0.mk (Kd.R_reok rfl hy0 (fun k_ e_ => HO_7.out.1 k_ e_)); have n2_ := Aside0.mk (hb); clear HO_5; clear HO_7; clear HB; have HO_5 := n0_; have HO_7 := n1_; have HB := n2_; clear n0_ n1_ n2_; (try clear hb); (try clear hkp); (try clear hy0)) | ((with_reducible refine gate_callee (f := 12) rfl ?_); refine goesL_ (some 39) rfl rfl Try.func12 (by kernel_rfl) rfl #[.slice Ao18 t286.length co18, .int .i64 1] rfl qB2 ?_; (with_reducible refine (laws_heldInt64S.calls kj4 _ _ t286 1 t287 _ ?side1 ?side2 A16.out).mono ?_); (case side1 => repeat (first | exact (Kd.R_reads' HO_7.out).2.2 | (with_reducible refine Kd.C_alloc ?_ _) | (with_reducible refine Kd.C_drewN ?_ _) | (with_reducible refine Kd.C_drew ?_))); (case side2 => rw [show t286.length = t280.length from (Kd.R_reads' HO_7.out).1.symm]; exact (Kd.R_reads' HO_7.out).2.1); rintro e w' ⟨rfl, ⟨nd, rfl⟩⟩; refine ⟨_, rfl, ?_⟩))
          go_ret
          exact ⟨by first | rfl | (simp [errW_none, errW_some] <;> rfl) | (simp [*, errW_none, errW_some] <;> rfl), by repeat (first | (with_reducible first | exact HB.out | apply below_alloc | apply pw_below_drewN | apply below_drew1) | exact HB.out)⟩
        · rw [if_neg c17] at H
          have c17b0 : decide (t287 < 0) = false := decide_eq_false c17
          clear c17
          by_cases c20 : t287 = t285
          · rw [if_pos c20] at H
            have c20b0 : (t287 == t285) = true := beq_iff_eq.mpr c20
            have c20b1 : (t287 != t285) = false := bne_eq_false_iff_eq.mpr c20
            clear c20
            replace H := Option.bind_eq_some_iff.mp H
            obtain ⟨⟨t288, t289⟩, A210, H⟩ := H
            replace H : ((laws_eqInt64S.f kj4 t288 t276).bind fun t292 => (if t292 = true then (laws_FnExactPowersOf.j1 kj4 t286 t285 (t289 != t277)) else (laws_FnExactPowersOf.j1 kj4 t286 t285 true))) = some r := H
            have A21 := Aside0.mk A210
            clear A210
            have HC22 := Aside0.mk H
            clear H
            obtain ⟨Ao23, co23, eo23⟩ := Kd.R_slice HO_7.out
            subst eo23
            go_upto_region 14 with (first | ((with_reducible refine gate_callee (f := 11) rfl ?_); refine goesL_ (some 36) rfl rfl Try.func11 (by kernel_rfl) rfl #[.slice Ao23 t280.length co23, .int .i64 1] rfl qB9 ?_; (with_reducible refine (laws_markInt64S.calls kj4 (fun k_ => some k_ = (.slice Ao23 t280.length co23 : Value).ownBlock) (.slice Ao23 t280.length co23) t280 1 t285 t286 w _ ?side1 ?side2 A15.out).mono ?_); (case side1 => repeat (first | (with_reducible first | exact HB.out | apply below_alloc | apply pw_below_drewN | apply below_drew1) | exact HB.out)); (case side2 => exact Kd.R_tight rfl HO_7.out); rintro e w24 ⟨rfl, hy0, hb, hkp⟩; refine ⟨_, rfl, ?_⟩; have n0_ := Aside0.mk (Kd.R_mono (ok' := fun k_ => some k_ ≠ (.slice Ao23 t280.length co23 : Value).ownBlock) (Kd.R_keptB (HO_5.out) hkp (fun k_ hk_ hs_ => (hk_) hs_)) (fun k_ hk_ => hk_.1)); have n1_ := Aside0.mk (Kd.R_reok rfl hy0 (fun k_ e_ => HO_7.out.1 k_ e_)); have n2_ := Aside0.mk (hb); clear HO_5; clear HO_7; clear HB; have HO_5 := n0_; have HO_7 := n1_; have HB := n2_; clear n0_ n1_ n2_; (try clear hb); (try clear hkp); (try clear hy0)) | ((with_reducible refine gate_callee (f := 12) rfl ?_); refine goesL_ (some 39) rfl rfl Try.func12 (by kernel_rfl) rfl #[.slice Ao23 t286.length co23, .int .i64 1] rfl qB2 ?_; (with_reducible refine (laws_heldInt64S.calls kj4 _ _ t286 1 t287 _ ?side1 ?side2 A16.out).mono ?_); (case side1 => repeat (first | exact (Kd.R_reads' HO_7.out).2.2 | (with_reducible refine Kd.C_alloc ?_ _) | (with_reducible refine Kd.C_drewN ?_ _) | (with_reducible refine Kd.C_drew ?_))); (case side2 => rw [show t286.length = t280.length from (Kd.R_reads' HO_7.out).1.symm]; exact (Kd.R_reads' HO_7.out).2.1); rintro e w' ⟨rfl, ⟨nd, rfl⟩⟩; refine ⟨_, rfl, ?_⟩) | ((with_reducible refine gate_callee (f := 20) rfl ?_); refine goesL_ (some 48) rfl rfl Try.func20 (by kernel_rfl) rfl #[.int .i64 a0, .int .i64 a1] rfl qB9 ?_; (with_reducible refine (impl_PowersOf.calls kj4 a0 a1 t288 t289 _ A21.out).mono ?_); rintro e w25 ⟨v290, rfl, ho0, hb⟩; refine ⟨_, rfl, ?_⟩; have n0_ := Aside0.mk (Kd.R_elder' qB17 (Kd.R_base ho0) hb); have n1_ := Aside0.mk (Kd.R_elder' qB16 (Kd.R_base ho0) hb); have n2_ := Aside0.mk (Kd.R_lower (Kd.R_new' (Kd.R_new' ho0 (Kd.R_lt qB17)) (Kd.R_lt qB16)) (below_size qB10)); have n3_ := Aside0.mk (below_step qB10 hb); clear HO_5; clear HO_7; clear HB; have HO_5 := n0_; have HO_7 := n1_; have HO291 := n2_; have HB := n3_; clear n0_ n1_ n2_ n3_; (try clear hb); (try clear hb2); (try clear hk); (try clear hi); (try clear ho0)))
            (try simp only [Act.put, List.setIfInBounds_toArray, List.set_cons_zero, List.set_cons_succ])
            go_cut [59] (fun v59 wc => ∃ (kq : Nat) (x59_21 : Bool), v59 = .bool x59_21 ∧ Aside0 (laws_FnExactPowersOf.j1 kq t286 t285 x59_21 = some r) ∧ Aside0 (kq ≤ kj4) ∧ Aside0 (Kd.R (Kd.int .i64) 2 wc w.heap.size (fun _ => True) (.slice Ao23 t280.length co23) t286) ∧ Aside0 (Below w.heap.size w wc))
            case first =>
              have H := HC22.out
              clear HC22
              replace H := Option.bind_eq_some_iff.mp H
              obtain ⟨t292, A260, H⟩ := H
              replace H : (if t292 = true then (laws_FnExactPowersOf.j1 kj4 t286 t285 (t289 != t277)) else (laws_FnExactPowersOf.j1 kj4 t286 t285 true)) = some r := H
              have A26 := Aside0.mk A260
              clear A260
              by_cases c27 : t292 = true
              · subst c27
                have H1 : (laws_FnExactPowersOf.j1 kj4 t286 t285 (t289 != t277)) = some r := by rw [if_pos rfl] at H; exact H
                clear H
                have H := H1
                clear H1
                have H' := Aside0.mk H
                clear H
                obtain ⟨Ao28, co28, eo28⟩ := Kd.R_slice HO291.out
                subst eo28
                obtain ⟨Ao29, co29, eo29⟩ := Kd.R_slice HO_5.out
                subst eo29
                go_wp2_with (first | ((with_reducible refine gate_callee (f := 10) rfl ?_); refine goesL_ (some 53) rfl rfl Try.func10 (by kernel_rfl) rfl #[.slice Ao28 t288.length co28, .slice Ao29 t276.length co29] rfl qB9 ?_; (with_reducible refine (laws_eqInt64S.calls kj4 _ _ t288 _ _ t276 true _ ?side1 ?side2 ?side3 ?side4 A26.out).mono ?_); (case side1 => repeat (first | exact (Kd.R_reads' HO291.out).2.2 | (with_reducible refine Kd.C_alloc ?_ _) | (with_reducible refine Kd.C_drewN ?_ _) | (with_reducible refine Kd.C_drew ?_))); (case side2 => exact (Kd.R_reads' HO291.out).2.1); (case side3 => repeat (first | exact (Kd.R_reads' HO_5.out).2.2 | (with_reducible refine Kd.C_alloc ?_ _) | (with_reducible refine Kd.C_drewN ?_ _) | (with_reducible refine Kd.C_drew ?_))); (case side4 => exact (Kd.R_reads' HO_5.out).2.1); rintro e w' ⟨rfl, ⟨nd, rfl⟩⟩; refine ⟨_, rfl, ?_⟩))
                go_meet
                case rel => exact ⟨_, ((t289 != t277)), qB20, H', ⟨by have := HJ4.out; first | omega | exact Nat.le_refl _⟩, ⟨by (with_reducible repeat (first | apply Kd.R_alloc | apply Kd.R_drewN | apply Kd.R_drew)); exact Kd.R_mono HO_7.out (fun _ hk => trivial)⟩, ⟨by repeat (first | (with_reducible first | exact HB.out | apply below_alloc | apply pw_below_drewN | apply below_drew1) | exact HB.out)⟩⟩
              · replace c27 := Bool.eq_false_iff.mpr c27
                subst c27
                have H1 : (laws_FnExactPowersOf.j1 kj4 t286 t285 true) = some r := by rw [if_neg (show ¬ (false = true) by decide)] at H; exact H
                clear H
                have H := H1
                clear H1
                have H' := Aside0.mk H
                clear H
                obtain ⟨Ao30, co30, eo30⟩ := Kd.R_slice HO291.out
                subst eo30
                obtain ⟨Ao31, co31, eo31⟩ := Kd.R_slice HO_5.out
                subst eo31
                go_wp2_with (first | ((with_reducible refine gate_callee (f := 10) rfl ?_); refine goesL_ (some 53) rfl rfl Try.func10 (by kernel_rfl) rfl #[.slice Ao30 t288.length co30, .slice Ao31 t276.length co31] rfl qB9 ?_; (with_reducible refine (laws_eqInt64S.calls kj4 _ _ t288 _ _ t276 false _ ?side1 ?side2 ?side3 ?side4 A26.out).mono ?_); (case side1 => repeat (first | exact (Kd.R_reads' HO291.out).2.2 | (with_reducible refine Kd.C_alloc ?_ _) | (with_reducible refine Kd.C_drewN ?_ _) | (with_reducible refine Kd.C_drew ?_))); (case side2 => exact (Kd.R_reads' HO291.out).2.1); (case side3 => repeat (first | exact (Kd.R_reads' HO_5.out).2.2 | (with_reducible refine Kd.C_alloc ?_ _) | (with_reducible refine Kd.C_drewN ?_ _) | (with_reducible refine Kd.C_drew ?_))); (case side4 => exact (Kd.R_reads' HO_5.out).2.1); rintro e w' ⟨rfl, ⟨nd, rfl⟩⟩; refine ⟨_, rfl, ?_⟩))
                go_meet
                case rel => exact ⟨_, (true), qB20, H', ⟨by have := HJ4.out; first | omega | exact Nat.le_refl _⟩, ⟨by (with_reducible repeat (first | apply Kd.R_alloc | apply Kd.R_drewN | apply Kd.R_drew)); exact Kd.R_mono HO_7.out (fun _ hk => trivial)⟩, ⟨by repeat (first | (with_reducible first | exact HB.out | apply below_alloc | apply pw_below_drewN | apply below_drew1) | exact HB.out)⟩⟩
            case rest =>
              clear HC22
              try clear c1
              try clear c2
              try clear p2
              try clear c5
              try clear c9
              try clear c10
              try clear c11
              try clear c12
              try clear c14
              try clear c17
              try clear c17b0
              try clear c19
              try clear c20
              try clear c20b0
              try clear c20b1
              try clear c27
              try clear p2
              obtain ⟨kq, x59_21, rfl, HA, HJ21, HO_7, HB⟩ := hcut
              have hl7_21 := (Kd.R_reads' HO_7.out).1
              rw [hl7_21] at HO_7
              (try simp only [hl7_21])
              cases kq with
              | zero => exact absurd HA.out (by simp [laws_FnExactPowersOf.j1])
              | succ kj21 =>
                have H := HA.out
                clear HA
                simp only [laws_FnExactPowersOf.j1] at H
                by_cases c32 : x59_21 = true
                · subst c32
                  have H1 : (some false) = some r := by rw [if_pos rfl] at H; exact H
                  clear H
                  have H := H1
                  clear H1
                  obtain rfl := Option.some.inj H
                  go_wp2
                  go_ret
                  exact ⟨by first | rfl | (simp [errW_none, errW_some] <;> rfl) | (simp [*, errW_none, errW_some] <;> rfl), by repeat (first | (with_reducible first | exact HB.out | apply below_alloc | apply pw_below_drewN | apply below_drew1) | exact HB.out)⟩
                · replace c32 := Bool.eq_false_iff.mpr c32
                  subst c32
                  have H1 : ((laws_heldInt64S.f kj21 t286 1).bind fun t293 => (if t293 < 0 then (some false) else (if t293 = t285 then (some true) else (some false)))) = some r := by rw [if_neg (show ¬ (false = true) by decide)] at H; exact H
                  clear H
                  have H := H1
                  clear H1
                  replace H := Option.bind_eq_some_iff.mp H
                  obtain ⟨t293, A330, H⟩ := H
                  replace H : (if t293 < 0 then (some false) else (if t293 = t285 then (some true) else (some false))) = some r := H
                  have A33 := Aside0.mk A330
                  clear A330
                  by_cases c34 : t293 < 0
                  · rw [if_pos c34] at H
                    have c34b0 : decide (t293 < 0) = true := decide_eq_true c34
                    clear c34
                    obtain rfl := Option.some.inj H
                    go_wp2_with (first | ((with_reducible refine gate_callee (f := 12) rfl ?_); refine goesL_ (some 62) rfl rfl Try.func12 (by kernel_rfl) rfl #[.slice Ao23 t286.length co23, .int .i64 1] rfl qB9 ?_; (with_reducible refine (laws_heldInt64S.calls kj21 _ _ t286 1 t293 _ ?side1 ?side2 A33.out).mono ?_); (case side1 => repeat (first | exact (Kd.R_reads' HO_7.out).2.2 | (with_reducible refine Kd.C_alloc ?_ _) | (with_reducible refine Kd.C_drewN ?_ _) | (with_reducible refine Kd.C_drew ?_))); (case side2 => exact (Kd.R_reads' HO_7.out).2.1); rintro e w' ⟨rfl, ⟨nd, rfl⟩⟩; refine ⟨_, rfl, ?_⟩))
                    go_ret
                    exact ⟨by first | rfl | (simp [errW_none, errW_some] <;> rfl) | (simp [*, errW_none, errW_some] <;> rfl), by repeat (first | (with_reducible first | exact HB.out | apply below_alloc | apply pw_below_drewN | apply below_drew1) | exact HB.out)⟩
                  · rw [if_neg c34] at H
                    have c34b0 : decide (t293 < 0) = false := decide_eq_false c34
                    clear c34
                    by_cases c35 : t293 = t285
                    · rw [if_pos c35] at H
                      have c35b0 : (t293 == t285) = true := beq_iff_eq.mpr c35
                      have c35b1 : (t293 != t285) = false := bne_eq_false_iff_eq.mpr c35
                      clear c35
                      obtain rfl := Option.some.inj H
                      go_wp2_with (first | ((with_reducible refine gate_callee (f := 12) rfl ?_); refine goesL_ (some 62) rfl rfl Try.func12 (by kernel_rfl) rfl #[.slice Ao23 t286.length co23, .int .i64 1] rfl qB9 ?_; (with_reducible refine (laws_heldInt64S.calls kj21 _ _ t286 1 t293 _ ?side1 ?side2 A33.out).mono ?_); (case side1 => repeat (first | exact (Kd.R_reads' HO_7.out).2.2 | (with_reducible refine Kd.C_alloc ?_ _) | (with_reducible refine Kd.C_drewN ?_ _) | (with_reducible refine Kd.C_drew ?_))); (case side2 => exact (Kd.R_reads' HO_7.out).2.1); rintro e w' ⟨rfl, ⟨nd, rfl⟩⟩; refine ⟨_, rfl, ?_⟩))
                      go_ret
                      exact ⟨by first | rfl | (simp [errW_none, errW_some] <;> rfl) | (simp [*, errW_none, errW_some] <;> rfl), by repeat (first | (with_reducible first | exact HB.out | apply below_alloc | apply pw_below_drewN | apply below_drew1) | exact HB.out)⟩
                    · rw [if_neg c35] at H
                      have c35b0 : (t293 == t285) = false := beq_eq_false_iff_ne.mpr c35
                      have c35b1 : (t293 != t285) = true := bne_iff_ne.mpr c35
                      obtain rfl := Option.some.inj H
                      go_wp2_with (first | ((with_reducible refine gate_callee (f := 12) rfl ?_); refine goesL_ (some 62) rfl rfl Try.func12 (by kernel_rfl) rfl #[.slice Ao23 t286.length co23, .int .i64 1] rfl qB9 ?_; (with_reducible refine (laws_heldInt64S.calls kj21 _ _ t286 1 t293 _ ?side1 ?side2 A33.out).mono ?_); (case side1 => repeat (first | exact (Kd.R_reads' HO_7.out).2.2 | (with_reducible refine Kd.C_alloc ?_ _) | (with_reducible refine Kd.C_drewN ?_ _) | (with_reducible refine Kd.C_drew ?_))); (case side2 => exact (Kd.R_reads' HO_7.out).2.1); rintro e w' ⟨rfl, ⟨nd, rfl⟩⟩; refine ⟨_, rfl, ?_⟩))
                      go_ret
                      exact ⟨by first | rfl | (simp [errW_none, errW_some] <;> rfl) | (simp [*, errW_none, errW_some] <;> rfl), by repeat (first | (with_reducible first | exact HB.out | apply below_alloc | apply pw_below_drewN | apply below_drew1) | exact HB.out)⟩
          · rw [if_neg c20] at H
            have c20b0 : (t287 == t285) = false := beq_eq_false_iff_ne.mpr c20
            have c20b1 : (t287 != t285) = true := bne_iff_ne.mpr c20
            obtain rfl := Option.some.inj H
            obtain ⟨Ao36, co36, eo36⟩ := Kd.R_slice HO_7.out
            subst eo36
            go_wp2_with (first | ((with_reducible refine gate_callee (f := 11) rfl ?_); refine goesL_ (some 36) rfl rfl Try.func11 (by kernel_rfl) rfl #[.slice Ao36 t280.length co36, .int .i64 1] rfl qB9 ?_; (with_reducible refine (laws_markInt64S.calls kj4 (fun k_ => some k_ = (.slice Ao36 t280.length co36 : Value).ownBlock) (.slice Ao36 t280.length co36) t280 1 t285 t286 w _ ?side1 ?side2 A15.out).mono ?_); (case side1 => repeat (first | (with_reducible first | exact HB.out | apply below_alloc | apply pw_below_drewN | apply below_drew1) | exact HB.out)); (case side2 => exact Kd.R_tight rfl HO_7.out); rintro e w37 ⟨rfl, hy0, hb, hkp⟩; refine ⟨_, rfl, ?_⟩; have n0_ := Aside0.mk (Kd.R_mono (ok' := fun k_ => some k_ ≠ (.slice Ao36 t280.length co36 : Value).ownBlock) (Kd.R_keptB (HO_5.out) hkp (fun k_ hk_ hs_ => (hk_) hs_)) (fun k_ hk_ => hk_.1)); have n1_ := Aside0.mk (Kd.R_reok rfl hy0 (fun k_ e_ => HO_7.out.1 k_ e_)); have n2_ := Aside0.mk (hb); clear HO_5; clear HO_7; clear HB; have HO_5 := n0_; have HO_7 := n1_; have HB := n2_; clear n0_ n1_ n2_; (try clear hb); (try clear hkp); (try clear hy0)) | ((with_reducible refine gate_callee (f := 12) rfl ?_); refine goesL_ (some 39) rfl rfl Try.func12 (by kernel_rfl) rfl #[.slice Ao36 t286.length co36, .int .i64 1] rfl qB2 ?_; (with_reducible refine (laws_heldInt64S.calls kj4 _ _ t286 1 t287 _ ?side1 ?side2 A16.out).mono ?_); (case side1 => repeat (first | exact (Kd.R_reads' HO_7.out).2.2 | (with_reducible refine Kd.C_alloc ?_ _) | (with_reducible refine Kd.C_drewN ?_ _) | (with_reducible refine Kd.C_drew ?_))); (case side2 => rw [show t286.length = t280.length from (Kd.R_reads' HO_7.out).1.symm]; exact (Kd.R_reads' HO_7.out).2.1); rintro e w' ⟨rfl, ⟨nd, rfl⟩⟩; refine ⟨_, rfl, ?_⟩))
            go_ret
            exact ⟨by first | rfl | (simp [errW_none, errW_some] <;> rfl) | (simp [*, errW_none, errW_some] <;> rfl), by repeat (first | (with_reducible first | exact HB.out | apply below_alloc | apply pw_below_drewN | apply below_drew1) | exact HB.out)⟩

/-- THE ONE PURE STATEMENT of laws_FnExactPowersOf: yours. -/
def laws_FnExactPowersOf.Pure : Prop := ∀ (a0 : Int) (a1 : Int), (Lit.int .i64 a0).wf = true → (Lit.int .i64 a1).wf = true → ∃ k, laws_FnExactPowersOf.f k a0 a1 = some true
theorem laws_FnExactPowersOf.walk (P : laws_FnExactPowersOf.Pure) (a0 : Int) (a1 : Int) (w : World) (w0 : (Lit.int .i64 a0).wf = true) (w1 : (Lit.int .i64 a1).wf = true) :
    Calls Try.prog 5 #[.int .i64 a0, .int .i64 a1] w fun e w' => e = .returned (.bool true) ∧ Below w.heap.size w w' := by
  obtain ⟨k, h⟩ := P a0 a1 w0 w1
  refine (laws_FnExactPowersOf.calls k a0 a1 true w h).mono ?_
  rintro e w' ⟨rfl, hd⟩
  exact ⟨rfl, hd⟩

end Go.Proofs.Ythdpdiahkphklab.PFnExactPowersOf
