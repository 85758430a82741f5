/- The functions that the law reaches, as plain functions, each with the proof that the program comes to it; no condition. Written by a program of this session (wip/mp.py) over the printing of the kit; what is marked HAND is told by hand. -/
import Derived.Test.YthdpdiahkphklabPFnExactJacobiRowx0
namespace Go.Proofs.Ythdpdiahkphklab.PFnExactJacobiRow
open Go.RowKit Go.Proofs.YthdpdiahkphklabW.PrintWords Go.Proofs.YthdpdiahkphklabW.PrintLast Go.Proofs.YthdpdiahkphklabW.PrintMore
attribute [local go_sem] max2_int min2_int max_two min_two max_three min_three max_four min_four   -- for this text's walks alone
set_option linter.unusedVariables false
set_option linter.unusedSimpArgs false

/-! ### slices_Repeat_int64_int64: function 108 -/
def slices_Repeat_int64_int64.f (l0 : List Int) (a1 : Int) : Option (List Int) := if l0.length = 1 ∧ 0 ≤ a1 ∧ a1 ≤ 64 then some (List.replicate a1.toNat (rd l0 0)) else none
-- HAND
theorem hrp_mul64 (n : Nat) (hn : n ≤ 64) (w : World) :
    Calls Try.prog 138 #[.int .u64 1, .int .u64 n] w fun e w' => e = .returned (.tuple #[.int .u64 0, .int .u64 n]) ∧ Drawn0 w w' := by
  go_enter Try.func138, Try.ntmps138
  go_wp2
  go_ret2
  refine ⟨?_, ?_⟩
  · simp
    clear w
    revert n
    decide +kernel
  · repeat (first | exact Drawn0.refl _ | apply Drawn0.step)
theorem hrp_w (n : Nat) (hn : n ≤ 64) : IntKind.u64.wrap (n : Int) = n := by revert n; decide +kernel
theorem hrp_mul (a b : Int) (n : Nat) (ha : a = 1) (hb : b = n) (hn : n ≤ 64) (w : World) :
    Calls Try.prog 127 #[.int .u64 a, .int .u64 b] w fun e w' => e = .returned (.tuple #[.int .u64 0, .int .u64 n]) ∧ Drawn0 w w' := by
  subst ha hb
  go_enter Try.func127, Try.ntmps127
  go_wp2_with (go_at_call 138; refine (hrp_mul64 n hn _).mono ?_; rintro e w' ⟨rfl, ⟨nd, rfl⟩⟩)
  go_ret2
  exact ⟨by first | rfl | (simp; done), by repeat (first | exact Drawn0.refl _ | exact ⟨_, rfl⟩ | apply Drawn0.step)⟩
theorem hrp_info : (Try.prog.info? 2).map (fun i => (i.zero, i.size, i.bytes)) = some (some (.int .i64 0), 1, 8) := by kernel_rfl
theorem hrp_size : (Try.prog.info? 2).map (·.size) = some 1 := by kernel_rfl
/-- The row that is filled: its first k cells are x. -/
def hrp_row (w : World) (base g n cap k : Nat) (x : Int) : Prop :=
  (base ≤ g ∧ n ≤ cap ∧ cap ≤ maxLen) ∧ ∃ cur : List Value, w.heap[g]? = some (.cells cur.toArray 2 (0, 0)) ∧ cur.length = cap ∧ ∀ j, j < k → cur[j]? = some (.int .i64 x)
theorem hrp_made {w : World} {base m : Nat} {ok : Nat → Prop} {v : Value} {n : Nat} (x : Int) (h : Kd.R (Kd.int .i64) 2 w base ok v (List.replicate n 0)) (hb : ∃ b, v.ownBlock = some b ∧ m ≤ b) :
    ∃ g cap, v = .slice (some ⟨g, 0, none⟩) n cap ∧ hrp_row w base g n cap 0 x := by
  obtain ⟨_, inner, ⟨_, ho⟩, _⟩ := h
  rw [List.length_replicate] at ho
  rcases ho with ⟨rfl, _⟩ | ⟨g, cap, cur, rfl, hg, hh, h1, h2, h3, _⟩
  · obtain ⟨b, hb, _⟩ := hb
    simp [Value.ownBlock] at hb
  · exact ⟨g, cap, rfl, ⟨hg, h1, h2⟩, cur.toList, by simpa using hh, by have : cur.size = cap * 1 := h3; simp; omega, fun j hj => by omega⟩
theorem hrp_splice (L : List Value) (k m : Nat) (v : Value) (h : k + m ≤ L.length) (hL : ∀ j, j < k → L[j]? = some v) :
    (splice L k (List.replicate m v)).length = L.length ∧ ∀ j, j < k + m → (splice L k (List.replicate m v))[j]? = some v := by
  refine ⟨length_splice _ _ _ (by simpa using h), fun j hj => ?_⟩
  unfold splice
  by_cases h1 : j < k
  · rw [List.getElem?_append_left (by simp; omega), List.getElem?_take_of_lt h1]
    exact hL j h1
  · rw [List.getElem?_append_right (by simp; omega), List.length_take, Nat.min_eq_left (by omega), List.getElem?_append_left (by simp; omega), List.getElem?_replicate]
    rw [if_pos (by omega)]
theorem hrp_src {w w4 : World} {A0 : Option Addr} {x : Int} {c1 n : Nat} (hr : Kd.C (Kd.int .i64) w A0 [x].length [x]) (hb : Below w.heap.size w w4) (hc : c1 = min 1 n) (dp : Option Addr) (hp : 0 < (List.replicate c1 (Value.int .i64 x)).length) :
    dp = dp ∧ ∃ ad, A0 = some ad ∧ ∀ j v, (List.replicate c1 (Value.int .i64 x))[j]? = some v → w4.cell? (ad.add j) = some v := by
  obtain ⟨ad, ha, hx⟩ := Kd.at_int (Kd.C_below hr hb) 0 (by omega) (by simp)
  refine ⟨rfl, ad, ha, fun j v hv => ?_⟩
  rw [List.getElem?_replicate] at hv
  split at hv
  · obtain rfl : j = 0 := by omega
    obtain rfl := Option.some.inj hv
    simpa [rd] using hx
  · cases hv
theorem hrp_own {w : World} {g n k m : Nat} {x : Int} {cur : List Value} (hh : w.heap[g]? = some (.cells cur.toArray 2 (0, 0))) (hx : ∀ j, j < k → cur[j]? = some (.int .i64 x)) (hm : m = min k (n - k)) (hp : 0 < (List.replicate m (Value.int .i64 x)).length) :
    (some ⟨g, k, none⟩ : Option Addr) = some ⟨g, k, none⟩ ∧ ∃ ad, (some ⟨g, 0, none⟩ : Option Addr) = some ad ∧ ∀ j v, (List.replicate m (Value.int .i64 x))[j]? = some v → w.cell? (ad.add j) = some v := by
  refine ⟨rfl, _, rfl, fun j v hv => ?_⟩
  rw [List.getElem?_replicate] at hv
  split at hv
  · obtain rfl := Option.some.inj hv
    have hj : j < k := by omega
    have ha : (⟨g, 0, none⟩ : Addr).add j = ⟨g, j, none⟩ := by
      unfold Addr.add
      split
      · rename_i h0; rw [h0]
      · simp
    rw [ha]
    simp [World.cell?, hh, hx j hj]
  · cases hv
theorem hrp_filled {w5 : World} {base g n cap k m : Nat} {x : Int} {cur : List Value} (h1 : base ≤ g ∧ n ≤ cap ∧ cap ≤ maxLen) (hl : cur.length = cap) (hk : k + m ≤ cap) (hx : ∀ j, j < k → cur[j]? = some (.int .i64 x))
    (hg : Hid (w5.heap[g]? = some (.cells (splice cur k (List.replicate m (.int .i64 x))).toArray 2 (0, 0)))) : hrp_row w5 base g n cap (k + m) x := by
  obtain ⟨e1, e2⟩ := hrp_splice cur k m (.int .i64 x) (by omega) hx
  exact ⟨h1, _, hg, by omega, e2⟩
theorem hrp_done {w : World} {base g n cap : Nat} {x : Int} (h : hrp_row w base g n cap n x) :
    Kd.R (Kd.int .i64) 2 w base (fun _ => True) (.slice (some ⟨g, 0, none⟩) n cap) (List.replicate n x) := by
  obtain ⟨⟨h1, h2, h3⟩, cur, hh, hl, hx⟩ := h
  refine Kd.R_of_own ?_ (fun _ _ => trivial)
  refine ⟨by simp [encs], .inr ⟨g, cap, cur.toArray, by simp, h1, hh, by simpa using h2, h3, by simp; omega, ?_⟩⟩
  refine List.ext_getElem? fun j => ?_
  simp only [List.length_replicate, Nat.mul_one, encs, List.map_replicate]
  by_cases hj : j < n
  · rw [List.getElem?_take_of_lt hj, List.getElem?_replicate, if_pos hj]
    exact hx j hj
  · rw [List.getElem?_eq_none (by simp; omega), List.getElem?_eq_none (by simp; omega)]
set_option maxHeartbeats 8000000 in
set_option maxRecDepth 100000 in
theorem slices_Repeat_int64_int64.calls (A0 : Option Addr) (c0 : Nat) (l0 : List Int) (a1 : Int) (r : List Int) (w : World) (hr0 : Kd.C (Kd.int .i64) w A0 l0.length l0) (hc0 : l0.length ≤ c0) (h : slices_Repeat_int64_int64.f l0 a1 = some r) :
    Calls Try.prog 108 #[.slice A0 l0.length c0, .int .i64 a1] w fun e w' => ∃ v0_ : Value, e = .returned (v0_) ∧ Kd.R (Kd.int .i64) 2 w' w.heap.size (fun _ => True) v0_ r ∧ Below w.heap.size w w' := by
  have HR0 := Aside0.mk hr0
  have HC0 := Aside0.mk hc0
  have HB := Aside0.mk (Below.refl w.heap.size w)
  unfold slices_Repeat_int64_int64.f at h
  by_cases c : l0.length = 1 ∧ 0 ≤ a1 ∧ a1 ≤ 64
  · rw [if_pos c] at h
    obtain rfl := Option.some.inj h
    clear h
    obtain ⟨n, rfl⟩ : ∃ n : Nat, a1 = n := ⟨a1.toNat, by omega⟩
    obtain ⟨x, rfl⟩ : ∃ x, l0 = [x] := List.length_eq_one_iff.mp c.1
    have hn : n ≤ 64 := by omega
    have b1 : decide ((n : Int) < 0) = false := decide_eq_false (by omega)
    have b2 : decide ((9223372036854775807 : Int) < n) = false := decide_eq_false (by omega)
    have b3 : wrap64 (n : Int) = n := by rw [wrap64]; omega
    have LN := Aside0.mk hn
    obtain ⟨c1, hc1⟩ : ∃ c1, c1 = min 1 n := ⟨_, rfl⟩
    have LC := Aside0.mk hc1
    clear c hr0 hc0 hn hc1
    go_enter Try.func108, Try.ntmps108
    go_wp2_with (first
      | (go_at_call 127; refine (hrp_mul _ _ n rfl (hrp_w n LN.out) LN.out _).mono ?_; rintro e w' ⟨rfl, ⟨nd, rfl⟩⟩)
      | ((with_reducible refine gate_dst (N := 30) rfl ?_); refine Kd.R_make (Kd.int .i64) _ 2 rfl (N := 30) rfl 22 _ _ rfl (wrap64 (n : Int)) rfl rfl Try.underlying22 (.int .i64 0) 8 hrp_info rfl (by decide) (by omega) 0 (ok := fun _ => True) (okp := fun _ => True) rfl (fun _ hk => hk) trivial (by rw [b3]; omega) (by rw [b3]; have := LN.out; omega) (Below.refl _ _) (Nat.le_refl _) ?_; intro v4 w4 ho hb hg_ hnew_; rw [show (wrap64 (n : Int)).toNat = n by rw [b3]; rfl] at ho; obtain ⟨g, cap, rfl, HW⟩ := hrp_made x ho hnew_; have HG : Aside0 (hrp_row w4 w.heap.size g n cap 0 x) := Aside0.mk HW; have HB' := Aside0.mk (below_step (pw_below_drewN HB.out _) hb); clear HB; have HB := HB'; clear HB' ho hb hg_ hnew_ HW; obtain ⟨cur, hcur⟩ := HG.out.2; have HH := Aside0.mk hcur; clear hcur)
      | ((with_reducible refine gate_builtin (b := .copy) (xs := #[.tmp 31, .tmp 32]) rfl ?_); refine wpList_copy_splice rfl (.tmp 31) (.tmp 32) 22 22 rfl 2 Try.underlying22 hrp_size (some ⟨g, 0, none⟩) A0 n cap 1 c0 rfl rfl g 0 cur 2 HH.out.1 (List.replicate c1 (.int .i64 x)) ?h1 ?h2 ?h3 ?h4 w.heap.size w HB.out HG.out.1.1 ?h5; (case h1 => rw [List.length_replicate]; exact LC.out); (case h2 => exact hrp_src HR0.out HB.out LC.out _); (case h3 => have := LC.out; have := HG.out.1.2.1; have := HH.out.2.1; rw [List.length_replicate]; omega); (case h4 => intro u hu; rw [List.eq_of_mem_replicate hu]; rfl); intro w5 hg5 hb5; have HG5 := Aside0.mk (hrp_filled (k := 0) (m := c1) HG.out.1 HH.out.2.1 (by have := LC.out; have := HG.out.1.2.1; omega) HH.out.2.2 hg5); clear HB HG HH; have HB := Aside0.mk hb5; clear hb5 hg5; (try simp only [List.length_replicate]))
      )
    go_loopg [8] (n + 1) (fun kq v8 w' => ∃ k : Nat, v8 = .int .i64 k ∧ Aside0 (n + 1 ≤ kq + k ∧ k ≤ n ∧ (1 ≤ n → 1 ≤ k)) ∧ Aside0 (hrp_row w' w.heap.size g n cap k x) ∧ Aside0 (Below w.heap.size w w'))
    case atStart => exact ⟨c1, rfl, ⟨by have := LC.out; omega, by have := LC.out; omega, by have := LC.out; omega⟩, by simpa using HG5, HB⟩
    case round =>
      obtain ⟨k, rfl, HA, HK, HB6⟩ := hrel
      by_cases hlt : k < n
      · obtain ⟨m, hm⟩ : ∃ m, m = min k (n - k) := ⟨_, rfl⟩
        have LM := Aside0.mk hm
        obtain ⟨cur, hcur⟩ := HK.out.2
        have HH := Aside0.mk hcur
        have hp0 : (0 : Int) ≤ (k : Int) := by omega
        have hp1 : (k : Int) ≤ (n : Int) := by omega
        have hp2 : ((k : Int)).toNat = k := by omega
        have hp3 : k ≤ n := by omega
        have hp4 : k ≤ cap := by have := HK.out.1.2.1; omega
        have hp5 : ¬ cap = k := by have := HK.out.1.2.1; omega
        clear hm hcur HB
        go_wp2_with fail
        go_region_law (refine step_copy_splice rfl (.tmp 41) (.tmp 44) 22 22 rfl 2 Try.underlying22 hrp_size (some ⟨g, k, none⟩) (some ⟨g, 0, none⟩) (n - k) (cap - k) k cap (by simp [Act.eval, Act.put] <;> omega) (by simp [Act.eval, Act.put]) g k cur 2 HH.out.1 (List.replicate m (.int .i64 x)) (by rw [List.length_replicate]; exact LM.out) (hrp_own HH.out.1 HH.out.2.2 LM.out) (by have := LM.out; have := HH.out.2.1; have := HK.out.1.2.1; rw [List.length_replicate]; omega) (fun u hu => by rw [List.eq_of_mem_replicate hu]; rfl) w.heap.size w (by repeat (first | exact HB6.out | apply below_drew1)) HK.out.1.1 ?_; intro w5 hg5 hb5)
        have HK5 := Aside0.mk (hrp_filled (k := k) (m := m) HK.out.1 HH.out.2.1 (by have := LM.out; have := HK.out.1.2.1; omega) HH.out.2.2 hg5)
        have HB5 := Aside0.mk hb5
        have hmr : IntKind.i64.wrap ((k : Int) + (m : Int)) = (k : Int) + (m : Int) := by have := LM.out; have := LN.out; rw [IntKind.wrap_i64]; omega
        clear hb5 hg5 HK HB6
        go_wp2
        go_roundg (gk - 1)
        case measure => have := HA.out; omega
        case rel => exact ⟨k + m, by simp [hmr], ⟨by have := HA.out; have := LM.out; omega, by have := HA.out; have := LM.out; omega, by have := HA.out; have := LM.out; omega⟩, HK5, HB5⟩
      · go_wp2
        go_ret
        have e : k = n := by have := HA.out.2.1; omega
        subst e
        exact ⟨_, rfl, by simpa [rd] using hrp_done HK.out, HB6.out⟩
  · rw [if_neg c] at h
    cases h

/-! ### impl_indices: function 91 -/
mutual
def impl_indices.l0 : Nat → Int → Int → Option (List Int × Int)
  | 0, _, _ => none
  | k + 1, x0, x4 => (slices_Repeat_int64_int64.f (([(-1)] : List Int)) x0).bind fun t255 => (impl_indices.l1 k x0 x4 t255 1 0)
def impl_indices.l1 : Nat → Int → Int → List Int → Int → Int → Option (List Int × Int)
  | 0, _, _, _, _, _ => none
  | k + 1, x0, x4, x5, x6, x7 => if 0 ≤ x6 then (if x6 < (x5.length : Int) then (if (rd x5 x6) < 0 then (if x0 = 0 then (none) else (impl_indices.l1 k x0 x4 (x5.set (x6 : Int).toNat x7) (Int.tmod (wrap64 (x6 * x4)) x0) (wrap64 (x7 + 1)))) else (if x7 = (wrap64 (x0 - 1)) then (some (x5, x4)) else (impl_indices.l0 k x0 (wrap64 (x4 + 1))))) else (none)) else (none)
end
def impl_indices.f (k : Nat) (a0 : Int) : Option (List Int × Int) := impl_indices.l0 k a0 1
theorem impl_indices.mono_l : ∀ k, (∀ y0 y1, LeO (impl_indices.l0 k y0 y1) (impl_indices.l0 (k + 1) y0 y1)) ∧ (∀ y0 y1 y2 y3 y4, LeO (impl_indices.l1 k y0 y1 y2 y3 y4) (impl_indices.l1 (k + 1) y0 y1 y2 y3 y4))
  | 0 => ⟨fun _ _ r h => by simp [impl_indices.l0] at h, fun _ _ _ _ _ r h => by simp [impl_indices.l1] at h⟩
  | k + 1 => by
    obtain ⟨ih0, ih1⟩ := impl_indices.mono_l k
    refine ⟨?_, ?_⟩
    · intro y0 y1
      unfold impl_indices.l0
      repeat' first
      | (with_reducible exact ih0 _ _)
      | (with_reducible exact ih1 _ _ _ _ _)
      | (with_reducible exact LeO.refl _)
      | (with_reducible exact LeO.none _)
      | (with_reducible refine LeO.ite ?_ ?_)
      | (with_reducible refine LeO.bind ?_ (fun _ => ?_))
      | exact ih0 _ _
      | exact ih1 _ _ _ _ _
      | exact LeO.none _
      | refine LeO.ite ?_ ?_
      | refine LeO.bind ?_ (fun _ => ?_)
    · intro y0 y1 y2 y3 y4
      unfold impl_indices.l1
      repeat' first
      | (with_reducible exact ih0 _ _)
      | (with_reducible exact ih1 _ _ _ _ _)
      | (with_reducible exact LeO.refl _)
      | (with_reducible exact LeO.none _)
      | (with_reducible refine LeO.ite ?_ ?_)
      | (with_reducible refine LeO.bind ?_ (fun _ => ?_))
      | exact ih0 _ _
      | exact ih1 _ _ _ _ _
      | exact LeO.none _
      | refine LeO.ite ?_ ?_
      | refine LeO.bind ?_ (fun _ => ?_)
theorem impl_indices.mono : ∀ a0 k, LeO (impl_indices.f k a0) (impl_indices.f (k + 1) a0) := by
  intro a0 k
  obtain ⟨ih0, ih1⟩ := impl_indices.mono_l k
  unfold impl_indices.f
  repeat' first
      | (with_reducible exact ih0 _ _)
      | (with_reducible exact ih1 _ _ _ _ _)
      | (with_reducible exact LeO.refl _)
      | (with_reducible exact LeO.none _)
      | (with_reducible refine LeO.ite ?_ ?_)
      | (with_reducible refine LeO.bind ?_ (fun _ => ?_))
      | exact ih0 _ _
      | exact ih1 _ _ _ _ _
      | exact LeO.none _
      | refine LeO.ite ?_ ?_
      | refine LeO.bind ?_ (fun _ => ?_)
set_option maxHeartbeats 8000000 in
set_option maxRecDepth 100000 in
theorem impl_indices.calls (k : Nat) (a0 : Int) (r1 : List Int) (r2 : Int) (w : World) (h : impl_indices.f k a0 = some (r1, r2)) :
    Calls Try.prog 91 #[.int .i64 a0] w fun e w' => ∃ v0_ : Value, e = .returned (.tuple #[v0_, .int .i64 r2]) ∧ Kd.R (Kd.int .i64) 2 w' w.heap.size (fun _ => True) v0_ r1 ∧ Below w.heap.size w w' := by
  have HB := Aside0.mk (Below.refl w.heap.size w)
  have H : (impl_indices.l0 k a0 1) = some (r1, r2) := h
  clear h
  have H' := Aside0.mk H
  clear H
  go_enter Try.func91, Try.ntmps91
  go_wp2
  try simp only [Act.put, List.setIfInBounds_toArray, List.set_cons_succ, List.set_cons_zero]
  go_loopg [4] k (fun kq v4 w' => ∃ (x4_1 : Int), v4 = .int .i64 x4_1 ∧ Aside0 (impl_indices.l0 kq a0 x4_1 = some (r1, r2)) ∧ Aside0 (kq ≤ k) ∧ Aside0 (Below w.heap.size w w'))
  case atStart => exact ⟨(1), qB83, H', ⟨Nat.le_refl _⟩, ⟨by repeat (first | (with_reducible first | exact HB.out | apply below_alloc | apply pw_below_drewN | apply below_drew1) | exact HB.out)⟩⟩
  case round =>
    clear H'
    obtain ⟨x4_1, rfl, HA, HK1, HB⟩ := hrel
    cases gk with
    | zero => exact absurd HA.out (by simp [impl_indices.l0])
    | succ k1 =>
      have H := HA.out
      clear HA
      simp only [impl_indices.l0] at H
      obtain ⟨y252, hy252⟩ : ∃ y_ : List Int, y_ = (([(-1)] : List Int)) := ⟨_, rfl⟩
      replace H : ((slices_Repeat_int64_int64.f y252 a0).bind fun t255 => (impl_indices.l1 k1 a0 x4_1 t255 1 0)) = some (r1, r2) := by first | (rw [hy252]; with_reducible exact H) | (have H2_ := (Option.bind_some _ _).symm.trans H; rw [hy252]; with_reducible exact H2_) | (have H2_ := (Option.bind_some _ _).symm.trans H; with_reducible exact H2_) | with_reducible exact H | (rw [hy252]; exact H) | exact H
      have Ny252 := Aside0.mk hy252
      clear hy252
      replace H := Option.bind_eq_some_iff.mp H
      obtain ⟨t255, A20, H⟩ := H
      replace H : (impl_indices.l1 k1 a0 x4_1 t255 1 0) = some (r1, r2) := H
      have A2 := Aside0.mk A20
      clear A20
      have H' := Aside0.mk H
      clear H
      go_wp2_with (first | ((with_reducible refine gate_dst (N := 10) rfl ?_); refine Kd.R_lit (Kd.int .i64) _ 2 ?hg (N := 10) ?hd (xs := ([(-1)] : List Int)) (inner := [.int .i64 (-1)]) (ok := fun _ => True) (okp := fun _ => True) ?hr ?hp (fun _ hk => hk) trivial (Below.refl _ _) (Nat.le_refl _) (by simp) ?_; (case hd => rfl); (case hg => rfl); (case hr => first | (go_simp; done) | (go_simp; rfl)); (case hp => exact (Reps.one (show Kd.M (Kd.int .i64) _ _ _ (-1) [.int .i64 (-1)] from rfl) (Reps.none _ _))); intro v253 w3 ho4 hb hg_ hnew_; clear hg_ hnew_; (first | rw [← Ny252.out] at ho4 | (simp only [Int.reduceToNat] at ho4; rw [← Ny252.out] at ho4)); have n0_ := Aside0.mk (Kd.R_lower ho4 (below_size qB33)); have n1_ := Aside0.mk (below_step qB33 hb); clear HB; have HO254 := n0_; have HB := n1_; clear n0_ n1_; clear hb ho4; obtain ⟨Ao5, co5, eo5⟩ := Kd.R_slice HO254.out; subst eo5) | ((with_reducible refine gate_callee (f := 108) rfl ?_); refine goesL_ (some 12) rfl rfl Try.func108 (by kernel_rfl) rfl #[.slice Ao5 y252.length co5, .int .i64 a0] rfl qB32 ?_; (with_reducible refine (slices_Repeat_int64_int64.calls _ _ y252 a0 t255 _ ?side1 ?side2 A2.out).mono ?_); (case side1 => repeat (first | exact (Kd.R_reads' HO254.out).2.2 | (with_reducible refine Kd.C_alloc ?_ _) | (with_reducible refine Kd.C_drewN ?_ _) | (with_reducible refine Kd.C_drew ?_))); (case side2 => exact (Kd.R_reads' HO254.out).2.1); rintro e w6 ⟨v256, rfl, ho0, hb⟩; refine ⟨_, rfl, ?_⟩; have n0_ := Aside0.mk (Kd.R_elder' qB60 (Kd.R_base ho0) hb); have n1_ := Aside0.mk (Kd.R_lower (Kd.R_new' ho0 (Kd.R_lt qB60)) (below_size qB33)); have n2_ := Aside0.mk (below_step qB33 hb); clear HO254; clear HB; have HO254 := n0_; have HO257 := n1_; have HB := n2_; clear n0_ n1_ n2_; (try clear hb); (try clear hb2); (try clear hk); (try clear hi); (try clear ho0)))
      try simp only [Act.put, List.setIfInBounds_toArray, List.set_cons_succ, List.set_cons_zero]
      go_loopg [6, 7] k1 (fun kq v6 v7 w' => ∃ (x5_2 : List Int) (x6_2 : Int) (x7_2 : Int), v6 = .int .i64 x6_2 ∧ v7 = .int .i64 x7_2 ∧ Aside0 (impl_indices.l1 kq a0 x4_1 x5_2 x6_2 x7_2 = some (r1, r2)) ∧ Aside0 (kq ≤ k1) ∧ Aside0 (Kd.R (Kd.int .i64) 2 w' w.heap.size (fun _ => True) v256 x5_2) ∧ Aside0 (Below w.heap.size w w'))
      case atStart => exact ⟨(t255), (1), (0), qB83, qB83, H', ⟨Nat.le_refl _⟩, ⟨by (with_reducible repeat (first | apply Kd.R_alloc | apply Kd.R_drewN | apply Kd.R_drew)); exact Kd.R_mono HO257.out (fun _ hk => trivial)⟩, ⟨by repeat (first | (with_reducible first | exact HB.out | apply below_alloc | apply pw_below_drewN | apply below_drew1) | exact HB.out)⟩⟩
      case round =>
        clear H'
        try clear c1
        try clear p2
        obtain ⟨x5_2, x6_2, x7_2, rfl, rfl, HA, HK2, HO_5, HB⟩ := hrel
        cases gk with
        | zero => exact absurd HA.out (by simp [impl_indices.l1])
        | succ k2 =>
          have H := HA.out
          clear HA
          simp only [impl_indices.l1] at H
          by_cases c7 : 0 ≤ x6_2
          · rw [if_pos c7] at H
            have c7b0 : decide (0 ≤ x6_2) = true := decide_eq_true c7
            clear c7
            by_cases c8 : x6_2 < (x5_2.length : Int)
            · rw [if_pos c8] at H
              have c8b0 : decide (x6_2 < (x5_2.length : Int)) = true := decide_eq_true c8
              clear c8
              by_cases c9 : (rd x5_2 x6_2) < 0
              · rw [if_pos c9] at H
                have c9b0 : decide ((rd x5_2 x6_2) < 0) = true := decide_eq_true c9
                clear c9
                obtain ⟨y259, hy259⟩ : ∃ y_ : List Int, y_ = (x5_2.set (x6_2 : Int).toNat x7_2) := ⟨_, rfl⟩
                replace H : (if a0 = 0 then (none) else (impl_indices.l1 k2 a0 x4_1 y259 (Int.tmod (wrap64 (x6_2 * x4_1)) a0) (wrap64 (x7_2 + 1)))) = some (r1, r2) := by first | (rw [hy259]; with_reducible exact H) | (have H2_ := (Option.bind_some _ _).symm.trans H; rw [hy259]; with_reducible exact H2_) | (have H2_ := (Option.bind_some _ _).symm.trans H; with_reducible exact H2_) | with_reducible exact H | (rw [hy259]; exact H) | exact H
                have Ny259 := Aside0.mk hy259
                clear hy259
                by_cases c11 : a0 = 0
                · rw [if_pos c11] at H
                  exact absurd H (by simp)
                · rw [if_neg c11] at H
                  have c11b0 : (a0 == 0) = false := beq_eq_false_iff_ne.mpr c11
                  have c11b1 : (a0 != 0) = true := bne_iff_ne.mpr c11
                  have H' := Aside0.mk H
                  clear H
                  obtain ⟨Ao12, co12, eo12⟩ := Kd.R_slice HO_5.out
                  subst eo12
                  have p258 : 0 ≤ (x6_2 : Int) := of_decide_eq_true qB82
                  have q258 : x6_2 < (x5_2.length : Int) := of_decide_eq_true qB82
                  obtain ⟨ad258, e258, hx258_0⟩ := Kd.at_int (Kd.R_reads' HO_5.out).2.2 x6_2 p258 q258
                  cases e258
                  replace p258 := eq_true p258
                  replace q258 := eq_true q258
                  have p10 : 0 ≤ (x6_2 : Int) := of_decide_eq_true qB82
                  have q10 : (x6_2 : Int) < ((x5_2.length : Int) : Int) := of_decide_eq_true qB82
                  obtain ⟨go10, co10, eo10, gb10, gl10, cl10, HG10⟩ := Kd.R_form HO_5.out (by omega)
                  (first | cases eo10 | (injection eo10 with ea_ en_ ec_; (first | subst ea_ | (injection ea_ with ea_; subst ea_)); subst ec_; clear en_))
                  have GB10 := Aside0.mk gb10
                  have GG10 := Aside0.mk HG10
                  clear gb10 gl10 HG10
                  (first | simp only [add_plain] at hx258_0 | skip)
                  obtain ⟨hx10_0, hf10_0⟩ := Kd.R_celln 0 HO_5.out (x6_2 : Int) p10 q10
                  replace p10 := eq_true p10
                  replace q10 := eq_true q10
                  have HP13 := Kd.R_putg HO_5.out (x6_2 : Int) x7_2
                  go_wp2_with (first | ((with_reducible refine gate_store (t := 2) (p := 21) rfl ?_); refine store_event (t := 2) (p := 21) (v := ?vo_w14) (w1 := (wr.setCell ⟨go10, (x6_2 : Int).toNat, none⟩ (.int .i64 x7_2))) ?hg ?ho ?hn ?hr ?_; (case ho => rfl); (case hg => rfl); (case hn => rfl); (case hr => first | (go_simp; done) | (go_simp; rfl)); intro w14 hw; have hg : wr.grownBy w14 (some go10) := (by rw [hw]; exact HP13.2); have hp_ : Kd.R (Kd.int .i64) 2 w14 w.heap.size (fun _ => True) (.slice (some ⟨go10, 0, none⟩) x5_2.length co12) y259 := (by rw [hw, Ny259.out]; exact HP13.1); clear HP13; have n0_ := Aside0.mk (hp_); have n1_ := Aside0.mk ((by rw [hw]; exact below_set (HB.out) GB10.out : Below w.heap.size w w14)); clear HO_5; clear HB; have HO_5 := n0_; have HB := n1_; clear n0_ n1_; clear hg hw hp_))
                  (first | go_roundg k2 | ((try simp only [add_plain] at *); go_roundg k2))
                  case measure => have := HK1.out; have := HK2.out; omega
                  case rel => exact ⟨(y259), (Int.tmod (wrap64 (x6_2 * x4_1)) a0), (wrap64 (x7_2 + 1)), qB83, qB83, H', ⟨by have := HK1.out; have := HK2.out; omega⟩, ⟨by (with_reducible repeat (first | apply Kd.R_alloc | apply Kd.R_drewN | apply Kd.R_drew)); exact HO_5.out⟩, ⟨by repeat (first | (with_reducible first | exact HB.out | apply below_alloc | apply pw_below_drewN | apply below_drew1) | exact HB.out)⟩⟩
              · rw [if_neg c9] at H
                have c9b0 : decide ((rd x5_2 x6_2) < 0) = false := decide_eq_false c9
                clear c9
                by_cases c15 : x7_2 = (wrap64 (a0 - 1))
                · rw [if_pos c15] at H
                  have c15b0 : (x7_2 == (wrap64 (a0 - 1))) = true := beq_iff_eq.mpr c15
                  have c15b1 : (x7_2 != (wrap64 (a0 - 1))) = false := bne_eq_false_iff_eq.mpr c15
                  clear c15
                  simp only [Option.some.injEq, Prod.mk.injEq] at H
                  obtain ⟨rfl, rfl⟩ := H
                  obtain ⟨Ao16, co16, eo16⟩ := Kd.R_slice HO_5.out
                  subst eo16
                  have p258 : 0 ≤ (x6_2 : Int) := of_decide_eq_true qB82
                  have q258 : x6_2 < (x5_2.length : Int) := of_decide_eq_true qB82
                  obtain ⟨ad258, e258, hx258_0⟩ := Kd.at_int (Kd.R_reads' HO_5.out).2.2 x6_2 p258 q258
                  cases e258
                  replace p258 := eq_true p258
                  replace q258 := eq_true q258
                  go_wp2
                  go_ret2
                  exact ⟨_, by first | rfl | (simp [errW_none, errW_some] <;> rfl) | (simp [*, errW_none, errW_some] <;> rfl), by (with_reducible repeat (first | apply Kd.R_alloc | apply Kd.R_drewN | apply Kd.R_drew)); exact HO_5.out, by repeat (first | (with_reducible first | exact HB.out | apply below_alloc | apply pw_below_drewN | apply below_drew1) | exact HB.out)⟩
                · rw [if_neg c15] at H
                  have c15b0 : (x7_2 == (wrap64 (a0 - 1))) = false := beq_eq_false_iff_ne.mpr c15
                  have c15b1 : (x7_2 != (wrap64 (a0 - 1))) = true := bne_iff_ne.mpr c15
                  have H' := Aside0.mk H
                  clear H
                  obtain ⟨Ao17, co17, eo17⟩ := Kd.R_slice HO_5.out
                  subst eo17
                  have p258 : 0 ≤ (x6_2 : Int) := of_decide_eq_true qB82
                  have q258 : x6_2 < (x5_2.length : Int) := of_decide_eq_true qB82
                  obtain ⟨ad258, e258, hx258_0⟩ := Kd.at_int (Kd.R_reads' HO_5.out).2.2 x6_2 p258 q258
                  cases e258
                  replace p258 := eq_true p258
                  replace q258 := eq_true q258
                  go_wp2
                  (first | go_roundg k2 | ((try simp only [add_plain] at *); go_roundg k2))
                  case measure => have := HK1.out; have := HK2.out; omega
                  case rel => exact ⟨(wrap64 (x4_1 + 1)), qB83, H', ⟨by have := HK1.out; have := HK2.out; omega⟩, ⟨by repeat (first | (with_reducible first | exact HB.out | apply below_alloc | apply pw_below_drewN | apply below_drew1) | exact HB.out)⟩⟩
            · rw [if_neg c8] at H
              exact absurd H (by simp)
          · rw [if_neg c7] at H
            exact absurd H (by simp)

/-! ### impl_exponents: function 71 -/
def impl_exponents.l0 : Nat → List Int → Int → Int → Int → Int → Int → Option (List Int)
  | 0, _, _, _, _, _, _ => none
  | k + 1, x3, x14, x15, x261000, x261001, x261002 => if x15 < x14 then (if 0 ≤ x15 then (if x15 < (x3.length : Int) then (if x15 > 0 then (if x261001 = 0 then (none) else (impl_exponents.l0 k (x3.set (x15 : Int).toNat (Int.tmod (wrap64 ((rd x3 x15) * x261002)) x261001)) x14 (wrap64 (x15 + 1)) x261000 x261001 x261002)) else (impl_exponents.l0 k x3 x14 (wrap64 (x15 + 1)) x261000 x261001 x261002)) else (none)) else (none)) else (some x3)
def impl_exponents.f (k : Nat) (a0_0 : Int) (a0_1 : Int) (a0_2 : Int) : Option (List Int) := (impl_indices.f k a0_0).bind fun bt261 => (impl_exponents.l0 k bt261.1 (bt261.1.length : Int) 0 a0_0 a0_1 a0_2)
theorem impl_exponents.mono_l : ∀ k, (∀ y0 y1 y2 y3 y4 y5, LeO (impl_exponents.l0 k y0 y1 y2 y3 y4 y5) (impl_exponents.l0 (k + 1) y0 y1 y2 y3 y4 y5))
  | 0 => fun _ _ _ _ _ _ r h => by simp [impl_exponents.l0] at h
  | k + 1 => by
    have ih0 := impl_exponents.mono_l k
    · intro y0 y1 y2 y3 y4 y5
      unfold impl_exponents.l0
      repeat' first
      | (with_reducible exact ih0 _ _ _ _ _ _)
      | (with_reducible exact impl_indices.mono _ _)
      | (with_reducible exact LeO.refl _)
      | (with_reducible exact LeO.none _)
      | (with_reducible refine LeO.ite ?_ ?_)
      | (with_reducible refine LeO.bind ?_ (fun _ => ?_))
      | exact ih0 _ _ _ _ _ _
      | exact impl_indices.mono _ _
      | exact LeO.none _
      | refine LeO.ite ?_ ?_
      | refine LeO.bind ?_ (fun _ => ?_)
theorem impl_exponents.mono : ∀ a0 a1 a2 k, LeO (impl_exponents.f k a0 a1 a2) (impl_exponents.f (k + 1) a0 a1 a2) := by
  intro a0 a1 a2 k
  have ih0 := impl_exponents.mono_l k
  unfold impl_exponents.f
  repeat' first
      | (with_reducible exact ih0 _ _ _ _ _ _)
      | (with_reducible exact impl_indices.mono _ _)
      | (with_reducible exact LeO.refl _)
      | (with_reducible exact LeO.none _)
      | (with_reducible refine LeO.ite ?_ ?_)
      | (with_reducible refine LeO.bind ?_ (fun _ => ?_))
      | exact ih0 _ _ _ _ _ _
      | exact impl_indices.mono _ _
      | exact LeO.none _
      | refine LeO.ite ?_ ?_
      | refine LeO.bind ?_ (fun _ => ?_)
set_option maxHeartbeats 8000000 in
set_option maxRecDepth 100000 in
theorem impl_exponents.calls (k : Nat) (a0_0 : Int) (a0_1 : Int) (a0_2 : Int) (r : List Int) (w : World) (h : impl_exponents.f k a0_0 a0_1 a0_2 = some r) :
    Calls Try.prog 71 #[.agg #[.int .i64 a0_0, .int .i64 a0_1, .int .i64 a0_2]] w fun e w' => ∃ v0_ : Value, e = .returned (v0_) ∧ Kd.R (Kd.int .i64) 2 w' w.heap.size (fun _ => True) v0_ r ∧ Below w.heap.size w w' := by
  have hu33 := Try.underlying33
  have HB := Aside0.mk (Below.refl w.heap.size w)
  have H : ((impl_indices.f k a0_0).bind fun bt261 => (impl_exponents.l0 k bt261.1 (bt261.1.length : Int) 0 a0_0 a0_1 a0_2)) = some r := h
  clear h
  replace H := Option.bind_eq_some_iff.mp H
  obtain ⟨⟨t261, t262⟩, A20, H⟩ := H
  replace H : (impl_exponents.l0 k t261 (t261.length : Int) 0 a0_0 a0_1 a0_2) = some r := H
  have A2 := Aside0.mk A20
  clear A20
  have H' := Aside0.mk H
  clear H
  go_enter Try.func71, Try.ntmps71
  go_wp2_with (first | ((with_reducible refine gate_dst (N := 1) rfl ?_); refine box_event ?hg (N := 1) ?hd (cs := #[.int .i64 a0_0, .int .i64 a0_1, .int .i64 a0_2]) (t := 33) ?hr ?_; (case hd => rfl); (case hg => rfl); (case hr => first | (go_simp; done) | (go_simp; rfl)); intro gb260 hg w3 hbox hb; have n0_ := Aside0.mk (below_step qB33 hb); have n1_ := Aside0.mk (hbox); have n2_ := Aside0.mk ((by rw [hg]; exact (below_size qB33) : w.heap.size ≤ gb260)); have n3_ := Aside0.mk ((by rw [hg]; exact (below_size qB33) : w.heap.size ≤ gb260)); clear HB; have HB := n0_; have BK260 := n1_; have GW260 := n2_; have GE260 := n3_; clear n0_ n1_ n2_ n3_; clear hb hbox hg; have hcz4_0 : w3.cell? ⟨gb260, 0, none⟩ = some (.int .i64 a0_0) := (blk_cell BK260.out 0).trans rfl; have hcz4_1 : w3.cell? ⟨gb260, 1, none⟩ = some (.int .i64 a0_1) := (blk_cell BK260.out 1).trans rfl; have hcz4_2 : w3.cell? ⟨gb260, 2, none⟩ = some (.int .i64 a0_2) := (blk_cell BK260.out 2).trans rfl; have hfz4_0 := blk_frozen BK260.out 0; have hfz4_1 := blk_frozen BK260.out 1; have hfz4_2 := blk_frozen BK260.out 2) | ((with_reducible refine gate_callee (f := 91) rfl ?_); refine goesL_ (some 10) rfl rfl Try.func91 (by kernel_rfl) rfl #[.int .i64 a0_0] rfl qB32 ?_; (with_reducible refine (impl_indices.calls k a0_0 t261 t262 _ A2.out).mono ?_); rintro e w5 ⟨v263, rfl, ho0, hb⟩; refine ⟨_, rfl, ?_⟩; have n0_ := Aside0.mk (Kd.R_lower ho0 (below_size qB19)); have n1_ := Aside0.mk (blk_below (g := gb260) (o := .cells #[.int .i64 a0_0, .int .i64 a0_1, .int .i64 a0_2] 33 (0, 0)) qB43 hb); have n2_ := Aside0.mk (below_step qB19 hb); clear BK260; clear HB; have HO264 := n0_; have BK260 := n1_; have HB := n2_; clear n0_ n1_ n2_; (try clear hb); (try clear hb2); (try clear hk); (try clear hi); (try clear ho0); obtain ⟨Ao6, co6, eo6⟩ := Kd.R_slice HO264.out; subst eo6))
  try simp only [Act.put, List.setIfInBounds_toArray, List.set_cons_succ, List.set_cons_zero]
  go_loopg [15] k (fun kq v15 w' => ∃ (x3_1 : List Int) (x15_1 : Int), v15 = .int .i64 x15_1 ∧ Aside0 (impl_exponents.l0 kq x3_1 (t261.length : Int) x15_1 a0_0 a0_1 a0_2 = some r) ∧ Aside0 (kq ≤ k) ∧ Aside0 (Kd.R (Kd.int .i64) 2 w' w.heap.size (fun _ => True) (.slice Ao6 t261.length co6) x3_1) ∧ Aside0 (w'.heap[gb260]? = some (.cells #[.int .i64 a0_0, .int .i64 a0_1, .int .i64 a0_2] 33 (0, 0))) ∧ Aside0 (Below w.heap.size w w'))
  case atStart => exact ⟨(t261), (0), qB83, H', ⟨Nat.le_refl _⟩, ⟨by (with_reducible repeat (first | apply Kd.R_alloc | apply Kd.R_drewN | apply Kd.R_drew)); exact HO264.out⟩, ⟨by (with_reducible repeat (first | refine blk_drewN ?_ _ | refine blk_drew ?_ | refine blk_alloc ?_ _)); exact BK260.out⟩, ⟨by repeat (first | (with_reducible first | exact HB.out | apply below_alloc | apply pw_below_drewN | apply below_drew1 | refine below_set ?_ GE260.out) | exact HB.out)⟩⟩
  case round =>
    clear H'
    try clear p2
    try clear hcz4_0
    try clear hcz4_1
    try clear hcz4_2
    try clear hfz4_0
    try clear hfz4_1
    try clear hfz4_2
    obtain ⟨x3_1, x15_1, rfl, HA, HK1, HO_3, BK260, HB⟩ := hrel
    have hl3_1 := (Kd.R_reads' HO_3.out).1
    rw [hl3_1] at HO_3
    (try simp only [hl3_1])
    (try simp only [hl3_1] at BK260)
    cases gk with
    | zero => exact absurd HA.out (by simp [impl_exponents.l0])
    | succ k1 =>
      have H := HA.out
      clear HA
      simp only [impl_exponents.l0] at H
      by_cases c7 : x15_1 < (t261.length : Int)
      · rw [if_pos c7] at H
        have c7b0 : decide (x15_1 < (t261.length : Int)) = true := decide_eq_true c7
        clear c7
        by_cases c8 : 0 ≤ x15_1
        · rw [if_pos c8] at H
          have c8b0 : decide (0 ≤ x15_1) = true := decide_eq_true c8
          clear c8
          by_cases c9 : x15_1 < (x3_1.length : Int)
          · rw [if_pos c9] at H
            have c9b0 : decide (x15_1 < (x3_1.length : Int)) = true := decide_eq_true c9
            clear c9
            by_cases c10 : x15_1 > 0
            · rw [if_pos c10] at H
              have c10b0 : decide (0 < x15_1) = true := decide_eq_true c10
              clear c10
              by_cases c11 : a0_1 = 0
              · rw [if_pos c11] at H
                exact absurd H (by simp)
              · rw [if_neg c11] at H
                have c11b0 : (a0_1 == 0) = false := beq_eq_false_iff_ne.mpr c11
                have c11b1 : (a0_1 != 0) = true := bne_iff_ne.mpr c11
                obtain ⟨y266, hy266⟩ : ∃ y_ : List Int, y_ = (x3_1.set (x15_1 : Int).toNat (Int.tmod (wrap64 ((rd x3_1 x15_1) * a0_2)) a0_1)) := ⟨_, rfl⟩
                replace H : (impl_exponents.l0 k1 y266 (t261.length : Int) (wrap64 (x15_1 + 1)) a0_0 a0_1 a0_2) = some r := by first | (rw [hy266]; with_reducible exact H) | (have H2_ := (Option.bind_some _ _).symm.trans H; rw [hy266]; with_reducible exact H2_) | (have H2_ := (Option.bind_some _ _).symm.trans H; with_reducible exact H2_) | with_reducible exact H | (rw [hy266]; exact H) | exact H
                have Ny266 := Aside0.mk hy266
                clear hy266
                have H' := Aside0.mk H
                clear H
                have p265 : 0 ≤ (x15_1 : Int) := of_decide_eq_true qB82
                have q265 : x15_1 < (x3_1.length : Int) := of_decide_eq_true qB82
                obtain ⟨ad265, e265, hx265_0⟩ := Kd.at_int (Kd.R_reads' HO_3.out).2.2 x15_1 p265 q265
                cases e265
                replace p265 := eq_true p265
                replace q265 := eq_true q265
                have hcz13_0 : wr.cell? ⟨gb260, 0, none⟩ = some (.int .i64 a0_0) := (blk_cell BK260.out 0).trans rfl
                have hcz13_1 : wr.cell? ⟨gb260, 1, none⟩ = some (.int .i64 a0_1) := (blk_cell BK260.out 1).trans rfl
                have hcz13_2 : wr.cell? ⟨gb260, 2, none⟩ = some (.int .i64 a0_2) := (blk_cell BK260.out 2).trans rfl
                have hfz13_0 := blk_frozen BK260.out 0
                have hfz13_1 := blk_frozen BK260.out 1
                have hfz13_2 := blk_frozen BK260.out 2
                have p12 : 0 ≤ (x15_1 : Int) := of_decide_eq_true qB82
                have q12 : (x15_1 : Int) < ((x3_1.length : Int) : Int) := of_decide_eq_true qB82
                obtain ⟨go12, co12, eo12, gb12, gl12, cl12, HG12⟩ := Kd.R_form HO_3.out (by omega)
                (first | cases eo12 | (injection eo12 with ea_ en_ ec_; (first | subst ea_ | (injection ea_ with ea_; subst ea_)); subst ec_; clear en_))
                have GB12 := Aside0.mk gb12
                have GG12 := Aside0.mk HG12
                clear gb12 gl12 HG12
                (first | simp only [add_plain] at hx265_0 | skip)
                obtain ⟨hx12_0, hf12_0⟩ := Kd.R_celln 0 HO_3.out (x15_1 : Int) p12 q12
                replace p12 := eq_true p12
                replace q12 := eq_true q12
                have HP14 := Kd.R_putg HO_3.out (x15_1 : Int) (Int.tmod (wrap64 ((rd x3_1 x15_1) * a0_2)) a0_1)
                go_wp2_with (first | ((with_reducible refine gate_store (t := 2) (p := 31) rfl ?_); refine store_event (t := 2) (p := 31) (v := ?vo_w15) (w1 := (wr.setCell ⟨go12, (x15_1 : Int).toNat, none⟩ (.int .i64 (Int.tmod (wrap64 ((rd x3_1 x15_1) * a0_2)) a0_1)))) ?hg ?ho ?hn ?hr ?_; (case ho => rfl); (case hg => rfl); (case hn => rfl); (case hr => first | (go_simp; done) | (go_simp; rfl)); intro w15 hw; have hg : wr.grownBy w15 (some go12) := (by rw [hw]; exact HP14.2); have hp_ : Kd.R (Kd.int .i64) 2 w15 w.heap.size (fun _ => True) (.slice (some ⟨go12, 0, none⟩) x3_1.length co6) y266 := (by rw [hw, Ny266.out]; exact HP14.1); clear HP14; have n0_ := Aside0.mk (hp_); have n1_ := Aside0.mk (blk_grown (g := gb260) (o := .cells #[.int .i64 a0_0, .int .i64 a0_1, .int .i64 a0_2] 33 (0, 0)) qB43 hg (Kd.R_ne HO_3.out BK260.out (by decide))); have n2_ := Aside0.mk ((by rw [hw]; exact below_set (HB.out) GB12.out : Below w.heap.size w w15)); clear HO_3; clear BK260; clear HB; have HO_3 := n0_; have BK260 := n1_; have HB := n2_; clear n0_ n1_ n2_; clear hg hw hp_))
                (try simp only [← hl3_1])
                (first | go_roundg k1 | ((try simp only [add_plain] at *); go_roundg k1))
                case measure => have := HK1.out; omega
                case rel => exact ⟨(y266), (wrap64 (x15_1 + 1)), qB83, H', ⟨by have := HK1.out; omega⟩, ⟨by (try simp only [hl3_1]); (with_reducible repeat (first | apply Kd.R_alloc | apply Kd.R_drewN | apply Kd.R_drew)); exact HO_3.out⟩, ⟨by (try simp only [hl3_1]); (with_reducible repeat (first | refine blk_drewN ?_ _ | refine blk_drew ?_ | refine blk_alloc ?_ _)); exact BK260.out⟩, ⟨by repeat (first | (with_reducible first | exact HB.out | apply below_alloc | apply pw_below_drewN | apply below_drew1 | refine below_set ?_ GE260.out) | exact HB.out)⟩⟩
            · rw [if_neg c10] at H
              have c10b0 : decide (0 < x15_1) = false := decide_eq_false c10
              clear c10
              have H' := Aside0.mk H
              clear H
              have p265 : 0 ≤ (x15_1 : Int) := of_decide_eq_true qB82
              have q265 : x15_1 < (x3_1.length : Int) := of_decide_eq_true qB82
              obtain ⟨ad265, e265, hx265_0⟩ := Kd.at_int (Kd.R_reads' HO_3.out).2.2 x15_1 p265 q265
              cases e265
              replace p265 := eq_true p265
              replace q265 := eq_true q265
              go_wp2
              (try simp only [← hl3_1])
              (first | go_roundg k1 | ((try simp only [add_plain] at *); go_roundg k1))
              case measure => have := HK1.out; omega
              case rel => exact ⟨(x3_1), (wrap64 (x15_1 + 1)), qB83, H', ⟨by have := HK1.out; omega⟩, ⟨by (try simp only [hl3_1]); (with_reducible repeat (first | apply Kd.R_alloc | apply Kd.R_drewN | apply Kd.R_drew)); exact HO_3.out⟩, ⟨by (try simp only [hl3_1]); (with_reducible repeat (first | refine blk_drewN ?_ _ | refine blk_drew ?_ | refine blk_alloc ?_ _)); exact BK260.out⟩, ⟨by repeat (first | (with_reducible first | exact HB.out | apply below_alloc | apply pw_below_drewN | apply below_drew1 | refine below_set ?_ GE260.out) | exact HB.out)⟩⟩
          · rw [if_neg c9] at H
            exact absurd H (by simp)
        · rw [if_neg c8] at H
          exact absurd H (by simp)
      · rw [if_neg c7] at H
        have c7b0 : decide (x15_1 < (t261.length : Int)) = false := decide_eq_false c7
        have c7b0_0 := c7b0
        (try rw [hl3_1] at c7b0_0)
        clear c7
        obtain rfl := Option.some.inj H
        go_wp2
        go_ret
        exact ⟨_, by first | rfl | (simp [errW_none, errW_some] <;> rfl) | (simp [*, errW_none, errW_some] <;> rfl), by (with_reducible repeat (first | apply Kd.R_alloc | apply Kd.R_drewN | apply Kd.R_drew)); exact HO_3.out, by repeat (first | (with_reducible first | exact HB.out | apply below_alloc | apply pw_below_drewN | apply below_drew1 | refine below_set ?_ GE260.out) | exact HB.out)⟩

/-! ### slices_Clone_int64_int64: function 106 -/
def slices_Clone_int64_int64.f (l0 : List Int) : Option (List Int) := if l0.length < 17592186044416 then some l0 else none
-- HAND
theorem hcl_info : (Try.prog.info? 2).map (fun i => (i.zero, i.size, i.bytes)) = some (some (.int .i64 0), 1, 8) := by kernel_rfl
set_option maxHeartbeats 8000000 in
set_option maxRecDepth 100000 in
theorem slices_Clone_int64_int64.calls (A0 : Option Addr) (c0 : Nat) (l0 : List Int) (r : List Int) (w : World) (hr0 : Kd.C (Kd.int .i64) w A0 l0.length l0) (hc0 : l0.length ≤ c0) (h : slices_Clone_int64_int64.f l0 = some r) :
    Calls Try.prog 106 #[.slice A0 l0.length c0] w fun e w' => ∃ v0_ : Value, e = .returned (v0_) ∧ Kd.R (Kd.int .i64) 2 w' w.heap.size (fun _ => True) v0_ r ∧ Below w.heap.size w w' := by
  have HR0 := Aside0.mk hr0
  have HC0 := Aside0.mk hc0
  have HB := Aside0.mk (Below.refl w.heap.size w)
  unfold slices_Clone_int64_int64.f at h
  by_cases c2 : l0.length < 17592186044416
  · rw [if_pos c2] at h
    obtain rfl := Option.some.inj h
    clear h
    have LMc2 := Aside0.mk c2
    clear c2 hr0 hc0
    cases A0 with
    | none =>
      have hz : l0 = [] := by
        rcases Nat.eq_zero_or_pos l0.length with hz | hz
        · exact List.eq_nil_of_length_eq_zero hz
        · obtain ⟨ad, e, _⟩ := HR0.out.2.2 hz
          cases e
      subst hz
      have hn := fun (W : World) (n c n' c' : Nat) => Lib.run_eql_slice_nil (P := Try.prog) W 22 2 none n c n' c' Try.underlying22
      go_enter Try.func106, Try.ntmps106
      go_wp2
      go_ret
      exact ⟨.slice none 0 0, rfl, Kd.R_nil _ _ _ _ _, Below.refl _ _⟩
    | some ad =>
      have hn := fun (W : World) (n c n' c' : Nat) => Lib.run_eql_slice_nil (P := Try.prog) W 22 2 (some ad) n c n' c' Try.underlying22
      obtain ⟨y105, hy105⟩ : ∃ y_ : List Int, y_ = ([] : List Int) := ⟨_, rfl⟩
      obtain ⟨y108, hy108⟩ : ∃ y_ : List Int, y_ = (y105 ++ l0) := ⟨_, rfl⟩
      have Ny105 := Aside0.mk hy105
      have Ny108 := Aside0.mk hy108
      have N3 := Aside0.mk (show y108 = l0 by rw [hy108, hy105]; rfl)
      have LM2 := Aside0.mk (show y105.length + l0.length < 17592186044416 by rw [hy105]; simpa using LMc2.out)
      clear hy105 hy108
      go_enter Try.func106, Try.ntmps106
      go_wp2_with (first | ((with_reducible refine gate_dst (N := 5) rfl ?_); refine Kd.R_lit (Kd.int .i64) _ 2 ?hg (N := 5) ?hd (xs := ([] : List Int)) (inner := []) (ok := fun _ => True) (okp := fun _ => True) ?hr ?hp (fun _ hk => hk) trivial (Below.refl _ _) (Nat.le_refl _) (by simp) ?_; (case hd => rfl); (case hg => rfl); (case hr => first | (go_simp; done) | (go_simp; rfl)); (case hp => exact (Reps.none _ _)); intro v106 w3 ho4 hb hg_ hnew_; clear hg_ hnew_; (first | rw [← Ny105.out] at ho4 | (simp only [Int.reduceToNat] at ho4; rw [← Ny105.out] at ho4)); have n0_ := Aside0.mk (Kd.R_lower ho4 (below_size qB33)); have n1_ := Aside0.mk (below_step qB33 hb); clear HB; have HO107 := n0_; have HB := n1_; clear n0_ n1_; clear hb ho4) | ((with_reducible refine gate_builtin (b := .append) (xs := #[.tmp 5, .tmp 6]) rfl ?_); at_builtin; refine Kd.R_append_rows (Kd.int .i64) (w0 := w) w.heap.size rfl (.tmp 5) (.tmp 6) 22 2 (.int .i64 0) 8 rfl Try.underlying22 hcl_info rfl (by decide) (by omega) v106 y105 l0 _ _ _ (fun _ => True) (fun _ => False) rfl rfl ?aO ?aR (fun _ _ h => h) (fun _ h => h.elim) ?aF ?aB ?aS ?aL ?_; (case aR => repeat (first | exact (Kd.C_below HR0.out HB.out) | (with_reducible refine Kd.C_alloc ?_ _) | (with_reducible refine Kd.C_drewN ?_ _) | (with_reducible refine Kd.C_drew ?_))); (case aB => exact qB33); (case aF => exact (fun _ _ => trivial)); (case aO => exact qB55); (case aS => exact (below_size qB33)); (case aL => have := LM2.out; omega); intro v109 w5 ho hb hg hat; rw [← Ny108.out, N3.out] at ho; have n0_ := Aside0.mk (hb); have n1_ := Aside0.mk (ho); clear HB; clear HO107; have HB := n0_; have HO110 := n1_; clear n0_ n1_; clear ho hb hg hat))
      go_ret
      exact ⟨_, by first | rfl | (simp; done), by (with_reducible repeat (first | apply Kd.R_alloc | apply Kd.R_drewN | apply Kd.R_drew)); exact HO110.out, by repeat (first | (with_reducible first | exact HB.out | apply below_alloc | apply pw_below_drewN | apply below_drew1) | exact HB.out)⟩
  · rw [if_neg c2] at h
    cases h

end Go.Proofs.Ythdpdiahkphklab.PFnExactJacobiRow
