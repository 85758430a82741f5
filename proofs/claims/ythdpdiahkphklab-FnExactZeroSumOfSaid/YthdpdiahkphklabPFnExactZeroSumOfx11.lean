/- The functions that the law reaches, as plain functions, each with the proof that the program comes to it; no condition. Written by a program of this session (wip/mp.py) over the printing of the kit; what is marked HAND is told by hand. -/
import Derived.Test.YthdpdiahkphklabPFnExactZeroSumOfx0
import Derived.Test.YthdpdiahkphklabPFnExactZeroSumOfx10
namespace Go.Proofs.Ythdpdiahkphklab.PFnExactZeroSumOf
open Go.RowKit Go.Proofs.YthdpdiahkphklabW.PrintWords Go.Proofs.YthdpdiahkphklabW.PrintLast Go.Proofs.YthdpdiahkphklabW.PrintMore
attribute [local go_sem] max2_int min2_int max_two min_two max_three min_three max_four min_four   -- for this text's walks alone
set_option linter.unusedVariables false
set_option linter.unusedSimpArgs false

/-! ### impl_within: function 61 -/
def impl_within.f (a0 : Int) (a1 : Int) (a2 : Int) : Option (Bool) := if a1 ≤ a0 then (some (decide (a0 ≤ a2))) else (some false)
set_option maxHeartbeats 8000000 in
set_option maxRecDepth 100000 in
theorem impl_within.calls (a0 : Int) (a1 : Int) (a2 : Int) (r : Bool) (w : World) (h : impl_within.f a0 a1 a2 = some r) :
  Calls Try.prog 61 #[.int .i64 a0, .int .i64 a1, .int .i64 a2] w fun e w' => e = .returned (.bool r) ∧ Drawn0 w w' := by
 have H : (if a1 ≤ a0 then (some (decide (a0 ≤ a2))) else (some false)) = some r := h
 clear h
 by_cases c4 : a1 ≤ a0
 ·rw [if_pos c4] at H
  have c4b0 : decide (a1 ≤ a0) = true := decide_eq_true c4
  clear c4
  obtain rfl := Option.some.inj H
  go_enter Try.func61, Try.ntmps61
  go_wp2
  go_ret
  exact ⟨by first | rfl | (simp; done) | (simp [*]; done), by repeat (first | exact Drawn0.refl _ | apply Drawn0.step)⟩
 ·rw [if_neg c4] at H
  have c4b0 : decide (a1 ≤ a0) = false := decide_eq_false c4
  clear c4
  obtain rfl := Option.some.inj H
  go_enter Try.func61, Try.ntmps61
  go_wp2
  go_ret
  exact ⟨by first | rfl | (simp; done) | (simp [*]; done), by repeat (first | exact Drawn0.refl _ | apply Drawn0.step)⟩

/-! ### impl_isPrime: function 46 -/
def impl_isPrime.l0 : Nat → Int → Int → Option (Bool)
 | 0, _, _ => none
 | k + 1, x0, x3 => if (wrap64 (x3 * x3)) ≤ x0 then (if x3 = 0 then (none) else (if (Int.tmod x0 x3) = 0 then (some false) else (impl_isPrime.l0 k x0 (wrap64 (x3 + 1))))) else ((impl_within.f x0 3 61).bind fun t370 => (some t370))
def impl_isPrime.f (k : Nat) (a0 : Int) : Option (Bool) := impl_isPrime.l0 k a0 2
theorem impl_isPrime.mono_l : ∀ k, (∀ y0 y1, LeO (impl_isPrime.l0 k y0 y1) (impl_isPrime.l0 (k + 1) y0 y1))
 | 0 => fun _ _ r h => by simp [impl_isPrime.l0] at h
 | k + 1 => by
  have ih0 := impl_isPrime.mono_l k
  ·intro y0 y1
   unfold impl_isPrime.l0
   repeat' first
   | (with_reducible exact ih0 _ _)
   | (with_reducible exact LeO.refl _)
   | (with_reducible exact LeO.none _)
   | (with_reducible refine LeO.ite ?_ ?_)
   | (with_reducible refine LeO.bind ?_ (fun _ => ?_))
   | exact ih0 _ _
   | exact LeO.none _
   | refine LeO.ite ?_ ?_
   | refine LeO.bind ?_ (fun _ => ?_)
theorem impl_isPrime.mono : ∀ a0 k, LeO (impl_isPrime.f k a0) (impl_isPrime.f (k + 1) a0) := by
 intro a0 k
 have ih0 := impl_isPrime.mono_l k
 unfold impl_isPrime.f
 repeat' first
   | (with_reducible exact ih0 _ _)
   | (with_reducible exact LeO.refl _)
   | (with_reducible exact LeO.none _)
   | (with_reducible refine LeO.ite ?_ ?_)
   | (with_reducible refine LeO.bind ?_ (fun _ => ?_))
   | exact ih0 _ _
   | exact LeO.none _
   | refine LeO.ite ?_ ?_
   | refine LeO.bind ?_ (fun _ => ?_)
set_option maxHeartbeats 8000000 in
set_option maxRecDepth 100000 in
theorem impl_isPrime.calls (k : Nat) (a0 : Int) (r : Bool) (w : World) (h : impl_isPrime.f k a0 = some r) :
  Calls Try.prog 46 #[.int .i64 a0] w fun e w' => e = .returned (.bool r) ∧ Drawn0 w w' := by
 have H : (impl_isPrime.l0 k a0 2) = some r := h
 clear h
 have H' := Aside0.mk H
 clear H
 go_enter Try.func46, Try.ntmps46
 go_wp2
 try simp only [Act.put, List.setIfInBounds_toArray, List.set_cons_succ, List.set_cons_zero]
 go_loopg [3] k (fun kq v3 w' => ∃ (x3_1 : Int), v3 = .int .i64 x3_1 ∧ Aside0 (impl_isPrime.l0 kq a0 x3_1 = some r) ∧ Aside0 (kq ≤ k) ∧ Drawn0 w w')
 case atStart => exact ⟨(2), qB99, H', ⟨Nat.le_refl _⟩, by repeat (first | exact Drawn0.refl _ | apply Drawn0.step)⟩
 case round =>
  clear H'
  obtain ⟨x3_1, rfl, HA, HK1, ⟨m1, rfl⟩⟩ := hrel
  cases gk with
  | zero => exact absurd HA.out (by simp [impl_isPrime.l0])
  | succ k1 =>
   have H := HA.out
   clear HA
   simp only [impl_isPrime.l0] at H
   by_cases c2 : (wrap64 (x3_1 * x3_1)) ≤ a0
   ·rw [if_pos c2] at H
    have c2b0 : decide ((wrap64 (x3_1 * x3_1)) ≤ a0) = true := decide_eq_true c2
    clear c2
    by_cases c3 : x3_1 = 0
    ·rw [if_pos c3] at H
     exact absurd H (by simp)
    ·rw [if_neg c3] at H
     have c3b0 : (x3_1 == 0) = false := beq_eq_false_iff_ne.mpr c3
     have c3b1 : (x3_1 != 0) = true := bne_iff_ne.mpr c3
     by_cases c4 : (Int.tmod a0 x3_1) = 0
     ·rw [if_pos c4] at H
      have c4b0 : ((Int.tmod a0 x3_1) == 0) = true := beq_iff_eq.mpr c4
      have c4b1 : ((Int.tmod a0 x3_1) != 0) = false := bne_eq_false_iff_eq.mpr c4
      clear c4
      obtain rfl := Option.some.inj H
      go_wp2
      go_ret
      exact ⟨by first | rfl | (simp; done) | (simp [*]; done), by repeat (first | exact Drawn0.refl _ | apply Drawn0.step)⟩
     ·rw [if_neg c4] at H
      have c4b0 : ((Int.tmod a0 x3_1) == 0) = false := beq_eq_false_iff_ne.mpr c4
      have c4b1 : ((Int.tmod a0 x3_1) != 0) = true := bne_iff_ne.mpr c4
      have H' := Aside0.mk H
      clear H
      go_wp2
      (first | go_roundg k1 | ((try simp only [add_plain] at *); go_roundg k1))
      case measure => have := HK1.out; omega
      case rel => exact ⟨(wrap64 (x3_1 + 1)), qB99, H', ⟨by have := HK1.out; omega⟩, by repeat (first | exact Drawn0.refl _ | apply Drawn0.step)⟩
   ·rw [if_neg c2] at H
    have c2b0 : decide ((wrap64 (x3_1 * x3_1)) ≤ a0) = false := decide_eq_false c2
    clear c2
    replace H := Option.bind_eq_some_iff.mp H
    obtain ⟨t370, A50, H⟩ := H
    replace H : (some t370) = some r := H
    have A5 := Aside0.mk A50
    clear A50
    obtain rfl := Option.some.inj H
    go_wp2_with (first | ((with_reducible refine gate_callee (f := 61) rfl ?_); refine goesL_ (some 16) rfl rfl Try.func61 (by kernel_rfl) rfl #[.int .i64 a0, .int .i64 3, .int .i64 61] rfl qB43 ?_; (with_reducible refine (impl_within.calls a0 3 61 t370 _ A5.out).mono ?_); rintro e w' ⟨rfl, ⟨nd, rfl⟩⟩; refine ⟨_, rfl, ?_⟩))
    go_ret
    exact ⟨by first | rfl | (simp; done) | (simp [*]; done), by repeat (first | exact Drawn0.refl _ | apply Drawn0.step)⟩

/-! ### impl_isOrder: function 90 -/
def impl_isOrder.f (a0 : Int) : Option (Bool) := (impl_within.f a0 1 16).bind fun t371 => (some t371)
set_option maxHeartbeats 8000000 in
set_option maxRecDepth 100000 in
theorem impl_isOrder.calls (a0 : Int) (r : Bool) (w : World) (h : impl_isOrder.f a0 = some r) :
  Calls Try.prog 90 #[.int .i64 a0] w fun e w' => e = .returned (.bool r) ∧ Drawn0 w w' := by
 have H : ((impl_within.f a0 1 16).bind fun t371 => (some t371)) = some r := h
 clear h
 replace H := Option.bind_eq_some_iff.mp H
 obtain ⟨t371, A20, H⟩ := H
 replace H : (some t371) = some r := H
 have A2 := Aside0.mk A20
 clear A20
 obtain rfl := Option.some.inj H
 go_enter Try.func90, Try.ntmps90
 go_wp2_with (first | ((with_reducible refine gate_callee (f := 61) rfl ?_); refine goesL_ (some 4) rfl rfl Try.func61 (by kernel_rfl) rfl #[.int .i64 a0, .int .i64 1, .int .i64 16] rfl qB43 ?_; (with_reducible refine (impl_within.calls a0 1 16 t371 _ A2.out).mono ?_); rintro e w' ⟨rfl, ⟨nd, rfl⟩⟩; refine ⟨_, rfl, ?_⟩))
 go_ret
 exact ⟨by first | rfl | (simp; done) | (simp [*]; done), by repeat (first | exact Drawn0.refl _ | apply Drawn0.step)⟩

/-! ### impl_areOf: function 70 -/
def impl_areOf.f (k : Nat) (a0 : Int) (a1 : Int) : Option (Bool) := (impl_isPrime.f k a0).bind fun t372 => (if t372 = true then ((impl_isOrder.f a1).bind fun t373 => (if t373 = true then (if a1 = 0 then (none) else (some ((Int.tmod (wrap64 (a0 - 1)) a1) == 0))) else (some false))) else (some false))
theorem impl_areOf.mono : ∀ a0 a1 k, LeO (impl_areOf.f k a0 a1) (impl_areOf.f (k + 1) a0 a1) := by
 intro a0 a1 k
 unfold impl_areOf.f
 repeat' first
   | (with_reducible exact impl_isPrime.mono _ _)
   | (with_reducible exact LeO.refl _)
   | (with_reducible exact LeO.none _)
   | (with_reducible refine LeO.ite ?_ ?_)
   | (with_reducible refine LeO.bind ?_ (fun _ => ?_))
   | exact impl_isPrime.mono _ _
   | exact LeO.none _
   | refine LeO.ite ?_ ?_
   | refine LeO.bind ?_ (fun _ => ?_)
set_option maxHeartbeats 8000000 in
set_option maxRecDepth 100000 in
theorem impl_areOf.calls (k : Nat) (a0 : Int) (a1 : Int) (r : Bool) (w : World) (h : impl_areOf.f k a0 a1 = some r) :
  Calls Try.prog 70 #[.int .i64 a0, .int .i64 a1] w fun e w' => e = .returned (.bool r) ∧ Drawn0 w w' := by
 have H : ((impl_isPrime.f k a0).bind fun t372 => (if t372 = true then ((impl_isOrder.f a1).bind fun t373 => (if t373 = true then (if a1 = 0 then (none) else (some ((Int.tmod (wrap64 (a0 - 1)) a1) == 0))) else (some false))) else (some false))) = some r := h
 clear h
 replace H := Option.bind_eq_some_iff.mp H
 obtain ⟨t372, A30, H⟩ := H
 replace H : (if t372 = true then ((impl_isOrder.f a1).bind fun t373 => (if t373 = true then (if a1 = 0 then (none) else (some ((Int.tmod (wrap64 (a0 - 1)) a1) == 0))) else (some false))) else (some false)) = some r := H
 have A3 := Aside0.mk A30
 clear A30
 by_cases c4 : t372 = true
 ·subst c4
  have H1 : ((impl_isOrder.f a1).bind fun t373 => (if t373 = true then (if a1 = 0 then (none) else (some ((Int.tmod (wrap64 (a0 - 1)) a1) == 0))) else (some false))) = some r := by rw [if_pos rfl] at H; exact H
  clear H
  have H := H1
  clear H1
  replace H := Option.bind_eq_some_iff.mp H
  obtain ⟨t373, A50, H⟩ := H
  replace H : (if t373 = true then (if a1 = 0 then (none) else (some ((Int.tmod (wrap64 (a0 - 1)) a1) == 0))) else (some false)) = some r := H
  have A5 := Aside0.mk A50
  clear A50
  by_cases c6 : t373 = true
  ·subst c6
   have H1 : (if a1 = 0 then (none) else (some ((Int.tmod (wrap64 (a0 - 1)) a1) == 0))) = some r := by rw [if_pos rfl] at H; exact H
   clear H
   have H := H1
   clear H1
   by_cases c7 : a1 = 0
   ·rw [if_pos c7] at H
    exact absurd H (by simp)
   ·rw [if_neg c7] at H
    have c7b0 : (a1 == 0) = false := beq_eq_false_iff_ne.mpr c7
    have c7b1 : (a1 != 0) = true := bne_iff_ne.mpr c7
    obtain rfl := Option.some.inj H
    go_enter Try.func70, Try.ntmps70
    go_wp2_with (first | ((with_reducible refine gate_callee (f := 46) rfl ?_); refine goesL_ (some 6) rfl rfl Try.func46 (by kernel_rfl) rfl #[.int .i64 a0] rfl qB43 ?_; (with_reducible refine (impl_isPrime.calls k a0 true _ A3.out).mono ?_); rintro e w' ⟨rfl, ⟨nd, rfl⟩⟩; refine ⟨_, rfl, ?_⟩) | (go_at_call 90; (with_reducible refine (impl_isOrder.calls a1 true _ A5.out).mono ?_); rintro e w' ⟨rfl, ⟨nd, rfl⟩⟩))
    go_ret
    exact ⟨by first | rfl | (simp; done) | (simp [*]; done), by repeat (first | exact Drawn0.refl _ | apply Drawn0.step)⟩
  ·replace c6 := Bool.eq_false_iff.mpr c6
   subst c6
   have H1 : (some false) = some r := by rw [if_neg (show ¬ (false = true) by decide)] at H; exact H
   clear H
   have H := H1
   clear H1
   obtain rfl := Option.some.inj H
   go_enter Try.func70, Try.ntmps70
   go_wp2_with (first | ((with_reducible refine gate_callee (f := 46) rfl ?_); refine goesL_ (some 6) rfl rfl Try.func46 (by kernel_rfl) rfl #[.int .i64 a0] rfl qB43 ?_; (with_reducible refine (impl_isPrime.calls k a0 true _ A3.out).mono ?_); rintro e w' ⟨rfl, ⟨nd, rfl⟩⟩; refine ⟨_, rfl, ?_⟩) | (go_at_call 90; (with_reducible refine (impl_isOrder.calls a1 false _ A5.out).mono ?_); rintro e w' ⟨rfl, ⟨nd, rfl⟩⟩))
   go_ret
   exact ⟨by first | rfl | (simp; done) | (simp [*]; done), by repeat (first | exact Drawn0.refl _ | apply Drawn0.step)⟩
 ·replace c4 := Bool.eq_false_iff.mpr c4
  subst c4
  have H1 : (some false) = some r := by rw [if_neg (show ¬ (false = true) by decide)] at H; exact H
  clear H
  have H := H1
  clear H1
  obtain rfl := Option.some.inj H
  go_enter Try.func70, Try.ntmps70
  go_wp2_with (first | ((with_reducible refine gate_callee (f := 46) rfl ?_); refine goesL_ (some 6) rfl rfl Try.func46 (by kernel_rfl) rfl #[.int .i64 a0] rfl qB43 ?_; (with_reducible refine (impl_isPrime.calls k a0 false _ A3.out).mono ?_); rintro e w' ⟨rfl, ⟨nd, rfl⟩⟩; refine ⟨_, rfl, ?_⟩))
  go_ret
  exact ⟨by first | rfl | (simp; done) | (simp [*]; done), by repeat (first | exact Drawn0.refl _ | apply Drawn0.step)⟩

/-! ### impl_IsCharacter: function 41 -/
def impl_IsCharacter.f (k : Nat) (a0_0 : Int) (a0_1 : Int) (a0_2 : Int) : Option (Bool) := (impl_areOf.f k a0_0 a0_1).bind fun t375 => (if t375 = true then ((impl_within.f a0_2 0 (wrap64 (a0_1 - 1))).bind fun t376 => (some t376)) else (some false))
theorem impl_IsCharacter.mono : ∀ a0 a1 a2 k, LeO (impl_IsCharacter.f k a0 a1 a2) (impl_IsCharacter.f (k + 1) a0 a1 a2) := by
 intro a0 a1 a2 k
 unfold impl_IsCharacter.f
 repeat' first
   | (with_reducible exact impl_areOf.mono _ _ _)
   | (with_reducible exact LeO.refl _)
   | (with_reducible exact LeO.none _)
   | (with_reducible refine LeO.ite ?_ ?_)
   | (with_reducible refine LeO.bind ?_ (fun _ => ?_))
   | exact impl_areOf.mono _ _ _
   | exact LeO.none _
   | refine LeO.ite ?_ ?_
   | refine LeO.bind ?_ (fun _ => ?_)
set_option maxHeartbeats 8000000 in
set_option maxRecDepth 100000 in
theorem impl_IsCharacter.calls (k : Nat) (a0_0 : Int) (a0_1 : Int) (a0_2 : Int) (r : Bool) (w : World) (h : impl_IsCharacter.f k a0_0 a0_1 a0_2 = some r) :
  Calls Try.prog 41 #[.agg #[.int .i64 a0_0, .int .i64 a0_1, .int .i64 a0_2]] w fun e w' => e = .returned (.bool r) ∧ Below w.heap.size w w' := by
 have hu33 := Try.underlying33
 have HB := Aside0.mk (Below.refl w.heap.size w)
 have H : ((impl_areOf.f k a0_0 a0_1).bind fun t375 => (if t375 = true then ((impl_within.f a0_2 0 (wrap64 (a0_1 - 1))).bind fun t376 => (some t376)) else (some false))) = some r := h
 clear h
 replace H := Option.bind_eq_some_iff.mp H
 obtain ⟨t375, A20, H⟩ := H
 replace H : (if t375 = true then ((impl_within.f a0_2 0 (wrap64 (a0_1 - 1))).bind fun t376 => (some t376)) else (some false)) = some r := H
 have A2 := Aside0.mk A20
 clear A20
 by_cases c3 : t375 = true
 ·subst c3
  have H1 : ((impl_within.f a0_2 0 (wrap64 (a0_1 - 1))).bind fun t376 => (some t376)) = some r := by rw [if_pos rfl] at H; exact H
  clear H
  have H := H1
  clear H1
  replace H := Option.bind_eq_some_iff.mp H
  obtain ⟨t376, A40, H⟩ := H
  replace H : (some t376) = some r := H
  have A4 := Aside0.mk A40
  clear A40
  obtain rfl := Option.some.inj H
  go_enter Try.func41, Try.ntmps41
  go_wp2_with (first | ((with_reducible refine gate_dst (N := 1) rfl ?_); refine box_event ?hg (N := 1) ?hd (cs := #[.int .i64 a0_0, .int .i64 a0_1, .int .i64 a0_2]) (t := 33) ?hr ?_; (case hd => rfl); (case hg => rfl); (case hr => first | (go_simp; done) | (go_simp; rfl)); intro gb374 hg w5 hbox hb; have n0_ := Aside0.mk (below_step qB44 hb); have n1_ := Aside0.mk (hbox); have n2_ := Aside0.mk ((by rw [hg]; exact (below_size qB44) : w.heap.size ≤ gb374)); have n3_ := Aside0.mk ((by rw [hg]; exact (below_size qB44) : w.heap.size ≤ gb374)); clear HB; have HB := n0_; have BK374 := n1_; have GW374 := n2_; have GE374 := n3_; clear n0_ n1_ n2_ n3_; clear hb hbox hg; have hcz6_0 : w5.cell? ⟨gb374, 0, none⟩ = some (.int .i64 a0_0) := (blk_cell BK374.out 0).trans rfl; have hcz6_1 : w5.cell? ⟨gb374, 1, none⟩ = some (.int .i64 a0_1) := (blk_cell BK374.out 1).trans rfl; have hcz6_2 : w5.cell? ⟨gb374, 2, none⟩ = some (.int .i64 a0_2) := (blk_cell BK374.out 2).trans rfl; have hfz6_0 := blk_frozen BK374.out 0; have hfz6_1 := blk_frozen BK374.out 1; have hfz6_2 := blk_frozen BK374.out 2) | ((with_reducible refine gate_callee (f := 70) rfl ?_); refine goesL_ (some 7) rfl rfl Try.func70 (by kernel_rfl) rfl #[.int .i64 a0_0, .int .i64 a0_1] rfl qB43 ?_; (with_reducible refine (impl_areOf.calls k a0_0 a0_1 true _ A2.out).mono ?_); rintro e w' ⟨rfl, ⟨nd, rfl⟩⟩; refine ⟨_, rfl, ?_⟩) | (go_at_call 61; (with_reducible refine (impl_within.calls a0_2 0 (wrap64 (a0_1 - 1)) t376 _ A4.out).mono ?_); rintro e w' ⟨rfl, ⟨nd, rfl⟩⟩))
  go_ret
  exact ⟨by first | rfl | (simp [errW_none, errW_some] <;> rfl) | (simp [*, errW_none, errW_some] <;> rfl), by repeat (first | (with_reducible first | exact HB.out | apply below_alloc | apply pw_below_drewN | apply below_drew1 | refine below_set ?_ GE374.out) | exact HB.out)⟩
 ·replace c3 := Bool.eq_false_iff.mpr c3
  subst c3
  have H1 : (some false) = some r := by rw [if_neg (show ¬ (false = true) by decide)] at H; exact H
  clear H
  have H := H1
  clear H1
  obtain rfl := Option.some.inj H
  go_enter Try.func41, Try.ntmps41
  go_wp2_with (first | ((with_reducible refine gate_dst (N := 1) rfl ?_); refine box_event ?hg (N := 1) ?hd (cs := #[.int .i64 a0_0, .int .i64 a0_1, .int .i64 a0_2]) (t := 33) ?hr ?_; (case hd => rfl); (case hg => rfl); (case hr => first | (go_simp; done) | (go_simp; rfl)); intro gb374 hg w7 hbox hb; have n0_ := Aside0.mk (below_step qB44 hb); have n1_ := Aside0.mk (hbox); have n2_ := Aside0.mk ((by rw [hg]; exact (below_size qB44) : w.heap.size ≤ gb374)); have n3_ := Aside0.mk ((by rw [hg]; exact (below_size qB44) : w.heap.size ≤ gb374)); clear HB; have HB := n0_; have BK374 := n1_; have GW374 := n2_; have GE374 := n3_; clear n0_ n1_ n2_ n3_; clear hb hbox hg; have hcz8_0 : w7.cell? ⟨gb374, 0, none⟩ = some (.int .i64 a0_0) := (blk_cell BK374.out 0).trans rfl; have hcz8_1 : w7.cell? ⟨gb374, 1, none⟩ = some (.int .i64 a0_1) := (blk_cell BK374.out 1).trans rfl; have hcz8_2 : w7.cell? ⟨gb374, 2, none⟩ = some (.int .i64 a0_2) := (blk_cell BK374.out 2).trans rfl; have hfz8_0 := blk_frozen BK374.out 0; have hfz8_1 := blk_frozen BK374.out 1; have hfz8_2 := blk_frozen BK374.out 2) | ((with_reducible refine gate_callee (f := 70) rfl ?_); refine goesL_ (some 7) rfl rfl Try.func70 (by kernel_rfl) rfl #[.int .i64 a0_0, .int .i64 a0_1] rfl qB43 ?_; (with_reducible refine (impl_areOf.calls k a0_0 a0_1 false _ A2.out).mono ?_); rintro e w' ⟨rfl, ⟨nd, rfl⟩⟩; refine ⟨_, rfl, ?_⟩))
  go_ret
  exact ⟨by first | rfl | (simp [errW_none, errW_some] <;> rfl) | (simp [*, errW_none, errW_some] <;> rfl), by repeat (first | (with_reducible first | exact HB.out | apply below_alloc | apply pw_below_drewN | apply below_drew1 | refine below_set ?_ GE374.out) | exact HB.out)⟩

/-! ### impl_listCode: function 51 -/
mutual
def impl_listCode.l0 : Nat → List (S33) → List (S33) → Int → Int → Option (Int)
 | 0, _, _, _, _ => none
 | k + 1, x0, x7, x8, x9 => if x9 < x8 then (if 0 ≤ x9 then (if x9 < (x7.length : Int) then ((impl_IsCharacter.f k ((rd_T33 x7 x9).f0) ((rd_T33 x7 x9).f1) ((rd_T33 x7 x9).f2)).bind fun t379 => (if t379 = true then (impl_listCode.l0 k x0 x7 x8 (wrap64 (x9 + 1))) else (some 1))) else (none)) else (none)) else ((impl_within.f (x0.length : Int) 1 4).bind fun t380 => (if t380 = true then (impl_listCode.l1 k x0 x0 (x0.length : Int) 0) else (some 2)))
def impl_listCode.l1 : Nat → List (S33) → List (S33) → Int → Int → Option (Int)
 | 0, _, _, _, _ => none
 | k + 1, x0, x21, x22, x23 => if x23 < x22 then (if 0 ≤ x23 then (if x23 < (x21.length : Int) then (if 0 < (x0.length : Int) then (if ((rd_T33 x21 x23).f0) = ((rd_T33 x0 0).f0) then (if ((rd_T33 x21 x23).f1) = ((rd_T33 x0 0).f1) then (impl_listCode.l1 k x0 x21 x22 (wrap64 (x23 + 1))) else (some 2)) else (some 2)) else (none)) else (none)) else (none)) else (some 0)
end
def impl_listCode.f (k : Nat) (l0 : List (S33)) : Option (Int) := impl_listCode.l0 k l0 l0 (l0.length : Int) 0
theorem impl_listCode.mono_l : ∀ k, (∀ y0 y1 y2 y3, LeO (impl_listCode.l0 k y0 y1 y2 y3) (impl_listCode.l0 (k + 1) y0 y1 y2 y3)) ∧ (∀ y0 y1 y2 y3, LeO (impl_listCode.l1 k y0 y1 y2 y3) (impl_listCode.l1 (k + 1) y0 y1 y2 y3))
 | 0 => ⟨fun _ _ _ _ r h => by simp [impl_listCode.l0] at h, fun _ _ _ _ r h => by simp [impl_listCode.l1] at h⟩
 | k + 1 => by
  obtain ⟨ih0, ih1⟩ := impl_listCode.mono_l k
  refine ⟨?_, ?_⟩
  ·intro y0 y1 y2 y3
   unfold impl_listCode.l0
   repeat' first
   | (with_reducible exact ih0 _ _ _ _)
   | (with_reducible exact ih1 _ _ _ _)
   | (with_reducible exact impl_IsCharacter.mono _ _ _ _)
   | (with_reducible exact LeO.refl _)
   | (with_reducible exact LeO.none _)
   | (with_reducible refine LeO.ite ?_ ?_)
   | (with_reducible refine LeO.bind ?_ (fun _ => ?_))
   | exact ih0 _ _ _ _
   | exact ih1 _ _ _ _
   | exact impl_IsCharacter.mono _ _ _ _
   | exact LeO.none _
   | refine LeO.ite ?_ ?_
   | refine LeO.bind ?_ (fun _ => ?_)
  ·intro y0 y1 y2 y3
   unfold impl_listCode.l1
   repeat' first
   | (with_reducible exact ih0 _ _ _ _)
   | (with_reducible exact ih1 _ _ _ _)
   | (with_reducible exact impl_IsCharacter.mono _ _ _ _)
   | (with_reducible exact LeO.refl _)
   | (with_reducible exact LeO.none _)
   | (with_reducible refine LeO.ite ?_ ?_)
   | (with_reducible refine LeO.bind ?_ (fun _ => ?_))
   | exact ih0 _ _ _ _
   | exact ih1 _ _ _ _
   | exact impl_IsCharacter.mono _ _ _ _
   | exact LeO.none _
   | refine LeO.ite ?_ ?_
   | refine LeO.bind ?_ (fun _ => ?_)
theorem impl_listCode.mono : ∀ a0 k, LeO (impl_listCode.f k a0) (impl_listCode.f (k + 1) a0) := by
 intro a0 k
 obtain ⟨ih0, ih1⟩ := impl_listCode.mono_l k
 unfold impl_listCode.f
 repeat' first
   | (with_reducible exact ih0 _ _ _ _)
   | (with_reducible exact ih1 _ _ _ _)
   | (with_reducible exact impl_IsCharacter.mono _ _ _ _)
   | (with_reducible exact LeO.refl _)
   | (with_reducible exact LeO.none _)
   | (with_reducible refine LeO.ite ?_ ?_)
   | (with_reducible refine LeO.bind ?_ (fun _ => ?_))
   | exact ih0 _ _ _ _
   | exact ih1 _ _ _ _
   | exact impl_IsCharacter.mono _ _ _ _
   | exact LeO.none _
   | refine LeO.ite ?_ ?_
   | refine LeO.bind ?_ (fun _ => ?_)
set_option maxHeartbeats 8000000 in
set_option maxRecDepth 100000 in
theorem impl_listCode.calls (k : Nat) (A0 : Option Addr) (c0 : Nat) (l0 : List (S33)) (r : Int) (w : World) (hr0 : Kd.C k33 w A0 l0.length l0) (hc0 : l0.length ≤ c0) (h : impl_listCode.f k l0 = some r) :
  Calls Try.prog 51 #[.slice A0 l0.length c0] w fun e w' => e = .returned (.int .i64 r) ∧ Below w.heap.size w w' := by
 have hu33 := Try.underlying33
 have HR0 := Aside0.mk hr0
 have HC0 := Aside0.mk hc0
 clear hr0 hc0
 have HB := Aside0.mk (Below.refl w.heap.size w)
 have H : (impl_listCode.l0 k l0 l0 (l0.length : Int) 0) = some r := h
 clear h
 have H' := Aside0.mk H
 clear H
 go_enter Try.func51, Try.ntmps51
 go_wp2
 repeat (go_quiet (fail); try go_wp2)
 try simp only [Act.put, List.setIfInBounds_toArray, List.set_cons_succ, List.set_cons_zero]
 go_loopg [9] k (fun kq v9 w' => ∃ (x9_1 : Int), v9 = .int .i64 x9_1 ∧ Aside0 (impl_listCode.l0 kq l0 l0 (l0.length : Int) x9_1 = some r) ∧ Aside0 (kq ≤ k) ∧ Aside0 (Below w.heap.size w w'))
 case atStart => exact ⟨(0), qB99, H', ⟨Nat.le_refl _⟩, ⟨by repeat (first | (with_reducible first | exact HB.out | apply below_alloc | apply pw_below_drewN | apply below_drew1) | exact HB.out)⟩⟩
 case round =>
  clear H'
  obtain ⟨x9_1, rfl, HA, HK1, HB⟩ := hrel
  cases gk with
  | zero => exact absurd HA.out (by simp [impl_listCode.l0])
  | succ k1 =>
   have H := HA.out
   clear HA
   simp only [impl_listCode.l0] at H
   by_cases c2 : x9_1 < (l0.length : Int)
   ·rw [if_pos c2] at H
    have c2b0 : decide (x9_1 < (l0.length : Int)) = true := decide_eq_true c2
    clear c2
    by_cases c3 : 0 ≤ x9_1
    ·rw [if_pos c3] at H
     have c3b0 : decide (0 ≤ x9_1) = true := decide_eq_true c3
     clear c3
     by_cases c4 : x9_1 < (l0.length : Int)
     ·rw [if_pos c4] at H
      have c4b0 : decide (x9_1 < (l0.length : Int)) = true := decide_eq_true c4
      clear c4
      replace H := Option.bind_eq_some_iff.mp H
      obtain ⟨t379, A50, H⟩ := H
      replace H : (if t379 = true then (impl_listCode.l0 k1 l0 l0 (l0.length : Int) (wrap64 (x9_1 + 1))) else (some 1)) = some r := H
      have A5 := Aside0.mk A50
      clear A50
      by_cases c6 : t379 = true
      ·subst c6
       have H1 : (impl_listCode.l0 k1 l0 l0 (l0.length : Int) (wrap64 (x9_1 + 1))) = some r := by rw [if_pos rfl] at H; exact H
       clear H
       have H := H1
       clear H1
       have H' := Aside0.mk H
       clear H
       have p377 : 0 ≤ (x9_1 : Int) := of_decide_eq_true qB98
       have q377 : x9_1 < (l0.length : Int) := of_decide_eq_true qB98
       obtain ⟨ad377, e377, hx377_0, hx377_1, hx377_2⟩ := at_T33 HR0.out x9_1 p377 q377
       cases e377
       replace hx377_0 := (HB.out.cell (World.block_lt_of_cell? w _ hx377_0)).trans hx377_0
       replace hx377_1 := (HB.out.cell (World.block_lt_of_cell? w _ hx377_1)).trans hx377_1
       replace hx377_2 := (HB.out.cell (World.block_lt_of_cell? w _ hx377_2)).trans hx377_2
       replace p377 := eq_true p377
       replace q377 := eq_true q377
       go_wp2_with (first | ((with_reducible refine gate_dst (N := 4) rfl ?_); refine box_event ?hg (N := 4) ?hd (cs := #[.int .i64 0, .int .i64 0, .int .i64 0]) (t := 33) ?hr ?_; (case hd => rfl); (case hg => rfl); (case hr => first | (go_simp; done) | (go_simp; rfl)); intro gb378 hg w7 hbox hb; have n0_ := Aside0.mk (below_step qB44 hb); have n1_ := Aside0.mk (hbox); have n2_ := Aside0.mk ((by rw [hg]; exact (below_size qB44) : w.heap.size ≤ gb378)); have n3_ := Aside0.mk ((by rw [hg]; exact (below_size qB44) : w.heap.size ≤ gb378)); clear HB; have HB := n0_; have BK378 := n1_; have GW378 := n2_; have GE378 := n3_; clear n0_ n1_ n2_ n3_; clear hb hbox hg; have hcz8_0 : w7.cell? ⟨gb378, 0, none⟩ = some (.int .i64 0) := (blk_cell BK378.out 0).trans rfl; have hcz8_1 : w7.cell? ⟨gb378, 1, none⟩ = some (.int .i64 0) := (blk_cell BK378.out 1).trans rfl; have hcz8_2 : w7.cell? ⟨gb378, 2, none⟩ = some (.int .i64 0) := (blk_cell BK378.out 2).trans rfl; have hfz8_0 := blk_frozen BK378.out 0; have hfz8_1 := blk_frozen BK378.out 1; have hfz8_2 := blk_frozen BK378.out 2) | (go_at_call 41; (with_reducible refine (impl_IsCharacter.calls k1 ((rd_T33 l0 x9_1).f0) ((rd_T33 l0 x9_1).f1) ((rd_T33 l0 x9_1).f2) true _ A5.out).mono ?_); rintro e w9 ⟨rfl, hb⟩; have n0_ := Aside0.mk (blk_below (g := gb378) (o := .cells #[.int .i64 ((rd_T33 l0 x9_1).f0), .int .i64 ((rd_T33 l0 x9_1).f1), .int .i64 ((rd_T33 l0 x9_1).f2)] 33 (0, 0)) qB1 hb); have n1_ := Aside0.mk (below_step qB34 hb); clear BK378; clear HB; have BK378 := n0_; have HB := n1_; clear n0_ n1_; (try clear hb); (try clear hb2); (try clear hk); (try clear hi)))
       repeat (go_quiet (first | ((with_reducible refine gate_dst (N := 4) rfl ?_); refine box_event ?hg (N := 4) ?hd (cs := #[.int .i64 0, .int .i64 0, .int .i64 0]) (t := 33) ?hr ?_; (case hd => rfl); (case hg => rfl); (case hr => first | (go_simp; done) | (go_simp; rfl)); intro gb378 hg w7 hbox hb; have n0_ := Aside0.mk (below_step qB44 hb); have n1_ := Aside0.mk (hbox); have n2_ := Aside0.mk ((by rw [hg]; exact (below_size qB44) : w.heap.size ≤ gb378)); have n3_ := Aside0.mk ((by rw [hg]; exact (below_size qB44) : w.heap.size ≤ gb378)); clear HB; have HB := n0_; have BK378 := n1_; have GW378 := n2_; have GE378 := n3_; clear n0_ n1_ n2_ n3_; clear hb hbox hg; have hcz8_0 : w7.cell? ⟨gb378, 0, none⟩ = some (.int .i64 0) := (blk_cell BK378.out 0).trans rfl; have hcz8_1 : w7.cell? ⟨gb378, 1, none⟩ = some (.int .i64 0) := (blk_cell BK378.out 1).trans rfl; have hcz8_2 : w7.cell? ⟨gb378, 2, none⟩ = some (.int .i64 0) := (blk_cell BK378.out 2).trans rfl; have hfz8_0 := blk_frozen BK378.out 0; have hfz8_1 := blk_frozen BK378.out 1; have hfz8_2 := blk_frozen BK378.out 2) | (go_at_call 41; (with_reducible refine (impl_IsCharacter.calls k1 ((rd_T33 l0 x9_1).f0) ((rd_T33 l0 x9_1).f1) ((rd_T33 l0 x9_1).f2) true _ A5.out).mono ?_); rintro e w9 ⟨rfl, hb⟩; have n0_ := Aside0.mk (blk_below (g := gb378) (o := .cells #[.int .i64 ((rd_T33 l0 x9_1).f0), .int .i64 ((rd_T33 l0 x9_1).f1), .int .i64 ((rd_T33 l0 x9_1).f2)] 33 (0, 0)) qB1 hb); have n1_ := Aside0.mk (below_step qB34 hb); clear BK378; clear HB; have BK378 := n0_; have HB := n1_; clear n0_ n1_; (try clear hb); (try clear hb2); (try clear hk); (try clear hi))); try go_wp2_with (first | ((with_reducible refine gate_dst (N := 4) rfl ?_); refine box_event ?hg (N := 4) ?hd (cs := #[.int .i64 0, .int .i64 0, .int .i64 0]) (t := 33) ?hr ?_; (case hd => rfl); (case hg => rfl); (case hr => first | (go_simp; done) | (go_simp; rfl)); intro gb378 hg w7 hbox hb; have n0_ := Aside0.mk (below_step qB44 hb); have n1_ := Aside0.mk (hbox); have n2_ := Aside0.mk ((by rw [hg]; exact (below_size qB44) : w.heap.size ≤ gb378)); have n3_ := Aside0.mk ((by rw [hg]; exact (below_size qB44) : w.heap.size ≤ gb378)); clear HB; have HB := n0_; have BK378 := n1_; have GW378 := n2_; have GE378 := n3_; clear n0_ n1_ n2_ n3_; clear hb hbox hg; have hcz8_0 : w7.cell? ⟨gb378, 0, none⟩ = some (.int .i64 0) := (blk_cell BK378.out 0).trans rfl; have hcz8_1 : w7.cell? ⟨gb378, 1, none⟩ = some (.int .i64 0) := (blk_cell BK378.out 1).trans rfl; have hcz8_2 : w7.cell? ⟨gb378, 2, none⟩ = some (.int .i64 0) := (blk_cell BK378.out 2).trans rfl; have hfz8_0 := blk_frozen BK378.out 0; have hfz8_1 := blk_frozen BK378.out 1; have hfz8_2 := blk_frozen BK378.out 2) | (go_at_call 41; (with_reducible refine (impl_IsCharacter.calls k1 ((rd_T33 l0 x9_1).f0) ((rd_T33 l0 x9_1).f1) ((rd_T33 l0 x9_1).f2) true _ A5.out).mono ?_); rintro e w9 ⟨rfl, hb⟩; have n0_ := Aside0.mk (blk_below (g := gb378) (o := .cells #[.int .i64 ((rd_T33 l0 x9_1).f0), .int .i64 ((rd_T33 l0 x9_1).f1), .int .i64 ((rd_T33 l0 x9_1).f2)] 33 (0, 0)) qB1 hb); have n1_ := Aside0.mk (below_step qB34 hb); clear BK378; clear HB; have BK378 := n0_; have HB := n1_; clear n0_ n1_; (try clear hb); (try clear hb2); (try clear hk); (try clear hi))))
       (first | go_roundg k1 | ((try simp only [add_plain] at *); go_roundg k1))
       case measure => have := HK1.out; omega
       case rel => exact ⟨(wrap64 (x9_1 + 1)), qB99, H', ⟨by have := HK1.out; omega⟩, ⟨by repeat (first | (with_reducible first | exact HB.out | apply below_alloc | apply pw_below_drewN | apply below_drew1 | refine below_set ?_ GE378.out) | exact HB.out)⟩⟩
      ·replace c6 := Bool.eq_false_iff.mpr c6
       subst c6
       have H1 : (some 1) = some r := by rw [if_neg (show ¬ (false = true) by decide)] at H; exact H
       clear H
       have H := H1
       clear H1
       obtain rfl := Option.some.inj H
       have p377 : 0 ≤ (x9_1 : Int) := of_decide_eq_true qB98
       have q377 : x9_1 < (l0.length : Int) := of_decide_eq_true qB98
       obtain ⟨ad377, e377, hx377_0, hx377_1, hx377_2⟩ := at_T33 HR0.out x9_1 p377 q377
       cases e377
       replace hx377_0 := (HB.out.cell (World.block_lt_of_cell? w _ hx377_0)).trans hx377_0
       replace hx377_1 := (HB.out.cell (World.block_lt_of_cell? w _ hx377_1)).trans hx377_1
       replace hx377_2 := (HB.out.cell (World.block_lt_of_cell? w _ hx377_2)).trans hx377_2
       replace p377 := eq_true p377
       replace q377 := eq_true q377
       go_wp2_with (first | ((with_reducible refine gate_dst (N := 4) rfl ?_); refine box_event ?hg (N := 4) ?hd (cs := #[.int .i64 0, .int .i64 0, .int .i64 0]) (t := 33) ?hr ?_; (case hd => rfl); (case hg => rfl); (case hr => first | (go_simp; done) | (go_simp; rfl)); intro gb378 hg w10 hbox hb; have n0_ := Aside0.mk (below_step qB44 hb); have n1_ := Aside0.mk (hbox); have n2_ := Aside0.mk ((by rw [hg]; exact (below_size qB44) : w.heap.size ≤ gb378)); have n3_ := Aside0.mk ((by rw [hg]; exact (below_size qB44) : w.heap.size ≤ gb378)); clear HB; have HB := n0_; have BK378 := n1_; have GW378 := n2_; have GE378 := n3_; clear n0_ n1_ n2_ n3_; clear hb hbox hg; have hcz11_0 : w10.cell? ⟨gb378, 0, none⟩ = some (.int .i64 0) := (blk_cell BK378.out 0).trans rfl; have hcz11_1 : w10.cell? ⟨gb378, 1, none⟩ = some (.int .i64 0) := (blk_cell BK378.out 1).trans rfl; have hcz11_2 : w10.cell? ⟨gb378, 2, none⟩ = some (.int .i64 0) := (blk_cell BK378.out 2).trans rfl; have hfz11_0 := blk_frozen BK378.out 0; have hfz11_1 := blk_frozen BK378.out 1; have hfz11_2 := blk_frozen BK378.out 2) | (go_at_call 41; (with_reducible refine (impl_IsCharacter.calls k1 ((rd_T33 l0 x9_1).f0) ((rd_T33 l0 x9_1).f1) ((rd_T33 l0 x9_1).f2) false _ A5.out).mono ?_); rintro e w12 ⟨rfl, hb⟩; have n0_ := Aside0.mk (blk_below (g := gb378) (o := .cells #[.int .i64 ((rd_T33 l0 x9_1).f0), .int .i64 ((rd_T33 l0 x9_1).f1), .int .i64 ((rd_T33 l0 x9_1).f2)] 33 (0, 0)) qB1 hb); have n1_ := Aside0.mk (below_step qB34 hb); clear BK378; clear HB; have BK378 := n0_; have HB := n1_; clear n0_ n1_; (try clear hb); (try clear hb2); (try clear hk); (try clear hi)))
       repeat (go_quiet (first | ((with_reducible refine gate_dst (N := 4) rfl ?_); refine box_event ?hg (N := 4) ?hd (cs := #[.int .i64 0, .int .i64 0, .int .i64 0]) (t := 33) ?hr ?_; (case hd => rfl); (case hg => rfl); (case hr => first | (go_simp; done) | (go_simp; rfl)); intro gb378 hg w10 hbox hb; have n0_ := Aside0.mk (below_step qB44 hb); have n1_ := Aside0.mk (hbox); have n2_ := Aside0.mk ((by rw [hg]; exact (below_size qB44) : w.heap.size ≤ gb378)); have n3_ := Aside0.mk ((by rw [hg]; exact (below_size qB44) : w.heap.size ≤ gb378)); clear HB; have HB := n0_; have BK378 := n1_; have GW378 := n2_; have GE378 := n3_; clear n0_ n1_ n2_ n3_; clear hb hbox hg; have hcz11_0 : w10.cell? ⟨gb378, 0, none⟩ = some (.int .i64 0) := (blk_cell BK378.out 0).trans rfl; have hcz11_1 : w10.cell? ⟨gb378, 1, none⟩ = some (.int .i64 0) := (blk_cell BK378.out 1).trans rfl; have hcz11_2 : w10.cell? ⟨gb378, 2, none⟩ = some (.int .i64 0) := (blk_cell BK378.out 2).trans rfl; have hfz11_0 := blk_frozen BK378.out 0; have hfz11_1 := blk_frozen BK378.out 1; have hfz11_2 := blk_frozen BK378.out 2) | (go_at_call 41; (with_reducible refine (impl_IsCharacter.calls k1 ((rd_T33 l0 x9_1).f0) ((rd_T33 l0 x9_1).f1) ((rd_T33 l0 x9_1).f2) false _ A5.out).mono ?_); rintro e w12 ⟨rfl, hb⟩; have n0_ := Aside0.mk (blk_below (g := gb378) (o := .cells #[.int .i64 ((rd_T33 l0 x9_1).f0), .int .i64 ((rd_T33 l0 x9_1).f1), .int .i64 ((rd_T33 l0 x9_1).f2)] 33 (0, 0)) qB1 hb); have n1_ := Aside0.mk (below_step qB34 hb); clear BK378; clear HB; have BK378 := n0_; have HB := n1_; clear n0_ n1_; (try clear hb); (try clear hb2); (try clear hk); (try clear hi))); try go_wp2_with (first | ((with_reducible refine gate_dst (N := 4) rfl ?_); refine box_event ?hg (N := 4) ?hd (cs := #[.int .i64 0, .int .i64 0, .int .i64 0]) (t := 33) ?hr ?_; (case hd => rfl); (case hg => rfl); (case hr => first | (go_simp; done) | (go_simp; rfl)); intro gb378 hg w10 hbox hb; have n0_ := Aside0.mk (below_step qB44 hb); have n1_ := Aside0.mk (hbox); have n2_ := Aside0.mk ((by rw [hg]; exact (below_size qB44) : w.heap.size ≤ gb378)); have n3_ := Aside0.mk ((by rw [hg]; exact (below_size qB44) : w.heap.size ≤ gb378)); clear HB; have HB := n0_; have BK378 := n1_; have GW378 := n2_; have GE378 := n3_; clear n0_ n1_ n2_ n3_; clear hb hbox hg; have hcz11_0 : w10.cell? ⟨gb378, 0, none⟩ = some (.int .i64 0) := (blk_cell BK378.out 0).trans rfl; have hcz11_1 : w10.cell? ⟨gb378, 1, none⟩ = some (.int .i64 0) := (blk_cell BK378.out 1).trans rfl; have hcz11_2 : w10.cell? ⟨gb378, 2, none⟩ = some (.int .i64 0) := (blk_cell BK378.out 2).trans rfl; have hfz11_0 := blk_frozen BK378.out 0; have hfz11_1 := blk_frozen BK378.out 1; have hfz11_2 := blk_frozen BK378.out 2) | (go_at_call 41; (with_reducible refine (impl_IsCharacter.calls k1 ((rd_T33 l0 x9_1).f0) ((rd_T33 l0 x9_1).f1) ((rd_T33 l0 x9_1).f2) false _ A5.out).mono ?_); rintro e w12 ⟨rfl, hb⟩; have n0_ := Aside0.mk (blk_below (g := gb378) (o := .cells #[.int .i64 ((rd_T33 l0 x9_1).f0), .int .i64 ((rd_T33 l0 x9_1).f1), .int .i64 ((rd_T33 l0 x9_1).f2)] 33 (0, 0)) qB1 hb); have n1_ := Aside0.mk (below_step qB34 hb); clear BK378; clear HB; have BK378 := n0_; have HB := n1_; clear n0_ n1_; (try clear hb); (try clear hb2); (try clear hk); (try clear hi))))
       go_ret
       exact ⟨by first | rfl | (simp [errW_none, errW_some] <;> rfl) | (simp [*, errW_none, errW_some] <;> rfl), by repeat (first | (with_reducible first | exact HB.out | apply below_alloc | apply pw_below_drewN | apply below_drew1 | refine below_set ?_ GE378.out) | exact HB.out)⟩
     ·rw [if_neg c4] at H
      exact absurd H (by simp)
    ·rw [if_neg c3] at H
     exact absurd H (by simp)
   ·rw [if_neg c2] at H
    have c2b0 : decide (x9_1 < (l0.length : Int)) = false := decide_eq_false c2
    clear c2
    replace H := Option.bind_eq_some_iff.mp H
    obtain ⟨t380, A130, H⟩ := H
    replace H : (if t380 = true then (impl_listCode.l1 k1 l0 l0 (l0.length : Int) 0) else (some 2)) = some r := H
    have A13 := Aside0.mk A130
    clear A130
    by_cases c14 : t380 = true
    ·subst c14
     have H1 : (impl_listCode.l1 k1 l0 l0 (l0.length : Int) 0) = some r := by rw [if_pos rfl] at H; exact H
     clear H
     have H := H1
     clear H1
     have H' := Aside0.mk H
     clear H
     go_wp2_with (first | (go_at_call 61; (with_reducible refine (impl_within.calls (l0.length : Int) 1 4 true _ A13.out).mono ?_); rintro e w' ⟨rfl, ⟨nd, rfl⟩⟩; (try first | exact ⟨rfl, _, World.drewN_drewN _ _ _⟩ | exact ⟨rfl, _, Eq.trans (World.drewN_drewN _ _ _) (congrArg (World.drewN _) (Nat.add_assoc _ _ _))⟩)))
     repeat (go_quiet (first | (go_at_call 61; (with_reducible refine (impl_within.calls (l0.length : Int) 1 4 true _ A13.out).mono ?_); rintro e w' ⟨rfl, ⟨nd, rfl⟩⟩; (try first | exact ⟨rfl, _, World.drewN_drewN _ _ _⟩ | exact ⟨rfl, _, Eq.trans (World.drewN_drewN _ _ _) (congrArg (World.drewN _) (Nat.add_assoc _ _ _))⟩))); try go_wp2_with (first | (go_at_call 61; (with_reducible refine (impl_within.calls (l0.length : Int) 1 4 true _ A13.out).mono ?_); rintro e w' ⟨rfl, ⟨nd, rfl⟩⟩; (try first | exact ⟨rfl, _, World.drewN_drewN _ _ _⟩ | exact ⟨rfl, _, Eq.trans (World.drewN_drewN _ _ _) (congrArg (World.drewN _) (Nat.add_assoc _ _ _))⟩))))
     try simp only [Act.put, List.setIfInBounds_toArray, List.set_cons_succ, List.set_cons_zero]
     go_loopg [23] k1 (fun kq v23 w' => ∃ (x23_2 : Int), v23 = .int .i64 x23_2 ∧ Aside0 (impl_listCode.l1 kq l0 l0 (l0.length : Int) x23_2 = some r) ∧ Aside0 (kq ≤ k1) ∧ Aside0 (Below w.heap.size w w'))
     case atStart => exact ⟨(0), qB99, H', ⟨Nat.le_refl _⟩, ⟨by repeat (first | (with_reducible first | exact HB.out | apply below_alloc | apply pw_below_drewN | apply below_drew1) | exact HB.out)⟩⟩
     case round =>
      clear H'
      try clear c1
      try clear c2
      try clear c2b0
      try clear p2
      try clear c3
      try clear c3b0
      try clear p3
      try clear q3
      try clear hx3
      try clear c4
      try clear c4b0
      try clear c5
      try clear c6
      try clear p6
      try clear c14
      try clear hcz11_0
      try clear hcz11_1
      try clear hcz11_2
      try clear hcz8_0
      try clear hcz8_1
      try clear hcz8_2
      try clear hfz11_0
      try clear hfz11_1
      try clear hfz11_2
      try clear hfz8_0
      try clear hfz8_1
      try clear hfz8_2
      try clear hx377_0
      try clear hx377_1
      try clear hx377_2
      try clear p377
      try clear q377
      obtain ⟨x23_2, rfl, HA, HK2, HB⟩ := hrel
      cases gk with
      | zero => exact absurd HA.out (by simp [impl_listCode.l1])
      | succ k2 =>
       have H := HA.out
       clear HA
       simp only [impl_listCode.l1] at H
       by_cases c15 : x23_2 < (l0.length : Int)
       ·rw [if_pos c15] at H
        have c15b0 : decide (x23_2 < (l0.length : Int)) = true := decide_eq_true c15
        clear c15
        by_cases c16 : 0 ≤ x23_2
        ·rw [if_pos c16] at H
         have c16b0 : decide (0 ≤ x23_2) = true := decide_eq_true c16
         clear c16
         by_cases c17 : x23_2 < (l0.length : Int)
         ·rw [if_pos c17] at H
          have c17b0 : decide (x23_2 < (l0.length : Int)) = true := decide_eq_true c17
          clear c17
          by_cases c18 : 0 < (l0.length : Int)
          ·rw [if_pos c18] at H
           have c18b0 : decide (0 < (l0.length : Int)) = true := decide_eq_true c18
           have c18b1 : decide (0 < l0.length) = true := decide_eq_true (by omega)
           clear c18
           by_cases c19 : ((rd_T33 l0 x23_2).f0) = ((rd_T33 l0 0).f0)
           ·rw [if_pos c19] at H
            have c19b0 : (((rd_T33 l0 x23_2).f0) == ((rd_T33 l0 0).f0)) = true := beq_iff_eq.mpr c19
            have c19b1 : (((rd_T33 l0 x23_2).f0) != ((rd_T33 l0 0).f0)) = false := bne_eq_false_iff_eq.mpr c19
            clear c19
            by_cases c20 : ((rd_T33 l0 x23_2).f1) = ((rd_T33 l0 0).f1)
            ·rw [if_pos c20] at H
             have c20b0 : (((rd_T33 l0 x23_2).f1) == ((rd_T33 l0 0).f1)) = true := beq_iff_eq.mpr c20
             have c20b1 : (((rd_T33 l0 x23_2).f1) != ((rd_T33 l0 0).f1)) = false := bne_eq_false_iff_eq.mpr c20
             clear c20
             have H' := Aside0.mk H
             clear H
             have p381 : 0 ≤ (x23_2 : Int) := of_decide_eq_true qB98
             have q381 : x23_2 < (l0.length : Int) := of_decide_eq_true qB98
             obtain ⟨ad381, e381, hx381_0, hx381_1, hx381_2⟩ := at_T33 HR0.out x23_2 p381 q381
             cases e381
             replace hx381_0 := (HB.out.cell (World.block_lt_of_cell? w _ hx381_0)).trans hx381_0
             replace hx381_1 := (HB.out.cell (World.block_lt_of_cell? w _ hx381_1)).trans hx381_1
             replace hx381_2 := (HB.out.cell (World.block_lt_of_cell? w _ hx381_2)).trans hx381_2
             replace p381 := eq_true p381
             replace q381 := eq_true q381
             go_wp2_with (first | ((with_reducible refine gate_dst (N := 6) rfl ?_); refine box_event ?hg (N := 6) ?hd (cs := #[.int .i64 0, .int .i64 0, .int .i64 0]) (t := 33) ?hr ?_; (case hd => rfl); (case hg => rfl); (case hr => first | (go_simp; done) | (go_simp; rfl)); intro gb382 hg w21 hbox hb; have n0_ := Aside0.mk (below_step qB44 hb); have n1_ := Aside0.mk (hbox); have n2_ := Aside0.mk ((by rw [hg]; exact (below_size qB44) : w.heap.size ≤ gb382)); have n3_ := Aside0.mk ((by rw [hg]; exact (below_size qB44) : w.heap.size ≤ gb382)); clear HB; have HB := n0_; have BK382 := n1_; have GW382 := n2_; have GE382 := n3_; clear n0_ n1_ n2_ n3_; clear hb hbox hg; have hcz22_0 : w21.cell? ⟨gb382, 0, none⟩ = some (.int .i64 0) := (blk_cell BK382.out 0).trans rfl; have hcz22_1 : w21.cell? ⟨gb382, 1, none⟩ = some (.int .i64 0) := (blk_cell BK382.out 1).trans rfl; have hcz22_2 : w21.cell? ⟨gb382, 2, none⟩ = some (.int .i64 0) := (blk_cell BK382.out 2).trans rfl; have hfz22_0 := blk_frozen BK382.out 0; have hfz22_1 := blk_frozen BK382.out 1; have hfz22_2 := blk_frozen BK382.out 2; have p383 : 0 ≤ (0 : Int) := (by omega); have q383 : 0 < (l0.length : Int) := of_decide_eq_true qB98; obtain ⟨ad383, e383, hx383_0, hx383_1, hx383_2⟩ := at_T33 HR0.out 0 p383 q383; obtain rfl : ad381 = ad383 := (by injection e383); have qi383 : (0 < l0.length) = True := eq_true (by omega); (try rw [show ((0 : Int)).toNat = 0 from rfl] at hx383_0); (try rw [show 0 * 3 = 0 from rfl] at hx383_0); (try rw [Addr.add_zero'] at hx383_0); (try rw [show ((0 : Int)).toNat = 0 from rfl] at hx383_1); (try rw [show 0 * 3 = 0 from rfl] at hx383_1); (try rw [Addr.add_zero'] at hx383_1); (try rw [show ((0 : Int)).toNat = 0 from rfl] at hx383_2); (try rw [show 0 * 3 = 0 from rfl] at hx383_2); (try rw [Addr.add_zero'] at hx383_2); have hn383_0 : ad381.block ≠ gb382 := Nat.ne_of_lt (Nat.lt_of_lt_of_le qB96 GW382.out); have hn383_1 : ad381.block ≠ gb382 := Nat.ne_of_lt (Nat.lt_of_lt_of_le qB96 GW382.out); have hn383_2 : ad381.block ≠ gb382 := Nat.ne_of_lt (Nat.lt_of_lt_of_le qB96 GW382.out); replace hx383_0 := (HB.out.cell (World.block_lt_of_cell? w _ hx383_0)).trans hx383_0; replace hx383_1 := (HB.out.cell (World.block_lt_of_cell? w _ hx383_1)).trans hx383_1; replace hx383_2 := (HB.out.cell (World.block_lt_of_cell? w _ hx383_2)).trans hx383_2; replace hx383_0 := (cell_far (p := ⟨gb382, 0, none⟩) qB46 (.int .i64 ((rd_T33 l0 x23_2).f0))).trans hx383_0; replace hx383_1 := (cell_far (p := ⟨gb382, 0, none⟩) qB46 (.int .i64 ((rd_T33 l0 x23_2).f0))).trans hx383_1; replace hx383_2 := (cell_far (p := ⟨gb382, 0, none⟩) qB46 (.int .i64 ((rd_T33 l0 x23_2).f0))).trans hx383_2; replace hx383_0 := (cell_far (p := ⟨gb382, 1, none⟩) qB47 (.int .i64 ((rd_T33 l0 x23_2).f1))).trans hx383_0; replace hx383_1 := (cell_far (p := ⟨gb382, 1, none⟩) qB47 (.int .i64 ((rd_T33 l0 x23_2).f1))).trans hx383_1; replace hx383_2 := (cell_far (p := ⟨gb382, 1, none⟩) qB47 (.int .i64 ((rd_T33 l0 x23_2).f1))).trans hx383_2; replace hx383_0 := (cell_far (p := ⟨gb382, 2, none⟩) qB48 (.int .i64 ((rd_T33 l0 x23_2).f2))).trans hx383_0; replace hx383_1 := (cell_far (p := ⟨gb382, 2, none⟩) qB48 (.int .i64 ((rd_T33 l0 x23_2).f2))).trans hx383_1; replace hx383_2 := (cell_far (p := ⟨gb382, 2, none⟩) qB48 (.int .i64 ((rd_T33 l0 x23_2).f2))).trans hx383_2; (try have hy383_0 := fun (n_ : Nat) => (show (((((w21.drewN n_).setCell ⟨gb382, 0, none⟩ (.int .i64 ((rd_T33 l0 x23_2).f0))).setCell ⟨gb382, 1, none⟩ (.int .i64 ((rd_T33 l0 x23_2).f1))).setCell ⟨gb382, 2, none⟩ (.int .i64 ((rd_T33 l0 x23_2).f2)))).cell? _ = some _ from hx383_0)); (try have hy383_1 := fun (n_ : Nat) => (show (((((w21.drewN n_).setCell ⟨gb382, 0, none⟩ (.int .i64 ((rd_T33 l0 x23_2).f0))).setCell ⟨gb382, 1, none⟩ (.int .i64 ((rd_T33 l0 x23_2).f1))).setCell ⟨gb382, 2, none⟩ (.int .i64 ((rd_T33 l0 x23_2).f2)))).cell? _ = some _ from hx383_1)); (try have hy383_2 := fun (n_ : Nat) => (show (((((w21.drewN n_).setCell ⟨gb382, 0, none⟩ (.int .i64 ((rd_T33 l0 x23_2).f0))).setCell ⟨gb382, 1, none⟩ (.int .i64 ((rd_T33 l0 x23_2).f1))).setCell ⟨gb382, 2, none⟩ (.int .i64 ((rd_T33 l0 x23_2).f2)))).cell? _ = some _ from hx383_2)); clear hn383_0; clear hn383_1; clear hn383_2; replace p383 := eq_true p383; replace q383 := eq_true q383; have p384 : 0 ≤ (0 : Int) := (by omega); have q384 : 0 < (l0.length : Int) := of_decide_eq_true qB98; obtain ⟨ad384, e384, hx384_0, hx384_1, hx384_2⟩ := at_T33 HR0.out 0 p384 q384; obtain rfl : ad381 = ad384 := (by injection e384); have qi384 : (0 < l0.length) = True := eq_true (by omega); (try rw [show ((0 : Int)).toNat = 0 from rfl] at hx384_0); (try rw [show 0 * 3 = 0 from rfl] at hx384_0); (try rw [Addr.add_zero'] at hx384_0); (try rw [show ((0 : Int)).toNat = 0 from rfl] at hx384_1); (try rw [show 0 * 3 = 0 from rfl] at hx384_1); (try rw [Addr.add_zero'] at hx384_1); (try rw [show ((0 : Int)).toNat = 0 from rfl] at hx384_2); (try rw [show 0 * 3 = 0 from rfl] at hx384_2); (try rw [Addr.add_zero'] at hx384_2); have hn384_0 : ad381.block ≠ gb382 := Nat.ne_of_lt (Nat.lt_of_lt_of_le qB97 GW382.out); have hn384_1 : ad381.block ≠ gb382 := Nat.ne_of_lt (Nat.lt_of_lt_of_le qB97 GW382.out); have hn384_2 : ad381.block ≠ gb382 := Nat.ne_of_lt (Nat.lt_of_lt_of_le qB97 GW382.out); replace hx384_0 := (HB.out.cell (World.block_lt_of_cell? w _ hx384_0)).trans hx384_0; replace hx384_1 := (HB.out.cell (World.block_lt_of_cell? w _ hx384_1)).trans hx384_1; replace hx384_2 := (HB.out.cell (World.block_lt_of_cell? w _ hx384_2)).trans hx384_2; replace hx384_0 := (cell_far (p := ⟨gb382, 0, none⟩) qB49 (.int .i64 ((rd_T33 l0 x23_2).f0))).trans hx384_0; replace hx384_1 := (cell_far (p := ⟨gb382, 0, none⟩) qB49 (.int .i64 ((rd_T33 l0 x23_2).f0))).trans hx384_1; replace hx384_2 := (cell_far (p := ⟨gb382, 0, none⟩) qB49 (.int .i64 ((rd_T33 l0 x23_2).f0))).trans hx384_2; replace hx384_0 := (cell_far (p := ⟨gb382, 1, none⟩) qB50 (.int .i64 ((rd_T33 l0 x23_2).f1))).trans hx384_0; replace hx384_1 := (cell_far (p := ⟨gb382, 1, none⟩) qB50 (.int .i64 ((rd_T33 l0 x23_2).f1))).trans hx384_1; replace hx384_2 := (cell_far (p := ⟨gb382, 1, none⟩) qB50 (.int .i64 ((rd_T33 l0 x23_2).f1))).trans hx384_2; replace hx384_0 := (cell_far (p := ⟨gb382, 2, none⟩) qB51 (.int .i64 ((rd_T33 l0 x23_2).f2))).trans hx384_0; replace hx384_1 := (cell_far (p := ⟨gb382, 2, none⟩) qB51 (.int .i64 ((rd_T33 l0 x23_2).f2))).trans hx384_1; replace hx384_2 := (cell_far (p := ⟨gb382, 2, none⟩) qB51 (.int .i64 ((rd_T33 l0 x23_2).f2))).trans hx384_2; (try have hy384_0 := fun (n_ : Nat) => (show (((((w21.drewN n_).setCell ⟨gb382, 0, none⟩ (.int .i64 ((rd_T33 l0 x23_2).f0))).setCell ⟨gb382, 1, none⟩ (.int .i64 ((rd_T33 l0 x23_2).f1))).setCell ⟨gb382, 2, none⟩ (.int .i64 ((rd_T33 l0 x23_2).f2)))).cell? _ = some _ from hx384_0)); (try have hy384_1 := fun (n_ : Nat) => (show (((((w21.drewN n_).setCell ⟨gb382, 0, none⟩ (.int .i64 ((rd_T33 l0 x23_2).f0))).setCell ⟨gb382, 1, none⟩ (.int .i64 ((rd_T33 l0 x23_2).f1))).setCell ⟨gb382, 2, none⟩ (.int .i64 ((rd_T33 l0 x23_2).f2)))).cell? _ = some _ from hx384_1)); (try have hy384_2 := fun (n_ : Nat) => (show (((((w21.drewN n_).setCell ⟨gb382, 0, none⟩ (.int .i64 ((rd_T33 l0 x23_2).f0))).setCell ⟨gb382, 1, none⟩ (.int .i64 ((rd_T33 l0 x23_2).f1))).setCell ⟨gb382, 2, none⟩ (.int .i64 ((rd_T33 l0 x23_2).f2)))).cell? _ = some _ from hx384_2)); clear hn384_0; clear hn384_1; clear hn384_2; replace p384 := eq_true p384; replace q384 := eq_true q384))
             repeat (go_quiet (first | ((with_reducible refine gate_dst (N := 6) rfl ?_); refine box_event ?hg (N := 6) ?hd (cs := #[.int .i64 0, .int .i64 0, .int .i64 0]) (t := 33) ?hr ?_; (case hd => rfl); (case hg => rfl); (case hr => first | (go_simp; done) | (go_simp; rfl)); intro gb382 hg w21 hbox hb; have n0_ := Aside0.mk (below_step qB44 hb); have n1_ := Aside0.mk (hbox); have n2_ := Aside0.mk ((by rw [hg]; exact (below_size qB44) : w.heap.size ≤ gb382)); have n3_ := Aside0.mk ((by rw [hg]; exact (below_size qB44) : w.heap.size ≤ gb382)); clear HB; have HB := n0_; have BK382 := n1_; have GW382 := n2_; have GE382 := n3_; clear n0_ n1_ n2_ n3_; clear hb hbox hg; have hcz22_0 : w21.cell? ⟨gb382, 0, none⟩ = some (.int .i64 0) := (blk_cell BK382.out 0).trans rfl; have hcz22_1 : w21.cell? ⟨gb382, 1, none⟩ = some (.int .i64 0) := (blk_cell BK382.out 1).trans rfl; have hcz22_2 : w21.cell? ⟨gb382, 2, none⟩ = some (.int .i64 0) := (blk_cell BK382.out 2).trans rfl; have hfz22_0 := blk_frozen BK382.out 0; have hfz22_1 := blk_frozen BK382.out 1; have hfz22_2 := blk_frozen BK382.out 2; have p383 : 0 ≤ (0 : Int) := (by omega); have q383 : 0 < (l0.length : Int) := of_decide_eq_true qB98; obtain ⟨ad383, e383, hx383_0, hx383_1, hx383_2⟩ := at_T33 HR0.out 0 p383 q383; obtain rfl : ad381 = ad383 := (by injection e383); have qi383 : (0 < l0.length) = True := eq_true (by omega); (try rw [show ((0 : Int)).toNat = 0 from rfl] at hx383_0); (try rw [show 0 * 3 = 0 from rfl] at hx383_0); (try rw [Addr.add_zero'] at hx383_0); (try rw [show ((0 : Int)).toNat = 0 from rfl] at hx383_1); (try rw [show 0 * 3 = 0 from rfl] at hx383_1); (try rw [Addr.add_zero'] at hx383_1); (try rw [show ((0 : Int)).toNat = 0 from rfl] at hx383_2); (try rw [show 0 * 3 = 0 from rfl] at hx383_2); (try rw [Addr.add_zero'] at hx383_2); have hn383_0 : ad381.block ≠ gb382 := Nat.ne_of_lt (Nat.lt_of_lt_of_le qB96 GW382.out); have hn383_1 : ad381.block ≠ gb382 := Nat.ne_of_lt (Nat.lt_of_lt_of_le qB96 GW382.out); have hn383_2 : ad381.block ≠ gb382 := Nat.ne_of_lt (Nat.lt_of_lt_of_le qB96 GW382.out); replace hx383_0 := (HB.out.cell (World.block_lt_of_cell? w _ hx383_0)).trans hx383_0; replace hx383_1 := (HB.out.cell (World.block_lt_of_cell? w _ hx383_1)).trans hx383_1; replace hx383_2 := (HB.out.cell (World.block_lt_of_cell? w _ hx383_2)).trans hx383_2; replace hx383_0 := (cell_far (p := ⟨gb382, 0, none⟩) qB46 (.int .i64 ((rd_T33 l0 x23_2).f0))).trans hx383_0; replace hx383_1 := (cell_far (p := ⟨gb382, 0, none⟩) qB46 (.int .i64 ((rd_T33 l0 x23_2).f0))).trans hx383_1; replace hx383_2 := (cell_far (p := ⟨gb382, 0, none⟩) qB46 (.int .i64 ((rd_T33 l0 x23_2).f0))).trans hx383_2; replace hx383_0 := (cell_far (p := ⟨gb382, 1, none⟩) qB47 (.int .i64 ((rd_T33 l0 x23_2).f1))).trans hx383_0; replace hx383_1 := (cell_far (p := ⟨gb382, 1, none⟩) qB47 (.int .i64 ((rd_T33 l0 x23_2).f1))).trans hx383_1; replace hx383_2 := (cell_far (p := ⟨gb382, 1, none⟩) qB47 (.int .i64 ((rd_T33 l0 x23_2).f1))).trans hx383_2; replace hx383_0 := (cell_far (p := ⟨gb382, 2, none⟩) qB48 (.int .i64 ((rd_T33 l0 x23_2).f2))).trans hx383_0; replace hx383_1 := (cell_far (p := ⟨gb382, 2, none⟩) qB48 (.int .i64 ((rd_T33 l0 x23_2).f2))).trans hx383_1; replace hx383_2 := (cell_far (p := ⟨gb382, 2, none⟩) qB48 (.int .i64 ((rd_T33 l0 x23_2).f2))).trans hx383_2; (try have hy383_0 := fun (n_ : Nat) => (show (((((w21.drewN n_).setCell ⟨gb382, 0, none⟩ (.int .i64 ((rd_T33 l0 x23_2).f0))).setCell ⟨gb382, 1, none⟩ (.int .i64 ((rd_T33 l0 x23_2).f1))).setCell ⟨gb382, 2, none⟩ (.int .i64 ((rd_T33 l0 x23_2).f2)))).cell? _ = some _ from hx383_0)); (try have hy383_1 := fun (n_ : Nat) => (show (((((w21.drewN n_).setCell ⟨gb382, 0, none⟩ (.int .i64 ((rd_T33 l0 x23_2).f0))).setCell ⟨gb382, 1, none⟩ (.int .i64 ((rd_T33 l0 x23_2).f1))).setCell ⟨gb382, 2, none⟩ (.int .i64 ((rd_T33 l0 x23_2).f2)))).cell? _ = some _ from hx383_1)); (try have hy383_2 := fun (n_ : Nat) => (show (((((w21.drewN n_).setCell ⟨gb382, 0, none⟩ (.int .i64 ((rd_T33 l0 x23_2).f0))).setCell ⟨gb382, 1, none⟩ (.int .i64 ((rd_T33 l0 x23_2).f1))).setCell ⟨gb382, 2, none⟩ (.int .i64 ((rd_T33 l0 x23_2).f2)))).cell? _ = some _ from hx383_2)); clear hn383_0; clear hn383_1; clear hn383_2; replace p383 := eq_true p383; replace q383 := eq_true q383; have p384 : 0 ≤ (0 : Int) := (by omega); have q384 : 0 < (l0.length : Int) := of_decide_eq_true qB98; obtain ⟨ad384, e384, hx384_0, hx384_1, hx384_2⟩ := at_T33 HR0.out 0 p384 q384; obtain rfl : ad381 = ad384 := (by injection e384); have qi384 : (0 < l0.length) = True := eq_true (by omega); (try rw [show ((0 : Int)).toNat = 0 from rfl] at hx384_0); (try rw [show 0 * 3 = 0 from rfl] at hx384_0); (try rw [Addr.add_zero'] at hx384_0); (try rw [show ((0 : Int)).toNat = 0 from rfl] at hx384_1); (try rw [show 0 * 3 = 0 from rfl] at hx384_1); (try rw [Addr.add_zero'] at hx384_1); (try rw [show ((0 : Int)).toNat = 0 from rfl] at hx384_2); (try rw [show 0 * 3 = 0 from rfl] at hx384_2); (try rw [Addr.add_zero'] at hx384_2); have hn384_0 : ad381.block ≠ gb382 := Nat.ne_of_lt (Nat.lt_of_lt_of_le qB97 GW382.out); have hn384_1 : ad381.block ≠ gb382 := Nat.ne_of_lt (Nat.lt_of_lt_of_le qB97 GW382.out); have hn384_2 : ad381.block ≠ gb382 := Nat.ne_of_lt (Nat.lt_of_lt_of_le qB97 GW382.out); replace hx384_0 := (HB.out.cell (World.block_lt_of_cell? w _ hx384_0)).trans hx384_0; replace hx384_1 := (HB.out.cell (World.block_lt_of_cell? w _ hx384_1)).trans hx384_1; replace hx384_2 := (HB.out.cell (World.block_lt_of_cell? w _ hx384_2)).trans hx384_2; replace hx384_0 := (cell_far (p := ⟨gb382, 0, none⟩) qB49 (.int .i64 ((rd_T33 l0 x23_2).f0))).trans hx384_0; replace hx384_1 := (cell_far (p := ⟨gb382, 0, none⟩) qB49 (.int .i64 ((rd_T33 l0 x23_2).f0))).trans hx384_1; replace hx384_2 := (cell_far (p := ⟨gb382, 0, none⟩) qB49 (.int .i64 ((rd_T33 l0 x23_2).f0))).trans hx384_2; replace hx384_0 := (cell_far (p := ⟨gb382, 1, none⟩) qB50 (.int .i64 ((rd_T33 l0 x23_2).f1))).trans hx384_0; replace hx384_1 := (cell_far (p := ⟨gb382, 1, none⟩) qB50 (.int .i64 ((rd_T33 l0 x23_2).f1))).trans hx384_1; replace hx384_2 := (cell_far (p := ⟨gb382, 1, none⟩) qB50 (.int .i64 ((rd_T33 l0 x23_2).f1))).trans hx384_2; replace hx384_0 := (cell_far (p := ⟨gb382, 2, none⟩) qB51 (.int .i64 ((rd_T33 l0 x23_2).f2))).trans hx384_0; replace hx384_1 := (cell_far (p := ⟨gb382, 2, none⟩) qB51 (.int .i64 ((rd_T33 l0 x23_2).f2))).trans hx384_1; replace hx384_2 := (cell_far (p := ⟨gb382, 2, none⟩) qB51 (.int .i64 ((rd_T33 l0 x23_2).f2))).trans hx384_2; (try have hy384_0 := fun (n_ : Nat) => (show (((((w21.drewN n_).setCell ⟨gb382, 0, none⟩ (.int .i64 ((rd_T33 l0 x23_2).f0))).setCell ⟨gb382, 1, none⟩ (.int .i64 ((rd_T33 l0 x23_2).f1))).setCell ⟨gb382, 2, none⟩ (.int .i64 ((rd_T33 l0 x23_2).f2)))).cell? _ = some _ from hx384_0)); (try have hy384_1 := fun (n_ : Nat) => (show (((((w21.drewN n_).setCell ⟨gb382, 0, none⟩ (.int .i64 ((rd_T33 l0 x23_2).f0))).setCell ⟨gb382, 1, none⟩ (.int .i64 ((rd_T33 l0 x23_2).f1))).setCell ⟨gb382, 2, none⟩ (.int .i64 ((rd_T33 l0 x23_2).f2)))).cell? _ = some _ from hx384_1)); (try have hy384_2 := fun (n_ : Nat) => (show (((((w21.drewN n_).setCell ⟨gb382, 0, none⟩ (.int .i64 ((rd_T33 l0 x23_2).f0))).setCell ⟨gb382, 1, none⟩ (.int .i64 ((rd_T33 l0 x23_2).f1))).setCell ⟨gb382, 2, none⟩ (.int .i64 ((rd_T33 l0 x23_2).f2)))).cell? _ = some _ from hx384_2)); clear hn384_0; clear hn384_1; clear hn384_2; replace p384 := eq_true p384; replace q384 := eq_true q384)); try go_wp2_with (first | ((with_reducible refine gate_dst (N := 6) rfl ?_); refine box_event ?hg (N := 6) ?hd (cs := #[.int .i64 0, .int .i64 0, .int .i64 0]) (t := 33) ?hr ?_; (case hd => rfl); (case hg => rfl); (case hr => first | (go_simp; done) | (go_simp; rfl)); intro gb382 hg w21 hbox hb; have n0_ := Aside0.mk (below_step qB44 hb); have n1_ := Aside0.mk (hbox); have n2_ := Aside0.mk ((by rw [hg]; exact (below_size qB44) : w.heap.size ≤ gb382)); have n3_ := Aside0.mk ((by rw [hg]; exact (below_size qB44) : w.heap.size ≤ gb382)); clear HB; have HB := n0_; have BK382 := n1_; have GW382 := n2_; have GE382 := n3_; clear n0_ n1_ n2_ n3_; clear hb hbox hg; have hcz22_0 : w21.cell? ⟨gb382, 0, none⟩ = some (.int .i64 0) := (blk_cell BK382.out 0).trans rfl; have hcz22_1 : w21.cell? ⟨gb382, 1, none⟩ = some (.int .i64 0) := (blk_cell BK382.out 1).trans rfl; have hcz22_2 : w21.cell? ⟨gb382, 2, none⟩ = some (.int .i64 0) := (blk_cell BK382.out 2).trans rfl; have hfz22_0 := blk_frozen BK382.out 0; have hfz22_1 := blk_frozen BK382.out 1; have hfz22_2 := blk_frozen BK382.out 2; have p383 : 0 ≤ (0 : Int) := (by omega); have q383 : 0 < (l0.length : Int) := of_decide_eq_true qB98; obtain ⟨ad383, e383, hx383_0, hx383_1, hx383_2⟩ := at_T33 HR0.out 0 p383 q383; obtain rfl : ad381 = ad383 := (by injection e383); have qi383 : (0 < l0.length) = True := eq_true (by omega); (try rw [show ((0 : Int)).toNat = 0 from rfl] at hx383_0); (try rw [show 0 * 3 = 0 from rfl] at hx383_0); (try rw [Addr.add_zero'] at hx383_0); (try rw [show ((0 : Int)).toNat = 0 from rfl] at hx383_1); (try rw [show 0 * 3 = 0 from rfl] at hx383_1); (try rw [Addr.add_zero'] at hx383_1); (try rw [show ((0 : Int)).toNat = 0 from rfl] at hx383_2); (try rw [show 0 * 3 = 0 from rfl] at hx383_2); (try rw [Addr.add_zero'] at hx383_2); have hn383_0 : ad381.block ≠ gb382 := Nat.ne_of_lt (Nat.lt_of_lt_of_le qB96 GW382.out); have hn383_1 : ad381.block ≠ gb382 := Nat.ne_of_lt (Nat.lt_of_lt_of_le qB96 GW382.out); have hn383_2 : ad381.block ≠ gb382 := Nat.ne_of_lt (Nat.lt_of_lt_of_le qB96 GW382.out); replace hx383_0 := (HB.out.cell (World.block_lt_of_cell? w _ hx383_0)).trans hx383_0; replace hx383_1 := (HB.out.cell (World.block_lt_of_cell? w _ hx383_1)).trans hx383_1; replace hx383_2 := (HB.out.cell (World.block_lt_of_cell? w _ hx383_2)).trans hx383_2; replace hx383_0 := (cell_far (p := ⟨gb382, 0, none⟩) qB46 (.int .i64 ((rd_T33 l0 x23_2).f0))).trans hx383_0; replace hx383_1 := (cell_far (p := ⟨gb382, 0, none⟩) qB46 (.int .i64 ((rd_T33 l0 x23_2).f0))).trans hx383_1; replace hx383_2 := (cell_far (p := ⟨gb382, 0, none⟩) qB46 (.int .i64 ((rd_T33 l0 x23_2).f0))).trans hx383_2; replace hx383_0 := (cell_far (p := ⟨gb382, 1, none⟩) qB47 (.int .i64 ((rd_T33 l0 x23_2).f1))).trans hx383_0; replace hx383_1 := (cell_far (p := ⟨gb382, 1, none⟩) qB47 (.int .i64 ((rd_T33 l0 x23_2).f1))).trans hx383_1; replace hx383_2 := (cell_far (p := ⟨gb382, 1, none⟩) qB47 (.int .i64 ((rd_T33 l0 x23_2).f1))).trans hx383_2; replace hx383_0 := (cell_far (p := ⟨gb382, 2, none⟩) qB48 (.int .i64 ((rd_T33 l0 x23_2).f2))).trans hx383_0; replace hx383_1 := (cell_far (p := ⟨gb382, 2, none⟩) qB48 (.int .i64 ((rd_T33 l0 x23_2).f2))).trans hx383_1; replace hx383_2 := (cell_far (p := ⟨gb382, 2, none⟩) qB48 (.int .i64 ((rd_T33 l0 x23_2).f2))).trans hx383_2; (try have hy383_0 := fun (n_ : Nat) => (show (((((w21.drewN n_).setCell ⟨gb382, 0, none⟩ (.int .i64 ((rd_T33 l0 x23_2).f0))).setCell ⟨gb382, 1, none⟩ (.int .i64 ((rd_T33 l0 x23_2).f1))).setCell ⟨gb382, 2, none⟩ (.int .i64 ((rd_T33 l0 x23_2).f2)))).cell? _ = some _ from hx383_0)); (try have hy383_1 := fun (n_ : Nat) => (show (((((w21.drewN n_).setCell ⟨gb382, 0, none⟩ (.int .i64 ((rd_T33 l0 x23_2).f0))).setCell ⟨gb382, 1, none⟩ (.int .i64 ((rd_T33 l0 x23_2).f1))).setCell ⟨gb382, 2, none⟩ (.int .i64 ((rd_T33 l0 x23_2).f2)))).cell? _ = some _ from hx383_1)); (try have hy383_2 := fun (n_ : Nat) => (show (((((w21.drewN n_).setCell ⟨gb382, 0, none⟩ (.int .i64 ((rd_T33 l0 x23_2).f0))).setCell ⟨gb382, 1, none⟩ (.int .i64 ((rd_T33 l0 x23_2).f1))).setCell ⟨gb382, 2, none⟩ (.int .i64 ((rd_T33 l0 x23_2).f2)))).cell? _ = some _ from hx383_2)); clear hn383_0; clear hn383_1; clear hn383_2; replace p383 := eq_true p383; replace q383 := eq_true q383; have p384 : 0 ≤ (0 : Int) := (by omega); have q384 : 0 < (l0.length : Int) := of_decide_eq_true qB98; obtain ⟨ad384, e384, hx384_0, hx384_1, hx384_2⟩ := at_T33 HR0.out 0 p384 q384; obtain rfl : ad381 = ad384 := (by injection e384); have qi384 : (0 < l0.length) = True := eq_true (by omega); (try rw [show ((0 : Int)).toNat = 0 from rfl] at hx384_0); (try rw [show 0 * 3 = 0 from rfl] at hx384_0); (try rw [Addr.add_zero'] at hx384_0); (try rw [show ((0 : Int)).toNat = 0 from rfl] at hx384_1); (try rw [show 0 * 3 = 0 from rfl] at hx384_1); (try rw [Addr.add_zero'] at hx384_1); (try rw [show ((0 : Int)).toNat = 0 from rfl] at hx384_2); (try rw [show 0 * 3 = 0 from rfl] at hx384_2); (try rw [Addr.add_zero'] at hx384_2); have hn384_0 : ad381.block ≠ gb382 := Nat.ne_of_lt (Nat.lt_of_lt_of_le qB97 GW382.out); have hn384_1 : ad381.block ≠ gb382 := Nat.ne_of_lt (Nat.lt_of_lt_of_le qB97 GW382.out); have hn384_2 : ad381.block ≠ gb382 := Nat.ne_of_lt (Nat.lt_of_lt_of_le qB97 GW382.out); replace hx384_0 := (HB.out.cell (World.block_lt_of_cell? w _ hx384_0)).trans hx384_0; replace hx384_1 := (HB.out.cell (World.block_lt_of_cell? w _ hx384_1)).trans hx384_1; replace hx384_2 := (HB.out.cell (World.block_lt_of_cell? w _ hx384_2)).trans hx384_2; replace hx384_0 := (cell_far (p := ⟨gb382, 0, none⟩) qB49 (.int .i64 ((rd_T33 l0 x23_2).f0))).trans hx384_0; replace hx384_1 := (cell_far (p := ⟨gb382, 0, none⟩) qB49 (.int .i64 ((rd_T33 l0 x23_2).f0))).trans hx384_1; replace hx384_2 := (cell_far (p := ⟨gb382, 0, none⟩) qB49 (.int .i64 ((rd_T33 l0 x23_2).f0))).trans hx384_2; replace hx384_0 := (cell_far (p := ⟨gb382, 1, none⟩) qB50 (.int .i64 ((rd_T33 l0 x23_2).f1))).trans hx384_0; replace hx384_1 := (cell_far (p := ⟨gb382, 1, none⟩) qB50 (.int .i64 ((rd_T33 l0 x23_2).f1))).trans hx384_1; replace hx384_2 := (cell_far (p := ⟨gb382, 1, none⟩) qB50 (.int .i64 ((rd_T33 l0 x23_2).f1))).trans hx384_2; replace hx384_0 := (cell_far (p := ⟨gb382, 2, none⟩) qB51 (.int .i64 ((rd_T33 l0 x23_2).f2))).trans hx384_0; replace hx384_1 := (cell_far (p := ⟨gb382, 2, none⟩) qB51 (.int .i64 ((rd_T33 l0 x23_2).f2))).trans hx384_1; replace hx384_2 := (cell_far (p := ⟨gb382, 2, none⟩) qB51 (.int .i64 ((rd_T33 l0 x23_2).f2))).trans hx384_2; (try have hy384_0 := fun (n_ : Nat) => (show (((((w21.drewN n_).setCell ⟨gb382, 0, none⟩ (.int .i64 ((rd_T33 l0 x23_2).f0))).setCell ⟨gb382, 1, none⟩ (.int .i64 ((rd_T33 l0 x23_2).f1))).setCell ⟨gb382, 2, none⟩ (.int .i64 ((rd_T33 l0 x23_2).f2)))).cell? _ = some _ from hx384_0)); (try have hy384_1 := fun (n_ : Nat) => (show (((((w21.drewN n_).setCell ⟨gb382, 0, none⟩ (.int .i64 ((rd_T33 l0 x23_2).f0))).setCell ⟨gb382, 1, none⟩ (.int .i64 ((rd_T33 l0 x23_2).f1))).setCell ⟨gb382, 2, none⟩ (.int .i64 ((rd_T33 l0 x23_2).f2)))).cell? _ = some _ from hx384_1)); (try have hy384_2 := fun (n_ : Nat) => (show (((((w21.drewN n_).setCell ⟨gb382, 0, none⟩ (.int .i64 ((rd_T33 l0 x23_2).f0))).setCell ⟨gb382, 1, none⟩ (.int .i64 ((rd_T33 l0 x23_2).f1))).setCell ⟨gb382, 2, none⟩ (.int .i64 ((rd_T33 l0 x23_2).f2)))).cell? _ = some _ from hx384_2)); clear hn384_0; clear hn384_1; clear hn384_2; replace p384 := eq_true p384; replace q384 := eq_true q384)))
             (first | go_roundg k2 | ((try simp only [add_plain] at *); go_roundg k2))
             case measure => have := HK1.out; have := HK2.out; omega
             case rel => exact ⟨(wrap64 (x23_2 + 1)), qB99, H', ⟨by have := HK1.out; have := HK2.out; omega⟩, ⟨by repeat (first | (with_reducible first | exact HB.out | apply below_alloc | apply pw_below_drewN | apply below_drew1 | refine below_set ?_ GE382.out) | exact HB.out)⟩⟩
            ·rw [if_neg c20] at H
             have c20b0 : (((rd_T33 l0 x23_2).f1) == ((rd_T33 l0 0).f1)) = false := beq_eq_false_iff_ne.mpr c20
             have c20b1 : (((rd_T33 l0 x23_2).f1) != ((rd_T33 l0 0).f1)) = true := bne_iff_ne.mpr c20
             obtain rfl := Option.some.inj H
             have p381 : 0 ≤ (x23_2 : Int) := of_decide_eq_true qB98
             have q381 : x23_2 < (l0.length : Int) := of_decide_eq_true qB98
             obtain ⟨ad381, e381, hx381_0, hx381_1, hx381_2⟩ := at_T33 HR0.out x23_2 p381 q381
             cases e381
             replace hx381_0 := (HB.out.cell (World.block_lt_of_cell? w _ hx381_0)).trans hx381_0
             replace hx381_1 := (HB.out.cell (World.block_lt_of_cell? w _ hx381_1)).trans hx381_1
             replace hx381_2 := (HB.out.cell (World.block_lt_of_cell? w _ hx381_2)).trans hx381_2
             replace p381 := eq_true p381
             replace q381 := eq_true q381
             go_wp2_with (first | ((with_reducible refine gate_dst (N := 6) rfl ?_); refine box_event ?hg (N := 6) ?hd (cs := #[.int .i64 0, .int .i64 0, .int .i64 0]) (t := 33) ?hr ?_; (case hd => rfl); (case hg => rfl); (case hr => first | (go_simp; done) | (go_simp; rfl)); intro gb382 hg w23 hbox hb; have n0_ := Aside0.mk (below_step qB44 hb); have n1_ := Aside0.mk (hbox); have n2_ := Aside0.mk ((by rw [hg]; exact (below_size qB44) : w.heap.size ≤ gb382)); have n3_ := Aside0.mk ((by rw [hg]; exact (below_size qB44) : w.heap.size ≤ gb382)); clear HB; have HB := n0_; have BK382 := n1_; have GW382 := n2_; have GE382 := n3_; clear n0_ n1_ n2_ n3_; clear hb hbox hg; have hcz24_0 : w23.cell? ⟨gb382, 0, none⟩ = some (.int .i64 0) := (blk_cell BK382.out 0).trans rfl; have hcz24_1 : w23.cell? ⟨gb382, 1, none⟩ = some (.int .i64 0) := (blk_cell BK382.out 1).trans rfl; have hcz24_2 : w23.cell? ⟨gb382, 2, none⟩ = some (.int .i64 0) := (blk_cell BK382.out 2).trans rfl; have hfz24_0 := blk_frozen BK382.out 0; have hfz24_1 := blk_frozen BK382.out 1; have hfz24_2 := blk_frozen BK382.out 2; have p383 : 0 ≤ (0 : Int) := (by omega); have q383 : 0 < (l0.length : Int) := of_decide_eq_true qB98; obtain ⟨ad383, e383, hx383_0, hx383_1, hx383_2⟩ := at_T33 HR0.out 0 p383 q383; obtain rfl : ad381 = ad383 := (by injection e383); have qi383 : (0 < l0.length) = True := eq_true (by omega); (try rw [show ((0 : Int)).toNat = 0 from rfl] at hx383_0); (try rw [show 0 * 3 = 0 from rfl] at hx383_0); (try rw [Addr.add_zero'] at hx383_0); (try rw [show ((0 : Int)).toNat = 0 from rfl] at hx383_1); (try rw [show 0 * 3 = 0 from rfl] at hx383_1); (try rw [Addr.add_zero'] at hx383_1); (try rw [show ((0 : Int)).toNat = 0 from rfl] at hx383_2); (try rw [show 0 * 3 = 0 from rfl] at hx383_2); (try rw [Addr.add_zero'] at hx383_2); have hn383_0 : ad381.block ≠ gb382 := Nat.ne_of_lt (Nat.lt_of_lt_of_le qB96 GW382.out); have hn383_1 : ad381.block ≠ gb382 := Nat.ne_of_lt (Nat.lt_of_lt_of_le qB96 GW382.out); have hn383_2 : ad381.block ≠ gb382 := Nat.ne_of_lt (Nat.lt_of_lt_of_le qB96 GW382.out); replace hx383_0 := (HB.out.cell (World.block_lt_of_cell? w _ hx383_0)).trans hx383_0; replace hx383_1 := (HB.out.cell (World.block_lt_of_cell? w _ hx383_1)).trans hx383_1; replace hx383_2 := (HB.out.cell (World.block_lt_of_cell? w _ hx383_2)).trans hx383_2; replace hx383_0 := (cell_far (p := ⟨gb382, 0, none⟩) qB46 (.int .i64 ((rd_T33 l0 x23_2).f0))).trans hx383_0; replace hx383_1 := (cell_far (p := ⟨gb382, 0, none⟩) qB46 (.int .i64 ((rd_T33 l0 x23_2).f0))).trans hx383_1; replace hx383_2 := (cell_far (p := ⟨gb382, 0, none⟩) qB46 (.int .i64 ((rd_T33 l0 x23_2).f0))).trans hx383_2; replace hx383_0 := (cell_far (p := ⟨gb382, 1, none⟩) qB47 (.int .i64 ((rd_T33 l0 x23_2).f1))).trans hx383_0; replace hx383_1 := (cell_far (p := ⟨gb382, 1, none⟩) qB47 (.int .i64 ((rd_T33 l0 x23_2).f1))).trans hx383_1; replace hx383_2 := (cell_far (p := ⟨gb382, 1, none⟩) qB47 (.int .i64 ((rd_T33 l0 x23_2).f1))).trans hx383_2; replace hx383_0 := (cell_far (p := ⟨gb382, 2, none⟩) qB48 (.int .i64 ((rd_T33 l0 x23_2).f2))).trans hx383_0; replace hx383_1 := (cell_far (p := ⟨gb382, 2, none⟩) qB48 (.int .i64 ((rd_T33 l0 x23_2).f2))).trans hx383_1; replace hx383_2 := (cell_far (p := ⟨gb382, 2, none⟩) qB48 (.int .i64 ((rd_T33 l0 x23_2).f2))).trans hx383_2; (try have hy383_0 := fun (n_ : Nat) => (show (((((w23.drewN n_).setCell ⟨gb382, 0, none⟩ (.int .i64 ((rd_T33 l0 x23_2).f0))).setCell ⟨gb382, 1, none⟩ (.int .i64 ((rd_T33 l0 x23_2).f1))).setCell ⟨gb382, 2, none⟩ (.int .i64 ((rd_T33 l0 x23_2).f2)))).cell? _ = some _ from hx383_0)); (try have hy383_1 := fun (n_ : Nat) => (show (((((w23.drewN n_).setCell ⟨gb382, 0, none⟩ (.int .i64 ((rd_T33 l0 x23_2).f0))).setCell ⟨gb382, 1, none⟩ (.int .i64 ((rd_T33 l0 x23_2).f1))).setCell ⟨gb382, 2, none⟩ (.int .i64 ((rd_T33 l0 x23_2).f2)))).cell? _ = some _ from hx383_1)); (try have hy383_2 := fun (n_ : Nat) => (show (((((w23.drewN n_).setCell ⟨gb382, 0, none⟩ (.int .i64 ((rd_T33 l0 x23_2).f0))).setCell ⟨gb382, 1, none⟩ (.int .i64 ((rd_T33 l0 x23_2).f1))).setCell ⟨gb382, 2, none⟩ (.int .i64 ((rd_T33 l0 x23_2).f2)))).cell? _ = some _ from hx383_2)); clear hn383_0; clear hn383_1; clear hn383_2; replace p383 := eq_true p383; replace q383 := eq_true q383; have p384 : 0 ≤ (0 : Int) := (by omega); have q384 : 0 < (l0.length : Int) := of_decide_eq_true qB98; obtain ⟨ad384, e384, hx384_0, hx384_1, hx384_2⟩ := at_T33 HR0.out 0 p384 q384; obtain rfl : ad381 = ad384 := (by injection e384); have qi384 : (0 < l0.length) = True := eq_true (by omega); (try rw [show ((0 : Int)).toNat = 0 from rfl] at hx384_0); (try rw [show 0 * 3 = 0 from rfl] at hx384_0); (try rw [Addr.add_zero'] at hx384_0); (try rw [show ((0 : Int)).toNat = 0 from rfl] at hx384_1); (try rw [show 0 * 3 = 0 from rfl] at hx384_1); (try rw [Addr.add_zero'] at hx384_1); (try rw [show ((0 : Int)).toNat = 0 from rfl] at hx384_2); (try rw [show 0 * 3 = 0 from rfl] at hx384_2); (try rw [Addr.add_zero'] at hx384_2); have hn384_0 : ad381.block ≠ gb382 := Nat.ne_of_lt (Nat.lt_of_lt_of_le qB97 GW382.out); have hn384_1 : ad381.block ≠ gb382 := Nat.ne_of_lt (Nat.lt_of_lt_of_le qB97 GW382.out); have hn384_2 : ad381.block ≠ gb382 := Nat.ne_of_lt (Nat.lt_of_lt_of_le qB97 GW382.out); replace hx384_0 := (HB.out.cell (World.block_lt_of_cell? w _ hx384_0)).trans hx384_0; replace hx384_1 := (HB.out.cell (World.block_lt_of_cell? w _ hx384_1)).trans hx384_1; replace hx384_2 := (HB.out.cell (World.block_lt_of_cell? w _ hx384_2)).trans hx384_2; replace hx384_0 := (cell_far (p := ⟨gb382, 0, none⟩) qB49 (.int .i64 ((rd_T33 l0 x23_2).f0))).trans hx384_0; replace hx384_1 := (cell_far (p := ⟨gb382, 0, none⟩) qB49 (.int .i64 ((rd_T33 l0 x23_2).f0))).trans hx384_1; replace hx384_2 := (cell_far (p := ⟨gb382, 0, none⟩) qB49 (.int .i64 ((rd_T33 l0 x23_2).f0))).trans hx384_2; replace hx384_0 := (cell_far (p := ⟨gb382, 1, none⟩) qB50 (.int .i64 ((rd_T33 l0 x23_2).f1))).trans hx384_0; replace hx384_1 := (cell_far (p := ⟨gb382, 1, none⟩) qB50 (.int .i64 ((rd_T33 l0 x23_2).f1))).trans hx384_1; replace hx384_2 := (cell_far (p := ⟨gb382, 1, none⟩) qB50 (.int .i64 ((rd_T33 l0 x23_2).f1))).trans hx384_2; replace hx384_0 := (cell_far (p := ⟨gb382, 2, none⟩) qB51 (.int .i64 ((rd_T33 l0 x23_2).f2))).trans hx384_0; replace hx384_1 := (cell_far (p := ⟨gb382, 2, none⟩) qB51 (.int .i64 ((rd_T33 l0 x23_2).f2))).trans hx384_1; replace hx384_2 := (cell_far (p := ⟨gb382, 2, none⟩) qB51 (.int .i64 ((rd_T33 l0 x23_2).f2))).trans hx384_2; (try have hy384_0 := fun (n_ : Nat) => (show (((((w23.drewN n_).setCell ⟨gb382, 0, none⟩ (.int .i64 ((rd_T33 l0 x23_2).f0))).setCell ⟨gb382, 1, none⟩ (.int .i64 ((rd_T33 l0 x23_2).f1))).setCell ⟨gb382, 2, none⟩ (.int .i64 ((rd_T33 l0 x23_2).f2)))).cell? _ = some _ from hx384_0)); (try have hy384_1 := fun (n_ : Nat) => (show (((((w23.drewN n_).setCell ⟨gb382, 0, none⟩ (.int .i64 ((rd_T33 l0 x23_2).f0))).setCell ⟨gb382, 1, none⟩ (.int .i64 ((rd_T33 l0 x23_2).f1))).setCell ⟨gb382, 2, none⟩ (.int .i64 ((rd_T33 l0 x23_2).f2)))).cell? _ = some _ from hx384_1)); (try have hy384_2 := fun (n_ : Nat) => (show (((((w23.drewN n_).setCell ⟨gb382, 0, none⟩ (.int .i64 ((rd_T33 l0 x23_2).f0))).setCell ⟨gb382, 1, none⟩ (.int .i64 ((rd_T33 l0 x23_2).f1))).setCell ⟨gb382, 2, none⟩ (.int .i64 ((rd_T33 l0 x23_2).f2)))).cell? _ = some _ from hx384_2)); clear hn384_0; clear hn384_1; clear hn384_2; replace p384 := eq_true p384; replace q384 := eq_true q384))
             repeat (go_quiet (first | ((with_reducible refine gate_dst (N := 6) rfl ?_); refine box_event ?hg (N := 6) ?hd (cs := #[.int .i64 0, .int .i64 0, .int .i64 0]) (t := 33) ?hr ?_; (case hd => rfl); (case hg => rfl); (case hr => first | (go_simp; done) | (go_simp; rfl)); intro gb382 hg w23 hbox hb; have n0_ := Aside0.mk (below_step qB44 hb); have n1_ := Aside0.mk (hbox); have n2_ := Aside0.mk ((by rw [hg]; exact (below_size qB44) : w.heap.size ≤ gb382)); have n3_ := Aside0.mk ((by rw [hg]; exact (below_size qB44) : w.heap.size ≤ gb382)); clear HB; have HB := n0_; have BK382 := n1_; have GW382 := n2_; have GE382 := n3_; clear n0_ n1_ n2_ n3_; clear hb hbox hg; have hcz24_0 : w23.cell? ⟨gb382, 0, none⟩ = some (.int .i64 0) := (blk_cell BK382.out 0).trans rfl; have hcz24_1 : w23.cell? ⟨gb382, 1, none⟩ = some (.int .i64 0) := (blk_cell BK382.out 1).trans rfl; have hcz24_2 : w23.cell? ⟨gb382, 2, none⟩ = some (.int .i64 0) := (blk_cell BK382.out 2).trans rfl; have hfz24_0 := blk_frozen BK382.out 0; have hfz24_1 := blk_frozen BK382.out 1; have hfz24_2 := blk_frozen BK382.out 2; have p383 : 0 ≤ (0 : Int) := (by omega); have q383 : 0 < (l0.length : Int) := of_decide_eq_true qB98; obtain ⟨ad383, e383, hx383_0, hx383_1, hx383_2⟩ := at_T33 HR0.out 0 p383 q383; obtain rfl : ad381 = ad383 := (by injection e383); have qi383 : (0 < l0.length) = True := eq_true (by omega); (try rw [show ((0 : Int)).toNat = 0 from rfl] at hx383_0); (try rw [show 0 * 3 = 0 from rfl] at hx383_0); (try rw [Addr.add_zero'] at hx383_0); (try rw [show ((0 : Int)).toNat = 0 from rfl] at hx383_1); (try rw [show 0 * 3 = 0 from rfl] at hx383_1); (try rw [Addr.add_zero'] at hx383_1); (try rw [show ((0 : Int)).toNat = 0 from rfl] at hx383_2); (try rw [show 0 * 3 = 0 from rfl] at hx383_2); (try rw [Addr.add_zero'] at hx383_2); have hn383_0 : ad381.block ≠ gb382 := Nat.ne_of_lt (Nat.lt_of_lt_of_le qB96 GW382.out); have hn383_1 : ad381.block ≠ gb382 := Nat.ne_of_lt (Nat.lt_of_lt_of_le qB96 GW382.out); have hn383_2 : ad381.block ≠ gb382 := Nat.ne_of_lt (Nat.lt_of_lt_of_le qB96 GW382.out); replace hx383_0 := (HB.out.cell (World.block_lt_of_cell? w _ hx383_0)).trans hx383_0; replace hx383_1 := (HB.out.cell (World.block_lt_of_cell? w _ hx383_1)).trans hx383_1; replace hx383_2 := (HB.out.cell (World.block_lt_of_cell? w _ hx383_2)).trans hx383_2; replace hx383_0 := (cell_far (p := ⟨gb382, 0, none⟩) qB46 (.int .i64 ((rd_T33 l0 x23_2).f0))).trans hx383_0; replace hx383_1 := (cell_far (p := ⟨gb382, 0, none⟩) qB46 (.int .i64 ((rd_T33 l0 x23_2).f0))).trans hx383_1; replace hx383_2 := (cell_far (p := ⟨gb382, 0, none⟩) qB46 (.int .i64 ((rd_T33 l0 x23_2).f0))).trans hx383_2; replace hx383_0 := (cell_far (p := ⟨gb382, 1, none⟩) qB47 (.int .i64 ((rd_T33 l0 x23_2).f1))).trans hx383_0; replace hx383_1 := (cell_far (p := ⟨gb382, 1, none⟩) qB47 (.int .i64 ((rd_T33 l0 x23_2).f1))).trans hx383_1; replace hx383_2 := (cell_far (p := ⟨gb382, 1, none⟩) qB47 (.int .i64 ((rd_T33 l0 x23_2).f1))).trans hx383_2; replace hx383_0 := (cell_far (p := ⟨gb382, 2, none⟩) qB48 (.int .i64 ((rd_T33 l0 x23_2).f2))).trans hx383_0; replace hx383_1 := (cell_far (p := ⟨gb382, 2, none⟩) qB48 (.int .i64 ((rd_T33 l0 x23_2).f2))).trans hx383_1; replace hx383_2 := (cell_far (p := ⟨gb382, 2, none⟩) qB48 (.int .i64 ((rd_T33 l0 x23_2).f2))).trans hx383_2; (try have hy383_0 := fun (n_ : Nat) => (show (((((w23.drewN n_).setCell ⟨gb382, 0, none⟩ (.int .i64 ((rd_T33 l0 x23_2).f0))).setCell ⟨gb382, 1, none⟩ (.int .i64 ((rd_T33 l0 x23_2).f1))).setCell ⟨gb382, 2, none⟩ (.int .i64 ((rd_T33 l0 x23_2).f2)))).cell? _ = some _ from hx383_0)); (try have hy383_1 := fun (n_ : Nat) => (show (((((w23.drewN n_).setCell ⟨gb382, 0, none⟩ (.int .i64 ((rd_T33 l0 x23_2).f0))).setCell ⟨gb382, 1, none⟩ (.int .i64 ((rd_T33 l0 x23_2).f1))).setCell ⟨gb382, 2, none⟩ (.int .i64 ((rd_T33 l0 x23_2).f2)))).cell? _ = some _ from hx383_1)); (try have hy383_2 := fun (n_ : Nat) => (show (((((w23.drewN n_).setCell ⟨gb382, 0, none⟩ (.int .i64 ((rd_T33 l0 x23_2).f0))).setCell ⟨gb382, 1, none⟩ (.int .i64 ((rd_T33 l0 x23_2).f1))).setCell ⟨gb382, 2, none⟩ (.int .i64 ((rd_T33 l0 x23_2).f2)))).cell? _ = some _ from hx383_2)); clear hn383_0; clear hn383_1; clear hn383_2; replace p383 := eq_true p383; replace q383 := eq_true q383; have p384 : 0 ≤ (0 : Int) := (by omega); have q384 : 0 < (l0.length : Int) := of_decide_eq_true qB98; obtain ⟨ad384, e384, hx384_0, hx384_1, hx384_2⟩ := at_T33 HR0.out 0 p384 q384; obtain rfl : ad381 = ad384 := (by injection e384); have qi384 : (0 < l0.length) = True := eq_true (by omega); (try rw [show ((0 : Int)).toNat = 0 from rfl] at hx384_0); (try rw [show 0 * 3 = 0 from rfl] at hx384_0); (try rw [Addr.add_zero'] at hx384_0); (try rw [show ((0 : Int)).toNat = 0 from rfl] at hx384_1); (try rw [show 0 * 3 = 0 from rfl] at hx384_1); (try rw [Addr.add_zero'] at hx384_1); (try rw [show ((0 : Int)).toNat = 0 from rfl] at hx384_2); (try rw [show 0 * 3 = 0 from rfl] at hx384_2); (try rw [Addr.add_zero'] at hx384_2); have hn384_0 : ad381.block ≠ gb382 := Nat.ne_of_lt (Nat.lt_of_lt_of_le qB97 GW382.out); have hn384_1 : ad381.block ≠ gb382 := Nat.ne_of_lt (Nat.lt_of_lt_of_le qB97 GW382.out); have hn384_2 : ad381.block ≠ gb382 := Nat.ne_of_lt (Nat.lt_of_lt_of_le qB97 GW382.out); replace hx384_0 := (HB.out.cell (World.block_lt_of_cell? w _ hx384_0)).trans hx384_0; replace hx384_1 := (HB.out.cell (World.block_lt_of_cell? w _ hx384_1)).trans hx384_1; replace hx384_2 := (HB.out.cell (World.block_lt_of_cell? w _ hx384_2)).trans hx384_2; replace hx384_0 := (cell_far (p := ⟨gb382, 0, none⟩) qB49 (.int .i64 ((rd_T33 l0 x23_2).f0))).trans hx384_0; replace hx384_1 := (cell_far (p := ⟨gb382, 0, none⟩) qB49 (.int .i64 ((rd_T33 l0 x23_2).f0))).trans hx384_1; replace hx384_2 := (cell_far (p := ⟨gb382, 0, none⟩) qB49 (.int .i64 ((rd_T33 l0 x23_2).f0))).trans hx384_2; replace hx384_0 := (cell_far (p := ⟨gb382, 1, none⟩) qB50 (.int .i64 ((rd_T33 l0 x23_2).f1))).trans hx384_0; replace hx384_1 := (cell_far (p := ⟨gb382, 1, none⟩) qB50 (.int .i64 ((rd_T33 l0 x23_2).f1))).trans hx384_1; replace hx384_2 := (cell_far (p := ⟨gb382, 1, none⟩) qB50 (.int .i64 ((rd_T33 l0 x23_2).f1))).trans hx384_2; replace hx384_0 := (cell_far (p := ⟨gb382, 2, none⟩) qB51 (.int .i64 ((rd_T33 l0 x23_2).f2))).trans hx384_0; replace hx384_1 := (cell_far (p := ⟨gb382, 2, none⟩) qB51 (.int .i64 ((rd_T33 l0 x23_2).f2))).trans hx384_1; replace hx384_2 := (cell_far (p := ⟨gb382, 2, none⟩) qB51 (.int .i64 ((rd_T33 l0 x23_2).f2))).trans hx384_2; (try have hy384_0 := fun (n_ : Nat) => (show (((((w23.drewN n_).setCell ⟨gb382, 0, none⟩ (.int .i64 ((rd_T33 l0 x23_2).f0))).setCell ⟨gb382, 1, none⟩ (.int .i64 ((rd_T33 l0 x23_2).f1))).setCell ⟨gb382, 2, none⟩ (.int .i64 ((rd_T33 l0 x23_2).f2)))).cell? _ = some _ from hx384_0)); (try have hy384_1 := fun (n_ : Nat) => (show (((((w23.drewN n_).setCell ⟨gb382, 0, none⟩ (.int .i64 ((rd_T33 l0 x23_2).f0))).setCell ⟨gb382, 1, none⟩ (.int .i64 ((rd_T33 l0 x23_2).f1))).setCell ⟨gb382, 2, none⟩ (.int .i64 ((rd_T33 l0 x23_2).f2)))).cell? _ = some _ from hx384_1)); (try have hy384_2 := fun (n_ : Nat) => (show (((((w23.drewN n_).setCell ⟨gb382, 0, none⟩ (.int .i64 ((rd_T33 l0 x23_2).f0))).setCell ⟨gb382, 1, none⟩ (.int .i64 ((rd_T33 l0 x23_2).f1))).setCell ⟨gb382, 2, none⟩ (.int .i64 ((rd_T33 l0 x23_2).f2)))).cell? _ = some _ from hx384_2)); clear hn384_0; clear hn384_1; clear hn384_2; replace p384 := eq_true p384; replace q384 := eq_true q384)); try go_wp2_with (first | ((with_reducible refine gate_dst (N := 6) rfl ?_); refine box_event ?hg (N := 6) ?hd (cs := #[.int .i64 0, .int .i64 0, .int .i64 0]) (t := 33) ?hr ?_; (case hd => rfl); (case hg => rfl); (case hr => first | (go_simp; done) | (go_simp; rfl)); intro gb382 hg w23 hbox hb; have n0_ := Aside0.mk (below_step qB44 hb); have n1_ := Aside0.mk (hbox); have n2_ := Aside0.mk ((by rw [hg]; exact (below_size qB44) : w.heap.size ≤ gb382)); have n3_ := Aside0.mk ((by rw [hg]; exact (below_size qB44) : w.heap.size ≤ gb382)); clear HB; have HB := n0_; have BK382 := n1_; have GW382 := n2_; have GE382 := n3_; clear n0_ n1_ n2_ n3_; clear hb hbox hg; have hcz24_0 : w23.cell? ⟨gb382, 0, none⟩ = some (.int .i64 0) := (blk_cell BK382.out 0).trans rfl; have hcz24_1 : w23.cell? ⟨gb382, 1, none⟩ = some (.int .i64 0) := (blk_cell BK382.out 1).trans rfl; have hcz24_2 : w23.cell? ⟨gb382, 2, none⟩ = some (.int .i64 0) := (blk_cell BK382.out 2).trans rfl; have hfz24_0 := blk_frozen BK382.out 0; have hfz24_1 := blk_frozen BK382.out 1; have hfz24_2 := blk_frozen BK382.out 2; have p383 : 0 ≤ (0 : Int) := (by omega); have q383 : 0 < (l0.length : Int) := of_decide_eq_true qB98; obtain ⟨ad383, e383, hx383_0, hx383_1, hx383_2⟩ := at_T33 HR0.out 0 p383 q383; obtain rfl : ad381 = ad383 := (by injection e383); have qi383 : (0 < l0.length) = True := eq_true (by omega); (try rw [show ((0 : Int)).toNat = 0 from rfl] at hx383_0); (try rw [show 0 * 3 = 0 from rfl] at hx383_0); (try rw [Addr.add_zero'] at hx383_0); (try rw [show ((0 : Int)).toNat = 0 from rfl] at hx383_1); (try rw [show 0 * 3 = 0 from rfl] at hx383_1); (try rw [Addr.add_zero'] at hx383_1); (try rw [show ((0 : Int)).toNat = 0 from rfl] at hx383_2); (try rw [show 0 * 3 = 0 from rfl] at hx383_2); (try rw [Addr.add_zero'] at hx383_2); have hn383_0 : ad381.block ≠ gb382 := Nat.ne_of_lt (Nat.lt_of_lt_of_le qB96 GW382.out); have hn383_1 : ad381.block ≠ gb382 := Nat.ne_of_lt (Nat.lt_of_lt_of_le qB96 GW382.out); have hn383_2 : ad381.block ≠ gb382 := Nat.ne_of_lt (Nat.lt_of_lt_of_le qB96 GW382.out); replace hx383_0 := (HB.out.cell (World.block_lt_of_cell? w _ hx383_0)).trans hx383_0; replace hx383_1 := (HB.out.cell (World.block_lt_of_cell? w _ hx383_1)).trans hx383_1; replace hx383_2 := (HB.out.cell (World.block_lt_of_cell? w _ hx383_2)).trans hx383_2; replace hx383_0 := (cell_far (p := ⟨gb382, 0, none⟩) qB46 (.int .i64 ((rd_T33 l0 x23_2).f0))).trans hx383_0; replace hx383_1 := (cell_far (p := ⟨gb382, 0, none⟩) qB46 (.int .i64 ((rd_T33 l0 x23_2).f0))).trans hx383_1; replace hx383_2 := (cell_far (p := ⟨gb382, 0, none⟩) qB46 (.int .i64 ((rd_T33 l0 x23_2).f0))).trans hx383_2; replace hx383_0 := (cell_far (p := ⟨gb382, 1, none⟩) qB47 (.int .i64 ((rd_T33 l0 x23_2).f1))).trans hx383_0; replace hx383_1 := (cell_far (p := ⟨gb382, 1, none⟩) qB47 (.int .i64 ((rd_T33 l0 x23_2).f1))).trans hx383_1; replace hx383_2 := (cell_far (p := ⟨gb382, 1, none⟩) qB47 (.int .i64 ((rd_T33 l0 x23_2).f1))).trans hx383_2; replace hx383_0 := (cell_far (p := ⟨gb382, 2, none⟩) qB48 (.int .i64 ((rd_T33 l0 x23_2).f2))).trans hx383_0; replace hx383_1 := (cell_far (p := ⟨gb382, 2, none⟩) qB48 (.int .i64 ((rd_T33 l0 x23_2).f2))).trans hx383_1; replace hx383_2 := (cell_far (p := ⟨gb382, 2, none⟩) qB48 (.int .i64 ((rd_T33 l0 x23_2).f2))).trans hx383_2; (try have hy383_0 := fun (n_ : Nat) => (show (((((w23.drewN n_).setCell ⟨gb382, 0, none⟩ (.int .i64 ((rd_T33 l0 x23_2).f0))).setCell ⟨gb382, 1, none⟩ (.int .i64 ((rd_T33 l0 x23_2).f1))).setCell ⟨gb382, 2, none⟩ (.int .i64 ((rd_T33 l0 x23_2).f2)))).cell? _ = some _ from hx383_0)); (try have hy383_1 := fun (n_ : Nat) => (show (((((w23.drewN n_).setCell ⟨gb382, 0, none⟩ (.int .i64 ((rd_T33 l0 x23_2).f0))).setCell ⟨gb382, 1, none⟩ (.int .i64 ((rd_T33 l0 x23_2).f1))).setCell ⟨gb382, 2, none⟩ (.int .i64 ((rd_T33 l0 x23_2).f2)))).cell? _ = some _ from hx383_1)); (try have hy383_2 := fun (n_ : Nat) => (show (((((w23.drewN n_).setCell ⟨gb382, 0, none⟩ (.int .i64 ((rd_T33 l0 x23_2).f0))).setCell ⟨gb382, 1, none⟩ (.int .i64 ((rd_T33 l0 x23_2).f1))).setCell ⟨gb382, 2, none⟩ (.int .i64 ((rd_T33 l0 x23_2).f2)))).cell? _ = some _ from hx383_2)); clear hn383_0; clear hn383_1; clear hn383_2; replace p383 := eq_true p383; replace q383 := eq_true q383; have p384 : 0 ≤ (0 : Int) := (by omega); have q384 : 0 < (l0.length : Int) := of_decide_eq_true qB98; obtain ⟨ad384, e384, hx384_0, hx384_1, hx384_2⟩ := at_T33 HR0.out 0 p384 q384; obtain rfl : ad381 = ad384 := (by injection e384); have qi384 : (0 < l0.length) = True := eq_true (by omega); (try rw [show ((0 : Int)).toNat = 0 from rfl] at hx384_0); (try rw [show 0 * 3 = 0 from rfl] at hx384_0); (try rw [Addr.add_zero'] at hx384_0); (try rw [show ((0 : Int)).toNat = 0 from rfl] at hx384_1); (try rw [show 0 * 3 = 0 from rfl] at hx384_1); (try rw [Addr.add_zero'] at hx384_1); (try rw [show ((0 : Int)).toNat = 0 from rfl] at hx384_2); (try rw [show 0 * 3 = 0 from rfl] at hx384_2); (try rw [Addr.add_zero'] at hx384_2); have hn384_0 : ad381.block ≠ gb382 := Nat.ne_of_lt (Nat.lt_of_lt_of_le qB97 GW382.out); have hn384_1 : ad381.block ≠ gb382 := Nat.ne_of_lt (Nat.lt_of_lt_of_le qB97 GW382.out); have hn384_2 : ad381.block ≠ gb382 := Nat.ne_of_lt (Nat.lt_of_lt_of_le qB97 GW382.out); replace hx384_0 := (HB.out.cell (World.block_lt_of_cell? w _ hx384_0)).trans hx384_0; replace hx384_1 := (HB.out.cell (World.block_lt_of_cell? w _ hx384_1)).trans hx384_1; replace hx384_2 := (HB.out.cell (World.block_lt_of_cell? w _ hx384_2)).trans hx384_2; replace hx384_0 := (cell_far (p := ⟨gb382, 0, none⟩) qB49 (.int .i64 ((rd_T33 l0 x23_2).f0))).trans hx384_0; replace hx384_1 := (cell_far (p := ⟨gb382, 0, none⟩) qB49 (.int .i64 ((rd_T33 l0 x23_2).f0))).trans hx384_1; replace hx384_2 := (cell_far (p := ⟨gb382, 0, none⟩) qB49 (.int .i64 ((rd_T33 l0 x23_2).f0))).trans hx384_2; replace hx384_0 := (cell_far (p := ⟨gb382, 1, none⟩) qB50 (.int .i64 ((rd_T33 l0 x23_2).f1))).trans hx384_0; replace hx384_1 := (cell_far (p := ⟨gb382, 1, none⟩) qB50 (.int .i64 ((rd_T33 l0 x23_2).f1))).trans hx384_1; replace hx384_2 := (cell_far (p := ⟨gb382, 1, none⟩) qB50 (.int .i64 ((rd_T33 l0 x23_2).f1))).trans hx384_2; replace hx384_0 := (cell_far (p := ⟨gb382, 2, none⟩) qB51 (.int .i64 ((rd_T33 l0 x23_2).f2))).trans hx384_0; replace hx384_1 := (cell_far (p := ⟨gb382, 2, none⟩) qB51 (.int .i64 ((rd_T33 l0 x23_2).f2))).trans hx384_1; replace hx384_2 := (cell_far (p := ⟨gb382, 2, none⟩) qB51 (.int .i64 ((rd_T33 l0 x23_2).f2))).trans hx384_2; (try have hy384_0 := fun (n_ : Nat) => (show (((((w23.drewN n_).setCell ⟨gb382, 0, none⟩ (.int .i64 ((rd_T33 l0 x23_2).f0))).setCell ⟨gb382, 1, none⟩ (.int .i64 ((rd_T33 l0 x23_2).f1))).setCell ⟨gb382, 2, none⟩ (.int .i64 ((rd_T33 l0 x23_2).f2)))).cell? _ = some _ from hx384_0)); (try have hy384_1 := fun (n_ : Nat) => (show (((((w23.drewN n_).setCell ⟨gb382, 0, none⟩ (.int .i64 ((rd_T33 l0 x23_2).f0))).setCell ⟨gb382, 1, none⟩ (.int .i64 ((rd_T33 l0 x23_2).f1))).setCell ⟨gb382, 2, none⟩ (.int .i64 ((rd_T33 l0 x23_2).f2)))).cell? _ = some _ from hx384_1)); (try have hy384_2 := fun (n_ : Nat) => (show (((((w23.drewN n_).setCell ⟨gb382, 0, none⟩ (.int .i64 ((rd_T33 l0 x23_2).f0))).setCell ⟨gb382, 1, none⟩ (.int .i64 ((rd_T33 l0 x23_2).f1))).setCell ⟨gb382, 2, none⟩ (.int .i64 ((rd_T33 l0 x23_2).f2)))).cell? _ = some _ from hx384_2)); clear hn384_0; clear hn384_1; clear hn384_2; replace p384 := eq_true p384; replace q384 := eq_true q384)))
             go_ret
             exact ⟨by first | rfl | (simp [errW_none, errW_some] <;> rfl) | (simp [*, errW_none, errW_some] <;> rfl), by repeat (first | (with_reducible first | exact HB.out | apply below_alloc | apply pw_below_drewN | apply below_drew1 | refine below_set ?_ GE382.out) | exact HB.out)⟩
           ·rw [if_neg c19] at H
            have c19b0 : (((rd_T33 l0 x23_2).f0) == ((rd_T33 l0 0).f0)) = false := beq_eq_false_iff_ne.mpr c19
            have c19b1 : (((rd_T33 l0 x23_2).f0) != ((rd_T33 l0 0).f0)) = true := bne_iff_ne.mpr c19
            obtain rfl := Option.some.inj H
            have p381 : 0 ≤ (x23_2 : Int) := of_decide_eq_true qB98
            have q381 : x23_2 < (l0.length : Int) := of_decide_eq_true qB98
            obtain ⟨ad381, e381, hx381_0, hx381_1, hx381_2⟩ := at_T33 HR0.out x23_2 p381 q381
            cases e381
            replace hx381_0 := (HB.out.cell (World.block_lt_of_cell? w _ hx381_0)).trans hx381_0
            replace hx381_1 := (HB.out.cell (World.block_lt_of_cell? w _ hx381_1)).trans hx381_1
            replace hx381_2 := (HB.out.cell (World.block_lt_of_cell? w _ hx381_2)).trans hx381_2
            replace p381 := eq_true p381
            replace q381 := eq_true q381
            go_wp2_with (first | ((with_reducible refine gate_dst (N := 6) rfl ?_); refine box_event ?hg (N := 6) ?hd (cs := #[.int .i64 0, .int .i64 0, .int .i64 0]) (t := 33) ?hr ?_; (case hd => rfl); (case hg => rfl); (case hr => first | (go_simp; done) | (go_simp; rfl)); intro gb382 hg w25 hbox hb; have n0_ := Aside0.mk (below_step qB44 hb); have n1_ := Aside0.mk (hbox); have n2_ := Aside0.mk ((by rw [hg]; exact (below_size qB44) : w.heap.size ≤ gb382)); have n3_ := Aside0.mk ((by rw [hg]; exact (below_size qB44) : w.heap.size ≤ gb382)); clear HB; have HB := n0_; have BK382 := n1_; have GW382 := n2_; have GE382 := n3_; clear n0_ n1_ n2_ n3_; clear hb hbox hg; have hcz26_0 : w25.cell? ⟨gb382, 0, none⟩ = some (.int .i64 0) := (blk_cell BK382.out 0).trans rfl; have hcz26_1 : w25.cell? ⟨gb382, 1, none⟩ = some (.int .i64 0) := (blk_cell BK382.out 1).trans rfl; have hcz26_2 : w25.cell? ⟨gb382, 2, none⟩ = some (.int .i64 0) := (blk_cell BK382.out 2).trans rfl; have hfz26_0 := blk_frozen BK382.out 0; have hfz26_1 := blk_frozen BK382.out 1; have hfz26_2 := blk_frozen BK382.out 2; have p383 : 0 ≤ (0 : Int) := (by omega); have q383 : 0 < (l0.length : Int) := of_decide_eq_true qB98; obtain ⟨ad383, e383, hx383_0, hx383_1, hx383_2⟩ := at_T33 HR0.out 0 p383 q383; obtain rfl : ad381 = ad383 := (by injection e383); have qi383 : (0 < l0.length) = True := eq_true (by omega); (try rw [show ((0 : Int)).toNat = 0 from rfl] at hx383_0); (try rw [show 0 * 3 = 0 from rfl] at hx383_0); (try rw [Addr.add_zero'] at hx383_0); (try rw [show ((0 : Int)).toNat = 0 from rfl] at hx383_1); (try rw [show 0 * 3 = 0 from rfl] at hx383_1); (try rw [Addr.add_zero'] at hx383_1); (try rw [show ((0 : Int)).toNat = 0 from rfl] at hx383_2); (try rw [show 0 * 3 = 0 from rfl] at hx383_2); (try rw [Addr.add_zero'] at hx383_2); have hn383_0 : ad381.block ≠ gb382 := Nat.ne_of_lt (Nat.lt_of_lt_of_le qB96 GW382.out); have hn383_1 : ad381.block ≠ gb382 := Nat.ne_of_lt (Nat.lt_of_lt_of_le qB96 GW382.out); have hn383_2 : ad381.block ≠ gb382 := Nat.ne_of_lt (Nat.lt_of_lt_of_le qB96 GW382.out); replace hx383_0 := (HB.out.cell (World.block_lt_of_cell? w _ hx383_0)).trans hx383_0; replace hx383_1 := (HB.out.cell (World.block_lt_of_cell? w _ hx383_1)).trans hx383_1; replace hx383_2 := (HB.out.cell (World.block_lt_of_cell? w _ hx383_2)).trans hx383_2; replace hx383_0 := (cell_far (p := ⟨gb382, 0, none⟩) qB46 (.int .i64 ((rd_T33 l0 x23_2).f0))).trans hx383_0; replace hx383_1 := (cell_far (p := ⟨gb382, 0, none⟩) qB46 (.int .i64 ((rd_T33 l0 x23_2).f0))).trans hx383_1; replace hx383_2 := (cell_far (p := ⟨gb382, 0, none⟩) qB46 (.int .i64 ((rd_T33 l0 x23_2).f0))).trans hx383_2; replace hx383_0 := (cell_far (p := ⟨gb382, 1, none⟩) qB47 (.int .i64 ((rd_T33 l0 x23_2).f1))).trans hx383_0; replace hx383_1 := (cell_far (p := ⟨gb382, 1, none⟩) qB47 (.int .i64 ((rd_T33 l0 x23_2).f1))).trans hx383_1; replace hx383_2 := (cell_far (p := ⟨gb382, 1, none⟩) qB47 (.int .i64 ((rd_T33 l0 x23_2).f1))).trans hx383_2; replace hx383_0 := (cell_far (p := ⟨gb382, 2, none⟩) qB48 (.int .i64 ((rd_T33 l0 x23_2).f2))).trans hx383_0; replace hx383_1 := (cell_far (p := ⟨gb382, 2, none⟩) qB48 (.int .i64 ((rd_T33 l0 x23_2).f2))).trans hx383_1; replace hx383_2 := (cell_far (p := ⟨gb382, 2, none⟩) qB48 (.int .i64 ((rd_T33 l0 x23_2).f2))).trans hx383_2; (try have hy383_0 := fun (n_ : Nat) => (show (((((w25.drewN n_).setCell ⟨gb382, 0, none⟩ (.int .i64 ((rd_T33 l0 x23_2).f0))).setCell ⟨gb382, 1, none⟩ (.int .i64 ((rd_T33 l0 x23_2).f1))).setCell ⟨gb382, 2, none⟩ (.int .i64 ((rd_T33 l0 x23_2).f2)))).cell? _ = some _ from hx383_0)); (try have hy383_1 := fun (n_ : Nat) => (show (((((w25.drewN n_).setCell ⟨gb382, 0, none⟩ (.int .i64 ((rd_T33 l0 x23_2).f0))).setCell ⟨gb382, 1, none⟩ (.int .i64 ((rd_T33 l0 x23_2).f1))).setCell ⟨gb382, 2, none⟩ (.int .i64 ((rd_T33 l0 x23_2).f2)))).cell? _ = some _ from hx383_1)); (try have hy383_2 := fun (n_ : Nat) => (show (((((w25.drewN n_).setCell ⟨gb382, 0, none⟩ (.int .i64 ((rd_T33 l0 x23_2).f0))).setCell ⟨gb382, 1, none⟩ (.int .i64 ((rd_T33 l0 x23_2).f1))).setCell ⟨gb382, 2, none⟩ (.int .i64 ((rd_T33 l0 x23_2).f2)))).cell? _ = some _ from hx383_2)); clear hn383_0; clear hn383_1; clear hn383_2; replace p383 := eq_true p383; replace q383 := eq_true q383))
            repeat (go_quiet (first | ((with_reducible refine gate_dst (N := 6) rfl ?_); refine box_event ?hg (N := 6) ?hd (cs := #[.int .i64 0, .int .i64 0, .int .i64 0]) (t := 33) ?hr ?_; (case hd => rfl); (case hg => rfl); (case hr => first | (go_simp; done) | (go_simp; rfl)); intro gb382 hg w25 hbox hb; have n0_ := Aside0.mk (below_step qB44 hb); have n1_ := Aside0.mk (hbox); have n2_ := Aside0.mk ((by rw [hg]; exact (below_size qB44) : w.heap.size ≤ gb382)); have n3_ := Aside0.mk ((by rw [hg]; exact (below_size qB44) : w.heap.size ≤ gb382)); clear HB; have HB := n0_; have BK382 := n1_; have GW382 := n2_; have GE382 := n3_; clear n0_ n1_ n2_ n3_; clear hb hbox hg; have hcz26_0 : w25.cell? ⟨gb382, 0, none⟩ = some (.int .i64 0) := (blk_cell BK382.out 0).trans rfl; have hcz26_1 : w25.cell? ⟨gb382, 1, none⟩ = some (.int .i64 0) := (blk_cell BK382.out 1).trans rfl; have hcz26_2 : w25.cell? ⟨gb382, 2, none⟩ = some (.int .i64 0) := (blk_cell BK382.out 2).trans rfl; have hfz26_0 := blk_frozen BK382.out 0; have hfz26_1 := blk_frozen BK382.out 1; have hfz26_2 := blk_frozen BK382.out 2; have p383 : 0 ≤ (0 : Int) := (by omega); have q383 : 0 < (l0.length : Int) := of_decide_eq_true qB98; obtain ⟨ad383, e383, hx383_0, hx383_1, hx383_2⟩ := at_T33 HR0.out 0 p383 q383; obtain rfl : ad381 = ad383 := (by injection e383); have qi383 : (0 < l0.length) = True := eq_true (by omega); (try rw [show ((0 : Int)).toNat = 0 from rfl] at hx383_0); (try rw [show 0 * 3 = 0 from rfl] at hx383_0); (try rw [Addr.add_zero'] at hx383_0); (try rw [show ((0 : Int)).toNat = 0 from rfl] at hx383_1); (try rw [show 0 * 3 = 0 from rfl] at hx383_1); (try rw [Addr.add_zero'] at hx383_1); (try rw [show ((0 : Int)).toNat = 0 from rfl] at hx383_2); (try rw [show 0 * 3 = 0 from rfl] at hx383_2); (try rw [Addr.add_zero'] at hx383_2); have hn383_0 : ad381.block ≠ gb382 := Nat.ne_of_lt (Nat.lt_of_lt_of_le qB96 GW382.out); have hn383_1 : ad381.block ≠ gb382 := Nat.ne_of_lt (Nat.lt_of_lt_of_le qB96 GW382.out); have hn383_2 : ad381.block ≠ gb382 := Nat.ne_of_lt (Nat.lt_of_lt_of_le qB96 GW382.out); replace hx383_0 := (HB.out.cell (World.block_lt_of_cell? w _ hx383_0)).trans hx383_0; replace hx383_1 := (HB.out.cell (World.block_lt_of_cell? w _ hx383_1)).trans hx383_1; replace hx383_2 := (HB.out.cell (World.block_lt_of_cell? w _ hx383_2)).trans hx383_2; replace hx383_0 := (cell_far (p := ⟨gb382, 0, none⟩) qB46 (.int .i64 ((rd_T33 l0 x23_2).f0))).trans hx383_0; replace hx383_1 := (cell_far (p := ⟨gb382, 0, none⟩) qB46 (.int .i64 ((rd_T33 l0 x23_2).f0))).trans hx383_1; replace hx383_2 := (cell_far (p := ⟨gb382, 0, none⟩) qB46 (.int .i64 ((rd_T33 l0 x23_2).f0))).trans hx383_2; replace hx383_0 := (cell_far (p := ⟨gb382, 1, none⟩) qB47 (.int .i64 ((rd_T33 l0 x23_2).f1))).trans hx383_0; replace hx383_1 := (cell_far (p := ⟨gb382, 1, none⟩) qB47 (.int .i64 ((rd_T33 l0 x23_2).f1))).trans hx383_1; replace hx383_2 := (cell_far (p := ⟨gb382, 1, none⟩) qB47 (.int .i64 ((rd_T33 l0 x23_2).f1))).trans hx383_2; replace hx383_0 := (cell_far (p := ⟨gb382, 2, none⟩) qB48 (.int .i64 ((rd_T33 l0 x23_2).f2))).trans hx383_0; replace hx383_1 := (cell_far (p := ⟨gb382, 2, none⟩) qB48 (.int .i64 ((rd_T33 l0 x23_2).f2))).trans hx383_1; replace hx383_2 := (cell_far (p := ⟨gb382, 2, none⟩) qB48 (.int .i64 ((rd_T33 l0 x23_2).f2))).trans hx383_2; (try have hy383_0 := fun (n_ : Nat) => (show (((((w25.drewN n_).setCell ⟨gb382, 0, none⟩ (.int .i64 ((rd_T33 l0 x23_2).f0))).setCell ⟨gb382, 1, none⟩ (.int .i64 ((rd_T33 l0 x23_2).f1))).setCell ⟨gb382, 2, none⟩ (.int .i64 ((rd_T33 l0 x23_2).f2)))).cell? _ = some _ from hx383_0)); (try have hy383_1 := fun (n_ : Nat) => (show (((((w25.drewN n_).setCell ⟨gb382, 0, none⟩ (.int .i64 ((rd_T33 l0 x23_2).f0))).setCell ⟨gb382, 1, none⟩ (.int .i64 ((rd_T33 l0 x23_2).f1))).setCell ⟨gb382, 2, none⟩ (.int .i64 ((rd_T33 l0 x23_2).f2)))).cell? _ = some _ from hx383_1)); (try have hy383_2 := fun (n_ : Nat) => (show (((((w25.drewN n_).setCell ⟨gb382, 0, none⟩ (.int .i64 ((rd_T33 l0 x23_2).f0))).setCell ⟨gb382, 1, none⟩ (.int .i64 ((rd_T33 l0 x23_2).f1))).setCell ⟨gb382, 2, none⟩ (.int .i64 ((rd_T33 l0 x23_2).f2)))).cell? _ = some _ from hx383_2)); clear hn383_0; clear hn383_1; clear hn383_2; replace p383 := eq_true p383; replace q383 := eq_true q383)); try go_wp2_with (first | ((with_reducible refine gate_dst (N := 6) rfl ?_); refine box_event ?hg (N := 6) ?hd (cs := #[.int .i64 0, .int .i64 0, .int .i64 0]) (t := 33) ?hr ?_; (case hd => rfl); (case hg => rfl); (case hr => first | (go_simp; done) | (go_simp; rfl)); intro gb382 hg w25 hbox hb; have n0_ := Aside0.mk (below_step qB44 hb); have n1_ := Aside0.mk (hbox); have n2_ := Aside0.mk ((by rw [hg]; exact (below_size qB44) : w.heap.size ≤ gb382)); have n3_ := Aside0.mk ((by rw [hg]; exact (below_size qB44) : w.heap.size ≤ gb382)); clear HB; have HB := n0_; have BK382 := n1_; have GW382 := n2_; have GE382 := n3_; clear n0_ n1_ n2_ n3_; clear hb hbox hg; have hcz26_0 : w25.cell? ⟨gb382, 0, none⟩ = some (.int .i64 0) := (blk_cell BK382.out 0).trans rfl; have hcz26_1 : w25.cell? ⟨gb382, 1, none⟩ = some (.int .i64 0) := (blk_cell BK382.out 1).trans rfl; have hcz26_2 : w25.cell? ⟨gb382, 2, none⟩ = some (.int .i64 0) := (blk_cell BK382.out 2).trans rfl; have hfz26_0 := blk_frozen BK382.out 0; have hfz26_1 := blk_frozen BK382.out 1; have hfz26_2 := blk_frozen BK382.out 2; have p383 : 0 ≤ (0 : Int) := (by omega); have q383 : 0 < (l0.length : Int) := of_decide_eq_true qB98; obtain ⟨ad383, e383, hx383_0, hx383_1, hx383_2⟩ := at_T33 HR0.out 0 p383 q383; obtain rfl : ad381 = ad383 := (by injection e383); have qi383 : (0 < l0.length) = True := eq_true (by omega); (try rw [show ((0 : Int)).toNat = 0 from rfl] at hx383_0); (try rw [show 0 * 3 = 0 from rfl] at hx383_0); (try rw [Addr.add_zero'] at hx383_0); (try rw [show ((0 : Int)).toNat = 0 from rfl] at hx383_1); (try rw [show 0 * 3 = 0 from rfl] at hx383_1); (try rw [Addr.add_zero'] at hx383_1); (try rw [show ((0 : Int)).toNat = 0 from rfl] at hx383_2); (try rw [show 0 * 3 = 0 from rfl] at hx383_2); (try rw [Addr.add_zero'] at hx383_2); have hn383_0 : ad381.block ≠ gb382 := Nat.ne_of_lt (Nat.lt_of_lt_of_le qB96 GW382.out); have hn383_1 : ad381.block ≠ gb382 := Nat.ne_of_lt (Nat.lt_of_lt_of_le qB96 GW382.out); have hn383_2 : ad381.block ≠ gb382 := Nat.ne_of_lt (Nat.lt_of_lt_of_le qB96 GW382.out); replace hx383_0 := (HB.out.cell (World.block_lt_of_cell? w _ hx383_0)).trans hx383_0; replace hx383_1 := (HB.out.cell (World.block_lt_of_cell? w _ hx383_1)).trans hx383_1; replace hx383_2 := (HB.out.cell (World.block_lt_of_cell? w _ hx383_2)).trans hx383_2; replace hx383_0 := (cell_far (p := ⟨gb382, 0, none⟩) qB46 (.int .i64 ((rd_T33 l0 x23_2).f0))).trans hx383_0; replace hx383_1 := (cell_far (p := ⟨gb382, 0, none⟩) qB46 (.int .i64 ((rd_T33 l0 x23_2).f0))).trans hx383_1; replace hx383_2 := (cell_far (p := ⟨gb382, 0, none⟩) qB46 (.int .i64 ((rd_T33 l0 x23_2).f0))).trans hx383_2; replace hx383_0 := (cell_far (p := ⟨gb382, 1, none⟩) qB47 (.int .i64 ((rd_T33 l0 x23_2).f1))).trans hx383_0; replace hx383_1 := (cell_far (p := ⟨gb382, 1, none⟩) qB47 (.int .i64 ((rd_T33 l0 x23_2).f1))).trans hx383_1; replace hx383_2 := (cell_far (p := ⟨gb382, 1, none⟩) qB47 (.int .i64 ((rd_T33 l0 x23_2).f1))).trans hx383_2; replace hx383_0 := (cell_far (p := ⟨gb382, 2, none⟩) qB48 (.int .i64 ((rd_T33 l0 x23_2).f2))).trans hx383_0; replace hx383_1 := (cell_far (p := ⟨gb382, 2, none⟩) qB48 (.int .i64 ((rd_T33 l0 x23_2).f2))).trans hx383_1; replace hx383_2 := (cell_far (p := ⟨gb382, 2, none⟩) qB48 (.int .i64 ((rd_T33 l0 x23_2).f2))).trans hx383_2; (try have hy383_0 := fun (n_ : Nat) => (show (((((w25.drewN n_).setCell ⟨gb382, 0, none⟩ (.int .i64 ((rd_T33 l0 x23_2).f0))).setCell ⟨gb382, 1, none⟩ (.int .i64 ((rd_T33 l0 x23_2).f1))).setCell ⟨gb382, 2, none⟩ (.int .i64 ((rd_T33 l0 x23_2).f2)))).cell? _ = some _ from hx383_0)); (try have hy383_1 := fun (n_ : Nat) => (show (((((w25.drewN n_).setCell ⟨gb382, 0, none⟩ (.int .i64 ((rd_T33 l0 x23_2).f0))).setCell ⟨gb382, 1, none⟩ (.int .i64 ((rd_T33 l0 x23_2).f1))).setCell ⟨gb382, 2, none⟩ (.int .i64 ((rd_T33 l0 x23_2).f2)))).cell? _ = some _ from hx383_1)); (try have hy383_2 := fun (n_ : Nat) => (show (((((w25.drewN n_).setCell ⟨gb382, 0, none⟩ (.int .i64 ((rd_T33 l0 x23_2).f0))).setCell ⟨gb382, 1, none⟩ (.int .i64 ((rd_T33 l0 x23_2).f1))).setCell ⟨gb382, 2, none⟩ (.int .i64 ((rd_T33 l0 x23_2).f2)))).cell? _ = some _ from hx383_2)); clear hn383_0; clear hn383_1; clear hn383_2; replace p383 := eq_true p383; replace q383 := eq_true q383)))
            go_ret
            exact ⟨by first | rfl | (simp [errW_none, errW_some] <;> rfl) | (simp [*, errW_none, errW_some] <;> rfl), by repeat (first | (with_reducible first | exact HB.out | apply below_alloc | apply pw_below_drewN | apply below_drew1 | refine below_set ?_ GE382.out) | exact HB.out)⟩
          ·rw [if_neg c18] at H
           exact absurd H (by simp)
         ·rw [if_neg c17] at H
          exact absurd H (by simp)
        ·rw [if_neg c16] at H
         exact absurd H (by simp)
       ·rw [if_neg c15] at H
        have c15b0 : decide (x23_2 < (l0.length : Int)) = false := decide_eq_false c15
        clear c15
        obtain rfl := Option.some.inj H
        go_wp2
        repeat (go_quiet (fail); try go_wp2)
        go_ret
        exact ⟨by first | rfl | (simp [errW_none, errW_some] <;> rfl) | (simp [*, errW_none, errW_some] <;> rfl), by repeat (first | (with_reducible first | exact HB.out | apply below_alloc | apply pw_below_drewN | apply below_drew1) | exact HB.out)⟩
    ·replace c14 := Bool.eq_false_iff.mpr c14
     subst c14
     have H1 : (some 2) = some r := by rw [if_neg (show ¬ (false = true) by decide)] at H; exact H
     clear H
     have H := H1
     clear H1
     obtain rfl := Option.some.inj H
     go_wp2_with (first | (go_at_call 61; (with_reducible refine (impl_within.calls (l0.length : Int) 1 4 false _ A13.out).mono ?_); rintro e w' ⟨rfl, ⟨nd, rfl⟩⟩; (try first | exact ⟨rfl, _, World.drewN_drewN _ _ _⟩ | exact ⟨rfl, _, Eq.trans (World.drewN_drewN _ _ _) (congrArg (World.drewN _) (Nat.add_assoc _ _ _))⟩)))
     repeat (go_quiet (first | (go_at_call 61; (with_reducible refine (impl_within.calls (l0.length : Int) 1 4 false _ A13.out).mono ?_); rintro e w' ⟨rfl, ⟨nd, rfl⟩⟩; (try first | exact ⟨rfl, _, World.drewN_drewN _ _ _⟩ | exact ⟨rfl, _, Eq.trans (World.drewN_drewN _ _ _) (congrArg (World.drewN _) (Nat.add_assoc _ _ _))⟩))); try go_wp2_with (first | (go_at_call 61; (with_reducible refine (impl_within.calls (l0.length : Int) 1 4 false _ A13.out).mono ?_); rintro e w' ⟨rfl, ⟨nd, rfl⟩⟩; (try first | exact ⟨rfl, _, World.drewN_drewN _ _ _⟩ | exact ⟨rfl, _, Eq.trans (World.drewN_drewN _ _ _) (congrArg (World.drewN _) (Nat.add_assoc _ _ _))⟩))))
     go_ret
     exact ⟨by first | rfl | (simp [errW_none, errW_some] <;> rfl) | (simp [*, errW_none, errW_some] <;> rfl), by repeat (first | (with_reducible first | exact HB.out | apply below_alloc | apply pw_below_drewN | apply below_drew1) | exact HB.out)⟩

/-! ### impl_ZeroSumOf: function 24 -/
def impl_ZeroSumOf.f (k : Nat) (l0 : List (S33)) : Option (Int × List Int × Int) := (impl_listCode.f k l0).bind fun t386 => (if t386 = 0 then ((impl_sumOver.f k l0 0).bind fun bt387 => (some (bt387.1, bt387.2, 0))) else (some (0, ([] : List Int), t386)))
theorem impl_ZeroSumOf.mono : ∀ a0 k, LeO (impl_ZeroSumOf.f k a0) (impl_ZeroSumOf.f (k + 1) a0) := by
 intro a0 k
 unfold impl_ZeroSumOf.f
 repeat' first
   | (with_reducible exact impl_listCode.mono _ _)
   | (with_reducible exact impl_sumOver.mono _ _ _)
   | (with_reducible exact LeO.refl _)
   | (with_reducible exact LeO.none _)
   | (with_reducible refine LeO.ite ?_ ?_)
   | (with_reducible refine LeO.bind ?_ (fun _ => ?_))
   | exact impl_listCode.mono _ _
   | exact impl_sumOver.mono _ _ _
   | exact LeO.none _
   | refine LeO.ite ?_ ?_
   | refine LeO.bind ?_ (fun _ => ?_)
set_option maxHeartbeats 8000000 in
set_option maxRecDepth 100000 in
theorem impl_ZeroSumOf.calls (k : Nat) (A0 : Option Addr) (c0 : Nat) (l0 : List (S33)) (r1 : Int) (r2 : List Int) (r3 : Int) (w : World) (hr0 : Kd.C k33 w A0 l0.length l0) (hc0 : l0.length ≤ c0) (h : impl_ZeroSumOf.f k l0 = some (r1, r2, r3)) :
  Calls Try.prog 24 #[.slice A0 l0.length c0] w fun e w' => ∃ v1_ : Value, e = .returned (.tuple #[.agg #[.int .i64 r1, v1_], .int .i64 r3]) ∧ Kd.R (Kd.int .i64) 2 w' w.heap.size (fun _ => True) v1_ r2 ∧ Below w.heap.size w w' := by
 have hu43 := Try.underlying43
 have HR0 := Aside0.mk hr0
 have HC0 := Aside0.mk hc0
 clear hr0 hc0
 have HB := Aside0.mk (Below.refl w.heap.size w)
 have H : ((impl_listCode.f k l0).bind fun t386 => (if t386 = 0 then ((impl_sumOver.f k l0 0).bind fun bt387 => (some (bt387.1, bt387.2, 0))) else (some (0, ([] : List Int), t386)))) = some (r1, r2, r3) := h
 clear h
 replace H := Option.bind_eq_some_iff.mp H
 obtain ⟨t386, A20, H⟩ := H
 replace H : (if t386 = 0 then ((impl_sumOver.f k l0 0).bind fun bt387 => (some (bt387.1, bt387.2, 0))) else (some (0, ([] : List Int), t386))) = some (r1, r2, r3) := H
 have A2 := Aside0.mk A20
 clear A20
 by_cases c3 : t386 = 0
 ·rw [if_pos c3] at H
  have c3b0 : (t386 == 0) = true := beq_iff_eq.mpr c3
  have c3b1 : (t386 != 0) = false := bne_eq_false_iff_eq.mpr c3
  clear c3
  replace H := Option.bind_eq_some_iff.mp H
  obtain ⟨⟨t387, t388⟩, A40, H⟩ := H
  replace H : (some (t387, t388, 0)) = some (r1, r2, r3) := H
  have A4 := Aside0.mk A40
  clear A40
  simp only [Option.some.injEq, Prod.mk.injEq] at H
  obtain ⟨rfl, rfl, rfl⟩ := H
  go_enter Try.func24, Try.ntmps24
  go_wp2_with (first | ((with_reducible refine gate_dst (N := 2) rfl ?_); refine box_event ?hg (N := 2) ?hd (cs := #[.int .i64 0, .slice none 0 0]) (t := 43) ?hr ?_; (case hd => rfl); (case hg => rfl); (case hr => first | (go_simp; done) | (go_simp; rfl)); intro gb385 hg w5 hbox hb; have n0_ := Aside0.mk (below_step qB44 hb); have n1_ := Aside0.mk (hbox); have n2_ := Aside0.mk ((by rw [hg]; exact (below_size qB44) : w.heap.size ≤ gb385)); have n3_ := Aside0.mk ((by rw [hg]; exact (below_size qB44) : w.heap.size ≤ gb385)); clear HB; have HB := n0_; have BK385 := n1_; have GW385 := n2_; have GE385 := n3_; clear n0_ n1_ n2_ n3_; clear hb hbox hg) | ((with_reducible refine gate_callee (f := 51) rfl ?_); refine goesL_ (some 6) rfl rfl Try.func51 (by kernel_rfl) rfl #[.slice A0 l0.length c0] rfl qB43 ?_; (with_reducible refine (impl_listCode.calls k _ _ l0 t386 _ ?side1 ?side2 A2.out).mono ?_); (case side1 => repeat (first | exact (Kd.C_below HR0.out HB.out) | (with_reducible refine Kd.C_alloc ?_ _) | (with_reducible refine Kd.C_drewN ?_ _) | (with_reducible refine Kd.C_drew ?_))); (case side2 => exact HC0.out); rintro e w6 ⟨rfl, hb⟩; refine ⟨_, rfl, ?_⟩; have n0_ := Aside0.mk (blk_below (g := gb385) (o := .cells #[.int .i64 0, .slice none 0 0] 43 (0, 0)) qB62 hb); have n1_ := Aside0.mk (below_step qB35 hb); clear BK385; clear HB; have BK385 := n0_; have HB := n1_; clear n0_ n1_; (try clear hb); (try clear hb2); (try clear hk); (try clear hi)) | ((with_reducible refine gate_callee (f := 43) rfl ?_); refine goesL_ (some 12) rfl rfl Try.func43 (by kernel_rfl) rfl #[.slice A0 l0.length c0, .int .i64 0] rfl qB43 ?_; (with_reducible refine (impl_sumOver.calls k _ _ l0 0 t387 t388 _ ?side1 ?side2 A4.out).mono ?_); (case side1 => repeat (first | exact (Kd.C_below HR0.out HB.out) | (with_reducible refine Kd.C_alloc ?_ _) | (with_reducible refine Kd.C_drewN ?_ _) | (with_reducible refine Kd.C_drew ?_))); (case side2 => exact HC0.out); rintro e w7 ⟨v389, rfl, ho0, hb⟩; refine ⟨_, rfl, ?_⟩; have n0_ := Aside0.mk (Kd.R_lower ho0 (below_size qB35)); have n1_ := Aside0.mk (blk_below (g := gb385) (o := .cells #[.int .i64 0, .slice none 0 0] 43 (0, 0)) qB62 hb); have n2_ := Aside0.mk (below_step qB35 hb); clear BK385; clear HB; have HO390 := n0_; have BK385 := n1_; have HB := n2_; clear n0_ n1_ n2_; (try clear hb); (try clear hb2); (try clear hk); (try clear hi); (try clear ho0); have hcz8_0 : w7.cell? ⟨gb385, 0, none⟩ = some (.int .i64 0) := (blk_cell BK385.out 0).trans rfl; have hcz8_1 : w7.cell? ⟨gb385, 1, none⟩ = some (.slice none 0 0) := (blk_cell BK385.out 1).trans rfl; have hfz8_0 := blk_frozen BK385.out 0; have hfz8_1 := blk_frozen BK385.out 1; obtain ⟨Ao9, co9, eo9⟩ := Kd.R_slice HO390.out; subst eo9))
  refine bodyPost_ret (results_ct rfl _ _ gb385 43 #[.int .i64 t387, .slice Ao9 t388.length co9] (0, 0) _ rfl (by (with_reducible repeat (first | refine blk_drewN ?_ _ | refine blk_drew ?_ | refine blk_alloc ?_ _)); refine blk_put (cs := #[.int .i64 t387, .slice none 0 0]) ?_ 1 _ rfl; (with_reducible repeat (first | refine blk_drewN ?_ _ | refine blk_drew ?_ | refine blk_alloc ?_ _)); refine blk_put (cs := #[.int .i64 0, .slice none 0 0]) ?_ 0 _ rfl; (with_reducible repeat (first | refine blk_drewN ?_ _ | refine blk_drew ?_ | refine blk_alloc ?_ _)); exact BK385.out) Try.underlying43 rfl (by kernel_rfl)) rfl ?_
  exact ⟨_, by first | rfl | (simp [errW_none, errW_some] <;> rfl) | (simp [*, errW_none, errW_some] <;> rfl), by (with_reducible repeat (first | apply Kd.R_alloc | apply Kd.R_drewN | apply Kd.R_drew)); exact Kd.R_mono (Kd.R_far (p := ⟨gb385, 1, none⟩) (Kd.R_far (p := ⟨gb385, 0, none⟩) (Kd.R_types HO390.out BK385.out (by decide)) (fun _ hk => hk.2) (.int .i64 t387)) (fun _ hk => hk.2) (.slice Ao9 t388.length co9)) (fun _ hk => trivial), by repeat (first | (with_reducible first | exact HB.out | apply below_alloc | apply pw_below_drewN | apply below_drew1 | refine below_set ?_ GE385.out) | exact HB.out)⟩
 ·rw [if_neg c3] at H
  have c3b0 : (t386 == 0) = false := beq_eq_false_iff_ne.mpr c3
  have c3b1 : (t386 != 0) = true := bne_iff_ne.mpr c3
  simp only [Option.some.injEq, Prod.mk.injEq] at H
  obtain ⟨rfl, rfl, rfl⟩ := H
  go_enter Try.func24, Try.ntmps24
  go_wp2_with (first | ((with_reducible refine gate_dst (N := 2) rfl ?_); refine box_event ?hg (N := 2) ?hd (cs := #[.int .i64 0, .slice none 0 0]) (t := 43) ?hr ?_; (case hd => rfl); (case hg => rfl); (case hr => first | (go_simp; done) | (go_simp; rfl)); intro gb385 hg w10 hbox hb; have n0_ := Aside0.mk (below_step qB44 hb); have n1_ := Aside0.mk (hbox); have n2_ := Aside0.mk ((by rw [hg]; exact (below_size qB44) : w.heap.size ≤ gb385)); have n3_ := Aside0.mk ((by rw [hg]; exact (below_size qB44) : w.heap.size ≤ gb385)); clear HB; have HB := n0_; have BK385 := n1_; have GW385 := n2_; have GE385 := n3_; clear n0_ n1_ n2_ n3_; clear hb hbox hg) | ((with_reducible refine gate_callee (f := 51) rfl ?_); refine goesL_ (some 6) rfl rfl Try.func51 (by kernel_rfl) rfl #[.slice A0 l0.length c0] rfl qB43 ?_; (with_reducible refine (impl_listCode.calls k _ _ l0 t386 _ ?side1 ?side2 A2.out).mono ?_); (case side1 => repeat (first | exact (Kd.C_below HR0.out HB.out) | (with_reducible refine Kd.C_alloc ?_ _) | (with_reducible refine Kd.C_drewN ?_ _) | (with_reducible refine Kd.C_drew ?_))); (case side2 => exact HC0.out); rintro e w11 ⟨rfl, hb⟩; refine ⟨_, rfl, ?_⟩; have n0_ := Aside0.mk (blk_below (g := gb385) (o := .cells #[.int .i64 0, .slice none 0 0] 43 (0, 0)) qB62 hb); have n1_ := Aside0.mk (below_step qB35 hb); clear BK385; clear HB; have BK385 := n0_; have HB := n1_; clear n0_ n1_; (try clear hb); (try clear hb2); (try clear hk); (try clear hi); have hcz12_0 : w11.cell? ⟨gb385, 0, none⟩ = some (.int .i64 0) := (blk_cell BK385.out 0).trans rfl; have hcz12_1 : w11.cell? ⟨gb385, 1, none⟩ = some (.slice none 0 0) := (blk_cell BK385.out 1).trans rfl; have hfz12_0 := blk_frozen BK385.out 0; have hfz12_1 := blk_frozen BK385.out 1))
  refine bodyPost_ret (results_ct rfl _ _ gb385 43 #[.int .i64 0, .slice none 0 0] (0, 0) _ rfl (by (with_reducible repeat (first | refine blk_drewN ?_ _ | refine blk_drew ?_ | refine blk_alloc ?_ _)); refine blk_put (cs := #[.int .i64 0, .slice none 0 0]) ?_ 1 _ rfl; (with_reducible repeat (first | refine blk_drewN ?_ _ | refine blk_drew ?_ | refine blk_alloc ?_ _)); refine blk_put (cs := #[.int .i64 0, .slice none 0 0]) ?_ 0 _ rfl; (with_reducible repeat (first | refine blk_drewN ?_ _ | refine blk_drew ?_ | refine blk_alloc ?_ _)); exact BK385.out) Try.underlying43 rfl (by kernel_rfl)) rfl ?_
  exact ⟨_, by first | rfl | (simp [errW_none, errW_some] <;> rfl) | (simp [*, errW_none, errW_some] <;> rfl), by first | exact Kd.R_nil _ _ _ _ _ | exact Kd.N_nil _ _ _ _ _ | exact Kd.V_nil _ _ _ _ _ | exact Kd.Q_nil _ _ _ _ _ | exact Kd.S_nil _ _ _ _ _, by repeat (first | (with_reducible first | exact HB.out | apply below_alloc | apply pw_below_drewN | apply below_drew1 | refine below_set ?_ GE385.out) | exact HB.out)⟩

/-! ### laws_eqInt64S: function 10 -/
def laws_eqInt64S.l0 : Nat → List Int → List Int → Int → Option (Bool)
 | 0, _, _, _ => none
 | k + 1, x0, x1, x5 => if x5 < (x0.length : Int) then (if 0 ≤ x5 then (if x5 < (x1.length : Int) then (if (rd x0 x5) = (rd x1 x5) then (laws_eqInt64S.l0 k x0 x1 (wrap64 (x5 + 1))) else (some false)) else (none)) else (none)) else (some true)
def laws_eqInt64S.f (k : Nat) (l0 : List Int) (l1 : List Int) : Option (Bool) := if (l0.length : Int) = (l1.length : Int) then (laws_eqInt64S.l0 k l0 l1 0) else (some false)
theorem laws_eqInt64S.mono_l : ∀ k, (∀ y0 y1 y2, LeO (laws_eqInt64S.l0 k y0 y1 y2) (laws_eqInt64S.l0 (k + 1) y0 y1 y2))
 | 0 => fun _ _ _ r h => by simp [laws_eqInt64S.l0] at h
 | k + 1 => by
  have ih0 := laws_eqInt64S.mono_l k
  ·intro y0 y1 y2
   unfold laws_eqInt64S.l0
   repeat' first
   | (with_reducible exact ih0 _ _ _)
   | (with_reducible exact LeO.refl _)
   | (with_reducible exact LeO.none _)
   | (with_reducible refine LeO.ite ?_ ?_)
   | (with_reducible refine LeO.bind ?_ (fun _ => ?_))
   | exact ih0 _ _ _
   | exact LeO.none _
   | refine LeO.ite ?_ ?_
   | refine LeO.bind ?_ (fun _ => ?_)
theorem laws_eqInt64S.mono : ∀ a0 a1 k, LeO (laws_eqInt64S.f k a0 a1) (laws_eqInt64S.f (k + 1) a0 a1) := by
 intro a0 a1 k
 have ih0 := laws_eqInt64S.mono_l k
 unfold laws_eqInt64S.f
 repeat' first
   | (with_reducible exact ih0 _ _ _)
   | (with_reducible exact LeO.refl _)
   | (with_reducible exact LeO.none _)
   | (with_reducible refine LeO.ite ?_ ?_)
   | (with_reducible refine LeO.bind ?_ (fun _ => ?_))
   | exact ih0 _ _ _
   | exact LeO.none _
   | refine LeO.ite ?_ ?_
   | refine LeO.bind ?_ (fun _ => ?_)
set_option maxHeartbeats 8000000 in
set_option maxRecDepth 100000 in
theorem laws_eqInt64S.calls (k : Nat) (A0 : Option Addr) (c0 : Nat) (l0 : List Int) (A1 : Option Addr) (c1 : Nat) (l1 : List Int) (r : Bool) (w : World) (hr0 : Kd.C (Kd.int .i64) w A0 l0.length l0) (hc0 : l0.length ≤ c0) (hr1 : Kd.C (Kd.int .i64) w A1 l1.length l1) (hc1 : l1.length ≤ c1) (h : laws_eqInt64S.f k l0 l1 = some r) :
  Calls Try.prog 10 #[.slice A0 l0.length c0, .slice A1 l1.length c1] w fun e w' => e = .returned (.bool r) ∧ Drawn0 w w' := by
 have HR0 := Aside0.mk hr0
 have HC0 := Aside0.mk hc0
 clear hr0 hc0
 have HR1 := Aside0.mk hr1
 have HC1 := Aside0.mk hc1
 clear hr1 hc1
 have H : (if (l0.length : Int) = (l1.length : Int) then (laws_eqInt64S.l0 k l0 l1 0) else (some false)) = some r := h
 clear h
 by_cases c3 : (l0.length : Int) = (l1.length : Int)
 ·rw [if_pos c3] at H
  have c3b0 : ((l0.length : Int) == (l1.length : Int)) = true := beq_iff_eq.mpr c3
  have c3b1 : ((l0.length : Int) != (l1.length : Int)) = false := bne_eq_false_iff_eq.mpr c3
  have c3b2 : (l0.length == l1.length) = true := by first | simpa using c3 | (simp at c3 ⊢; omega)
  clear c3
  have H' := Aside0.mk H
  clear H
  go_enter Try.func10, Try.ntmps10
  go_wp2
  repeat (go_quiet (fail); try go_wp2)
  try simp only [Act.put, List.setIfInBounds_toArray, List.set_cons_succ, List.set_cons_zero]
  go_loopg [5] k (fun kq v5 w' => ∃ (x5_1 : Int), v5 = .int .i64 x5_1 ∧ Aside0 (laws_eqInt64S.l0 kq l0 l1 x5_1 = some r) ∧ Aside0 (kq ≤ k) ∧ Drawn0 w w')
  case atStart => exact ⟨(0), qB99, H', ⟨Nat.le_refl _⟩, by repeat (first | exact Drawn0.refl _ | apply Drawn0.step)⟩
  case round =>
   clear H'
   try clear c1
   try clear p2
   try clear c3
   try clear c3b0
   try clear c3b1
   try clear c3b2
   obtain ⟨x5_1, rfl, HA, HK1, ⟨m1, rfl⟩⟩ := hrel
   cases gk with
   | zero => exact absurd HA.out (by simp [laws_eqInt64S.l0])
   | succ k1 =>
    have H := HA.out
    clear HA
    simp only [laws_eqInt64S.l0] at H
    by_cases c4 : x5_1 < (l0.length : Int)
    ·rw [if_pos c4] at H
     have c4b0 : decide (x5_1 < (l0.length : Int)) = true := decide_eq_true c4
     clear c4
     by_cases c5 : 0 ≤ x5_1
     ·rw [if_pos c5] at H
      have c5b0 : decide (0 ≤ x5_1) = true := decide_eq_true c5
      clear c5
      by_cases c6 : x5_1 < (l1.length : Int)
      ·rw [if_pos c6] at H
       have c6b0 : decide (x5_1 < (l1.length : Int)) = true := decide_eq_true c6
       clear c6
       by_cases c7 : (rd l0 x5_1) = (rd l1 x5_1)
       ·rw [if_pos c7] at H
        have c7b0 : ((rd l0 x5_1) == (rd l1 x5_1)) = true := beq_iff_eq.mpr c7
        have c7b1 : ((rd l0 x5_1) != (rd l1 x5_1)) = false := bne_eq_false_iff_eq.mpr c7
        clear c7
        have H' := Aside0.mk H
        clear H
        have p391 : 0 ≤ (x5_1 : Int) := of_decide_eq_true qB98
        have q391 : x5_1 < (l0.length : Int) := of_decide_eq_true qB98
        obtain ⟨ad391, e391, hx391_0⟩ := Kd.at_int HR0.out x5_1 p391 q391
        cases e391
        replace p391 := eq_true p391
        replace q391 := eq_true q391
        have p392 : 0 ≤ (x5_1 : Int) := of_decide_eq_true qB98
        have q392 : x5_1 < (l1.length : Int) := of_decide_eq_true qB98
        obtain ⟨ad392, e392, hx392_0⟩ := Kd.at_int HR1.out x5_1 p392 q392
        cases e392
        replace p392 := eq_true p392
        replace q392 := eq_true q392
        go_wp2
        repeat (go_quiet (fail); try go_wp2)
        (first | go_roundg k1 | ((try simp only [add_plain] at *); go_roundg k1))
        case measure => have := HK1.out; omega
        case rel => exact ⟨(wrap64 (x5_1 + 1)), qB99, H', ⟨by have := HK1.out; omega⟩, by repeat (first | exact Drawn0.refl _ | apply Drawn0.step)⟩
       ·rw [if_neg c7] at H
        have c7b0 : ((rd l0 x5_1) == (rd l1 x5_1)) = false := beq_eq_false_iff_ne.mpr c7
        have c7b1 : ((rd l0 x5_1) != (rd l1 x5_1)) = true := bne_iff_ne.mpr c7
        obtain rfl := Option.some.inj H
        have p391 : 0 ≤ (x5_1 : Int) := of_decide_eq_true qB98
        have q391 : x5_1 < (l0.length : Int) := of_decide_eq_true qB98
        obtain ⟨ad391, e391, hx391_0⟩ := Kd.at_int HR0.out x5_1 p391 q391
        cases e391
        replace p391 := eq_true p391
        replace q391 := eq_true q391
        have p392 : 0 ≤ (x5_1 : Int) := of_decide_eq_true qB98
        have q392 : x5_1 < (l1.length : Int) := of_decide_eq_true qB98
        obtain ⟨ad392, e392, hx392_0⟩ := Kd.at_int HR1.out x5_1 p392 q392
        cases e392
        replace p392 := eq_true p392
        replace q392 := eq_true q392
        go_wp2
        repeat (go_quiet (fail); try go_wp2)
        go_ret
        exact ⟨by first | rfl | (simp; done) | (simp [*]; done), by repeat (first | exact Drawn0.refl _ | apply Drawn0.step)⟩
      ·rw [if_neg c6] at H
       exact absurd H (by simp)
     ·rw [if_neg c5] at H
      exact absurd H (by simp)
    ·rw [if_neg c4] at H
     have c4b0 : decide (x5_1 < (l0.length : Int)) = false := decide_eq_false c4
     clear c4
     obtain rfl := Option.some.inj H
     go_wp2
     repeat (go_quiet (fail); try go_wp2)
     go_ret
     exact ⟨by first | rfl | (simp; done) | (simp [*]; done), by repeat (first | exact Drawn0.refl _ | apply Drawn0.step)⟩
 ·rw [if_neg c3] at H
  have c3b0 : ((l0.length : Int) == (l1.length : Int)) = false := beq_eq_false_iff_ne.mpr c3
  have c3b1 : ((l0.length : Int) != (l1.length : Int)) = true := bne_iff_ne.mpr c3
  have c3b2 : (l0.length == l1.length) = false := by first | simpa using c3 | (simp at c3 ⊢; omega)
  obtain rfl := Option.some.inj H
  go_enter Try.func10, Try.ntmps10
  go_wp2
  repeat (go_quiet (fail); try go_wp2)
  go_ret
  exact ⟨by first | rfl | (simp; done) | (simp [*]; done), by repeat (first | exact Drawn0.refl _ | apply Drawn0.step)⟩

/-! ### laws_eqCyclo: function 25 -/
def laws_eqCyclo.f (k : Nat) (a0_0 : Int) (l0_1 : List Int) (a1_0 : Int) (l1_1 : List Int) : Option (Bool) := if a0_0 = a1_0 then ((laws_eqInt64S.f k l0_1 l1_1).bind fun t395 => (if t395 = true then (some true) else (some false))) else (some false)
theorem laws_eqCyclo.mono : ∀ a0 a1 a2 a3 k, LeO (laws_eqCyclo.f k a0 a1 a2 a3) (laws_eqCyclo.f (k + 1) a0 a1 a2 a3) := by
 intro a0 a1 a2 a3 k
 unfold laws_eqCyclo.f
 repeat' first
   | (with_reducible exact laws_eqInt64S.mono _ _ _)
   | (with_reducible exact LeO.refl _)
   | (with_reducible exact LeO.none _)
   | (with_reducible refine LeO.ite ?_ ?_)
   | (with_reducible refine LeO.bind ?_ (fun _ => ?_))
   | exact laws_eqInt64S.mono _ _ _
   | exact LeO.none _
   | refine LeO.ite ?_ ?_
   | refine LeO.bind ?_ (fun _ => ?_)
set_option maxHeartbeats 8000000 in
set_option maxRecDepth 100000 in
theorem laws_eqCyclo.calls (k : Nat) (a0_0 : Int) (A0_1 : Option Addr) (c0_1 : Nat) (l0_1 : List Int) (a1_0 : Int) (A1_1 : Option Addr) (c1_1 : Nat) (l1_1 : List Int) (r : Bool) (w : World) (hr0_1 : Kd.C (Kd.int .i64) w A0_1 l0_1.length l0_1) (hc0_1 : l0_1.length ≤ c0_1) (hr1_1 : Kd.C (Kd.int .i64) w A1_1 l1_1.length l1_1) (hc1_1 : l1_1.length ≤ c1_1) (h : laws_eqCyclo.f k a0_0 l0_1 a1_0 l1_1 = some r) :
  Calls Try.prog 25 #[.agg #[.int .i64 a0_0, .slice A0_1 l0_1.length c0_1], .agg #[.int .i64 a1_0, .slice A1_1 l1_1.length c1_1]] w fun e w' => e = .returned (.bool r) ∧ Below w.heap.size w w' := by
 have hu43 := Try.underlying43
 have HR0_1 := Aside0.mk hr0_1
 have HC0_1 := Aside0.mk hc0_1
 clear hr0_1 hc0_1
 have HR1_1 := Aside0.mk hr1_1
 have HC1_1 := Aside0.mk hc1_1
 clear hr1_1 hc1_1
 have HB := Aside0.mk (Below.refl w.heap.size w)
 have H : (if a0_0 = a1_0 then ((laws_eqInt64S.f k l0_1 l1_1).bind fun t395 => (if t395 = true then (some true) else (some false))) else (some false)) = some r := h
 clear h
 by_cases c3 : a0_0 = a1_0
 ·rw [if_pos c3] at H
  have c3b0 : (a0_0 == a1_0) = true := beq_iff_eq.mpr c3
  have c3b1 : (a0_0 != a1_0) = false := bne_eq_false_iff_eq.mpr c3
  clear c3
  replace H := Option.bind_eq_some_iff.mp H
  obtain ⟨t395, A40, H⟩ := H
  replace H : (if t395 = true then (some true) else (some false)) = some r := H
  have A4 := Aside0.mk A40
  clear A40
  by_cases c5 : t395 = true
  ·subst c5
   have H1 : (some true) = some r := by rw [if_pos rfl] at H; exact H
   clear H
   have H := H1
   clear H1
   obtain rfl := Option.some.inj H
   go_enter Try.func25, Try.ntmps25
   go_wp2_with (first | ((with_reducible refine gate_dst (N := 2) rfl ?_); refine box_event ?hg (N := 2) ?hd (cs := #[.int .i64 a0_0, .slice A0_1 l0_1.length c0_1]) (t := 43) ?hr ?_; (case hd => rfl); (case hg => rfl); (case hr => first | (go_simp; done) | (go_simp; rfl)); intro gb393 hg w6 hbox hb; have n0_ := Aside0.mk (below_step qB44 hb); have n1_ := Aside0.mk (hbox); have n2_ := Aside0.mk ((by rw [hg]; exact (below_size qB44) : w.heap.size ≤ gb393)); have n3_ := Aside0.mk ((by rw [hg]; exact (below_size qB44) : w.heap.size ≤ gb393)); clear HB; have HB := n0_; have BK393 := n1_; have GW393 := n2_; have GE393 := n3_; clear n0_ n1_ n2_ n3_; clear hb hbox hg) | ((with_reducible refine gate_dst (N := 3) rfl ?_); refine box_event ?hg (N := 3) ?hd (cs := #[.int .i64 a1_0, .slice A1_1 l1_1.length c1_1]) (t := 43) ?hr ?_; (case hd => rfl); (case hg => rfl); (case hr => first | (go_simp; done) | (go_simp; rfl)); intro gb394 hg w7 hbox hb; have n0_ := Aside0.mk (blk_below (g := gb393) (o := .cells #[.int .i64 a0_0, .slice A0_1 l0_1.length c0_1] 43 (0, 0)) qB63 hb); have n1_ := Aside0.mk (below_step qB36 hb); have n2_ := Aside0.mk (hbox); have n3_ := Aside0.mk ((by rw [hg]; exact (below_size qB36) : w.heap.size ≤ gb394)); have n4_ := Aside0.mk ((by rw [hg]; exact (below_size qB36) : w.heap.size ≤ gb394)); have n5_ := Aside0.mk ((by rw [hg]; exact Nat.ne_of_lt (blk_lt (g := gb393) (o := .cells #[.int .i64 a0_0, .slice A0_1 l0_1.length c0_1] 43 (0, 0)) qB63) : gb393 ≠ gb394)); have n6_ := Aside0.mk ((by rw [hg]; exact Nat.ne_of_gt (blk_lt (g := gb393) (o := .cells #[.int .i64 a0_0, .slice A0_1 l0_1.length c0_1] 43 (0, 0)) qB63) : gb394 ≠ gb393)); clear BK393; clear HB; have BK393 := n0_; have HB := n1_; have BK394 := n2_; have GW394 := n3_; have GE394 := n4_; have NB393_394 := n5_; have NB394_393 := n6_; clear n0_ n1_ n2_ n3_ n4_ n5_ n6_; clear hb hbox hg; have hnb8 := NB393_394.out; have hnc8 := NB394_393.out; have hcz9_0 : w7.cell? ⟨gb393, 0, none⟩ = some (.int .i64 a0_0) := (blk_cell BK393.out 0).trans rfl; have hcz9_1 : w7.cell? ⟨gb393, 1, none⟩ = some (.slice A0_1 l0_1.length c0_1) := (blk_cell BK393.out 1).trans rfl; have hfz9_0 := blk_frozen BK393.out 0; have hfz9_1 := blk_frozen BK393.out 1; have hcz10_0 : w7.cell? ⟨gb394, 0, none⟩ = some (.int .i64 a1_0) := (blk_cell BK394.out 0).trans rfl; have hcz10_1 : w7.cell? ⟨gb394, 1, none⟩ = some (.slice A1_1 l1_1.length c1_1) := (blk_cell BK394.out 1).trans rfl; have hfz10_0 := blk_frozen BK394.out 0; have hfz10_1 := blk_frozen BK394.out 1) | ((with_reducible refine gate_callee (f := 10) rfl ?_); refine goesL_ (some 14) rfl rfl Try.func10 (by kernel_rfl) rfl #[.slice A0_1 l0_1.length c0_1, .slice A1_1 l1_1.length c1_1] rfl qB43 ?_; (with_reducible refine (laws_eqInt64S.calls k _ _ l0_1 _ _ l1_1 true _ ?side1 ?side2 ?side3 ?side4 A4.out).mono ?_); (case side1 => repeat (first | exact (Kd.C_below HR0_1.out HB.out) | (with_reducible refine Kd.C_alloc ?_ _) | (with_reducible refine Kd.C_drewN ?_ _) | (with_reducible refine Kd.C_drew ?_))); (case side2 => exact HC0_1.out); (case side3 => repeat (first | exact (Kd.C_below HR1_1.out HB.out) | (with_reducible refine Kd.C_alloc ?_ _) | (with_reducible refine Kd.C_drewN ?_ _) | (with_reducible refine Kd.C_drew ?_))); (case side4 => exact HC1_1.out); rintro e w' ⟨rfl, ⟨nd, rfl⟩⟩; refine ⟨_, rfl, ?_⟩))
   go_ret
   exact ⟨by first | rfl | (simp [errW_none, errW_some] <;> rfl) | (simp [*, errW_none, errW_some] <;> rfl), by repeat (first | (with_reducible first | exact HB.out | apply below_alloc | apply pw_below_drewN | apply below_drew1 | refine below_set ?_ GE393.out | refine below_set ?_ GE394.out) | exact HB.out)⟩
  ·replace c5 := Bool.eq_false_iff.mpr c5
   subst c5
   have H1 : (some false) = some r := by rw [if_neg (show ¬ (false = true) by decide)] at H; exact H
   clear H
   have H := H1
   clear H1
   obtain rfl := Option.some.inj H
   go_enter Try.func25, Try.ntmps25
   go_wp2_with (first | ((with_reducible refine gate_dst (N := 2) rfl ?_); refine box_event ?hg (N := 2) ?hd (cs := #[.int .i64 a0_0, .slice A0_1 l0_1.length c0_1]) (t := 43) ?hr ?_; (case hd => rfl); (case hg => rfl); (case hr => first | (go_simp; done) | (go_simp; rfl)); intro gb393 hg w11 hbox hb; have n0_ := Aside0.mk (below_step qB44 hb); have n1_ := Aside0.mk (hbox); have n2_ := Aside0.mk ((by rw [hg]; exact (below_size qB44) : w.heap.size ≤ gb393)); have n3_ := Aside0.mk ((by rw [hg]; exact (below_size qB44) : w.heap.size ≤ gb393)); clear HB; have HB := n0_; have BK393 := n1_; have GW393 := n2_; have GE393 := n3_; clear n0_ n1_ n2_ n3_; clear hb hbox hg) | ((with_reducible refine gate_dst (N := 3) rfl ?_); refine box_event ?hg (N := 3) ?hd (cs := #[.int .i64 a1_0, .slice A1_1 l1_1.length c1_1]) (t := 43) ?hr ?_; (case hd => rfl); (case hg => rfl); (case hr => first | (go_simp; done) | (go_simp; rfl)); intro gb394 hg w12 hbox hb; have n0_ := Aside0.mk (blk_below (g := gb393) (o := .cells #[.int .i64 a0_0, .slice A0_1 l0_1.length c0_1] 43 (0, 0)) qB63 hb); have n1_ := Aside0.mk (below_step qB36 hb); have n2_ := Aside0.mk (hbox); have n3_ := Aside0.mk ((by rw [hg]; exact (below_size qB36) : w.heap.size ≤ gb394)); have n4_ := Aside0.mk ((by rw [hg]; exact (below_size qB36) : w.heap.size ≤ gb394)); have n5_ := Aside0.mk ((by rw [hg]; exact Nat.ne_of_lt (blk_lt (g := gb393) (o := .cells #[.int .i64 a0_0, .slice A0_1 l0_1.length c0_1] 43 (0, 0)) qB63) : gb393 ≠ gb394)); have n6_ := Aside0.mk ((by rw [hg]; exact Nat.ne_of_gt (blk_lt (g := gb393) (o := .cells #[.int .i64 a0_0, .slice A0_1 l0_1.length c0_1] 43 (0, 0)) qB63) : gb394 ≠ gb393)); clear BK393; clear HB; have BK393 := n0_; have HB := n1_; have BK394 := n2_; have GW394 := n3_; have GE394 := n4_; have NB393_394 := n5_; have NB394_393 := n6_; clear n0_ n1_ n2_ n3_ n4_ n5_ n6_; clear hb hbox hg; have hnb13 := NB393_394.out; have hnc13 := NB394_393.out; have hcz14_0 : w12.cell? ⟨gb393, 0, none⟩ = some (.int .i64 a0_0) := (blk_cell BK393.out 0).trans rfl; have hcz14_1 : w12.cell? ⟨gb393, 1, none⟩ = some (.slice A0_1 l0_1.length c0_1) := (blk_cell BK393.out 1).trans rfl; have hfz14_0 := blk_frozen BK393.out 0; have hfz14_1 := blk_frozen BK393.out 1; have hcz15_0 : w12.cell? ⟨gb394, 0, none⟩ = some (.int .i64 a1_0) := (blk_cell BK394.out 0).trans rfl; have hcz15_1 : w12.cell? ⟨gb394, 1, none⟩ = some (.slice A1_1 l1_1.length c1_1) := (blk_cell BK394.out 1).trans rfl; have hfz15_0 := blk_frozen BK394.out 0; have hfz15_1 := blk_frozen BK394.out 1) | ((with_reducible refine gate_callee (f := 10) rfl ?_); refine goesL_ (some 14) rfl rfl Try.func10 (by kernel_rfl) rfl #[.slice A0_1 l0_1.length c0_1, .slice A1_1 l1_1.length c1_1] rfl qB43 ?_; (with_reducible refine (laws_eqInt64S.calls k _ _ l0_1 _ _ l1_1 false _ ?side1 ?side2 ?side3 ?side4 A4.out).mono ?_); (case side1 => repeat (first | exact (Kd.C_below HR0_1.out HB.out) | (with_reducible refine Kd.C_alloc ?_ _) | (with_reducible refine Kd.C_drewN ?_ _) | (with_reducible refine Kd.C_drew ?_))); (case side2 => exact HC0_1.out); (case side3 => repeat (first | exact (Kd.C_below HR1_1.out HB.out) | (with_reducible refine Kd.C_alloc ?_ _) | (with_reducible refine Kd.C_drewN ?_ _) | (with_reducible refine Kd.C_drew ?_))); (case side4 => exact HC1_1.out); rintro e w' ⟨rfl, ⟨nd, rfl⟩⟩; refine ⟨_, rfl, ?_⟩))
   go_ret
   exact ⟨by first | rfl | (simp [errW_none, errW_some] <;> rfl) | (simp [*, errW_none, errW_some] <;> rfl), by repeat (first | (with_reducible first | exact HB.out | apply below_alloc | apply pw_below_drewN | apply below_drew1 | refine below_set ?_ GE393.out | refine below_set ?_ GE394.out) | exact HB.out)⟩
 ·rw [if_neg c3] at H
  have c3b0 : (a0_0 == a1_0) = false := beq_eq_false_iff_ne.mpr c3
  have c3b1 : (a0_0 != a1_0) = true := bne_iff_ne.mpr c3
  obtain rfl := Option.some.inj H
  go_enter Try.func25, Try.ntmps25
  go_wp2_with (first | ((with_reducible refine gate_dst (N := 2) rfl ?_); refine box_event ?hg (N := 2) ?hd (cs := #[.int .i64 a0_0, .slice A0_1 l0_1.length c0_1]) (t := 43) ?hr ?_; (case hd => rfl); (case hg => rfl); (case hr => first | (go_simp; done) | (go_simp; rfl)); intro gb393 hg w16 hbox hb; have n0_ := Aside0.mk (below_step qB44 hb); have n1_ := Aside0.mk (hbox); have n2_ := Aside0.mk ((by rw [hg]; exact (below_size qB44) : w.heap.size ≤ gb393)); have n3_ := Aside0.mk ((by rw [hg]; exact (below_size qB44) : w.heap.size ≤ gb393)); clear HB; have HB := n0_; have BK393 := n1_; have GW393 := n2_; have GE393 := n3_; clear n0_ n1_ n2_ n3_; clear hb hbox hg) | ((with_reducible refine gate_dst (N := 3) rfl ?_); refine box_event ?hg (N := 3) ?hd (cs := #[.int .i64 a1_0, .slice A1_1 l1_1.length c1_1]) (t := 43) ?hr ?_; (case hd => rfl); (case hg => rfl); (case hr => first | (go_simp; done) | (go_simp; rfl)); intro gb394 hg w17 hbox hb; have n0_ := Aside0.mk (blk_below (g := gb393) (o := .cells #[.int .i64 a0_0, .slice A0_1 l0_1.length c0_1] 43 (0, 0)) qB63 hb); have n1_ := Aside0.mk (below_step qB36 hb); have n2_ := Aside0.mk (hbox); have n3_ := Aside0.mk ((by rw [hg]; exact (below_size qB36) : w.heap.size ≤ gb394)); have n4_ := Aside0.mk ((by rw [hg]; exact (below_size qB36) : w.heap.size ≤ gb394)); have n5_ := Aside0.mk ((by rw [hg]; exact Nat.ne_of_lt (blk_lt (g := gb393) (o := .cells #[.int .i64 a0_0, .slice A0_1 l0_1.length c0_1] 43 (0, 0)) qB63) : gb393 ≠ gb394)); have n6_ := Aside0.mk ((by rw [hg]; exact Nat.ne_of_gt (blk_lt (g := gb393) (o := .cells #[.int .i64 a0_0, .slice A0_1 l0_1.length c0_1] 43 (0, 0)) qB63) : gb394 ≠ gb393)); clear BK393; clear HB; have BK393 := n0_; have HB := n1_; have BK394 := n2_; have GW394 := n3_; have GE394 := n4_; have NB393_394 := n5_; have NB394_393 := n6_; clear n0_ n1_ n2_ n3_ n4_ n5_ n6_; clear hb hbox hg; have hnb18 := NB393_394.out; have hnc18 := NB394_393.out; have hcz19_0 : w17.cell? ⟨gb393, 0, none⟩ = some (.int .i64 a0_0) := (blk_cell BK393.out 0).trans rfl; have hcz19_1 : w17.cell? ⟨gb393, 1, none⟩ = some (.slice A0_1 l0_1.length c0_1) := (blk_cell BK393.out 1).trans rfl; have hfz19_0 := blk_frozen BK393.out 0; have hfz19_1 := blk_frozen BK393.out 1; have hcz20_0 : w17.cell? ⟨gb394, 0, none⟩ = some (.int .i64 a1_0) := (blk_cell BK394.out 0).trans rfl; have hcz20_1 : w17.cell? ⟨gb394, 1, none⟩ = some (.slice A1_1 l1_1.length c1_1) := (blk_cell BK394.out 1).trans rfl; have hfz20_0 := blk_frozen BK394.out 0; have hfz20_1 := blk_frozen BK394.out 1))
  go_ret
  exact ⟨by first | rfl | (simp [errW_none, errW_some] <;> rfl) | (simp [*, errW_none, errW_some] <;> rfl), by repeat (first | (with_reducible first | exact HB.out | apply below_alloc | apply pw_below_drewN | apply below_drew1 | refine below_set ?_ GE393.out | refine below_set ?_ GE394.out) | exact HB.out)⟩

end Go.Proofs.Ythdpdiahkphklab.PFnExactZeroSumOf
