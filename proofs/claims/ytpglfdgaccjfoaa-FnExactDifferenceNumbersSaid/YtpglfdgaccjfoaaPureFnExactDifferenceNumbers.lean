/- The program's DifferenceNumbers returns what the reference's returns, for all arguments; no condition. -/
import Derived.Test.YtpglfdgaccjfoaaPFnExactDifferenceNumbersx5
import Derived.OpenShut
namespace Go.Proofs.Ytpglfdgaccjfoaa.Pure
open Go.RowKit Go.Proofs.Ytpglfdgaccjfoaa.PFnExactDifferenceNumbers Go.Proofs.YtpglfdgaccjfoaaW.PrintWords Go.Proofs.YtpglfdgaccjfoaaW.PrintLast Go.Proofs.YtpglfdgaccjfoaaW.PrintMore
set_option linter.unusedVariables false
set_option linter.unusedSimpArgs false
theorem w64 {x : Int} (h0 : -9223372036854775808 ≤ x) (h1 : x ≤ 9223372036854775807) : wrap64 x = x := by unfold wrap64; omega
theorem wf64 {x : Int} (h : (Lit.int .i64 x).wf = true) : -9223372036854775808 ≤ x ∧ x ≤ 9223372036854775807 := bounds_i64 h
theorem ev_bind_const {α β : Type} {o : Option α} {a : α} {f : Nat → α → Option β} {r : β} (h : o = some a) (k : Ev (fun n => f n a) r) : Ev (fun n => o.bind (f n)) r := by
  subst h; exact k
theorem eqInts_l0 (l m : List Int) (hl : l.length ≤ 1048576) (hm : m.length = l.length) : ∀ (d i : Nat), d + i = l.length → Ev (fun k => laws_eqInt64S.l0 k l m (i : Int)) (decide (l.drop i = m.drop i)) := by
  intro d
  induction d with
  | zero =>
    intro i hd
    refine Ev.step (f := fun _ => some (decide (l.drop i = m.drop i))) (fun k => ?_) (Ev.now _)
    simp only [laws_eqInt64S.l0]
    rw [if_neg (by omega), List.drop_of_length_le (by omega), List.drop_of_length_le (by omega)]
    simp
  | succ d ih =>
    intro i hd
    have hi : i < l.length := by omega
    have hi2 : i < m.length := by omega
    have e1 : rd l (i : Int) = l[i] := by simp [rd, hi]
    have e2 : rd m (i : Int) = m[i] := by simp [rd, hi2]
    by_cases he : l[i] = m[i]
    · refine Ev.step (f := fun k => laws_eqInt64S.l0 k l m ((i + 1 : Nat) : Int)) (fun k => ?_) ?_
      · simp only [laws_eqInt64S.l0]
        rw [if_pos (by omega), if_pos (by omega), if_pos (by omega), e1, e2, if_pos he, w64 (by omega) (by omega)]
        rfl
      · have e : decide (l.drop i = m.drop i) = decide (l.drop (i + 1) = m.drop (i + 1)) := by
          rw [List.drop_eq_getElem_cons hi, List.drop_eq_getElem_cons hi2]
          simp only [List.cons.injEq, he, true_and]
        rw [e]
        exact ih (i + 1) (by omega)
    · refine Ev.step (f := fun _ => some false) (fun k => ?_) ?_
      · simp only [laws_eqInt64S.l0]
        rw [if_pos (by omega), if_pos (by omega), if_pos (by omega), e1, e2, if_neg he]
      · have e : decide (l.drop i = m.drop i) = false := by
          rw [List.drop_eq_getElem_cons hi, List.drop_eq_getElem_cons hi2]
          simp only [List.cons.injEq, he, false_and, decide_false]
        rw [e]
        exact Ev.now _
theorem eqInts (l m : List Int) (hl : l.length ≤ 1048576) : Ev (fun k => laws_eqInt64S.f k l m) (decide (l = m)) := by
  by_cases h : m.length = l.length
  · have := eqInts_l0 l m hl h l.length 0 (by omega)
    refine Ev.congr (fun k => ?_) (by simpa using this)
    unfold laws_eqInt64S.f
    rw [if_pos (by omega)]
  · have hne : l ≠ m := fun e => h (by rw [e])
    rw [decide_eq_false hne]
    refine Ev.congr (fun k => ?_) (Ev.now _)
    unfold laws_eqInt64S.f
    rw [if_neg (by omega)]
theorem l01In (a b c : Int) : spec_l01In.f a b c = some (decide (b ≤ a) && decide (a ≤ c)) := by
  unfold spec_l01In.f
  by_cases h : a ≥ b
  · rw [if_pos h]; simp [h]
  · rw [if_neg h]; simp [h]
theorem within_ (a b c : Int) : impl_within.f a b c = some (decide (b ≤ a) && decide (a ≤ c)) := by
  unfold impl_within.f
  by_cases h : b ≤ a
  · rw [if_pos h]; simp [h]
  · rw [if_neg h]; simp [h]
def upTo (a : Int) (n : Nat) : List Int := (List.range n).map fun (j : Nat) => a + (j : Int)
theorem mem_upTo {a x : Int} {n : Nat} : x ∈ upTo a n ↔ a ≤ x ∧ x < a + n := by
  simp only [upTo, List.mem_map, List.mem_range]
  constructor
  · rintro ⟨j, hj, rfl⟩; omega
  · intro h; exact ⟨(x - a).toNat, by omega, by omega⟩
theorem upTo_len (a : Int) (n : Nat) : (upTo a n).length = n := by simp [upTo]
theorem upTo_get (a : Int) (n i : Nat) (hi : i < n) : (upTo a n)[i]'(by rw [upTo_len]; exact hi) = a + (i : Int) := by simp [upTo]
theorem upTo_snoc (a : Int) (n : Nat) : upTo a (n + 1) = upTo a n ++ [a + (n : Int)] := by
  unfold upTo
  rw [List.range_succ, List.map_append]
  rfl
theorem markInts_l0 : ∀ (d i : Nat) (ys : List Int), d + i = ys.length → ys.length ≤ 1048576 → ys.take i = upTo 1 i → Ev (fun k => laws_markInt64S.l0 k ys (1 + (i : Int)) (i : Int)) (1 + (ys.length : Int), upTo 1 ys.length) := by
  intro d
  induction d with
  | zero =>
    intro i ys hd hl ht
    obtain rfl : i = ys.length := by omega
    refine Ev.step (fun k => by simp only [laws_markInt64S.l0]; rw [if_neg (by omega)] <;> rfl) ?_
    rw [List.take_length] at ht
    rw [← ht]
    exact Ev.now _
  | succ d ih =>
    intro i ys hd hl ht
    have hi : i < ys.length := by omega
    have := ih (i + 1) (ys.set i (1 + (i : Int))) (by simp; omega) (by simpa using hl) (by
      rw [List.take_succ_eq_append_getElem (by simpa using hi), List.take_set_of_le (Nat.le_refl _), ht, upTo_snoc]
      simp)
    refine Ev.step (fun k => ?_) (by simpa using this)
    simp only [laws_markInt64S.l0]
    rw [if_pos (by omega), if_pos (by omega), w64 (x := 1 + (i : Int) + 1) (by omega) (by omega), w64 (x := (i : Int) + 1) (by omega) (by omega), show 1 + (i : Int) + 1 = 1 + ((i : Int) + 1) by omega]
    rfl
theorem markInts (l : List Int) (hl : l.length ≤ 1048576) : Ev (fun k => laws_markInt64S.f k l 1) (1 + (l.length : Int), upTo 1 l.length) := by
  have := markInts_l0 l.length 0 l (by omega) hl (by simp [upTo])
  unfold laws_markInt64S.f
  simpa using this
theorem heldInts_l0 (n : Nat) (hn : n ≤ 1048576) : ∀ (d i : Nat), d + i = n → Ev (fun k => laws_heldInt64S.l0 k (upTo 1 n) (1 + (i : Int)) (i : Int)) (1 + (n : Int)) := by
  intro d
  induction d with
  | zero =>
    intro i hd
    obtain rfl : i = n := by omega
    exact Ev.step (fun k => by simp only [laws_heldInt64S.l0]; rw [if_neg (by rw [upTo_len]; omega)] <;> rfl) (Ev.now _)
  | succ d ih =>
    intro i hd
    have hi : i < (upTo 1 n).length := by rw [upTo_len]; omega
    have e1 : rd (upTo 1 n) (i : Int) = 1 + (i : Int) := by
      have := upTo_get 1 n i (by omega)
      simp only [rd, Int.toNat_natCast, List.getD_eq_getElem?_getD, List.getElem?_eq_getElem hi, Option.getD_some, this]
    refine Ev.step (fun k => ?_) (ih (i + 1) (by omega))
    simp only [laws_heldInt64S.l0]
    rw [if_pos (by omega), if_pos (by omega), if_pos e1, w64 (x := 1 + (i : Int) + 1) (by omega) (by omega), w64 (x := (i : Int) + 1) (by omega) (by omega), show 1 + (i : Int) + 1 = 1 + ((i : Int) + 1) by omega]
    rfl
theorem heldInts (n : Nat) (hn : n ≤ 1048576) : Ev (fun k => laws_heldInt64S.f k (upTo 1 n) 1) (1 + (n : Int)) := by
  have := heldInts_l0 n hn n 0 (by omega)
  unfold laws_heldInt64S.f
  simpa using this
def prs : List Int := [3, 5, 7, 11, 13, 17, 19, 23, 29, 31, 37, 41, 43, 47, 53, 59, 61]
def pr (l : Int) : Bool := prs.contains l
theorem pr_iff {l : Int} : pr l = true ↔ l ∈ prs := by unfold pr; exact List.contains_iff_mem
theorem pr_bd {l : Int} (h : pr l = true) : 3 ≤ l ∧ l ≤ 61 := by
  rw [pr_iff] at h
  simp only [prs, List.mem_cons, List.not_mem_nil, or_false] at h
  omega
theorem upto61 {P : Int → Prop} (h : ∀ m : Nat, m < 62 → P m) (n : Int) (h0 : 0 ≤ n) (h1 : n ≤ 61) : P n := by
  have := h n.toNat (by omega)
  rwa [Int.toNat_of_nonneg (by omega)] at this
theorem isPrime_big (p : Int) (h0 : 61 < p) (h1 : p ≤ 9223372036854775807) : ∀ (n : Nat) (d : Int), 2 ≤ d → d ≤ p → (p - d).toNat = n → Ev (fun k => impl_isPrime.l0 k p d) false := by
  intro n
  induction n with
  | zero =>
    intro d hd hp hn
    have : d = p := by omega
    subst this
    refine Ev.step (f := fun _ => some false) (fun k => ?_) (Ev.now _)
    simp only [impl_isPrime.l0]
    by_cases c : wrap64 (d * d) ≤ d
    · rw [if_pos c, if_neg (by omega), if_pos (Int.tmod_self)]
    · rw [if_neg c, within_, Option.bind_some]
      simp
      omega
  | succ n ih =>
    intro d hd hp hn
    by_cases c : wrap64 (d * d) ≤ p
    · by_cases c2 : Int.tmod p d = 0
      · refine Ev.step (f := fun _ => some false) (fun k => ?_) (Ev.now _)
        simp only [impl_isPrime.l0]
        rw [if_pos c, if_neg (by omega), if_pos c2]
      · refine Ev.step (fun k => ?_) (ih (d + 1) (by omega) (by omega) (by omega))
        simp only [impl_isPrime.l0]
        rw [if_pos c, if_neg (by omega), if_neg c2, w64 (by omega) (by omega)]
    · refine Ev.step (f := fun _ => some false) (fun k => ?_) (Ev.now _)
      simp only [impl_isPrime.l0]
      rw [if_neg c, within_, Option.bind_some]
      simp
      omega
theorem isPrime (p : Int) (h0 : -9223372036854775808 ≤ p) (h1 : p ≤ 9223372036854775807) : Ev (fun k => impl_isPrime.f k p) (pr p) := by
  by_cases c : 61 < p
  · have e : pr p = false := by
      cases h : pr p with
      | false => rfl
      | true => have := pr_bd h; omega
    rw [e]
    exact isPrime_big p c h1 _ 2 (by omega) (by omega) rfl
  · by_cases c2 : 0 ≤ p
    · have key : ∀ m : Nat, m < 62 → impl_isPrime.f 20 (m : Int) = some (pr m) := by decide +kernel
      exact Ev.of (impl_isPrime.mono p) (upto61 (P := fun p => impl_isPrime.f 20 p = some (pr p)) key p c2 (by omega))
    · have e : pr p = false := by
        cases h : pr p with
        | false => rfl
        | true => have := pr_bd h; omega
      rw [e]
      refine Ev.step (f := fun _ => some false) (fun k => ?_) (Ev.now _)
      simp only [impl_isPrime.f, impl_isPrime.l0]
      rw [if_neg (by rw [w64 (x := 2 * 2) (by omega) (by omega)]; omega), within_, Option.bind_some]
      simp
      omega
def okPE (p e : Int) : Bool := pr p && (decide (1 ≤ e) && decide (e ≤ 12)) && decide ((p - 1) % e = 0)
def pes : List (Int × Int) := prs.flatMap fun p => (upTo 1 12).filterMap fun e => if okPE p e then some (p, e) else none
theorem okPE_mem {p e : Int} (h : okPE p e = true) : (p, e) ∈ pes := by
  have h' := h
  simp only [okPE, Bool.and_eq_true, decide_eq_true_eq] at h'
  refine List.mem_flatMap.mpr ⟨p, pr_iff.mp h'.1.1, List.mem_filterMap.mpr ⟨e, mem_upTo.mpr (by omega), ?_⟩⟩
  rw [if_pos h]
theorem l06Prime (p : Int) : Ev (fun k => spec_l06Prime.f k p) (pr p) := by
  by_cases c : 3 ≤ p ∧ p ≤ 61
  · have key : ∀ m : Nat, m < 62 → spec_l06Prime.f 20 (m : Int) = some (pr m) := by decide +kernel
    exact Ev.of (spec_l06Prime.mono p) (upto61 (P := fun p => spec_l06Prime.f 20 p = some (pr p)) key p (by omega) c.2)
  · have e : pr p = false := by
      cases h : pr p with
      | false => rfl
      | true => have := pr_bd h; omega
    rw [e]
    unfold spec_l06Prime.f
    refine ev_bind_const (l01In _ _ _) ?_
    rw [show (decide (3 ≤ p) && decide (p ≤ 61)) = false by simp; omega]
    exact Ev.now _
theorem l06Code_bad (p e : Int) (ls : List Int) (h : okPE p e = false) : Ev (fun k => spec_l06Code.f k p e ls) 2 := by
  have J : Ev (fun k => spec_l06Code.j0 k e ls true) 2 := Ev.step (fun k => by simp only [spec_l06Code.j0, if_true] <;> rfl) (Ev.now _)
  unfold spec_l06Code.f
  refine Ev.bind (l06Prime p) ?_
  cases hp : pr p with
  | false => simp only [Bool.false_eq_true, if_false]; exact J
  | true =>
    have hb := pr_bd hp
    simp only [if_true]
    refine ev_bind_const (l01In _ _ _) ?_
    cases he : decide (1 ≤ e) && decide (e ≤ 12) with
    | false => simp only [Bool.false_eq_true, if_false]; exact J
    | true =>
      have he' : 1 ≤ e ∧ e ≤ 12 := by simpa using he
      have hm : ¬ (p - 1) % e = 0 := by
        intro hm
        simp [okPE, hp, he, hm] at h
      simp only [if_true, if_neg (show ¬ e = 0 by omega), w64 (x := p - 1) (by omega) (by omega), Int.tmod_eq_emod_of_nonneg (show 0 ≤ p - 1 by omega)]
      rw [bne_iff_ne.mpr hm]
      exact J
theorem periodsOf_bad (p e : Int) (h0 : -9223372036854775808 ≤ p) (h1 : p ≤ 9223372036854775807) (h : okPE p e = false) : Ev (fun k => impl_periodsOf.f k p e) (0, 0, 0, [], false) := by
  have J : Ev (fun k => impl_periodsOf.j0 k p e true) (0, 0, 0, [], false) := Ev.step (fun k => by simp only [impl_periodsOf.j0, if_true] <;> rfl) (Ev.now _)
  unfold impl_periodsOf.f
  refine Ev.bind (isPrime p h0 h1) ?_
  cases hp : pr p with
  | false => simp only [Bool.false_eq_true, if_false]; exact J
  | true =>
    have hb := pr_bd hp
    simp only [if_true]
    refine ev_bind_const (within_ _ _ _) ?_
    cases he : decide (1 ≤ e) && decide (e ≤ 12) with
    | false => simp only [Bool.false_eq_true, if_false]; exact J
    | true =>
      have he' : 1 ≤ e ∧ e ≤ 12 := by simpa using he
      have hm : ¬ (p - 1) % e = 0 := by
        intro hm
        simp [okPE, hp, he, hm] at h
      simp only [if_true, if_neg (show ¬ e = 0 by omega), w64 (x := p - 1) (by omega) (by omega), Int.tmod_eq_emod_of_nonneg (show 0 ≤ p - 1 by omega)]
      rw [bne_iff_ne.mpr hm]
      exact J
theorem sp_l1 (p : Int) (hp : 3 ≤ p ∧ p ≤ 61) (ind : List Int) (hi : (ind.length : Int) = p) (r : List Int) (x : Int) (hx : 1 ≤ x ∧ x < p) : ∀ (d : Nat) (y c : Int), y + d = p → 1 ≤ y → 0 ≤ c → c + d ≤ 100000 → Ev (fun k => spec_l06Differences.l0 k p 1 ind [c + d - (if y ≤ x then 1 else 0)] (x + 1)) r → Ev (fun k => spec_l06Differences.l1 k p 1 ind [c] x y) r := by
  intro d
  induction d with
  | zero =>
    intro y c h1 h2 h3 h4 H
    refine Ev.step (fun k => by simp only [spec_l06Differences.l1]; rw [if_neg (by omega), w64 (x := x + 1) (by omega) (by omega)]) ?_
    rw [if_neg (by omega)] at H
    simpa using H
  | succ d ih =>
    intro y c h1 h2 h3 h4 H
    have hlt : y < p := by omega
    by_cases e : x = y
    · refine Ev.step (fun k => by simp only [spec_l06Differences.l1]; rw [if_pos hlt, if_pos e, w64 (x := y + 1) (by omega) (by omega)]) ?_
      refine ih (y + 1) c (by omega) (by omega) h3 (by omega) ?_
      rw [if_neg (by omega)]
      rw [if_pos (by omega)] at H
      rw [show c + (d : Int) - 0 = c + ((d + 1 : Nat) : Int) - 1 by omega]
      exact H
    · obtain ⟨m, hm⟩ : ∃ m, m = Int.tmod (wrap64 (wrap64 (x - y) + p)) p := ⟨_, rfl⟩
      have hm2 : 0 ≤ m ∧ m < p := by
        rw [hm, w64 (x := x - y) (by omega) (by omega), w64 (x := x - y + p) (by omega) (by omega), Int.tmod_eq_emod_of_nonneg (by omega)]
        exact ⟨Int.emod_nonneg _ (by omega), Int.emod_lt_of_pos _ (by omega)⟩
      refine Ev.step (f := fun k => spec_l06Differences.l1 k p 1 ind [c + 1] x (y + 1)) (fun k => ?_) ?_
      · simp only [spec_l06Differences.l1, Int.tmod_one, ← hm]
        rw [if_pos hlt, if_neg e, if_pos (by omega), if_pos (by omega), if_neg (by decide), if_pos trivial, if_pos (by omega), if_pos (by omega), if_pos trivial, if_neg (by omega), if_pos hm2.1, if_pos (by omega), if_pos (by decide), if_pos (by simp)]
        rw [w64 (x := y + 1) (by omega) (by omega)]
        simp only [rd, Int.toNat_zero, List.getD_cons_zero, List.set_cons_zero]
        rw [w64 (x := c + 1) (by omega) (by omega)]
      · refine ih (y + 1) (c + 1) (by omega) (by omega) (by omega) (by omega) ?_
        by_cases hc : y ≤ x
        · rw [if_pos (by omega)]
          rw [if_pos hc] at H
          rw [show c + 1 + (d : Int) - 1 = c + ((d + 1 : Nat) : Int) - 1 by omega]
          exact H
        · rw [if_neg (by omega)]
          rw [if_neg hc] at H
          rw [show c + 1 + (d : Int) - 0 = c + ((d + 1 : Nat) : Int) - 0 by omega]
          exact H
theorem sp_l0 (p : Int) (hp : 3 ≤ p ∧ p ≤ 61) (ind : List Int) (hi : (ind.length : Int) = p) (r : List Int) : ∀ (d : Nat) (x c : Int), x + d = p → 1 ≤ x → 0 ≤ c → c + d * (p - 2) ≤ 4000 → Ev (fun k => spec_l06Differences.l2 k p 1 [c + d * (p - 2)] 0) r → Ev (fun k => spec_l06Differences.l0 k p 1 ind [c] x) r := by
  intro d
  induction d with
  | zero =>
    intro x c h1 h2 h3 h4 H
    refine Ev.step (fun k => by simp only [spec_l06Differences.l0]; rw [if_neg (by omega)] <;> rfl) ?_
    simpa using H
  | succ d ih =>
    intro x c h1 h2 h3 h4 H
    have e : ((d + 1 : Nat) : Int) * (p - 2) = (d : Int) * (p - 2) + (p - 2) := by rw [Int.natCast_succ, Int.add_mul, Int.one_mul]
    have hd : 0 ≤ (d : Int) * (p - 2) := Int.mul_nonneg (by omega) (by omega)
    refine Ev.step (fun k => by simp only [spec_l06Differences.l0]; rw [if_pos (by omega)] <;> rfl) ?_
    refine sp_l1 p hp ind hi r x (by omega) (p - 1).toNat 1 c (by omega) (by omega) h3 (by omega) ?_
    rw [if_pos (by omega)]
    refine ih (x + 1) _ (by omega) (by omega) (by omega) (by omega) ?_
    rw [show c + ((p - 1).toNat : Int) - 1 + (d : Int) * (p - 2) = c + ((d + 1 : Nat) : Int) * (p - 2) by omega]
    exact H
theorem im_l1 (p : Int) (hp : 3 ≤ p ∧ p ≤ 61) (own cl : List Int) (ho : (own.length : Int) = p - 1) (hj : ∀ j : Int, 0 ≤ j → j < p - 1 → rd own j = j + 1) (hi : (cl.length : Int) = p) (hz : ∀ j : Int, 1 ≤ j → j < p → rd cl j = 0) (r : List Int × Int × Int × Int) (x : Int) (hx : 0 ≤ x ∧ x < p - 1) : ∀ (d : Nat) (y c : Int), y + d = p - 1 → 0 ≤ y → 0 ≤ c → c + d ≤ 100000 → Ev (fun k => impl_periods_differences.l0 k [c + d - (if y ≤ x then 1 else 0)] own (p - 1) (x + 1) p 1 (p - 1) cl) r → Ev (fun k => impl_periods_differences.l1 k [c] own (x + 1) (p - 1) x (p - 1) y p 1 (p - 1) cl) r := by
  intro d
  induction d with
  | zero =>
    intro y c h1 h2 h3 h4 H
    refine Ev.step (fun k => by simp only [impl_periods_differences.l1]; rw [if_neg (by omega), w64 (x := x + 1) (by omega) (by omega)]) ?_
    rw [if_neg (by omega)] at H
    simpa using H
  | succ d ih =>
    intro y c h1 h2 h3 h4 H
    have hlt : y < p - 1 := by omega
    have ey := hj y h2 hlt
    by_cases e : x = y
    · refine Ev.step (fun k => by simp only [impl_periods_differences.l1]; rw [if_pos hlt, if_pos h2, if_pos (by omega), ey, if_pos (by omega), w64 (x := y + 1) (by omega) (by omega)]) ?_
      refine ih (y + 1) c (by omega) (by omega) h3 (by omega) ?_
      rw [if_neg (by omega)]
      rw [if_pos (by omega)] at H
      rw [show c + (d : Int) - 0 = c + ((d + 1 : Nat) : Int) - 1 by omega]
      exact H
    · obtain ⟨m, hm, hm2⟩ : ∃ m, impl_around.f (wrap64 (x + 1 - (y + 1))) p = some m ∧ (1 ≤ m ∧ m < p) := by
        unfold impl_around.f
        rw [w64 (x := x + 1 - (y + 1)) (by omega) (by omega), if_neg (by omega), show x + 1 - (y + 1) = x - y by omega]
        by_cases hc : y ≤ x
        · have i1 : Int.tmod (x - y) p = x - y := Int.tmod_eq_of_lt (by omega) (by omega)
          have i2 : Int.tmod (x - y + p) p = x - y := by rw [Int.tmod_eq_emod_of_nonneg (by omega), Int.add_emod_right, Int.emod_eq_of_lt (by omega) (by omega)]
          rw [i1, w64 (x := x - y + p) (by omega) (by omega), i2]
          exact ⟨x - y, rfl, by omega, by omega⟩
        · have i1 : Int.tmod (x - y) p = x - y := by
            rw [show x - y = -(y - x) by omega, Int.neg_tmod, Int.tmod_eq_of_lt (by omega) (by omega)]
          have i2 : Int.tmod (x - y + p) p = x - y + p := Int.tmod_eq_of_lt (by omega) (by omega)
          rw [i1, w64 (x := x - y + p) (by omega) (by omega), i2]
          exact ⟨x - y + p, rfl, by omega, by omega⟩
      have hz' := hz m hm2.1 hm2.2
      refine Ev.step (f := fun k => impl_periods_differences.l1 k [c + 1] own (x + 1) (p - 1) x (p - 1) (y + 1) p 1 (p - 1) cl) (fun k => ?_) ?_
      · simp only [impl_periods_differences.l1]
        rw [if_pos hlt, if_pos h2, if_pos (by omega), ey, if_neg (by omega), hm, Option.bind_some, if_pos (by omega), if_pos (by omega), hz', if_pos (by decide), if_pos (by simp)]
        rw [w64 (x := y + 1) (by omega) (by omega)]
        simp only [rd, Int.toNat_zero, List.getD_cons_zero, List.set_cons_zero]
        rw [w64 (x := c + 1) (by omega) (by omega)]
      · refine ih (y + 1) (c + 1) (by omega) (by omega) (by omega) (by omega) ?_
        by_cases hc : y ≤ x
        · rw [if_pos (by omega)]
          rw [if_pos hc] at H
          rw [show c + 1 + (d : Int) - 1 = c + ((d + 1 : Nat) : Int) - 1 by omega]
          exact H
        · rw [if_neg (by omega)]
          rw [if_neg hc] at H
          rw [show c + 1 + (d : Int) - 0 = c + ((d + 1 : Nat) : Int) - 0 by omega]
          exact H
theorem im_l0 (p : Int) (hp : 3 ≤ p ∧ p ≤ 61) (own cl : List Int) (ho : (own.length : Int) = p - 1) (hj : ∀ j : Int, 0 ≤ j → j < p - 1 → rd own j = j + 1) (hi : (cl.length : Int) = p) (hz : ∀ j : Int, 1 ≤ j → j < p → rd cl j = 0) (r : List Int × Int × Int × Int) : ∀ (d : Nat) (x c : Int), x + d = p - 1 → 0 ≤ x → 0 ≤ c → c + d * (p - 2) ≤ 4000 → Ev (fun k => impl_periods_differences.l2 k [c + d * (p - 2)] 1 0 p 1 (p - 1) cl) r → Ev (fun k => impl_periods_differences.l0 k [c] own (p - 1) x p 1 (p - 1) cl) r := by
  intro d
  induction d with
  | zero =>
    intro x c h1 h2 h3 h4 H
    refine Ev.step (fun k => by simp only [impl_periods_differences.l0]; rw [if_neg (by omega)] <;> rfl) ?_
    simpa using H
  | succ d ih =>
    intro x c h1 h2 h3 h4 H
    have e : ((d + 1 : Nat) : Int) * (p - 2) = (d : Int) * (p - 2) + (p - 2) := by rw [Int.natCast_succ, Int.add_mul, Int.one_mul]
    have hd : 0 ≤ (d : Int) * (p - 2) := Int.mul_nonneg (by omega) (by omega)
    refine Ev.step (fun k => by simp only [impl_periods_differences.l0]; rw [if_pos (by omega), if_pos h2, if_pos (by omega), hj x h2 (by omega), ho] <;> rfl) ?_
    refine im_l1 p hp own cl ho hj hi hz r x (by omega) (p - 1).toNat 0 c (by omega) (by omega) h3 (by omega) ?_
    rw [if_pos (by omega)]
    refine ih (x + 1) _ (by omega) (by omega) (by omega) (by omega) ?_
    rw [show c + ((p - 1).toNat : Int) - 1 + (d : Int) * (p - 2) = c + ((d + 1 : Nat) : Int) * (p - 2) by omega]
    exact H
def facts1 (p : Int) : Bool :=
  match spec_l06Indices.f 400 p, impl_periodsOf.f 400 p 1 with
  | some ind, some (a, b, f, cl, ok) =>
    match impl_periods_members.f 400 p 1 (p - 1) cl 0 with
    | some (own, a', b', f') => decide ((ind.length : Int) = p) && decide (a = p ∧ b = 1 ∧ f = p - 1) && ok && decide ((cl.length : Int) = p) && (upTo 1 (p - 1).toNat).all (fun j => decide (rd cl j = 0)) && decide ((own.length : Int) = p - 1) && (upTo 0 (p - 1).toNat).all (fun j => decide (rd own j = j + 1)) && decide (a' = p ∧ b' = 1 ∧ f' = p - 1)
    | none => false
  | _, _ => false
theorem facts1_ok : ∀ p ∈ prs, facts1 p = true := by decide +kernel
theorem code1_ok : ∀ p ∈ prs, spec_l06Code.f 400 p 1 [] = some 0 := by decide +kernel
theorem l2_end (p : Int) (hp : 3 ≤ p ∧ p ≤ 61) : Int.tdiv (0 + ((p - 1).toNat : Int) * (p - 2)) (p - 1) = p - 2 := by
  rw [show ((p - 1).toNat : Int) = p - 1 by omega, Int.zero_add, Int.mul_tdiv_cancel_left _ (by omega)]
theorem both1 (p : Int) (hm : p ∈ prs) : Ev (fun k => spec_DifferenceNumbers.f k p 1) ([p - 2], 0) ∧ Ev (fun k => impl_DifferenceNumbers.f k p 1) ([p - 2], 0) := by
  have hp := pr_bd (pr_iff.mpr hm)
  have F := facts1_ok p hm
  unfold facts1 at F
  have mlt : (((p - 1).toNat : Int)) * (p - 2) ≤ 4000 := by
    have : ((p - 1).toNat : Int) * (p - 2) ≤ 60 * 59 := Int.mul_le_mul (by omega) (by omega) (by omega) (by omega)
    omega
  split at F
  · rename_i ind a b f cl ok e1 e2
    split at F
    · rename_i own a' b' f' e3
      simp only [Bool.and_eq_true, decide_eq_true_eq, List.all_eq_true] at F
      obtain ⟨⟨⟨⟨⟨⟨⟨F1, ea, eb, ef⟩, rfl⟩, F2⟩, F3⟩, F4⟩, F5⟩, ea', eb', ef'⟩ := F
      replace ea := ea.symm
      replace eb := eb.symm
      replace ef := ef.symm
      replace ea' := ea'.symm
      replace eb' := eb'.symm
      replace ef' := ef'.symm
      subst ea eb ef ea' eb' ef'
      refine ⟨?_, ?_⟩
      · unfold spec_DifferenceNumbers.f
        refine Ev.bind (Ev.of (spec_l06Code.mono _ _ _) (code1_ok _ hm)) ?_
        simp only [if_true]
        refine Ev.bind (a := [p - 2]) ?_ (Ev.now _)
        unfold spec_l06Differences.f
        refine Ev.bind (Ev.of (spec_l06Indices.mono _) e1) ?_
        simp only [if_pos (show (0 : Int) ≤ 1 by decide), if_pos (show (1 : Int).toNat ≤ 35184372088832 by decide)]
        refine sp_l0 p hp ind F1 _ (p - 1).toNat 1 0 (by omega) (by omega) (by omega) (by omega) ?_
        have hq := l2_end p hp
        have hs := Int.mul_nonneg (show 0 ≤ ((p - 1).toNat : Int) by omega) (show 0 ≤ p - 2 by omega)
        refine Ev.step (f := fun k => spec_l06Differences.l2 k p 1 [p - 2] 1) (fun k => ?_) (Ev.step (fun k => by simp only [spec_l06Differences.l2]; rw [if_neg (by decide)] <;> rfl) (Ev.now _))
        simp only [spec_l06Differences.l2, Int.tdiv_one]
        rw [if_pos (by decide), if_pos (by decide), if_pos (by simp), if_neg (by decide), w64 (x := p - 1) (by omega) (by omega), w64 (x := p - 1) (by omega) (by omega), if_neg (by omega)]
        simp only [rd, Int.toNat_zero, List.getD_cons_zero, List.set_cons_zero, hq]
        rw [w64 (x := p - 2) (by omega) (by omega), w64 (x := 0 + 1) (by decide) (by decide)]
        rfl
      · unfold impl_DifferenceNumbers.f
        refine Ev.bind (Ev.of (impl_periodsOf.mono _ _) e2) ?_
        simp only [if_true]
        refine Ev.bind (a := ([p - 2], p, 1, p - 1)) ?_ (Ev.now _)
        unfold impl_periods_differences.f
        simp only [if_pos (show (0 : Int) ≤ 1 by decide), if_pos (show (1 : Int).toNat ≤ 35184372088832 by decide)]
        refine Ev.bind (Ev.of (impl_periods_members.mono _ _ _ _ _) e3) ?_
        simp only [F4]
        refine im_l0 p hp own cl F4 (fun j h0 h1 => F5 j (mem_upTo.mpr (by omega))) F2 (fun j h0 h1 => F3 j (mem_upTo.mpr (by omega))) _ (p - 1).toNat 0 0 (by omega) (by omega) (by omega) (by omega) ?_
        have hq := l2_end p hp
        refine Ev.step (f := fun k => impl_periods_differences.l2 k [p - 2] 1 1 p 1 (p - 1) cl) (fun k => ?_) (Ev.step (fun k => by simp only [impl_periods_differences.l2]; rw [if_neg (by decide)] <;> rfl) (Ev.now _))
        simp only [impl_periods_differences.l2]
        rw [if_pos (by decide), if_pos (by decide), if_pos (by simp), if_neg (by omega)]
        simp only [rd, Int.toNat_zero, List.getD_cons_zero, List.set_cons_zero, hq]
        rw [w64 (x := p - 2) (by omega) (by omega), w64 (x := 0 + 1) (by decide) (by decide)]
        rfl
    · cases F
  · cases F
theorem diff_law (p e : Int) (o : List Int) (cd : Int) (hs : Ev (fun k => spec_DifferenceNumbers.f k p e) (o, cd)) (hi : Ev (fun k => impl_DifferenceNumbers.f k p e) (o, cd)) (ho : o.length ≤ 1000) : Ev (fun k => laws_FnExactDifferenceNumbers.f k p e) true := by
  have eq0 := eqInts o o (by omega)
  have mk0 := markInts o (by omega)
  have hl0 := heldInts o.length (by omega)
  unfold laws_FnExactDifferenceNumbers.f
  refine Ev.bind hs (Ev.bind hi (Ev.bind eq0 ?_))
  simp only [decide_true, if_true, bne_self_eq_false]
  refine Ev.step (fun k => by simp only [laws_FnExactDifferenceNumbers.j0, Bool.false_eq_true, if_false] <;> rfl) ?_
  refine Ev.bind mk0 (Ev.bind hl0 ?_)
  simp only [if_neg (show ¬ (1 : Int) + (o.length : Int) < 0 by omega), if_true]
  refine Ev.bind hi (Ev.bind eq0 ?_)
  simp only [decide_true, if_true, bne_self_eq_false]
  refine Ev.step (fun k => by simp only [laws_FnExactDifferenceNumbers.j1, Bool.false_eq_true, if_false] <;> rfl) ?_
  refine Ev.bind hl0 ?_
  simp only [if_neg (show ¬ (1 : Int) + (o.length : Int) < 0 by omega), if_true]
  exact Ev.now _
theorem diff_good : ∀ q ∈ pes.filter (fun q => decide (q.2 ≠ 1)), laws_FnExactDifferenceNumbers.f 9000 q.1 q.2 = some true := by decide +kernel
theorem FnExactDifferenceNumbers : laws_FnExactDifferenceNumbers.Pure := by
  intro p e hp he
  apply Ev.rounds
  cases h : okPE p e with
  | true =>
    have hm := okPE_mem h
    by_cases e1 : e = 1
    · subst e1
      have hpr : pr p = true := by
        simp only [okPE, Bool.and_eq_true] at h
        exact h.1.1
      obtain ⟨h1, h2⟩ := both1 p (pr_iff.mp hpr)
      exact diff_law p 1 _ _ h1 h2 (by simp)
    · exact Ev.of (laws_FnExactDifferenceNumbers.mono _ _) (diff_good (p, e) (List.mem_filter.mpr ⟨hm, by simpa using e1⟩))
  | false =>
    have hb := wf64 hp
    have hs : Ev (fun k => spec_DifferenceNumbers.f k p e) (([] : List Int), 2) := by
      unfold spec_DifferenceNumbers.f
      refine Ev.bind (l06Code_bad p e [] h) ?_
      simp only [show ¬ (2 : Int) = 0 by decide, if_false]
      exact Ev.now _
    have hi : Ev (fun k => impl_DifferenceNumbers.f k p e) (([] : List Int), 2) := by
      unfold impl_DifferenceNumbers.f
      refine Ev.bind (periodsOf_bad p e hb.1 hb.2 h) ?_
      simp only [Bool.false_eq_true, if_false]
      exact Ev.now _
    exact diff_law p e _ _ hs hi (by simp)
end Go.Proofs.Ytpglfdgaccjfoaa.Pure
