/- The program's JacobiRow returns what the reference's returns, for all arguments; no condition. -/
import Derived.Test.YthdpdiahkphklabPFnExactJacobiRowx13
import Derived.OpenShut
namespace Go.Proofs.Ythdpdiahkphklab.Pure
open Go.RowKit Go.Proofs.Ythdpdiahkphklab.PFnExactJacobiRow Go.Proofs.YthdpdiahkphklabW.PrintWords Go.Proofs.YthdpdiahkphklabW.PrintLast Go.Proofs.YthdpdiahkphklabW.PrintMore
set_option linter.unusedVariables false
set_option linter.unusedSimpArgs false
theorem w64 {x : Int} (h0 : -9223372036854775808 ≤ x) (h1 : x ≤ 9223372036854775807) : wrap64 x = x := by unfold wrap64; omega
theorem wf64 {x : Int} (h : (Lit.int .i64 x).wf = true) : -9223372036854775808 ≤ x ∧ x ≤ 9223372036854775807 := bounds_i64 h
theorem ev_bind_const {α β : Type} {o : Option α} {a : α} {f : Nat → α → Option β} {r : β} (h : o = some a) (k : Ev (fun n => f n a) r) : Ev (fun n => o.bind (f n)) r := by
  subst h; exact k
theorem eqInts_l0 (l m : List Int) (hl : l.length ≤ 1048576) (hm : m.length = l.length) : ∀ (d i : Nat), d + i = l.length → Ev (fun k => laws_eqInt64S.l0 k l m (i : Int)) (decide (l.drop i = m.drop i)) := by
  intro d
  induction d with
  | zero =>
    intro i hd
    refine Ev.step (f := fun _ => some (decide (l.drop i = m.drop i))) (fun k => ?_) (Ev.now _)
    simp only [laws_eqInt64S.l0]
    rw [if_neg (by omega), List.drop_of_length_le (by omega), List.drop_of_length_le (by omega)]
    simp
  | succ d ih =>
    intro i hd
    have hi : i < l.length := by omega
    have hi2 : i < m.length := by omega
    have e1 : rd l (i : Int) = l[i] := by simp [rd, hi]
    have e2 : rd m (i : Int) = m[i] := by simp [rd, hi2]
    by_cases he : l[i] = m[i]
    · refine Ev.step (f := fun k => laws_eqInt64S.l0 k l m ((i + 1 : Nat) : Int)) (fun k => ?_) ?_
      · simp only [laws_eqInt64S.l0]
        rw [if_pos (by omega), if_pos (by omega), if_pos (by omega), e1, e2, if_pos he, w64 (by omega) (by omega)]
        rfl
      · have e : decide (l.drop i = m.drop i) = decide (l.drop (i + 1) = m.drop (i + 1)) := by
          rw [List.drop_eq_getElem_cons hi, List.drop_eq_getElem_cons hi2]
          simp only [List.cons.injEq, he, true_and]
        rw [e]
        exact ih (i + 1) (by omega)
    · refine Ev.step (f := fun _ => some false) (fun k => ?_) ?_
      · simp only [laws_eqInt64S.l0]
        rw [if_pos (by omega), if_pos (by omega), if_pos (by omega), e1, e2, if_neg he]
      · have e : decide (l.drop i = m.drop i) = false := by
          rw [List.drop_eq_getElem_cons hi, List.drop_eq_getElem_cons hi2]
          simp only [List.cons.injEq, he, false_and, decide_false]
        rw [e]
        exact Ev.now _
theorem eqInts (l m : List Int) (hl : l.length ≤ 1048576) : Ev (fun k => laws_eqInt64S.f k l m) (decide (l = m)) := by
  by_cases h : m.length = l.length
  · have := eqInts_l0 l m hl h l.length 0 (by omega)
    refine Ev.congr (fun k => ?_) (by simpa using this)
    unfold laws_eqInt64S.f
    rw [if_pos (by omega)]
  · have hne : l ≠ m := fun e => h (by rw [e])
    rw [decide_eq_false hne]
    refine Ev.congr (fun k => ?_) (Ev.now _)
    unfold laws_eqInt64S.f
    rw [if_neg (by omega)]
theorem eqCyclo (n n' : Int) (l l' : List Int) (hl : l.length ≤ 1048576) : Ev (fun k => laws_eqCyclo.f k n l n' l') (decide (n = n' ∧ l = l')) := by
  unfold laws_eqCyclo.f
  by_cases h : n = n'
  · simp only [if_pos h]
    refine Ev.bind (eqInts l l' hl) ?_
    by_cases h2 : l = l' <;> simp [h, h2] <;> exact Ev.now _
  · simp only [if_neg h]
    simp [h]
    exact Ev.now _
def phi (n : Int) : Int := [0, 1, 1, 2, 2, 4, 2, 6, 4, 6, 4, 10, 4, 12, 6, 8, 8].getD n.toNat 0
theorem orders {P : Int → Prop} (h : ∀ m : Nat, m < 17 → 1 ≤ m → P m) (n : Int) (h0 : 1 ≤ n) (h1 : n ≤ 16) : P n := by
  have := h n.toNat (by omega) (by omega)
  rwa [Int.toNat_of_nonneg (by omega)] at this
theorem phi_spec (n : Int) (h0 : 1 ≤ n) (h1 : n ≤ 16) : Ev (fun k => spec_l01Phi.f k n) (phi n) := by
  have key : ∀ m : Nat, m < 17 → 1 ≤ m → spec_l01Phi.f 60 (m : Int) = some (phi m) := by decide +kernel
  exact Ev.of (spec_l01Phi.mono n) (orders (P := fun n => spec_l01Phi.f 60 n = some (phi n)) key n h0 h1)
theorem l01In (a b c : Int) : spec_l01In.f a b c = some (decide (b ≤ a) && decide (a ≤ c)) := by
  unfold spec_l01In.f
  by_cases h : a ≥ b
  · rw [if_pos h]; simp [h]
  · rw [if_neg h]; simp [h]
theorem within_ (a b c : Int) : impl_within.f a b c = some (decide (b ≤ a) && decide (a ≤ c)) := by
  unfold impl_within.f
  by_cases h : b ≤ a
  · rw [if_pos h]; simp [h]
  · rw [if_neg h]; simp [h]
def prs : List Int := [3, 5, 7, 11, 13, 17, 19, 23, 29, 31, 37, 41, 43, 47, 53, 59, 61]
def pr (l : Int) : Bool := prs.contains l
theorem pr_iff {l : Int} : pr l = true ↔ l ∈ prs := by unfold pr; exact List.contains_iff_mem
theorem pr_bd {l : Int} (h : pr l = true) : 3 ≤ l ∧ l ≤ 61 := by
  rw [pr_iff] at h
  simp only [prs, List.mem_cons, List.not_mem_nil, or_false] at h
  omega
theorem upto61 {P : Int → Prop} (h : ∀ m : Nat, m < 62 → P m) (n : Int) (h0 : 0 ≤ n) (h1 : n ≤ 61) : P n := by
  have := h n.toNat (by omega)
  rwa [Int.toNat_of_nonneg (by omega)] at this
theorem isPrime_big (p : Int) (h0 : 61 < p) (h1 : p ≤ 9223372036854775807) : ∀ (n : Nat) (d : Int), 2 ≤ d → d ≤ p → (p - d).toNat = n → Ev (fun k => impl_isPrime.l0 k p d) false := by
  intro n
  induction n with
  | zero =>
    intro d hd hp hn
    have : d = p := by omega
    subst this
    refine Ev.step (f := fun _ => some false) (fun k => ?_) (Ev.now _)
    simp only [impl_isPrime.l0]
    by_cases c : wrap64 (d * d) ≤ d
    · rw [if_pos c, if_neg (by omega), if_pos (Int.tmod_self)]
    · rw [if_neg c, within_, Option.bind_some]
      simp
      omega
  | succ n ih =>
    intro d hd hp hn
    by_cases c : wrap64 (d * d) ≤ p
    · by_cases c2 : Int.tmod p d = 0
      · refine Ev.step (f := fun _ => some false) (fun k => ?_) (Ev.now _)
        simp only [impl_isPrime.l0]
        rw [if_pos c, if_neg (by omega), if_pos c2]
      · refine Ev.step (fun k => ?_) (ih (d + 1) (by omega) (by omega) (by omega))
        simp only [impl_isPrime.l0]
        rw [if_pos c, if_neg (by omega), if_neg c2, w64 (by omega) (by omega)]
    · refine Ev.step (f := fun _ => some false) (fun k => ?_) (Ev.now _)
      simp only [impl_isPrime.l0]
      rw [if_neg c, within_, Option.bind_some]
      simp
      omega
theorem isPrime (p : Int) (h0 : -9223372036854775808 ≤ p) (h1 : p ≤ 9223372036854775807) : Ev (fun k => impl_isPrime.f k p) (pr p) := by
  by_cases c : 61 < p
  · have e : pr p = false := by
      cases h : pr p with
      | false => rfl
      | true => have := pr_bd h; omega
    rw [e]
    exact isPrime_big p c h1 _ 2 (by omega) (by omega) rfl
  · by_cases c2 : 0 ≤ p
    · have key : ∀ m : Nat, m < 62 → impl_isPrime.f 20 (m : Int) = some (pr m) := by decide +kernel
      exact Ev.of (impl_isPrime.mono p) (upto61 (P := fun p => impl_isPrime.f 20 p = some (pr p)) key p c2 (by omega))
    · have e : pr p = false := by
        cases h : pr p with
        | false => rfl
        | true => have := pr_bd h; omega
      rw [e]
      refine Ev.step (f := fun _ => some false) (fun k => ?_) (Ev.now _)
      simp only [impl_isPrime.f, impl_isPrime.l0]
      rw [if_neg (by rw [w64 (x := 2 * 2) (by omega) (by omega)]; omega), within_, Option.bind_some]
      simp
      omega
theorem l03Prime (p : Int) : Ev (fun k => spec_l03Prime.f k p) (pr p) := by
  by_cases c : 3 ≤ p ∧ p ≤ 61
  · have key : ∀ m : Nat, m < 62 → spec_l03Prime.f 20 (m : Int) = some (pr m) := by decide +kernel
    exact Ev.of (spec_l03Prime.mono p) (upto61 (P := fun p => spec_l03Prime.f 20 p = some (pr p)) key p (by omega) c.2)
  · have e : pr p = false := by
      cases h : pr p with
      | false => rfl
      | true => have := pr_bd h; omega
    rw [e]
    unfold spec_l03Prime.f
    refine ev_bind_const (l01In _ _ _) ?_
    rw [show (decide (3 ≤ p) && decide (p ≤ 61)) = false by simp; omega]
    exact Ev.now _
def cyc (n : Int) : List Int := [[], [-1, 1], [1, 1], [1, 1, 1], [1, 0, 1], [1, 1, 1, 1, 1], [1, -1, 1], [1, 1, 1, 1, 1, 1, 1], [1, 0, 0, 0, 1], [1, 0, 0, 1, 0, 0, 1], [1, -1, 1, -1, 1], [1, 1, 1, 1, 1, 1, 1, 1, 1, 1, 1], [1, 0, -1, 0, 1], [1, 1, 1, 1, 1, 1, 1, 1, 1, 1, 1, 1, 1], [1, -1, 1, -1, 1, -1, 1], [1, -1, 0, 1, -1, 1, 0, -1, 1], [1, 0, 0, 0, 0, 0, 0, 0, 1]].getD n.toNat []
theorem cyc_spec (n : Int) (h0 : 1 ≤ n) (h1 : n ≤ 16) : Ev (fun k => spec_l01Cyclotomic.f k n) (cyc n) := by
  have key : ∀ m : Nat, m < 17 → 1 ≤ m → spec_l01Cyclotomic.f 400 (m : Int) = some (cyc m) := by decide +kernel
  exact Ev.of (spec_l01Cyclotomic.mono n) (orders (P := fun n => spec_l01Cyclotomic.f 400 n = some (cyc n)) key n h0 h1)
def hv (cs : List Int) (r q : Int) : Int := cs.foldr (fun c out => (out * r + c) % q) 0
theorem tmod_emod (c q : Int) (hq : 0 < q) : (Int.tmod c q) % q = c % q := by
  rw [Int.tmod_eq_emod]
  split <;> simp
  rw [Int.sub_emod]
  simp [Int.natAbs_of_nonneg (Int.le_of_lt hq)]
theorem around (a m : Int) (hm : 0 < m) (hm2 : m ≤ 1000000000000) : impl_around.f a m = some (a % m) := by
  unfold impl_around.f
  have h1 := Int.tmod_lt_of_pos a hm
  have h2 := Int.lt_tmod_of_pos a hm
  rw [if_neg (by omega), w64 (by omega) (by omega), Int.tmod_eq_emod_of_nonneg (by omega), Int.add_emod_right, tmod_emod _ _ hm]
theorem w_mod (x : Int) : wrap64 x % 18446744073709551616 = x % 18446744073709551616 := by unfold wrap64; omega
def inW (x : Int) : Prop := -9223372036854775808 ≤ x ∧ x ≤ 9223372036854775807
theorem w_in (x : Int) : inW (wrap64 x) := by unfold inW wrap64; omega
theorem in_eq {a b : Int} (ha : inW a) (hb : inW b) (h : a % 18446744073709551616 = b % 18446744073709551616) : a = b := by unfold inW at ha hb; omega
theorem in_w {a : Int} (ha : inW a) : wrap64 a = a := w64 ha.1 ha.2
def dot : List Int → List Int → Int
  | x :: xs, y :: ys => x * y + dot xs ys
  | _, _ => 0
theorem dot_nil (xs : List Int) : dot xs [] = 0 := by cases xs <;> rfl
theorem dot_set : ∀ (xs ys : List Int) (e : Nat) (v : Int), e < xs.length → dot (xs.set e v) ys = dot xs ys + (v - xs.getD e 0) * ys.getD e 0
  | [], _, e, v, h => by simp at h
  | x :: xs, [], e, v, _ => by rw [dot_nil, dot_nil]; simp
  | x :: xs, y :: ys, 0, v, _ => by
    simp only [List.set_cons_zero, dot, List.getD_cons_zero, Int.sub_mul]
    omega
  | x :: xs, y :: ys, e + 1, v, h => by
    simp only [List.set_cons_succ, dot, List.getD_cons_succ]
    rw [dot_set xs ys e v (by simpa using h)]
    omega
theorem gE {α : Type} (l : List α) (d : α) {i : Nat} (h : i < l.length) : l.getD i d = l[i] := by rw [List.getD_eq_getElem?_getD, List.getElem?_eq_getElem h, Option.getD_some]
def axpy (x : Int) (out row : List Int) : List Int := List.zipWith (fun o r => wrap64 (o + wrap64 (x * r))) out row
theorem axpy_len (x : Int) (out row : List Int) (h : row.length = out.length) : (axpy x out row).length = out.length := by simp [axpy, h]
theorem axpy_get (x : Int) (out row : List Int) (h : row.length = out.length) (m : Nat) (hm : m < out.length) : (axpy x out row).getD m 0 = wrap64 (out.getD m 0 + wrap64 (x * row.getD m 0)) := by
  have h2 : m < (axpy x out row).length := by rw [axpy_len x out row h]; exact hm
  rw [gE _ _ h2, gE _ _ hm, gE _ _ (show m < row.length by omega)]
  simp [axpy]
theorem axpy_in (x : Int) (out row : List Int) : ∀ o ∈ axpy x out row, inW o := by
  intro o ho
  simp only [axpy, List.mem_iff_getElem] at ho
  obtain ⟨i, hi, rfl⟩ := ho
  rw [List.getElem_zipWith]
  exact w_in _
theorem axpy_mod (o x r : Int) : wrap64 (o + wrap64 (x * r)) % 18446744073709551616 = (o + x * r) % 18446744073709551616 := by
  generalize x * r = t
  rw [w_mod]
  have := w_mod t
  omega
theorem tk_set (Z l : List Int) (i : Nat) (h : Z.length = l.length) (hi : i < l.length) : (Z.take i ++ l.drop i).set i (Z.getD i 0) = Z.take (i + 1) ++ l.drop (i + 1) := by
  have e1 : (Z.take i).length = i := by rw [List.length_take]; omega
  rw [List.set_append_right _ _ (by omega), e1, Nat.sub_self, List.drop_eq_getElem_cons hi, List.set_cons_zero, List.take_succ_eq_append_getElem (by omega), List.append_assoc, gE _ _ (by omega)]
  rfl
theorem tk_rd (Z l : List Int) (i : Nat) (h : Z.length = l.length) (hi : i < l.length) : rd (Z.take i ++ l.drop i) (i : Int) = l.getD i 0 := by
  have e1 : (Z.take i).length = i := by rw [List.length_take]; omega
  rw [rd, Int.toNat_natCast, List.getD_eq_getElem?_getD, List.getElem?_append_right (by omega), e1, Nat.sub_self, List.getElem?_drop, Nat.add_zero, ← List.getD_eq_getElem?_getD]
theorem tk_len (Z l : List Int) (i : Nat) (h : Z.length = l.length) (hi : i ≤ l.length) : (Z.take i ++ l.drop i).length = l.length := by
  rw [List.length_append, List.length_take, List.length_drop]; omega
theorem tk_end (Z l : List Int) (h : Z.length = l.length) : Z.take l.length ++ l.drop l.length = Z := by
  rw [List.drop_length, List.append_nil, ← h, List.take_length]
theorem own01 (l : List Int) (hl : l.length ≤ 1000) : spec_l01Own.f l = some l := by
  unfold spec_l01Own.f
  simp only [Option.bind_some, List.nil_append, List.length_nil, Nat.zero_add]
  rw [if_pos (by omega)]
def pw (n : Int) : List (List Int) := ([[], [[1]], [[1], [-1]], [[1, 0], [0, 1], [-1, -1]], [[1, 0], [0, 1], [-1, 0], [0, -1]], [[1, 0, 0, 0], [0, 1, 0, 0], [0, 0, 1, 0], [0, 0, 0, 1], [-1, -1, -1, -1]], [[1, 0], [0, 1], [-1, 1], [-1, 0], [0, -1], [1, -1]], [[1, 0, 0, 0, 0, 0], [0, 1, 0, 0, 0, 0], [0, 0, 1, 0, 0, 0], [0, 0, 0, 1, 0, 0], [0, 0, 0, 0, 1, 0], [0, 0, 0, 0, 0, 1], [-1, -1, -1, -1, -1, -1]], [[1, 0, 0, 0], [0, 1, 0, 0], [0, 0, 1, 0], [0, 0, 0, 1], [-1, 0, 0, 0], [0, -1, 0, 0], [0, 0, -1, 0], [0, 0, 0, -1]], [[1, 0, 0, 0, 0, 0], [0, 1, 0, 0, 0, 0], [0, 0, 1, 0, 0, 0], [0, 0, 0, 1, 0, 0], [0, 0, 0, 0, 1, 0], [0, 0, 0, 0, 0, 1], [-1, 0, 0, -1, 0, 0], [0, -1, 0, 0, -1, 0], [0, 0, -1, 0, 0, -1]], [[1, 0, 0, 0], [0, 1, 0, 0], [0, 0, 1, 0], [0, 0, 0, 1], [-1, 1, -1, 1], [-1, 0, 0, 0], [0, -1, 0, 0], [0, 0, -1, 0], [0, 0, 0, -1], [1, -1, 1, -1]], [[1, 0, 0, 0, 0, 0, 0, 0, 0, 0], [0, 1, 0, 0, 0, 0, 0, 0, 0, 0], [0, 0, 1, 0, 0, 0, 0, 0, 0, 0], [0, 0, 0, 1, 0, 0, 0, 0, 0, 0], [0, 0, 0, 0, 1, 0, 0, 0, 0, 0], [0, 0, 0, 0, 0, 1, 0, 0, 0, 0], [0, 0, 0, 0, 0, 0, 1, 0, 0, 0], [0, 0, 0, 0, 0, 0, 0, 1, 0, 0], [0, 0, 0, 0, 0, 0, 0, 0, 1, 0], [0, 0, 0, 0, 0, 0, 0, 0, 0, 1], [-1, -1, -1, -1, -1, -1, -1, -1, -1, -1]], [[1, 0, 0, 0], [0, 1, 0, 0], [0, 0, 1, 0], [0, 0, 0, 1], [-1, 0, 1, 0], [0, -1, 0, 1], [-1, 0, 0, 0], [0, -1, 0, 0], [0, 0, -1, 0], [0, 0, 0, -1], [1, 0, -1, 0], [0, 1, 0, -1]], [[1, 0, 0, 0, 0, 0, 0, 0, 0, 0, 0, 0], [0, 1, 0, 0, 0, 0, 0, 0, 0, 0, 0, 0], [0, 0, 1, 0, 0, 0, 0, 0, 0, 0, 0, 0], [0, 0, 0, 1, 0, 0, 0, 0, 0, 0, 0, 0], [0, 0, 0, 0, 1, 0, 0, 0, 0, 0, 0, 0], [0, 0, 0, 0, 0, 1, 0, 0, 0, 0, 0, 0], [0, 0, 0, 0, 0, 0, 1, 0, 0, 0, 0, 0], [0, 0, 0, 0, 0, 0, 0, 1, 0, 0, 0, 0], [0, 0, 0, 0, 0, 0, 0, 0, 1, 0, 0, 0], [0, 0, 0, 0, 0, 0, 0, 0, 0, 1, 0, 0], [0, 0, 0, 0, 0, 0, 0, 0, 0, 0, 1, 0], [0, 0, 0, 0, 0, 0, 0, 0, 0, 0, 0, 1], [-1, -1, -1, -1, -1, -1, -1, -1, -1, -1, -1, -1]], [[1, 0, 0, 0, 0, 0], [0, 1, 0, 0, 0, 0], [0, 0, 1, 0, 0, 0], [0, 0, 0, 1, 0, 0], [0, 0, 0, 0, 1, 0], [0, 0, 0, 0, 0, 1], [-1, 1, -1, 1, -1, 1], [-1, 0, 0, 0, 0, 0], [0, -1, 0, 0, 0, 0], [0, 0, -1, 0, 0, 0], [0, 0, 0, -1, 0, 0], [0, 0, 0, 0, -1, 0], [0, 0, 0, 0, 0, -1], [1, -1, 1, -1, 1, -1]], [[1, 0, 0, 0, 0, 0, 0, 0], [0, 1, 0, 0, 0, 0, 0, 0], [0, 0, 1, 0, 0, 0, 0, 0], [0, 0, 0, 1, 0, 0, 0, 0], [0, 0, 0, 0, 1, 0, 0, 0], [0, 0, 0, 0, 0, 1, 0, 0], [0, 0, 0, 0, 0, 0, 1, 0], [0, 0, 0, 0, 0, 0, 0, 1], [-1, 1, 0, -1, 1, -1, 0, 1], [-1, 0, 1, -1, 0, 0, -1, 1], [-1, 0, 0, 0, 0, -1, 0, 0], [0, -1, 0, 0, 0, 0, -1, 0], [0, 0, -1, 0, 0, 0, 0, -1], [1, -1, 0, 0, -1, 1, 0, -1], [1, 0, -1, 1, -1, 0, 1, -1]], [[1, 0, 0, 0, 0, 0, 0, 0], [0, 1, 0, 0, 0, 0, 0, 0], [0, 0, 1, 0, 0, 0, 0, 0], [0, 0, 0, 1, 0, 0, 0, 0], [0, 0, 0, 0, 1, 0, 0, 0], [0, 0, 0, 0, 0, 1, 0, 0], [0, 0, 0, 0, 0, 0, 1, 0], [0, 0, 0, 0, 0, 0, 0, 1], [-1, 0, 0, 0, 0, 0, 0, 0], [0, -1, 0, 0, 0, 0, 0, 0], [0, 0, -1, 0, 0, 0, 0, 0], [0, 0, 0, -1, 0, 0, 0, 0], [0, 0, 0, 0, -1, 0, 0, 0], [0, 0, 0, 0, 0, -1, 0, 0], [0, 0, 0, 0, 0, 0, -1, 0], [0, 0, 0, 0, 0, 0, 0, -1]]] : List (List (List Int))).getD n.toNat []
def phn (n : Int) : Nat := (phi n).toNat
theorem pw_all1 : ∀ m : Nat, m < 17 → 1 ≤ m → impl_powers.f 400 (m : Int) = some (pw (m : Int)) := by decide +kernel
theorem pw_all2 : ∀ m : Nat, m < 17 → 1 ≤ m → (pw (m : Int)).length = m := by decide +kernel
theorem pw_all3 : ∀ m : Nat, m < 17 → 1 ≤ m → ∀ r ∈ pw (m : Int), r.length = phn (m : Int) := by decide +kernel
theorem pw_impl (n : Int) (h0 : 1 ≤ n) (h1 : n ≤ 16) : Ev (fun k => impl_powers.f k n) (pw n) :=
  Ev.of (impl_powers.mono n) (orders (P := fun n => impl_powers.f 400 n = some (pw n)) pw_all1 n h0 h1)
theorem pw_len (n : Int) (h0 : 1 ≤ n) (h1 : n ≤ 16) : ((pw n).length : Int) = n :=
  orders (P := fun n => ((pw n).length : Int) = n) (fun m a b => by rw [pw_all2 m a b]) n h0 h1
theorem pw_row (n : Int) (h0 : 1 ≤ n) (h1 : n ≤ 16) : ∀ r ∈ pw n, r.length = phn n :=
  orders (P := fun n => ∀ r ∈ pw n, r.length = phn n) pw_all3 n h0 h1
theorem phn_bd (n : Int) (h0 : 1 ≤ n) (h1 : n ≤ 16) : 1 ≤ phn n ∧ phn n ≤ 12 :=
  orders (P := fun n => 1 ≤ phn n ∧ phn n ≤ 12) (by decide) n h0 h1
theorem rd_L1_pw (pws : List (List Int)) (i : Nat) : rd_L2 pws (i : Int) = pws.getD i [] := by simp [rd_L2]
def cmb : List Int → List Int → List (List Int) → List Int
  | out, x :: xs, r :: rs => cmb (axpy x out r) xs rs
  | out, _, _ => out
def cl (n : Int) (m : Nat) : List Int := (pw n).map fun r => r.getD m 0
theorem cmb_spec : ∀ (xs : List Int) (rs : List (List Int)) (out : List Int), (∀ r ∈ rs, r.length = out.length) → (∀ o ∈ out, inW o) →
    (cmb out xs rs).length = out.length ∧ (∀ o ∈ cmb out xs rs, inW o) ∧ ∀ m, m < out.length → (cmb out xs rs).getD m 0 % 18446744073709551616 = (out.getD m 0 + dot xs (rs.map fun r => r.getD m 0)) % 18446744073709551616
  | [], rs, out, _, ho => ⟨by simp [cmb], by simpa [cmb] using ho, fun m _ => by simp [cmb, dot]⟩
  | x :: xs, [], out, _, ho => ⟨by simp [cmb], by simpa [cmb] using ho, fun m _ => by simp [cmb, dot]⟩
  | x :: xs, r :: rs, out, hr, ho => by
    have h1 : r.length = out.length := hr r (by simp)
    have hl := axpy_len x out r h1
    obtain ⟨a, b, c⟩ := cmb_spec xs rs (axpy x out r) (fun q hq => by rw [hl]; exact hr q (by simp [hq])) (axpy_in x out r)
    refine ⟨by rw [cmb, a, hl], by rw [cmb]; exact b, fun m hm => ?_⟩
    rw [cmb, c m (by rw [hl]; exact hm), axpy_get x out r h1 m hm, List.map_cons, dot]
    have := axpy_mod (out.getD m 0) x (r.getD m 0)
    omega
theorem with_l1 (x : Int) (out row list : List Int) (x18 x19 n ph : Int) (pws : List (List Int)) (h : row.length = out.length) (hl : out.length ≤ 1000) (r : List Int × Int × Int)
    (H : Ev (fun k => impl_field_with.l0 k (axpy x out row) list x18 (wrap64 (x19 + 1)) n ph pws) r) :
    ∀ (d i : Nat), d + i = row.length → Ev (fun k => impl_field_with.l1 k ((axpy x out row).take i ++ out.drop i) x list x18 x19 row (row.length : Int) (i : Int) n ph pws) r := by
  intro d
  induction d with
  | zero =>
    intro i hi
    have e : i = out.length := by omega
    subst e
    refine Ev.step (fun k => ?_) H
    simp only [impl_field_with.l1]
    rw [if_neg (by omega), tk_end _ _ (axpy_len x out row h)]
  | succ d ih =>
    intro i hi
    refine Ev.step (fun k => ?_) (ih (i + 1) (by omega))
    simp only [impl_field_with.l1]
    rw [if_pos (by omega), if_pos (by omega), if_pos (by omega), tk_len _ _ _ (axpy_len x out row h) (by omega), if_pos (by omega), w64 (x := (i : Int) + 1) (by omega) (by omega), tk_rd _ _ _ (axpy_len x out row h) (by omega), Int.toNat_natCast]
    rw [show wrap64 (out.getD i 0 + wrap64 (x * rd row (i : Int))) = (axpy x out row).getD i 0 by rw [axpy_get x out row h i (by omega), rd, Int.toNat_natCast], tk_set _ _ _ (axpy_len x out row h) (by omega)]
    rfl
theorem with_l0 (n ph : Int) (list : List Int) (pws : List (List Int)) (hn : (list.length : Int) = n) (hn2 : n ≤ 16) (hp : pws.length = list.length) (P : Nat) (hP : P ≤ 1000) (hr : ∀ r ∈ pws, r.length = P) :
    ∀ (d i : Nat) (out : List Int), d + i = list.length → out.length = P → Ev (fun k => impl_field_with.l0 k out list (list.length : Int) (i : Int) n ph pws) (cmb out (list.drop i) (pws.drop i), n, ph) := by
  intro d
  induction d with
  | zero =>
    intro i out hi ho
    have e : i = list.length := by omega
    subst e
    refine Ev.step (f := fun _ => some (out, n, ph)) (fun k => ?_) ?_
    · simp only [impl_field_with.l0]
      rw [if_neg (by omega)]
    · rw [List.drop_length, cmb]
      exact Ev.now _
      all_goals simp
  | succ d ih =>
    intro i out hi ho
    have hi2 : i < list.length := by omega
    have hi3 : i < pws.length := by omega
    have hrow : pws[i].length = P := hr _ (List.getElem_mem hi3)
    have ha : impl_around.f (i : Int) n = some (i : Int) := by rw [around _ _ (by omega) (by omega), Int.emod_eq_of_lt (by omega) (by omega)]
    refine Ev.step (f := fun k => impl_field_with.l1 k out list[i] list (list.length : Int) (i : Int) pws[i] (pws[i].length : Int) 0 n ph pws) (fun k => ?_) ?_
    · simp only [impl_field_with.l0]
      rw [if_pos (by omega), if_pos (by omega), if_pos (by omega), ha, Option.bind_some, if_pos (by omega), if_pos (by omega), rd_L1_pw, gE _ _ hi3, rd, Int.toNat_natCast, gE _ _ hi2]
    · have H := ih (i + 1) (axpy list[i] out pws[i]) (by omega) (by rw [axpy_len _ _ _ (by omega), ho])
      have := with_l1 list[i] out pws[i] list (list.length : Int) (i : Int) n ph pws (by omega) (by omega) (cmb out (list.drop i) (pws.drop i), n, ph) (by
        rw [w64 (x := (i : Int) + 1) (by omega) (by omega), List.drop_eq_getElem_cons hi2, List.drop_eq_getElem_cons hi3, cmb]
        exact H) pws[i].length 0 (by omega)
      simpa using this
/-- The sum of powers of z, of each so many. -/
def cnt (n : Int) (many : List Int) : List Int := cmb (List.replicate (phn n) 0) many (pw n)
theorem counted (n : Int) (many : List Int) (h0 : 1 ≤ n) (h1 : n ≤ 16) (hm : (many.length : Int) = n) : Ev (fun k => impl_counted.f k n many) (cnt n many) := by
  have hp := pw_len n h0 h1
  have hb := phn_bd n h0 h1
  have hrow := pw_row n h0 h1
  have hf : Ev (fun k => impl_fieldOf.f k n) (n, (phn n : Int), pw n) := by
    unfold impl_fieldOf.f
    refine Ev.bind (pw_impl n h0 h1) ?_
    rw [if_pos (by omega), show ((rd_L2 (pw n) 0).length : Int) = (phn n : Int) by
      have : 0 < (pw n).length := by omega
      rw [show (0 : Int) = ((0 : Nat) : Int) from rfl, rd_L1_pw, gE _ _ this, hrow _ (List.getElem_mem this)]]
    exact Ev.now _
  unfold impl_counted.f
  refine Ev.bind hf ?_
  simp only
  refine Ev.bind (a := (cnt n many, n, (phn n : Int))) ?_ (Ev.now _)
  unfold impl_field_with.f
  simp only [Int.toNat_natCast, if_pos (show 0 ≤ (phn n : Int) by omega), if_pos (show phn n ≤ 35184372088832 by omega)]
  have := with_l0 n (phn n : Int) many (pw n) hm h1 (by omega) (phn n) (by omega) hrow many.length 0 (List.replicate (phn n) 0) (by omega) (by simp)
  simpa [cnt] using this
theorem cnt_spec (n : Int) (many : List Int) (h0 : 1 ≤ n) (h1 : n ≤ 16) : (cnt n many).length = phn n ∧ (∀ o ∈ cnt n many, inW o) ∧ ∀ m, m < phn n → (cnt n many).getD m 0 % 18446744073709551616 = dot many (cl n m) % 18446744073709551616 := by
  obtain ⟨a, b, c⟩ := cmb_spec many (pw n) (List.replicate (phn n) 0) (fun r hr => by simpa using pw_row n h0 h1 r hr) (fun o ho => by rw [List.eq_of_mem_replicate ho]; unfold inW; omega)
  rw [List.length_replicate] at a c
  refine ⟨a, b, fun m hm => ?_⟩
  have := c m hm
  rw [gE (List.replicate (phn n) 0) 0 (by rw [List.length_replicate]; exact hm), List.getElem_replicate, Int.zero_add] at this
  exact this
theorem lists_eq {l l' : List Int} (h : l.length = l'.length) (a : ∀ o ∈ l, inW o) (b : ∀ o ∈ l', inW o) (c : ∀ m, m < l.length → l.getD m 0 % 18446744073709551616 = l'.getD m 0 % 18446744073709551616) : l = l' := by
  refine List.ext_getElem h fun i hi hi' => ?_
  have := c i hi
  rw [gE _ _ hi, gE _ _ hi'] at this
  exact in_eq (a _ (List.getElem_mem hi)) (b _ (List.getElem_mem hi')) this
def ix (p : Int) : List Int := if p = 3 then [-1, 0, 1] else if p = 5 then [-1, 0, 1, 3, 2] else if p = 7 then [-1, 0, 2, 1, 4, 5, 3] else if p = 11 then [-1, 0, 1, 8, 2, 4, 9, 7, 3, 6, 5] else if p = 13 then [-1, 0, 1, 4, 2, 9, 5, 11, 3, 8, 10, 7, 6] else if p = 17 then [-1, 0, 14, 1, 12, 5, 15, 11, 10, 2, 3, 7, 13, 4, 9, 6, 8] else if p = 19 then [-1, 0, 1, 13, 2, 16, 14, 6, 3, 8, 17, 12, 15, 5, 7, 11, 4, 10, 9] else if p = 23 then [-1, 0, 2, 16, 4, 1, 18, 19, 6, 10, 3, 9, 20, 14, 21, 17, 8, 7, 12, 15, 5, 13, 11] else if p = 29 then [-1, 0, 1, 5, 2, 22, 6, 12, 3, 10, 23, 25, 7, 18, 13, 27, 4, 21, 11, 9, 24, 17, 26, 20, 8, 16, 19, 15, 14] else if p = 31 then [-1, 0, 24, 1, 18, 20, 25, 28, 12, 2, 14, 23, 19, 11, 22, 21, 6, 7, 26, 4, 8, 29, 17, 27, 13, 10, 5, 3, 16, 9, 15] else if p = 37 then [-1, 0, 1, 26, 2, 23, 27, 32, 3, 16, 24, 30, 28, 11, 33, 13, 4, 7, 17, 35, 25, 22, 31, 15, 29, 10, 12, 6, 34, 21, 14, 9, 5, 20, 8, 19, 18] else if p = 41 then [-1, 0, 26, 15, 12, 22, 1, 39, 38, 30, 8, 3, 27, 31, 25, 37, 24, 33, 16, 9, 34, 14, 29, 36, 13, 4, 17, 5, 11, 7, 23, 28, 10, 18, 19, 21, 2, 32, 35, 6, 20] else if p = 43 then [-1, 0, 27, 1, 12, 25, 28, 35, 39, 2, 10, 30, 13, 32, 20, 26, 24, 38, 29, 19, 37, 36, 15, 16, 40, 8, 17, 3, 5, 41, 11, 34, 9, 31, 23, 18, 14, 7, 4, 33, 22, 6, 21] else if p = 47 then [-1, 0, 18, 20, 36, 1, 38, 32, 8, 40, 19, 7, 10, 11, 4, 21, 26, 16, 12, 45, 37, 6, 25, 5, 28, 2, 29, 14, 22, 35, 39, 3, 44, 27, 34, 33, 30, 42, 17, 31, 9, 15, 24, 13, 43, 41, 23] else if p = 53 then [-1, 0, 1, 17, 2, 47, 18, 14, 3, 34, 48, 6, 19, 24, 15, 12, 4, 10, 35, 37, 49, 31, 7, 39, 20, 42, 25, 51, 16, 46, 13, 33, 5, 23, 11, 9, 36, 30, 38, 41, 50, 45, 32, 22, 8, 29, 40, 44, 21, 28, 43, 27, 26] else if p = 59 then [-1, 0, 1, 50, 2, 6, 51, 18, 3, 42, 7, 25, 52, 45, 19, 56, 4, 40, 43, 38, 8, 10, 26, 15, 53, 12, 46, 34, 20, 28, 57, 49, 5, 17, 41, 24, 44, 55, 39, 37, 9, 14, 11, 33, 27, 48, 16, 23, 54, 36, 13, 32, 47, 22, 35, 31, 21, 30, 29] else if p = 61 then [-1, 0, 1, 6, 2, 22, 7, 49, 3, 12, 23, 15, 8, 40, 50, 28, 4, 47, 13, 26, 24, 55, 16, 57, 9, 44, 41, 18, 51, 35, 29, 59, 5, 21, 48, 11, 14, 39, 27, 46, 25, 54, 56, 43, 17, 34, 58, 20, 10, 38, 45, 53, 42, 33, 19, 37, 52, 32, 36, 31, 30] else []
def rt (p : Int) : Int := if p = 3 then 2 else if p = 5 then 2 else if p = 7 then 3 else if p = 11 then 2 else if p = 13 then 2 else if p = 17 then 3 else if p = 19 then 2 else if p = 23 then 5 else if p = 29 then 2 else if p = 31 then 3 else if p = 37 then 2 else if p = 41 then 6 else if p = 43 then 3 else if p = 47 then 5 else if p = 53 then 2 else if p = 59 then 2 else if p = 61 then 2 else 0
def ex (p n c : Int) : List Int := -1 :: ((ix p).drop 1).map fun i => i * c % n
theorem ix_run : ∀ p ∈ prs, impl_indices.f 1000 p = some (ix p, rt p) := by decide +kernel
theorem ix_all : ∀ p ∈ prs, True ∧ ((ix p).length : Int) = p ∧ (∀ i ∈ (ix p).drop 1, 0 ≤ i ∧ i ≤ 60) ∧ rd (ix p) 0 = -1 := by decide +kernel
theorem root_all : ∀ p ∈ prs, spec_l03Root.f 200 p = some (rt p) := by decide +kernel
theorem index_all : ∀ p ∈ prs, ∀ y : Nat, y < 61 → 1 ≤ y → (y : Int) < p → spec_l03Index.l0 200 p (y : Int) (rt p) 1 0 = some (rd (ix p) (y : Int)) := by decide +kernel
def okC (p n c : Int) : Bool := pr p && ((decide (1 ≤ n) && decide (n ≤ 16)) && decide ((p - 1) % n = 0)) && (decide (0 ≤ c) && decide (c ≤ n - 1))
theorem okC_iff {p n c : Int} : okC p n c = true ↔ pr p = true ∧ (1 ≤ n ∧ n ≤ 16) ∧ (p - 1) % n = 0 ∧ 0 ≤ c ∧ c ≤ n - 1 := by simp [okC, and_assoc]
theorem l03Is (p n c : Int) : Ev (fun k => spec_l03Is.f k p n c) (okC p n c) := by
  unfold spec_l03Is.f okC
  refine Ev.bind (l03Prime p) ?_
  cases hp : pr p with
  | false => simp only [Bool.false_eq_true, if_false, Bool.false_and]; exact Ev.now _
  | true =>
    have hb := pr_bd hp
    simp only [if_true, Bool.true_and]
    unfold spec_l03Order.f
    rw [l01In, Option.bind_some]
    cases hn : decide (1 ≤ n) && decide (n ≤ 16) with
    | false => simp only [Bool.false_eq_true, if_false, Bool.false_and, Option.bind_some]; exact Ev.now _
    | true =>
      have hn' : 1 ≤ n ∧ n ≤ 16 := by simpa using hn
      simp only [if_true, if_neg (show ¬ n = 0 by omega), w64 (x := p - 1) (by omega) (by omega), Int.tmod_eq_emod_of_nonneg (show 0 ≤ p - 1 by omega), Option.bind_some, Bool.true_and, l01In, w64 (x := n - 1) (by omega) (by omega)]
      cases hm : (p - 1) % n == 0 with
      | false =>
        have : ¬ (p - 1) % n = 0 := by simpa using hm
        simp only [Bool.false_eq_true, if_false, this, decide_false, Bool.false_and]
        exact Ev.now _
      | true =>
        have : (p - 1) % n = 0 := by simpa using hm
        simp only [if_true, this, decide_true, Bool.true_and]
        exact Ev.now _
theorem isCharacter (p n c : Int) (h0 : -9223372036854775808 ≤ p) (h1 : p ≤ 9223372036854775807) : Ev (fun k => impl_IsCharacter.f k p n c) (okC p n c) := by
  unfold impl_IsCharacter.f impl_areOf.f okC
  cases hp : pr p with
  | false =>
    refine Ev.bind (a := false) ?_ (by simp only [Bool.false_eq_true, if_false, Bool.false_and]; exact Ev.now _)
    refine Ev.bind (isPrime p h0 h1) ?_
    simp only [hp, Bool.false_eq_true, if_false]
    exact Ev.now _
  | true =>
    have hb := pr_bd hp
    simp only [Bool.true_and]
    cases hn : decide (1 ≤ n) && decide (n ≤ 16) with
    | false =>
      refine Ev.bind (a := false) ?_ (by simp only [Bool.false_eq_true, if_false, Bool.false_and]; exact Ev.now _)
      refine Ev.bind (isPrime p h0 h1) ?_
      simp only [hp, if_true]
      unfold impl_isOrder.f
      rw [within_, Option.bind_some, hn]
      simp only [Option.bind_some, Bool.false_eq_true, if_false]
      exact Ev.now _
    | true =>
      have hn' : 1 ≤ n ∧ n ≤ 16 := by simpa using hn
      refine Ev.bind (a := (p - 1) % n == 0) ?_ ?_
      · refine Ev.bind (isPrime p h0 h1) ?_
        simp only [hp, if_true]
        unfold impl_isOrder.f
        rw [within_, Option.bind_some, hn]
        simp only [Option.bind_some, if_true, if_neg (show ¬ n = 0 by omega), w64 (x := p - 1) (by omega) (by omega), Int.tmod_eq_emod_of_nonneg (show 0 ≤ p - 1 by omega)]
        exact Ev.now _
      · cases hm : (p - 1) % n == 0 with
        | false =>
          have : ¬ (p - 1) % n = 0 := by simpa using hm
          simp only [Bool.false_eq_true, if_false, this, decide_false, Bool.and_false, Bool.false_and]
          exact Ev.now _
        | true =>
          have : (p - 1) % n = 0 := by simpa using hm
          simp only [if_true, this, decide_true, Bool.true_and, within_, w64 (x := n - 1) (by omega) (by omega), Option.bind_some]
          exact Ev.now _
theorem ix_impl (p : Int) (hp : pr p = true) : Ev (fun k => impl_indices.f k p) (ix p, rt p) := Ev.of (impl_indices.mono p) (ix_run p (pr_iff.mp hp))
theorem ex_len (p n c : Int) (hp : pr p = true) : ((ex p n c).length : Int) = p := by
  have := (ix_all p (pr_iff.mp hp)).2.1
  have := pr_bd hp
  simp only [ex, List.length_cons, List.length_map, List.length_drop]
  omega
theorem ex_bd (p n c : Int) (hn : 1 ≤ n) : ∀ e ∈ ex p n c, -1 ≤ e ∧ e < n := by
  intro e he
  simp only [ex, List.mem_cons, List.mem_map] at he
  rcases he with rfl | ⟨i, _, rfl⟩
  · omega
  · have := Int.emod_nonneg (i * c) (show n ≠ 0 by omega)
    have := Int.emod_lt_of_pos (i * c) (show 0 < n by omega)
    omega
theorem ex_get (p n c : Int) (hp : pr p = true) (hn : 1 ≤ n) (y : Nat) (hy : 1 ≤ y) (hy2 : (y : Int) < p) : (ex p n c).getD y 0 = rd (ix p) (y : Int) * c % n ∧ 0 ≤ (ex p n c).getD y 0 ∧ 0 ≤ rd (ix p) (y : Int) ∧ rd (ix p) (y : Int) ≤ 60 := by
  have hl := (ix_all p (pr_iff.mp hp)).2.1
  have hy3 : y < (ix p).length := by omega
  have hy4 : y - 1 < ((ix p).drop 1).length := by rw [List.length_drop]; omega
  have e1 : (ex p n c).getD y 0 = (ix p)[y] * c % n := by
    obtain ⟨z, rfl⟩ : ∃ z, y = z + 1 := ⟨y - 1, by omega⟩
    rw [ex, List.getD_cons_succ, gE _ _ (by rw [List.length_map]; exact hy4), List.getElem_map, List.getElem_drop]
    simp [Nat.add_comm]
  have e2 : rd (ix p) (y : Int) = (ix p)[y] := by rw [rd, Int.toNat_natCast, gE _ _ hy3]
  have hm : (ix p)[y] ∈ (ix p).drop 1 := by
    refine List.mem_iff_getElem.mpr ⟨y - 1, hy4, ?_⟩
    rw [List.getElem_drop]
    congr 1
    omega
  have hb := (ix_all p (pr_iff.mp hp)).2.2.1 _ hm
  rw [e1, e2]
  exact ⟨rfl, Int.emod_nonneg _ (by omega), hb.1, hb.2⟩
theorem exponent (p n c : Int) (hp : pr p = true) (hn : 1 ≤ n ∧ n ≤ 16) (hc : 0 ≤ c ∧ c ≤ 15) (y : Nat) (hy : 1 ≤ y) (hy2 : (y : Int) < p) : Ev (fun k => spec_l03Exponent.f k p n c (y : Int)) ((ex p n c).getD y 0) := by
  have hb := pr_bd hp
  obtain ⟨e1, _, e3, e4⟩ := ex_get p n c hp hn.1 y hy hy2
  unfold spec_l03Exponent.f
  have ht : Int.tmod (y : Int) p = (y : Int) := by rw [Int.tmod_eq_emod_of_nonneg (by omega), Int.emod_eq_of_lt (by omega) (by omega)]
  have ht2 : Int.tmod (wrap64 ((y : Int) + p)) p = (y : Int) := by
    rw [w64 (by omega) (by omega), Int.tmod_eq_emod_of_nonneg (by omega), Int.add_emod_right, Int.emod_eq_of_lt (by omega) (by omega)]
  simp only [ht, if_neg (show ¬ p = 0 by omega), if_neg (show ¬ (y : Int) = 0 by omega)]
  have hi : Ev (fun k => spec_l03Index.f k p (y : Int)) (rd (ix p) (y : Int)) := by
    unfold spec_l03Index.f
    refine Ev.bind (Ev.of (spec_l03Root.mono p) (root_all p (pr_iff.mp hp))) ?_
    simp only [ht, ht2, if_neg (show ¬ p = 0 by omega)]
    exact Ev.of (fun k => spec_l03Index.mono_l k _ _ _ _ _) (index_all p (pr_iff.mp hp) y (by omega) hy hy2)
  refine Ev.bind hi ?_
  have h5 : 0 ≤ rd (ix p) (y : Int) * c := Int.mul_nonneg e3 hc.1
  have h6 : rd (ix p) (y : Int) * c ≤ 60 * 15 := Int.mul_le_mul e4 hc.2 hc.1 (by omega)
  rw [if_neg (show ¬ n = 0 by omega), w64 (by omega) (by omega), Int.tmod_eq_emod_of_nonneg h5, ← e1]
  exact Ev.now _
theorem exponents_l0 (p n c : Int) (hp : pr p = true) (hn : 1 ≤ n ∧ n ≤ 16) (hc : 0 ≤ c ∧ c ≤ 15) : ∀ (d i : Nat), d + i = (ix p).length → 1 ≤ i → Ev (fun k => impl_exponents.l0 k ((ex p n c).take i ++ (ix p).drop i) ((ix p).length : Int) (i : Int) p n c) (ex p n c) := by
  have hl := (ix_all p (pr_iff.mp hp)).2.1
  have hb := pr_bd hp
  have hx := ex_len p n c hp
  have hx2 : (ex p n c).length = (ix p).length := by omega
  intro d
  induction d with
  | zero =>
    intro i hi h1
    have e : i = (ix p).length := by omega
    subst e
    refine Ev.step (f := fun _ => some (ex p n c)) (fun k => ?_) (Ev.now _)
    simp only [impl_exponents.l0]
    rw [if_neg (by omega), tk_end _ _ hx2]
  | succ d ih =>
    intro i hi h1
    obtain ⟨e1, _, e3, e4⟩ := ex_get p n c hp hn.1 i h1 (by omega)
    have h5 : 0 ≤ rd (ix p) (i : Int) * c := Int.mul_nonneg e3 hc.1
    have h6 : rd (ix p) (i : Int) * c ≤ 60 * 15 := Int.mul_le_mul e4 hc.2 hc.1 (by omega)
    have e5 : (ix p).getD i 0 = rd (ix p) (i : Int) := by rw [rd, Int.toNat_natCast]
    refine Ev.step (fun k => ?_) (ih (i + 1) (by omega) (by omega))
    simp only [impl_exponents.l0]
    rw [if_pos (by omega), if_pos (by omega), tk_len _ _ _ hx2 (by omega), if_pos (by omega), if_pos (by omega), if_neg (show ¬ n = 0 by omega), w64 (x := (i : Int) + 1) (by omega) (by omega), tk_rd _ _ _ hx2 (by omega), Int.toNat_natCast, e5, w64 (by omega) (by omega), Int.tmod_eq_emod_of_nonneg h5, ← e1, tk_set _ _ _ hx2 (by omega)]
    rfl
theorem exponents (p n c : Int) (hp : pr p = true) (hn : 1 ≤ n ∧ n ≤ 16) (hc : 0 ≤ c ∧ c ≤ 15) : Ev (fun k => impl_exponents.f k p n c) (ex p n c) := by
  have hl := (ix_all p (pr_iff.mp hp)).2.1
  have hb := pr_bd hp
  have h0 := (ix_all p (pr_iff.mp hp)).2.2.2
  unfold impl_exponents.f
  refine Ev.bind (ix_impl p hp) ?_
  refine Ev.step (fun k => ?_) (exponents_l0 p n c hp hn hc ((ix p).length - 1) 1 (by omega) (by omega))
  simp only [impl_exponents.l0]
  rw [if_pos (by omega), if_pos (by omega), if_pos (by omega), if_neg (by omega), w64 (x := (0 : Int) + 1) (by omega) (by omega)]
  congr 1
  have h1 : 0 < (ix p).length := by omega
  rw [rd, Int.toNat_zero, gE _ _ h1] at h0
  have : ix p = (-1) :: (ix p).drop 1 := by
    conv => lhs; rw [← List.drop_zero (l := ix p), List.drop_eq_getElem_cons h1, h0]
  conv => lhs; rw [this]
  simp [ex]
theorem zero01 (n : Int) (h0 : 1 ≤ n) (h1 : n ≤ 16) : Ev (fun k => spec_l01Zero.f k n) (n, List.replicate (phn n) 0) := by
  have := phn_bd n h0 h1
  unfold spec_l01Zero.f
  refine Ev.bind (phi_spec n h0 h1) ?_
  have e : phi n = (phn n : Int) := by unfold phn at this ⊢; omega
  rw [e, if_pos (by omega), if_pos (by omega), Int.toNat_natCast]
  exact Ev.now _
theorem dot_zero : ∀ (xs ys : List Int), (∀ j, xs.getD j 0 * ys.getD j 0 = 0) → dot xs ys = 0
  | [], _, _ => by simp [dot]
  | _ :: _, [], _ => by simp [dot]
  | x :: xs, y :: ys, h => by
    rw [dot, dot_zero xs ys (fun j => by simpa using h (j + 1))]
    have := h 0
    simp only [List.getD_cons_zero] at this
    omega
theorem dot_cons_drop (xs ys : List Int) (i o : Nat) (hi : i < xs.length) (ho : o < ys.length) : dot (xs.drop i) (ys.drop o) = xs.getD i 0 * ys.getD o 0 + dot (xs.drop (i + 1)) (ys.drop (o + 1)) := by
  rw [List.drop_eq_getElem_cons hi, List.drop_eq_getElem_cons ho, dot, gE _ _ hi, gE _ _ ho]
theorem cyc_len : ∀ n : Nat, n < 17 → 1 ≤ n → (cyc (n : Int)).length = phn (n : Int) + 1 ∧ phn (n : Int) ≤ n ∧ rd (cyc (n : Int)) (phn (n : Int) : Int) = 1 := by decide +kernel
def cycOk (n k m : Nat) : Bool := decide (dot (cyc (n : Int)) ((cl (n : Int) m).drop (k - phn (n : Int))) = 0)
theorem cyc_rel : ∀ n : Nat, n < 17 → 1 ≤ n → ∀ k : Nat, k < n → phn (n : Int) ≤ k → ∀ m : Nat, m < phn (n : Int) → cycOk n k m = true := by decide +kernel
def unitsOk (n j m : Nat) : Bool := decide ((cl (n : Int) m).getD j 0 = if j = m then 1 else 0)
theorem cl_unit : ∀ n : Nat, n < 17 → 1 ≤ n → ∀ j : Nat, j < phn (n : Int) → ∀ m : Nat, m < phn (n : Int) → unitsOk n j m = true := by decide +kernel
theorem set_get (xs : List Int) (q : Nat) (v : Int) (j : Nat) (hq : q < xs.length) : (xs.set q v).getD j 0 = if j = q then v else xs.getD j 0 := by
  rw [List.getD_eq_getElem?_getD, List.getElem?_set, List.getD_eq_getElem?_getD]
  by_cases h : q = j
  · subst h
    simp [hq]
  · rw [if_neg h, if_neg (fun e => h e.symm)]
theorem set_in (xs : List Int) (q : Nat) (v : Int) (hv : inW v) (h : ∀ o ∈ xs, inW o) : ∀ o ∈ xs.set q v, inW o := by
  intro o ho
  rcases List.mem_or_eq_of_mem_set ho with h' | rfl
  · exact h o h'
  · exact hv
theorem get_in (xs : List Int) (h : ∀ o ∈ xs, inW o) (j : Nat) : inW (xs.getD j 0) := by
  rcases Nat.lt_or_ge j xs.length with hj | hj
  · rw [gE _ _ hj]; exact h _ (List.getElem_mem hj)
  · rw [List.getD_eq_getElem?_getD, List.getElem?_eq_none hj]; show inW 0; unfold inW; omega
theorem red_l1 (N : Nat) (hN0 : 1 ≤ N) (hN : N < 17) (C : Nat → Int) (k : Nat) (hk0 : phn (N : Int) ≤ k) (hk : k < N) (lead : Int) (hlead : inW lead) (r : Int × List Int)
    (H : ∀ rest : List Int, rest.length = N → (∀ o ∈ rest, inW o) → (∀ j, k ≤ j → rest.getD j 0 = 0) → (∀ m, m < phn (N : Int) → dot rest (cl (N : Int) m) % 18446744073709551616 = C m % 18446744073709551616) →
      Ev (fun f => spec_l01Reduce.l0 f (N : Int) (cyc (N : Int)) rest (phn (N : Int) : Int) ((k : Int) - 1)) r) :
    ∀ (d i : Nat) (rest : List Int), d + i = phn (N : Int) + 1 → rest.length = N → (∀ o ∈ rest, inW o) → (∀ j, k < j → rest.getD j 0 = 0) → (i ≤ phn (N : Int) → rest.getD k 0 = lead) → (i = phn (N : Int) + 1 → rest.getD k 0 = 0) →
      (∀ m, m < phn (N : Int) → (dot rest (cl (N : Int) m) - lead * dot ((cyc (N : Int)).drop i) ((cl (N : Int) m).drop (k - phn (N : Int) + i))) % 18446744073709551616 = C m % 18446744073709551616) →
      Ev (fun f => spec_l01Reduce.l1 f (N : Int) (cyc (N : Int)) rest (phn (N : Int) : Int) (k : Int) lead (i : Int)) r := by
  obtain ⟨hc1, hc2, hc3⟩ := cyc_len N hN hN0
  have hpl := pw_all2 N hN hN0
  have hcl : ∀ m, (cl (N : Int) m).length = N := fun m => by rw [cl, List.length_map]; exact hpl
  intro d
  induction d with
  | zero =>
    intro i rest hi hl hw hz _ h0 hd
    have e : i = phn (N : Int) + 1 := by omega
    subst e
    refine Ev.step (fun f => ?_) (H rest hl hw (fun j hj => ?_) (fun m hm => ?_))
    · simp only [spec_l01Reduce.l1]
      rw [if_neg (by omega), w64 (x := (k : Int) - 1) (by omega) (by omega)]
    · rcases Nat.lt_or_ge k j with h | h
      · exact hz j h
      · have : j = k := by omega
        subst this
        exact h0 rfl
    · have := hd m hm
      rw [List.drop_eq_nil_of_le (show (cyc (N : Int)).length ≤ phn (N : Int) + 1 by omega)] at this
      simp only [dot, Int.mul_zero, Int.sub_zero] at this
      exact this
  | succ d ih =>
    intro i rest hi hl hw hz h1 _ hd
    have hq : k - phn (N : Int) + i < rest.length := by omega
    have e1 : wrap64 (wrap64 ((k : Int) - (phn (N : Int) : Int)) + (i : Int)) = ((k - phn (N : Int) + i : Nat) : Int) := by
      rw [w64 (x := (k : Int) - (phn (N : Int) : Int)) (by omega) (by omega), w64 (by omega) (by omega)]
      omega
    refine Ev.step (f := fun f => spec_l01Reduce.l1 f (N : Int) (cyc (N : Int)) (rest.set (k - phn (N : Int) + i) (wrap64 (rest.getD (k - phn (N : Int) + i) 0 - wrap64 (lead * (cyc (N : Int)).getD i 0)))) (phn (N : Int) : Int) (k : Int) lead ((i + 1 : Nat) : Int)) (fun f => ?_) ?_
    · simp only [spec_l01Reduce.l1, e1]
      rw [if_pos (by omega), if_pos (by omega), if_pos (by omega), if_pos (by omega), if_pos (by omega), w64 (x := (i : Int) + 1) (by omega) (by omega)]
      simp only [rd, Int.toNat_natCast]
      rfl
    · refine ih (i + 1) _ (by omega) (by rw [List.length_set]; exact hl) (set_in _ _ _ (w_in _) hw) (fun j hj => ?_) (fun hi2 => ?_) (fun hi2 => ?_) (fun m hm => ?_)
      · rw [set_get _ _ _ _ hq, if_neg (by omega)]
        exact hz j hj
      · rw [set_get _ _ _ _ hq, if_neg (by omega)]
        exact h1 (by omega)
      · have hi3 : i = phn (N : Int) := by omega
        have hq2 : k - phn (N : Int) + i = k := by omega
        have hc4 : (cyc (N : Int)).getD i 0 = 1 := by rw [hi3]; simpa [rd] using hc3
        rw [set_get _ _ _ _ hq, if_pos hq2.symm, hq2, h1 (by omega), hc4, Int.mul_one, in_w hlead, Int.sub_self]
        exact w64 (by omega) (by omega)
      · have h3 := hd m hm
        rw [dot_cons_drop _ _ _ _ (by omega) (by rw [hcl]; omega), Int.mul_add] at h3
        rw [dot_set _ _ _ _ hq]
        have q1 : (wrap64 (rest.getD (k - phn (N : Int) + i) 0 - wrap64 (lead * (cyc (N : Int)).getD i 0)) - rest.getD (k - phn (N : Int) + i) 0) % 18446744073709551616 = (-(lead * (cyc (N : Int)).getD i 0)) % 18446744073709551616 := by
          have a1 := w_mod (lead * (cyc (N : Int)).getD i 0)
          have a2 := w_mod (rest.getD (k - phn (N : Int) + i) 0 - wrap64 (lead * (cyc (N : Int)).getD i 0))
          omega
        have q2 : (wrap64 (rest.getD (k - phn (N : Int) + i) 0 - wrap64 (lead * (cyc (N : Int)).getD i 0)) - rest.getD (k - phn (N : Int) + i) 0) * (cl (N : Int) m).getD (k - phn (N : Int) + i) 0 % 18446744073709551616 = (-(lead * ((cyc (N : Int)).getD i 0 * (cl (N : Int) m).getD (k - phn (N : Int) + i) 0))) % 18446744073709551616 := by
          rw [Int.mul_emod, q1, ← Int.mul_emod, Int.neg_mul, Int.mul_assoc]
        rw [show k - phn (N : Int) + (i + 1) = k - phn (N : Int) + i + 1 by omega]
        generalize (wrap64 (rest.getD (k - phn (N : Int) + i) 0 - wrap64 (lead * (cyc (N : Int)).getD i 0)) - rest.getD (k - phn (N : Int) + i) 0) * (cl (N : Int) m).getD (k - phn (N : Int) + i) 0 = A at *
        generalize lead * ((cyc (N : Int)).getD i 0 * (cl (N : Int) m).getD (k - phn (N : Int) + i) 0) = B at *
        generalize lead * dot ((cyc (N : Int)).drop (i + 1)) ((cl (N : Int) m).drop (k - phn (N : Int) + i + 1)) = D at *
        omega
theorem red_l2 (n : Int) (rest : List Int) (P : Nat) (hP : P ≤ 100) (hr : P ≤ rest.length) : ∀ (d i : Nat), d + i = P → Ev (fun f => spec_l01Reduce.l2 f rest (P : Int) (i : Int) n (rest.take i ++ (List.replicate P 0).drop i)) (n, rest.take P) := by
  intro d
  induction d with
  | zero =>
    intro i hi
    have e : i = P := by omega
    subst e
    refine Ev.step (f := fun _ => some (n, rest.take i)) (fun k => ?_) (Ev.now _)
    simp only [spec_l01Reduce.l2]
    rw [if_neg (by omega), List.drop_eq_nil_of_le (by simp), List.append_nil]
  | succ d ih =>
    intro i hi
    refine Ev.step (fun f => ?_) (ih (i + 1) (by omega))
    have e1 : (rest.take i).length = i := by rw [List.length_take]; omega
    have e2 : ((rest.take i ++ (List.replicate P 0).drop i).length : Int) = P := by rw [List.length_append, e1, List.length_drop, List.length_replicate]; omega
    simp only [spec_l01Reduce.l2]
    rw [if_pos (by omega), if_pos (by omega), if_pos (by omega), e2, if_pos (by omega), w64 (x := (i : Int) + 1) (by omega) (by omega), rd, Int.toNat_natCast, gE _ _ (show i < rest.length by omega),
      List.set_append_right _ _ (by omega), e1, Nat.sub_self, List.drop_eq_getElem_cons (show i < (List.replicate P (0 : Int)).length by rw [List.length_replicate]; omega), List.set_cons_zero, List.take_succ_eq_append_getElem (show i < rest.length by omega), List.append_assoc]
    rfl
theorem red_l0 (N : Nat) (hN0 : 1 ≤ N) (hN : N < 17) (row : List Int) : ∀ (d : Nat) (k : Int) (rest : List Int), (d : Int) + phn (N : Int) = k + 1 → k < N → rest.length = N → (∀ o ∈ rest, inW o) → (∀ j : Nat, k < j → rest.getD j 0 = 0) →
    (∀ m, m < phn (N : Int) → dot rest (cl (N : Int) m) % 18446744073709551616 = dot row (cl (N : Int) m) % 18446744073709551616) →
    Ev (fun f => spec_l01Reduce.l0 f (N : Int) (cyc (N : Int)) rest (phn (N : Int) : Int) k) ((N : Int), cnt (N : Int) row) := by
  obtain ⟨hc1, hc2, hc3⟩ := cyc_len N hN hN0
  have hpl := pw_all2 N hN hN0
  have hcl : ∀ m, (cl (N : Int) m).length = N := fun m => by rw [cl, List.length_map]; exact hpl
  have hb := phn_bd (N : Int) (by omega) (by omega)
  intro d
  induction d with
  | zero =>
    intro k rest hd hk hl hw hz hdot
    obtain ⟨c1, c2, c3⟩ := cnt_spec (N : Int) row (by omega) (by omega)
    have e : cnt (N : Int) row = rest.take (phn (N : Int)) := by
      refine lists_eq (by rw [c1, List.length_take]; omega) c2 (fun o ho => hw o (List.mem_of_mem_take ho)) (fun m hm => ?_)
      have hm2 : m < phn (N : Int) := by omega
      rw [c3 m hm2, ← hdot m hm2]
      have hu : (cl (N : Int) m).getD m 0 = 1 := by simpa using of_decide_eq_true (cl_unit N hN hN0 m hm2 m hm2)
      have hs := dot_set rest (cl (N : Int) m) m 0 (by omega)
      rw [dot_zero (rest.set m 0) (cl (N : Int) m) (fun j => by
        rw [set_get _ _ _ _ (by omega)]
        by_cases hj : j = m
        · rw [if_pos hj, Int.zero_mul]
        · rw [if_neg hj]
          rcases Nat.lt_or_ge j (phn (N : Int)) with h | h
          · rw [show (cl (N : Int) m).getD j 0 = 0 by simpa [hj] using of_decide_eq_true (cl_unit N hN hN0 j h m hm2), Int.mul_zero]
          · rw [hz j (by omega), Int.zero_mul]), hu] at hs
      have e3 : (rest.take (phn (N : Int))).getD m 0 = rest.getD m 0 := by
        rw [gE _ _ (by rw [List.length_take]; omega), gE _ _ (by omega), List.getElem_take]
      rw [e3]
      congr 1
      omega
    refine Ev.step (f := fun f => ((spec_l01Zero.f f (N : Int)).bind fun bt => (spec_l01Reduce.l2 f rest (phn (N : Int) : Int) 0 bt.1 bt.2))) (fun f => ?_) ?_
    · simp only [spec_l01Reduce.l0]
      rw [if_neg (by omega)]
    · refine Ev.bind (zero01 (N : Int) (by omega) (by omega)) ?_
      rw [e]
      simpa using red_l2 (N : Int) rest (phn (N : Int)) (by omega) (by omega) (phn (N : Int)) 0 (by omega)
  | succ d ih =>
    intro k rest hd hk hl hw hz hdot
    obtain ⟨K, rfl⟩ : ∃ K : Nat, k = K := ⟨k.toNat, by omega⟩
    refine Ev.step (f := fun f => spec_l01Reduce.l1 f (N : Int) (cyc (N : Int)) rest (phn (N : Int) : Int) (K : Int) (rest.getD K 0) 0) (fun f => ?_) ?_
    · simp only [spec_l01Reduce.l0]
      rw [if_pos (by omega), if_pos (by omega), if_pos (by omega), rd, Int.toNat_natCast]
    · refine red_l1 N hN0 hN (fun m => dot row (cl (N : Int) m)) K (by omega) (by omega) _ (get_in rest hw K) _ (fun rest' a b c e => ih ((K : Int) - 1) rest' (by omega) (by omega) a b (fun j hj => c j (by omega)) e) (phn (N : Int) + 1) 0 rest (by omega) hl hw (fun j hj => hz j (by omega)) (fun _ => rfl) (fun h => by omega) (fun m hm => ?_)
      have := of_decide_eq_true (cyc_rel N hN hN0 K (by omega) (by omega) m hm)
      rw [List.drop_zero, Nat.add_zero, this, Int.mul_zero, Int.sub_zero]
      exact hdot m hm
theorem reduce (n : Int) (row : List Int) (h0 : 1 ≤ n) (h1 : n ≤ 16) (hl : (row.length : Int) = n) (hw : ∀ o ∈ row, inW o) : Ev (fun f => spec_l01Reduce.f f n row) (n, cnt n row) := by
  obtain ⟨N, rfl⟩ : ∃ N : Nat, n = N := ⟨n.toNat, by omega⟩
  have hN0 : 1 ≤ N := by omega
  have hN : N < 17 := by omega
  obtain ⟨hc1, hc2, hc3⟩ := cyc_len N hN hN0
  have hb := phn_bd (N : Int) (by omega) (by omega)
  unfold spec_l01Reduce.f
  refine Ev.bind (cyc_spec (N : Int) h0 h1) (ev_bind_const (own01 row (by omega)) ?_)
  rw [w64 (x := ((cyc (N : Int)).length : Int) - 1) (by omega) (by omega), w64 (x := (row.length : Int) - 1) (by omega) (by omega), show ((cyc (N : Int)).length : Int) - 1 = (phn (N : Int) : Int) by omega]
  refine red_l0 N hN0 hN row (N - phn (N : Int)) _ row (by omega) (by omega) (by omega) hw (fun j hj => ?_) (fun m _ => rfl)
  rw [List.getD_eq_getElem?_getD, List.getElem?_eq_none (by omega)]
  rfl
def ad (n k : Int) (src : List Int) : Nat → Nat → List Int → List Int
  | 0, _, row => row
  | d + 1, j, row => ad n k src d (j + 1) (row.set (((j : Int) + k) % n).toNat (wrap64 (rd row (((j : Int) + k) % n) + src.getD j 0)))
def ax2 (p n y k : Int) (now : List (List Int)) : Nat → Nat → List (List Int) → List (List Int)
  | 0, _, nx => nx
  | d + 1, x, nx => ax2 p n y k now d (x + 1) (nx.set (((x : Int) + y) % p).toNat (ad n k (now.getD x []) n.toNat 0 (nx.getD (((x : Int) + y) % p).toNat [])))
def ay (p n : Int) (es : List Int) (now : List (List Int)) : Nat → Nat → List (List Int) → List (List Int)
  | 0, _, nx => nx
  | d + 1, y, nx => ay p n es now d (y + 1) (ax2 p n (y : Int) (es.getD y 0) now p.toNat 0 nx)
def zz (p n : Int) : List (List Int) := List.replicate p.toNat (List.replicate n.toNat 0)
def jb (p n : Int) (es : List Int) (now : List (List Int)) : List (List Int) := ay p n es now (p.toNat - 1) 1 (zz p n)
def jl (p n : Int) : List S33 → List (List Int) → List (List Int)
  | [], rows => rows
  | c :: cs, rows => jl p n cs (jb p n (ex p n c.f2) rows)
def sh (p n : Int) (rows : List (List Int)) : Prop := (rows.length : Int) = p ∧ ∀ r ∈ rows, (r.length : Int) = n ∧ ∀ o ∈ r, inW o
theorem ad_len (n k : Int) (src : List Int) : ∀ (d j : Nat) (row : List Int), (ad n k src d j row).length = row.length
  | 0, _, _ => rfl
  | d + 1, j, row => by rw [ad, ad_len, List.length_set]
theorem ad_in (n k : Int) (src : List Int) : ∀ (d j : Nat) (row : List Int), (∀ o ∈ row, inW o) → ∀ o ∈ ad n k src d j row, inW o
  | 0, _, _, h => h
  | d + 1, j, row, h => by rw [ad]; exact ad_in n k src d (j + 1) _ (set_in _ _ _ (w_in _) h)
theorem sh_set {p n : Int} {rows : List (List Int)} (h : sh p n rows) (i : Nat) (row : List Int) (hl : (row.length : Int) = n) (hw : ∀ o ∈ row, inW o) : sh p n (rows.set i row) := by
  refine ⟨by rw [List.length_set]; exact h.1, fun r hr => ?_⟩
  rcases List.mem_or_eq_of_mem_set hr with h' | rfl
  · exact h.2 r h'
  · exact ⟨hl, hw⟩
theorem sh_get {p n : Int} {rows : List (List Int)} (h : sh p n rows) (i : Nat) (hi : (i : Int) < p) : ((rows.getD i []).length : Int) = n ∧ ∀ o ∈ rows.getD i [], inW o := by
  have : i < rows.length := by have := h.1; omega
  rw [gE _ _ this]
  exact h.2 _ (List.getElem_mem this)
theorem sh_zz (p n : Int) (hp : 0 ≤ p) (hn : 0 ≤ n) : sh p n (zz p n) := by
  refine ⟨by rw [zz, List.length_replicate]; omega, fun r hr => ?_⟩
  rw [List.eq_of_mem_replicate hr]
  exact ⟨by rw [List.length_replicate]; omega, fun o ho => by rw [List.eq_of_mem_replicate ho]; unfold inW; omega⟩
theorem md_bd (a p : Int) (hp : 0 < p) : 0 ≤ a % p ∧ a % p < p := ⟨Int.emod_nonneg _ (by omega), Int.emod_lt_of_pos _ hp⟩
theorem sh_ax2 {p n : Int} (hp : 0 < p) (y k : Int) (now : List (List Int)) : ∀ (d x : Nat) (nx : List (List Int)), sh p n nx → sh p n (ax2 p n y k now d x nx)
  | 0, _, _, h => h
  | d + 1, x, nx, h => by
    rw [ax2]
    have hb := md_bd ((x : Int) + y) p hp
    have hg := sh_get h (((x : Int) + y) % p).toNat (by omega)
    exact sh_ax2 hp y k now d (x + 1) _ (sh_set h _ _ (by rw [ad_len]; exact hg.1) (ad_in _ _ _ _ _ _ hg.2))
theorem sh_ay {p n : Int} (hp : 0 < p) (es : List Int) (now : List (List Int)) : ∀ (d y : Nat) (nx : List (List Int)), sh p n nx → sh p n (ay p n es now d y nx)
  | 0, _, _, h => h
  | d + 1, y, nx, h => by rw [ay]; exact sh_ay hp es now d (y + 1) _ (sh_ax2 hp _ _ _ _ _ _ h)
theorem sh_jb {p n : Int} (hp : 0 < p) (hn : 0 ≤ n) (es : List Int) (now : List (List Int)) : sh p n (jb p n es now) := sh_ay hp _ _ _ _ _ (sh_zz p n (by omega) hn)
theorem rdL (rows : List (List Int)) (i : Nat) : rd_L2 rows (i : Int) = rows.getD i [] := by simp [rd_L2]
theorem set_getL (rows : List (List Int)) (i : Nat) (row : List Int) (h : i < rows.length) : (rows.set i row).getD i [] = row := by
  rw [gE _ _ (by rw [List.length_set]; exact h), List.getElem_set_self]
theorem tm_wr (a b m : Int) (h0 : 0 ≤ a + b) (h1 : a + b ≤ 1000000) (hm : 0 < m) : Int.tmod (wrap64 (a + b)) m = (a + b) % m := by
  rw [w64 (by omega) (by omega), Int.tmod_eq_emod_of_nonneg h0]
theorem sp_l3 (p n : Int) (hp : 0 < p ∧ p ≤ 61) (hn : 1 ≤ n ∧ n ≤ 16) (x0 : List S33) (now : List (List Int)) (hnow : sh p n now) (x10 y e : Int) (he : 0 ≤ e ∧ e < n) (x : Nat) (hx : (x : Int) < p) (nx : List (List Int)) (hnx : sh p n nx) (i : Nat) (hi : (i : Int) < p) (r : List (List Int)) :
    ∀ (d j : Nat) (row : List Int), (d : Int) + j = n → (row.length : Int) = n → Ev (fun f => spec_l04Sum_body.l2 f x0 p n now x10 (nx.set i (ad n e (now.getD x []) d j row)) y e ((x : Int) + 1)) r →
      Ev (fun f => spec_l04Sum_body.l3 f x0 p n now x10 (nx.set i row) y e (x : Int) (j : Int) (i : Int)) r := by
  have hil : i < nx.length := by have := hnx.1; omega
  have hsl := (sh_get hnow x hx).1
  intro d
  induction d with
  | zero =>
    intro j row hd hl H
    refine Ev.step (fun f => ?_) H
    simp only [spec_l04Sum_body.l3]
    rw [if_neg (by omega), w64 (x := (x : Int) + 1) (by omega) (by omega)]
    rfl
  | succ d ih =>
    intro j row hd hl H
    have hb := md_bd ((j : Int) + e) n (by omega)
    refine Ev.step (fun f => ?_) (ih (j + 1) (row.set (((j : Int) + e) % n).toNat (wrap64 (rd row (((j : Int) + e) % n) + (now.getD x []).getD j 0))) (by omega) (by rw [List.length_set]; exact hl) (by rw [ad] at H; exact H))
    simp only [spec_l04Sum_body.l3, rdL, set_getL nx i row hil, tm_wr (j : Int) e n (by omega) (by omega) (by omega), List.set_set, List.length_set, Int.toNat_natCast]
    rw [if_pos (by omega), if_pos (by omega), if_pos (by omega), if_neg (by omega), if_pos hb.1, if_pos (by omega), if_pos (by omega), if_pos (by have := hnow.1; omega), if_pos (by omega), if_pos (by omega), w64 (x := (j : Int) + 1) (by omega) (by omega)]
    simp only [rd, Int.toNat_natCast]
    rfl
theorem sp_l2 (p n : Int) (hp : 0 < p ∧ p ≤ 61) (hn : 1 ≤ n ∧ n ≤ 16) (x0 : List S33) (now : List (List Int)) (hnow : sh p n now) (x10 y e : Int) (hy : 0 ≤ y ∧ y < p) (he : 0 ≤ e ∧ e < n) (r : List (List Int)) :
    ∀ (d x : Nat) (nx : List (List Int)), (d : Int) + x = p → sh p n nx → Ev (fun f => spec_l04Sum_body.l1 f x0 p n now x10 (ax2 p n y e now d x nx) (y + 1)) r →
      Ev (fun f => spec_l04Sum_body.l2 f x0 p n now x10 nx y e (x : Int)) r := by
  intro d
  induction d with
  | zero =>
    intro x nx hd h H
    refine Ev.step (fun f => ?_) H
    simp only [spec_l04Sum_body.l2]
    rw [if_neg (by omega), w64 (x := y + 1) (by omega) (by omega)]
    rfl
  | succ d ih =>
    intro x nx hd h H
    have hb := md_bd ((x : Int) + y) p hp.1
    obtain ⟨i, hi⟩ : ∃ i : Nat, ((x : Int) + y) % p = i := ⟨(((x : Int) + y) % p).toNat, by omega⟩
    have hg := sh_get h i (by omega)
    have hil : i < nx.length := by have := h.1; omega
    have e1 : nx = nx.set i (nx.getD i []) := by rw [gE _ _ hil, List.set_getElem_self]
    refine Ev.step (f := fun f => spec_l04Sum_body.l3 f x0 p n now x10 nx y e (x : Int) 0 (i : Int)) (fun f => ?_) ?_
    · simp only [spec_l04Sum_body.l2, tm_wr (x : Int) y p (by omega) (by omega) (by omega), hi]
      rw [if_pos (by omega), if_neg (by omega), if_pos (by omega), if_pos (by omega)]
    · have H2 := sp_l3 p n hp hn x0 now hnow x10 y e he x (by omega) nx h i (by omega) r n.toNat 0 (nx.getD i []) (by omega) hg.1
      rw [← e1] at H2
      refine H2 (ih (x + 1) _ (by omega) (sh_set h _ _ (by rw [ad_len]; exact hg.1) (ad_in _ _ _ _ _ _ hg.2)) ?_)
      rw [ax2, hi, Int.toNat_natCast] at H
      exact H
theorem sp_l1 (p n : Int) (hp : pr p = true) (hn : 1 ≤ n ∧ n ≤ 16) (x0 : List S33) (now : List (List Int)) (hnow : sh p n now) (q : Nat) (hq : q < x0.length) (c : Int) (hc : 0 ≤ c ∧ c ≤ 15) (hx : x0[q] = ⟨p, n, c⟩) :
    ∀ (d y : Nat) (nx : List (List Int)), (d : Int) + y = p → 1 ≤ y → sh p n nx → Ev (fun f => spec_l04Sum_body.l1 f x0 p n now (q : Int) nx (y : Int)) (ay p n (ex p n c) now d y nx) := by
  have hb := pr_bd hp
  have hx2 : rd_T33 x0 (q : Int) = ⟨p, n, c⟩ := by rw [← hx]; simp [rd_T33, hq]
  intro d
  induction d with
  | zero =>
    intro y nx hd hy h
    refine Ev.step (f := fun _ => some nx) (fun f => ?_) (Ev.now _)
    simp only [spec_l04Sum_body.l1]
    rw [if_neg (by omega)]
  | succ d ih =>
    intro y nx hd hy h
    obtain ⟨_, e2, _, _⟩ := ex_get p n c hp hn.1 y hy (by omega)
    have hxl := ex_len p n c hp
    have e3 : (ex p n c).getD y 0 < n := by
      rw [gE _ _ (by omega)]
      exact (ex_bd p n c hn.1 _ (List.getElem_mem _)).2
    refine Ev.step (f := fun f => ((spec_l03Exponent.f f p n c (y : Int)).bind fun t => (spec_l04Sum_body.l2 f x0 p n now (q : Int) nx (y : Int) t 0))) (fun f => ?_) ?_
    · simp only [spec_l04Sum_body.l1, hx2]
      rw [if_pos (by omega), if_pos (by omega), if_pos (by omega)]
    · refine Ev.bind (exponent p n c hp hn hc y hy (by omega)) ?_
      rw [ay]
      exact sp_l2 p n ⟨by omega, hb.2⟩ hn x0 now hnow (q : Int) (y : Int) _ (by omega) ⟨e2, e3⟩ _ p.toNat 0 nx (by omega) h (ih (y + 1) _ (by omega) (by omega) (sh_ax2 (by omega) _ _ _ _ _ _ h))
theorem rep_snoc {α : Type} (n : Nat) (a : α) : List.replicate n a ++ [a] = List.replicate (n + 1) a := by rw [← List.replicate_succ']
theorem sp_body (p n : Int) (hp : pr p = true) (hn : 1 ≤ n ∧ n ≤ 16) (x0 : List S33) (now : List (List Int)) (hnow : sh p n now) (q : Nat) (hq : q < x0.length) (c : Int) (hc : 0 ≤ c ∧ c ≤ 15) (hx : x0[q] = ⟨p, n, c⟩) :
    Ev (fun f => spec_l04Sum_body.f f x0 (q : Int) now p n) (jb p n (ex p n c) now) := by
  have hb := pr_bd hp
  have key : ∀ (d i : Nat), (d : Int) + i = p → Ev (fun f => spec_l04Sum_body.l0 f x0 p n now (q : Int) (List.replicate i (List.replicate n.toNat 0)) (i : Int)) (jb p n (ex p n c) now) := by
    intro d
    induction d with
    | zero =>
      intro i hi
      have e : i = p.toNat := by omega
      refine Ev.step (fun f => ?_) (sp_l1 p n hp hn x0 now hnow q hq c hc hx (p.toNat - 1) 1 (zz p n) (by omega) (by omega) (sh_zz p n (by omega) (by omega)))
      simp only [spec_l04Sum_body.l0]
      rw [if_neg (by omega), e]
      rfl
    | succ d ih =>
      intro i hi
      refine Ev.step (fun f => ?_) (ih (i + 1) (by omega))
      simp only [spec_l04Sum_body.l0, List.length_replicate, rep_snoc]
      rw [if_pos (by omega), if_pos (by omega), if_pos (by omega), if_pos (by omega), w64 (x := (i : Int) + 1) (by omega) (by omega)]
      rfl
  exact key p.toNat 0 (by omega)
def okl (p n : Int) (cs : List S33) : Prop := ∀ c ∈ cs, c.f0 = p ∧ c.f1 = n ∧ 0 ≤ c.f2 ∧ c.f2 ≤ 15
def st (p n : Int) : List (List Int) := (zz p n).set 0 ((List.replicate n.toNat 0).set 0 1)
theorem sh_st (p n : Int) (hp : 0 ≤ p) (hn : 0 ≤ n) : sh p n (st p n) := by
  refine sh_set (sh_zz p n hp hn) 0 _ (by rw [List.length_set, List.length_replicate]; omega) (set_in _ _ _ (by unfold inW; omega) (fun o ho => by rw [List.eq_of_mem_replicate ho]; unfold inW; omega))
/-- The sum over a list of characters. -/
def js (p n : Int) (cs : List S33) (t : Int) : Int × List Int := (n, cnt n ((jl p n cs (st p n)).getD t.toNat []))
theorem sp_sum (p n : Int) (hp : pr p = true) (hn : 1 ≤ n ∧ n ≤ 16) (cs : List S33) (hcs : okl p n cs) (hl : 0 < cs.length) (hl2 : cs.length ≤ 1000) (t : Int) (ht : 0 ≤ t ∧ t < p) : Ev (fun f => spec_l04Sum.f f cs t) (js p n cs t) := by
  have hb := pr_bd hp
  have h0 := hcs _ (List.getElem_mem hl)
  have hx0 : rd_T33 cs 0 = cs[0] := by simp [rd_T33, hl]
  have k1 : ∀ (d i : Nat) (rows : List (List Int)), d + i = cs.length → sh p n rows → Ev (fun f => spec_l04Sum.l1 f cs t p n rows (i : Int)) (n, cnt n ((jl p n (cs.drop i) rows).getD t.toNat [])) := by
    intro d
    induction d with
    | zero =>
      intro i rows hi h
      have e : i = cs.length := by omega
      subst e
      obtain ⟨T, rfl⟩ : ∃ T : Nat, t = T := ⟨t.toNat, by omega⟩
      have hg := sh_get h T ht.2
      refine Ev.step (f := fun f => ((spec_l01Reduce.f f n (rows.getD T [])).bind fun bt => some (bt.1, bt.2))) (fun f => ?_) ?_
      · simp only [spec_l04Sum.l1, rdL]
        rw [if_neg (by omega), if_pos (by omega), if_pos (by have := h.1; omega)]
      · rw [List.drop_length, jl, Int.toNat_natCast]
        exact Ev.bind (reduce n _ hn.1 hn.2 hg.1 hg.2) (Ev.now _)
    | succ d ih =>
      intro i rows hi h
      have hi2 : i < cs.length := by omega
      have hc := hcs _ (List.getElem_mem hi2)
      refine Ev.step (f := fun f => ((spec_l04Sum_body.f f cs (i : Int) rows p n).bind fun t2 => (spec_l04Sum.l1 f cs t p n t2 ((i : Int) + 1)))) (fun f => ?_) ?_
      · simp only [spec_l04Sum.l1]
        rw [if_pos (by omega), w64 (x := (i : Int) + 1) (by omega) (by omega)]
      · refine Ev.bind (sp_body p n hp hn cs rows h i hi2 cs[i].f2 ⟨hc.2.2.1, hc.2.2.2⟩ (by rw [← hc.1, ← hc.2.1])) ?_
        rw [List.drop_eq_getElem_cons hi2, jl]
        exact ih (i + 1) _ (by omega) (sh_jb (by omega) (by omega) _ _)
  have k0 : ∀ (d i : Nat), (d : Int) + i = p → Ev (fun f => spec_l04Sum.l0 f cs t p n (List.replicate i (List.replicate n.toNat 0)) (i : Int)) (js p n cs t) := by
    intro d
    induction d with
    | zero =>
      intro i hi
      have e : i = p.toNat := by omega
      have e2 : (List.replicate i (List.replicate n.toNat (0 : Int))).getD 0 [] = List.replicate n.toNat 0 := by rw [gE _ _ (by rw [List.length_replicate]; omega), List.getElem_replicate]
      have H := k1 cs.length 0 (st p n) (by omega) (sh_st p n (by omega) (by omega))
      refine Ev.step (fun f => ?_) H
      have e3 : rd_L2 (List.replicate i (List.replicate n.toNat (0 : Int))) 0 = List.replicate n.toNat 0 := e2
      simp only [spec_l04Sum.l0, e3, List.length_replicate]
      rw [if_neg (by omega), if_pos (by omega), if_pos (by omega), e]
      rfl
    | succ d ih =>
      intro i hi
      refine Ev.step (fun f => ?_) (ih (i + 1) (by omega))
      simp only [spec_l04Sum.l0, List.length_replicate, rep_snoc]
      rw [if_pos (by omega), if_pos (by omega), if_pos (by omega), if_pos (by omega), w64 (x := (i : Int) + 1) (by omega) (by omega)]
      rfl
  unfold spec_l04Sum.f
  simp only [if_pos (show 0 < (cs.length : Int) by omega), hx0, h0.1, h0.2.1]
  exact k0 p.toNat 0 (by omega)
theorem im_l3 (p n : Int) (hp : 0 < p ∧ p ≤ 61) (hn : 1 ≤ n ∧ n ≤ 16) (now : List (List Int)) (src : List Int) (hsl : (src.length : Int) = n) (es : List Int) (le yi ln y e : Int) (he : 0 ≤ e ∧ e < n) (x : Int) (hx : 0 ≤ x ∧ x < p) (nx : List (List Int)) (hnx : sh p n nx) (i : Nat) (hi : (i : Int) < p) (r : List (List Int)) :
    ∀ (d j : Nat) (row : List Int), (d : Int) + j = n → (row.length : Int) = n → Ev (fun f => impl_sumOver_body.l2 f p n now (nx.set i (ad n e src d j row)) y e es le yi now ln (x + 1)) r →
      Ev (fun f => impl_sumOver_body.l3 f p n now (nx.set i row) y e es le yi now ln x (i : Int) src (src.length : Int) (j : Int)) r := by
  have hil : i < nx.length := by have := hnx.1; omega
  intro d
  induction d with
  | zero =>
    intro j row hd hl H
    refine Ev.step (fun f => ?_) H
    simp only [impl_sumOver_body.l3]
    rw [if_neg (by omega), w64 (x := x + 1) (by omega) (by omega)]
    rfl
  | succ d ih =>
    intro j row hd hl H
    have hb := md_bd ((j : Int) + e) n (by omega)
    refine Ev.step (fun f => ?_) (ih (j + 1) (row.set (((j : Int) + e) % n).toNat (wrap64 (rd row (((j : Int) + e) % n) + src.getD j 0))) (by omega) (by rw [List.length_set]; exact hl) (by rw [ad] at H; exact H))
    simp only [impl_sumOver_body.l3, rdL, set_getL nx i row hil, tm_wr (j : Int) e n (by omega) (by omega) (by omega), List.set_set, List.length_set, Int.toNat_natCast]
    rw [if_pos (by omega), if_pos (by omega), if_pos (by omega), if_pos (by omega), if_pos (by omega), if_neg (by omega), if_pos hb.1, if_pos (by omega), w64 (x := (j : Int) + 1) (by omega) (by omega)]
    simp only [rd, Int.toNat_natCast]
    rfl
theorem im_l2 (p n : Int) (hp : 0 < p ∧ p ≤ 61) (hn : 1 ≤ n ∧ n ≤ 16) (now : List (List Int)) (hnow : sh p n now) (es : List Int) (le y e : Int) (hy : 0 ≤ y ∧ y < p) (he : 0 ≤ e ∧ e < n) (r : List (List Int)) :
    ∀ (d x : Nat) (nx : List (List Int)), (d : Int) + x = p → sh p n nx → Ev (fun f => impl_sumOver_body.l1 f p n now (ax2 p n y e now d x nx) es le (y + 1)) r →
      Ev (fun f => impl_sumOver_body.l2 f p n now nx y e es le y now (now.length : Int) (x : Int)) r := by
  have hnl := hnow.1
  intro d
  induction d with
  | zero =>
    intro x nx hd h H
    refine Ev.step (fun f => ?_) H
    simp only [impl_sumOver_body.l2]
    rw [if_neg (by omega), w64 (x := y + 1) (by omega) (by omega)]
    rfl
  | succ d ih =>
    intro x nx hd h H
    have hb := md_bd ((x : Int) + y) p hp.1
    obtain ⟨i, hi⟩ : ∃ i : Nat, ((x : Int) + y) % p = i := ⟨(((x : Int) + y) % p).toNat, by omega⟩
    have hg := sh_get h i (by omega)
    have hs := sh_get hnow x (by omega)
    have hil : i < nx.length := by have := h.1; omega
    have e1 : nx = nx.set i (nx.getD i []) := by rw [gE _ _ hil, List.set_getElem_self]
    refine Ev.step (f := fun f => impl_sumOver_body.l3 f p n now nx y e es le y now (now.length : Int) (x : Int) (i : Int) (now.getD x []) ((now.getD x []).length : Int) 0) (fun f => ?_) ?_
    · simp only [impl_sumOver_body.l2, tm_wr (x : Int) y p (by omega) (by omega) (by omega), hi, rdL]
      rw [if_pos (by omega), if_pos (by omega), if_pos (by omega), if_neg (by omega), if_pos (by omega), if_pos (by omega)]
    · have H2 := im_l3 p n hp hn now (now.getD x []) hs.1 es le y (now.length : Int) y e he (x : Int) (by omega) nx h i (by omega) r n.toNat 0 (nx.getD i []) (by omega) hg.1
      rw [← e1] at H2
      refine H2 (ih (x + 1) _ (by omega) (sh_set h _ _ (by rw [ad_len]; exact hg.1) (ad_in _ _ _ _ _ _ hg.2)) ?_)
      rw [ax2, hi, Int.toNat_natCast] at H
      exact H
theorem im_l1 (p n : Int) (hp : pr p = true) (hn : 1 ≤ n ∧ n ≤ 16) (now : List (List Int)) (hnow : sh p n now) (c : Int) :
    ∀ (d y : Nat) (nx : List (List Int)), (d : Int) + y = p → 1 ≤ y → sh p n nx → Ev (fun f => impl_sumOver_body.l1 f p n now nx (ex p n c) ((ex p n c).length : Int) (y : Int)) (ay p n (ex p n c) now d y nx) := by
  have hb := pr_bd hp
  have hxl := ex_len p n c hp
  intro d
  induction d with
  | zero =>
    intro y nx hd hy h
    refine Ev.step (f := fun _ => some nx) (fun f => ?_) (Ev.now _)
    simp only [impl_sumOver_body.l1]
    rw [if_neg (by omega)]
  | succ d ih =>
    intro y nx hd hy h
    obtain ⟨_, e2, _, _⟩ := ex_get p n c hp hn.1 y hy (by omega)
    have e3 : (ex p n c).getD y 0 < n := by
      rw [gE _ _ (by omega)]
      exact (ex_bd p n c hn.1 _ (List.getElem_mem _)).2
    have e4 : rd (ex p n c) (y : Int) = (ex p n c).getD y 0 := by rw [rd, Int.toNat_natCast]
    refine Ev.step (f := fun f => impl_sumOver_body.l2 f p n now nx (y : Int) ((ex p n c).getD y 0) (ex p n c) ((ex p n c).length : Int) (y : Int) now (now.length : Int) 0) (fun f => ?_) ?_
    · simp only [impl_sumOver_body.l1, e4]
      rw [if_pos (by omega), if_pos (by omega), if_pos (by omega), if_neg (by omega)]
    · rw [ay]
      exact im_l2 p n ⟨by omega, hb.2⟩ hn now hnow _ _ (y : Int) _ (by omega) ⟨e2, e3⟩ _ p.toNat 0 nx (by omega) h (ih (y + 1) _ (by omega) (by omega) (sh_ax2 (by omega) _ _ _ _ _ _ h))
theorem rep_set {α : Type} (i d : Nat) (Z W : α) : (List.replicate i Z ++ List.replicate (d + 1) W).set i Z = List.replicate (i + 1) Z ++ List.replicate d W := by
  rw [List.set_append_right _ _ (by simp), List.length_replicate, Nat.sub_self, List.replicate_succ (n := d), List.set_cons_zero, ← rep_snoc, List.append_assoc]
  rfl
theorem im_body (p n : Int) (hp : pr p = true) (hn : 1 ≤ n ∧ n ≤ 16) (x0 : List S33) (now : List (List Int)) (hnow : sh p n now) (q : Nat) (hq : q < x0.length) (c : Int) (hc : 0 ≤ c ∧ c ≤ 15) (hx : x0[q] = ⟨p, n, c⟩) :
    Ev (fun f => impl_sumOver_body.f f x0 (q : Int) now p n) (jb p n (ex p n c) now) := by
  have hb := pr_bd hp
  have hxl := ex_len p n c hp
  have hx2 : rd_T33 x0 (q : Int) = ⟨p, n, c⟩ := by rw [← hx]; simp [rd_T33, hq]
  have key : ∀ (d i : Nat), (d : Int) + i = p → Ev (fun f => impl_sumOver_body.l0 f p n now (List.replicate i (List.replicate n.toNat 0) ++ List.replicate d []) (p.toNat : Int) (i : Int) p n c) (jb p n (ex p n c) now) := by
    intro d
    induction d with
    | zero =>
      intro i hi
      have e : i = p.toNat := by omega
      refine Ev.step (f := fun f => ((impl_exponents.f f p n c).bind fun t => (impl_sumOver_body.l1 f p n now (zz p n) t (t.length : Int) 0))) (fun f => ?_) ?_
      · simp only [impl_sumOver_body.l0]
        rw [if_neg (by omega), e, List.replicate_zero, List.append_nil]
        rfl
      · refine Ev.bind (exponents p n c hp hn hc) ?_
        have e0 : rd (ex p n c) 0 = -1 := rfl
        refine Ev.step (fun f => ?_) (im_l1 p n hp hn now hnow c (p.toNat - 1) 1 (zz p n) (by omega) (by omega) (sh_zz p n (by omega) (by omega)))
        simp only [impl_sumOver_body.l1, e0]
        rw [if_pos (by omega), if_pos (by omega), if_pos (by omega), if_pos (by omega), w64 (x := (0 : Int) + 1) (by omega) (by omega)]
        rfl
    | succ d ih =>
      intro i hi
      refine Ev.step (fun f => ?_) (ih (i + 1) (by omega))
      simp only [impl_sumOver_body.l0, List.length_append, List.length_replicate, Int.toNat_natCast, rep_set]
      rw [if_pos (by omega), if_pos (by omega), if_pos (by omega), if_pos (by omega), if_pos (by omega), w64 (x := (i : Int) + 1) (by omega) (by omega)]
      rfl
  unfold impl_sumOver_body.f
  simp only [hx2, if_pos (show 0 ≤ (q : Int) by omega), if_pos (show (q : Int) < (x0.length : Int) by omega), if_pos (show 0 ≤ p by omega), if_pos (show p.toNat ≤ 11728124029610 by omega), Option.bind_some, List.length_replicate]
  simpa using key p.toNat 0 (by omega)
theorem im_sum (p n : Int) (hp : pr p = true) (hn : 1 ≤ n ∧ n ≤ 16) (cs : List S33) (hcs : okl p n cs) (hl : 0 < cs.length) (hl2 : cs.length ≤ 1000) (t : Int) (ht : 0 ≤ t ∧ t < p) : Ev (fun f => impl_sumOver.f f cs t) (js p n cs t) := by
  have hb := pr_bd hp
  have h0 := hcs _ (List.getElem_mem hl)
  have hx0 : rd_T33 cs 0 = cs[0] := by simp [rd_T33, hl]
  have k1 : ∀ (d i : Nat) (rows : List (List Int)), d + i = cs.length → sh p n rows → Ev (fun f => impl_sumOver.l1 f t p n rows cs (cs.length : Int) (i : Int)) (n, cnt n ((jl p n (cs.drop i) rows).getD t.toNat [])) := by
    intro d
    induction d with
    | zero =>
      intro i rows hi h
      have e : i = cs.length := by omega
      subst e
      obtain ⟨T, rfl⟩ : ∃ T : Nat, t = T := ⟨t.toNat, by omega⟩
      have hg := sh_get h T ht.2
      refine Ev.step (f := fun f => ((impl_counted.f f n (rows.getD T [])).bind fun bt => some (n, bt))) (fun f => ?_) ?_
      · simp only [impl_sumOver.l1, rdL]
        rw [if_neg (by omega), if_pos (by omega), if_pos (by have := h.1; omega)]
      · rw [List.drop_length, jl, Int.toNat_natCast]
        exact Ev.bind (counted n _ hn.1 hn.2 hg.1) (Ev.now _)
    | succ d ih =>
      intro i rows hi h
      have hi2 : i < cs.length := by omega
      have hc := hcs _ (List.getElem_mem hi2)
      refine Ev.step (f := fun f => ((impl_sumOver_body.f f cs (i : Int) rows p n).bind fun t2 => (impl_sumOver.l1 f t p n t2 cs (cs.length : Int) ((i : Int) + 1)))) (fun f => ?_) ?_
      · simp only [impl_sumOver.l1]
        rw [if_pos (by omega), w64 (x := (i : Int) + 1) (by omega) (by omega)]
      · refine Ev.bind (im_body p n hp hn cs rows h i hi2 cs[i].f2 ⟨hc.2.2.1, hc.2.2.2⟩ (by rw [← hc.1, ← hc.2.1])) ?_
        rw [List.drop_eq_getElem_cons hi2, jl]
        exact ih (i + 1) _ (by omega) (sh_jb (by omega) (by omega) _ _)
  have k0 : ∀ (d i : Nat), (d : Int) + i = p → Ev (fun f => impl_sumOver.l0 f cs t p n (List.replicate i (List.replicate n.toNat 0) ++ List.replicate d []) (p.toNat : Int) (i : Int)) (js p n cs t) := by
    intro d
    induction d with
    | zero =>
      intro i hi
      have e : i = p.toNat := by omega
      have e2 : (List.replicate i (List.replicate n.toNat (0 : Int))).getD 0 [] = List.replicate n.toNat 0 := by rw [gE _ _ (by rw [List.length_replicate]; omega), List.getElem_replicate]
      have H := k1 cs.length 0 (st p n) (by omega) (sh_st p n (by omega) (by omega))
      refine Ev.step (fun f => ?_) H
      have e3 : rd_L2 (List.replicate i (List.replicate n.toNat (0 : Int))) 0 = List.replicate n.toNat 0 := e2
      simp only [impl_sumOver.l0, List.replicate_zero, List.append_nil, e3, List.length_replicate]
      rw [if_neg (by omega), if_pos (by omega), if_pos (by omega), e]
      rfl
    | succ d ih =>
      intro i hi
      refine Ev.step (fun f => ?_) (ih (i + 1) (by omega))
      simp only [impl_sumOver.l0, List.length_append, List.length_replicate, Int.toNat_natCast, rep_set]
      rw [if_pos (by omega), if_pos (by omega), if_pos (by omega), if_pos (by omega), if_pos (by omega), w64 (x := (i : Int) + 1) (by omega) (by omega)]
      rfl
  unfold impl_sumOver.f
  simp only [if_pos (show 0 < (cs.length : Int) by omega), hx0, h0.1, h0.2.1, if_pos (show 0 ≤ p by omega), if_pos (show p.toNat ≤ 11728124029610 by omega), Option.bind_some, List.length_replicate]
  simpa using k0 p.toNat 0 (by omega)
theorem js_len (p n : Int) (hp : pr p = true) (hn : 1 ≤ n ∧ n ≤ 16) (cs : List S33) (t : Int) : (js p n cs t).2.length = phn n := (cnt_spec n _ hn.1 hn.2).1
theorem nMark_len : ∀ (l : List Int) (a : Int), (nMark l a).2.length = l.length
  | [], _ => rfl
  | _ :: l, a => by simp [nMark, nMark_len l]
theorem nMark_fst : ∀ (l : List Int) (a : Int), 0 ≤ a → a + l.length ≤ 9223372036854775807 → (nMark l a).1 = a + l.length
  | [], a, _, _ => by simp [nMark]
  | _ :: l, a, h0, h1 => by
    simp only [List.length_cons] at h1
    simp only [nMark]
    rw [w64 (x := a + 1) (by omega) (by omega), nMark_fst l (a + 1) (by omega) (by omega)]
    simp only [List.length_cons]
    omega
theorem nHeld_l0 : ∀ (rest done : List Int) (a : Int), done.length + rest.length ≤ 1048576 → Ev (fun k => laws_heldInt64S.l0 k (done ++ (nMark rest a).2) a (done.length : Int)) (nMark rest a).1
  | [], done, a, h => by
    refine Ev.step (f := fun _ => some a) (fun k => ?_) (Ev.now _)
    simp only [laws_heldInt64S.l0, nMark, List.append_nil]
    rw [if_neg (by omega)]
  | x :: rest, done, a, h => by
    simp only [List.length_cons] at h
    have ih := nHeld_l0 rest (done ++ [a]) (wrap64 (a + 1)) (by simp; omega)
    refine Ev.step (f := fun k => laws_heldInt64S.l0 k ((done ++ [a]) ++ (nMark rest (wrap64 (a + 1))).2) (wrap64 (a + 1)) ((done ++ [a]).length : Int)) (fun k => ?_) ?_
    · simp only [laws_heldInt64S.l0, nMark]
      have hl := nMark_len rest (wrap64 (a + 1))
      have c1 : (done.length : Int) < ((done ++ a :: (nMark rest (wrap64 (a + 1))).2).length : Int) := by rw [List.length_append, List.length_cons]; omega
      have c2 : rd (done ++ a :: (nMark rest (wrap64 (a + 1))).2) (done.length : Int) = a := by simp [rd]
      simp only [if_pos c1, if_pos c2, if_pos (show (0 : Int) ≤ (done.length : Int) by omega), w64 (x := (done.length : Int) + 1) (by omega) (by omega)]
      simp
    · simpa [nMark] using ih
theorem nHeld (l : List Int) (a : Int) (h : l.length ≤ 1048576) : Ev (fun k => laws_heldInt64S.f k (nMark l a).2 a) (nMark l a).1 := by
  have := nHeld_l0 l [] a (by simpa using h)
  unfold laws_heldInt64S.f
  simpa using this
theorem nMarkC_len : ∀ (l : List S43) (a : Int), (nMarkC l a).2.length = l.length
  | [], _ => rfl
  | _ :: l, a => by simp [nMarkC, nMarkC_len l]
theorem nMarkC_fst : ∀ (l : List S43) (a : Int), 0 ≤ a → (∀ x ∈ l, x.f1.length ≤ 100) → a + 101 * l.length ≤ 1000000000000 → 0 ≤ (nMarkC l a).1 ∧ (nMarkC l a).1 ≤ a + 101 * l.length
  | [], a, h0, _, _ => by simp [nMarkC]; exact h0
  | x :: l, a, h0, hx, h1 => by
    have h2 := hx x (by simp)
    simp only [List.length_cons] at h1 ⊢
    simp only [nMarkC]
    rw [w64 (x := a + 1) (by omega) (by omega), nMark_fst x.f1 (a + 1) (by omega) (by omega)]
    have := nMarkC_fst l (a + 1 + x.f1.length) (by omega) (fun y hy => hx y (List.mem_cons_of_mem _ hy)) (by omega)
    omega
theorem nHeldC_l0 : ∀ (rest done : List S43) (a : Int), 0 ≤ a → (∀ x ∈ rest, x.f1.length ≤ 100) → a + 101 * rest.length ≤ 1000000000000 → done.length + rest.length ≤ 1048576 → Ev (fun k => laws_heldCycloS.l0 k (done ++ (nMarkC rest a).2) a (done.length : Int)) (nMarkC rest a).1
  | [], done, a, _, _, _, h => by
    refine Ev.step (f := fun _ => some a) (fun k => ?_) (Ev.now _)
    simp only [laws_heldCycloS.l0, nMarkC, List.append_nil]
    rw [if_neg (by omega)]
  | x :: rest, done, a, h0, hx, h1, h => by
    have h2 := hx x (by simp)
    simp only [List.length_cons] at h h1
    have e1 : wrap64 (a + 1) = a + 1 := w64 (by omega) (by omega)
    have e2 := nMark_fst x.f1 (a + 1) (by omega) (by omega)
    have ih := nHeldC_l0 rest (done ++ [⟨a, (nMark x.f1 (a + 1)).2⟩]) (a + 1 + x.f1.length) (by omega) (fun y hy => hx y (List.mem_cons_of_mem _ hy)) (by omega) (by simp; omega)
    have hh := nHeld x.f1 (a + 1) (by omega)
    have hl := nMarkC_len rest (a + 1 + x.f1.length)
    refine Ev.step (f := fun k => (laws_heldInt64S.f k (nMark x.f1 (a + 1)).2 (a + 1)).bind fun t => if t < 0 then some (-1) else laws_heldCycloS.l0 k (done ++ [⟨a, (nMark x.f1 (a + 1)).2⟩] ++ (nMarkC rest (a + 1 + x.f1.length)).2) t ((done ++ [(⟨a, (nMark x.f1 (a + 1)).2⟩ : S43)]).length : Int)) (fun k => ?_) ?_
    · simp only [laws_heldCycloS.l0, nMarkC, e1, e2]
      have er : rd_T43 (done ++ ⟨a, (nMark x.f1 (a + 1)).2⟩ :: (nMarkC rest (a + 1 + x.f1.length)).2) (done.length : Int) = ⟨a, (nMark x.f1 (a + 1)).2⟩ := by simp [rd_T43]
      have c1 : (done.length : Int) < ((done ++ (⟨a, (nMark x.f1 (a + 1)).2⟩ : S43) :: (nMarkC rest (a + 1 + x.f1.length)).2).length : Int) := by rw [List.length_append, List.length_cons]; omega
      simp only [if_pos c1, if_pos (show (0 : Int) ≤ (done.length : Int) by omega), er, if_true, w64 (x := (done.length : Int) + 1) (by omega) (by omega)]
      simp
    · refine Ev.bind hh ?_
      simp only [e2, if_neg (show ¬ a + 1 + (x.f1.length : Int) < 0 by omega), nMarkC, e1]
      exact ih
theorem nHeldC (l : List S43) (hx : ∀ x ∈ l, x.f1.length ≤ 100) (h : l.length ≤ 1000000) : Ev (fun k => laws_heldCycloS.f k (nMarkC l 1).2 1) (nMarkC l 1).1 := by
  have := nHeldC_l0 l [] 1 (by omega) hx (by omega) (by simp; omega)
  unfold laws_heldCycloS.f
  simpa using this
theorem eqCs_l0 (l : List S43) (hx : ∀ x ∈ l, x.f1.length ≤ 100) (hl : l.length ≤ 1000000) : ∀ (d i : Nat), d + i = l.length → Ev (fun k => laws_eqCycloS.l0 k l l (i : Int)) true := by
  intro d
  induction d with
  | zero =>
    intro i hi
    refine Ev.step (f := fun _ => some true) (fun k => ?_) (Ev.now _)
    simp only [laws_eqCycloS.l0]
    rw [if_neg (by omega)]
  | succ d ih =>
    intro i hi
    have hm : rd_T43 l (i : Int) ∈ l := by
      unfold rd_T43
      rw [List.getD_eq_getElem?_getD, List.getElem?_eq_getElem (by simp; omega)]
      exact List.getElem_mem _
    have hh := hx _ hm
    have he := eqCyclo (rd_T43 l (i : Int)).f0 (rd_T43 l (i : Int)).f0 (rd_T43 l (i : Int)).f1 (rd_T43 l (i : Int)).f1 (by omega)
    refine Ev.step (f := fun k => (laws_eqCyclo.f k (rd_T43 l (i : Int)).f0 (rd_T43 l (i : Int)).f1 (rd_T43 l (i : Int)).f0 (rd_T43 l (i : Int)).f1).bind fun t => if t = true then laws_eqCycloS.l0 k l l ((i + 1 : Nat) : Int) else some false) (fun k => ?_) ?_
    · simp only [laws_eqCycloS.l0]
      simp only [if_pos (show (i : Int) < (l.length : Int) by omega), if_pos (show (0 : Int) ≤ (i : Int) by omega), w64 (x := (i : Int) + 1) (by omega) (by omega)]
      rfl
    · refine Ev.bind he ?_
      simp only [and_self, decide_true, if_true]
      exact ih (i + 1) (by omega)
theorem eqCs (l : List S43) (hx : ∀ x ∈ l, x.f1.length ≤ 100) (hl : l.length ≤ 1000000) : Ev (fun k => laws_eqCycloS.f k l l) true := by
  have := eqCs_l0 l hx hl l.length 0 (by omega)
  unfold laws_eqCycloS.f
  simp only [eq_self, if_true]
  simpa using this
theorem markCs (l : List S43) (hx : ∀ x ∈ l, x.f1.length ≤ 100) (hl : l.length ≤ 1000000) : laws_markCS_A.f l 1 = some (nMarkC l 1).2 ∧ laws_markCS_B.f l 1 = some (nMarkC l 1).1 := by
  have : l.length ≤ 1000000 ∧ l.all (fun x => decide (x.f1.length ≤ 1000000)) = true := ⟨hl, List.all_eq_true.mpr fun x h => by have := hx x h; simp; omega⟩
  exact ⟨by unfold laws_markCS_A.f; rw [if_pos this], by unfold laws_markCS_B.f; rw [if_pos this]⟩
def je (p n c : Int) (k : Nat) : S43 := ⟨(js p n [⟨p, n, c⟩, ⟨p, n, (k : Int)⟩] 1).1, (js p n [⟨p, n, c⟩, ⟨p, n, (k : Int)⟩] 1).2⟩
def jrow (p n c : Int) (m : Nat) : List S43 := (List.range m).map (je p n c)
theorem jrow_len (p n c : Int) (m : Nat) : (jrow p n c m).length = m := by simp [jrow]
theorem jrow_succ (p n c : Int) (m : Nat) : jrow p n c m ++ [je p n c m] = jrow p n c (m + 1) := by simp [jrow, List.range_succ]
theorem okl2 (p n c : Int) (k : Nat) (hc : 0 ≤ c ∧ c ≤ 15) (hk : (k : Int) ≤ 15) : okl p n [⟨p, n, c⟩, ⟨p, n, (k : Int)⟩] := by
  intro x hx
  simp only [List.mem_cons, List.not_mem_nil, or_false] at hx
  rcases hx with rfl | rfl
  · exact ⟨rfl, rfl, hc.1, hc.2⟩
  · exact ⟨rfl, rfl, by simp, by simpa using hk⟩
theorem sp_row (p n c : Int) (hp : pr p = true) (hn : 1 ≤ n ∧ n ≤ 16) (hc : 0 ≤ c ∧ c ≤ 15) : ∀ (d k : Nat), (d : Int) + k = n → Ev (fun f => spec_JacobiRow.l0 f (jrow p n c k) (k : Int) p n c) (jrow p n c n.toNat, 0) := by
  have hb := pr_bd hp
  intro d
  induction d with
  | zero =>
    intro k hk
    refine Ev.step (f := fun _ => some (jrow p n c k, 0)) (fun f => ?_) ?_
    · simp only [spec_JacobiRow.l0]
      rw [if_neg (by omega)]
    · rw [show n.toNat = k by omega]
      exact Ev.now _
  | succ d ih =>
    intro k hk
    refine Ev.step (f := fun f => (spec_l04Jacobi.f f p n c p n (k : Int)).bind fun b => if (jrow p n c k).length < 4398046511104 then spec_JacobiRow.l0 f (jrow p n c k ++ [⟨b.1, b.2⟩]) ((k + 1 : Nat) : Int) p n c else none) (fun f => ?_) ?_
    · simp only [spec_JacobiRow.l0]
      rw [if_pos (by omega), w64 (x := (k : Int) + 1) (by omega) (by omega)]
      rfl
    · refine Ev.bind (a := js p n [⟨p, n, c⟩, ⟨p, n, (k : Int)⟩] 1) ?_ ?_
      · unfold spec_l04Jacobi.f
        exact Ev.bind (sp_sum p n hp hn _ (okl2 p n c k hc (by omega)) (by simp) (by simp) 1 (by omega)) (Ev.now _)
      · simp only [if_pos (show (jrow p n c k).length < 4398046511104 by rw [jrow_len]; omega)]
        have := ih (k + 1) (by omega)
        rw [← jrow_succ] at this
        exact this
def chs (p n : Int) (m : Nat) : List S33 := (List.range m).map fun k : Nat => (⟨p, n, (k : Int)⟩ : S33)
theorem chs_len (p n : Int) (m : Nat) : (chs p n m).length = m := by simp [chs]
theorem im_chs (p n : Int) (hn : 1 ≤ n ∧ n ≤ 16) : ∀ (d k : Nat), (d : Int) + k = n → Ev (fun f => impl_charactersOf.l0 f p n (chs p n k) n (k : Int)) (chs p n n.toNat) := by
  intro d
  induction d with
  | zero =>
    intro k hk
    refine Ev.step (f := fun _ => some (chs p n k)) (fun f => ?_) ?_
    · simp only [impl_charactersOf.l0]
      rw [if_neg (by omega)]
    · rw [show n.toNat = k by omega]
      exact Ev.now _
  | succ d ih =>
    intro k hk
    refine Ev.step (f := fun f => impl_charactersOf.l0 f p n (chs p n (k + 1)) n ((k + 1 : Nat) : Int)) (fun f => ?_) (ih (k + 1) (by omega))
    simp only [impl_charactersOf.l0]
    rw [if_pos (by omega), if_pos (by rw [chs_len]; omega), w64 (x := (k : Int) + 1) (by omega) (by omega)]
    simp [chs, List.range_succ]
theorem im_row (p n c : Int) (hp : pr p = true) (hn : 1 ≤ n ∧ n ≤ 16) (hc : 0 ≤ c ∧ c ≤ 15) : ∀ (d k : Nat), (d : Int) + k = n → Ev (fun f => impl_JacobiRow.l0 f (jrow p n c k) (chs p n n.toNat) n (k : Int) p n c) (jrow p n c n.toNat, 0) := by
  have hb := pr_bd hp
  intro d
  induction d with
  | zero =>
    intro k hk
    refine Ev.step (f := fun _ => some (jrow p n c k, 0)) (fun f => ?_) ?_
    · simp only [impl_JacobiRow.l0]
      rw [if_neg (by omega)]
    · rw [show n.toNat = k by omega]
      exact Ev.now _
  | succ d ih =>
    intro k hk
    have er : rd_T33 (chs p n n.toNat) (k : Int) = ⟨p, n, (k : Int)⟩ := by
      unfold rd_T33
      rw [List.getD_eq_getElem?_getD, List.getElem?_eq_getElem (by simp [chs]; omega)]
      simp [chs]
    refine Ev.step (f := fun f => (impl_sumOver.f f [⟨p, n, c⟩, ⟨p, n, (k : Int)⟩] 1).bind fun b => if (jrow p n c k).length < 4398046511104 then impl_JacobiRow.l0 f (jrow p n c k ++ [⟨b.1, b.2⟩]) (chs p n n.toNat) n ((k + 1 : Nat) : Int) p n c else none) (fun f => ?_) ?_
    · simp only [impl_JacobiRow.l0, er]
      rw [if_pos (by omega), if_pos (by omega), if_pos (by rw [chs_len]; omega), w64 (x := (k : Int) + 1) (by omega) (by omega)]
      rfl
    · refine Ev.bind (im_sum p n hp hn _ (okl2 p n c k hc (by omega)) (by simp) (by simp) 1 (by omega)) ?_
      simp only [if_pos (show (jrow p n c k).length < 4398046511104 by rw [jrow_len]; omega)]
      have := ih (k + 1) (by omega)
      rw [← jrow_succ] at this
      exact this
def out (p n c : Int) : List S43 × Int := if okC p n c then (jrow p n c n.toNat, 0) else ([], 1)
theorem spec_out (p n c : Int) : Ev (fun k => spec_JacobiRow.f k p n c) (out p n c) := by
  unfold spec_JacobiRow.f out
  refine Ev.bind (l03Is p n c) ?_
  cases h : okC p n c with
  | false => simp only [Bool.false_eq_true, if_false]; exact Ev.now _
  | true =>
    obtain ⟨hp, hn, _, hc0, hc1⟩ := okC_iff.mp h
    simp only [if_true]
    exact sp_row p n c hp hn ⟨hc0, by omega⟩ n.toNat 0 (by omega)
theorem impl_out (p n c : Int) (h0 : -9223372036854775808 ≤ p) (h1 : p ≤ 9223372036854775807) : Ev (fun k => impl_JacobiRow.f k p n c) (out p n c) := by
  unfold impl_JacobiRow.f out
  refine Ev.bind (isCharacter p n c h0 h1) ?_
  cases h : okC p n c with
  | false => simp only [Bool.false_eq_true, if_false]; exact Ev.now _
  | true =>
    obtain ⟨hp, hn, _, hc0, hc1⟩ := okC_iff.mp h
    simp only [if_true]
    refine Ev.bind (a := chs p n n.toNat) ?_ ?_
    · unfold impl_charactersOf.f
      exact im_chs p n hn n.toNat 0 (by omega)
    · rw [chs_len, show ((n.toNat : Nat) : Int) = n by omega]
      exact im_row p n c hp hn ⟨hc0, by omega⟩ n.toNat 0 (by omega)
theorem out_ok (p n c : Int) : (out p n c).1.length ≤ 1000 ∧ ∀ x ∈ (out p n c).1, x.f1.length ≤ 100 := by
  unfold out
  cases h : okC p n c with
  | false => simp
  | true =>
    obtain ⟨hp, hn, _, hc0, hc1⟩ := okC_iff.mp h
    have hph := phn_bd n hn.1 hn.2
    simp only [if_true]
    refine ⟨by rw [jrow_len]; omega, fun x hx => ?_⟩
    obtain ⟨k, _, rfl⟩ := List.mem_map.mp hx
    have := js_len p n hp hn [⟨p, n, c⟩, ⟨p, n, (k : Int)⟩] 1
    show (js p n [⟨p, n, c⟩, ⟨p, n, (k : Int)⟩] 1).2.length ≤ 100
    omega
theorem FnExactJacobiRow : laws_FnExactJacobiRow.Pure := by
  intro p n c hp hn hc
  apply Ev.rounds
  have hp2 := wf64 hp
  obtain ⟨⟨l, e⟩, ho⟩ : ∃ o, o = out p n c := ⟨_, rfl⟩
  have hs := spec_out p n c
  have hi := impl_out p n c hp2.1 hp2.2
  have hl := out_ok p n c
  rw [← ho] at hs hi hl
  obtain ⟨hl1, hl2⟩ := hl
  simp only at hl1 hl2
  have hq := eqCs l hl2 (by omega)
  obtain ⟨mA, mB⟩ := markCs l hl2 (by omega)
  have hh := nHeldC l hl2 (by omega)
  have hf := nMarkC_fst l 1 (by omega) hl2 (by omega)
  unfold laws_FnExactJacobiRow.f laws_toCharacter.f
  simp only [Option.bind_some]
  refine Ev.bind hs (Ev.bind hi (Ev.bind hq ?_))
  simp only [if_true, bne_self_eq_false]
  refine Ev.step (fun k => by simp only [laws_FnExactJacobiRow.j0, Bool.false_eq_true, if_false, laws_toCharacter.f, Option.bind_some] <;> rfl) ?_
  refine ev_bind_const mB (ev_bind_const mA (Ev.bind hh ?_))
  simp only [if_neg (show ¬ (nMarkC l 1).1 < 0 by omega), if_true]
  refine Ev.bind hi (Ev.bind hq ?_)
  simp only [if_true, bne_self_eq_false]
  refine Ev.step (fun k => by simp only [laws_FnExactJacobiRow.j1, Bool.false_eq_true, if_false] <;> rfl) ?_
  refine Ev.bind hh ?_
  simp only [if_neg (show ¬ (nMarkC l 1).1 < 0 by omega), if_true]
  exact Ev.now _
end Go.Proofs.Ythdpdiahkphklab.Pure
