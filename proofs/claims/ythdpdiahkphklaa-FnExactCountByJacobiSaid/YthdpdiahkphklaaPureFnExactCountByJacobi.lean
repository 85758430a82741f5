/- The program's CountByJacobi returns what the reference's returns, for all arguments; no condition. -/
import Derived.Test.YthdpdiahkphklaaPFnExactCountByJacobix10
import Derived.OpenShut
namespace Go.Proofs.Ythdpdiahkphklaa.Pure
open Go.RowKit Go.Proofs.Ythdpdiahkphklaa.PFnExactCountByJacobi Go.Proofs.YthdpdiahkphklaaW.PrintWords Go.Proofs.YthdpdiahkphklaaW.PrintLast Go.Proofs.YthdpdiahkphklaaW.PrintMore
set_option linter.unusedVariables false
set_option linter.unusedSimpArgs false
theorem w64 {x : Int} (h0 : -9223372036854775808 ≤ x) (h1 : x ≤ 9223372036854775807) : wrap64 x = x := by unfold wrap64; omega
theorem wf64 {x : Int} (h : (Lit.int .i64 x).wf = true) : -9223372036854775808 ≤ x ∧ x ≤ 9223372036854775807 := bounds_i64 h
theorem ev_bind_const {α β : Type} {o : Option α} {a : α} {f : Nat → α → Option β} {r : β} (h : o = some a) (k : Ev (fun n => f n a) r) : Ev (fun n => o.bind (f n)) r := by
  subst h; exact k
def phi (n : Int) : Int := [0, 1, 1, 2, 2, 4, 2, 6, 4, 6, 4, 10, 4, 12, 6, 8, 8].getD n.toNat 0
theorem orders {P : Int → Prop} (h : ∀ m : Nat, m < 17 → 1 ≤ m → P m) (n : Int) (h0 : 1 ≤ n) (h1 : n ≤ 16) : P n := by
  have := h n.toNat (by omega) (by omega)
  rwa [Int.toNat_of_nonneg (by omega)] at this
theorem phi_spec (n : Int) (h0 : 1 ≤ n) (h1 : n ≤ 16) : Ev (fun k => spec_l01Phi.f k n) (phi n) := by
  have key : ∀ m : Nat, m < 17 → 1 ≤ m → spec_l01Phi.f 60 (m : Int) = some (phi m) := by decide +kernel
  exact Ev.of (spec_l01Phi.mono n) (orders (P := fun n => spec_l01Phi.f 60 n = some (phi n)) key n h0 h1)
theorem l01In (a b c : Int) : spec_l01In.f a b c = some (decide (b ≤ a) && decide (a ≤ c)) := by
  unfold spec_l01In.f
  by_cases h : a ≥ b
  · rw [if_pos h]; simp [h]
  · rw [if_neg h]; simp [h]
theorem within_ (a b c : Int) : impl_within.f a b c = some (decide (b ≤ a) && decide (a ≤ c)) := by
  unfold impl_within.f
  by_cases h : b ≤ a
  · rw [if_pos h]; simp [h]
  · rw [if_neg h]; simp [h]
def prs : List Int := [3, 5, 7, 11, 13, 17, 19, 23, 29, 31, 37, 41, 43, 47, 53, 59, 61]
def pr (l : Int) : Bool := prs.contains l
theorem pr_iff {l : Int} : pr l = true ↔ l ∈ prs := by unfold pr; exact List.contains_iff_mem
theorem pr_bd {l : Int} (h : pr l = true) : 3 ≤ l ∧ l ≤ 61 := by
  rw [pr_iff] at h
  simp only [prs, List.mem_cons, List.not_mem_nil, or_false] at h
  omega
theorem upto61 {P : Int → Prop} (h : ∀ m : Nat, m < 62 → P m) (n : Int) (h0 : 0 ≤ n) (h1 : n ≤ 61) : P n := by
  have := h n.toNat (by omega)
  rwa [Int.toNat_of_nonneg (by omega)] at this
theorem isPrime_big (p : Int) (h0 : 61 < p) (h1 : p ≤ 9223372036854775807) : ∀ (n : Nat) (d : Int), 2 ≤ d → d ≤ p → (p - d).toNat = n → Ev (fun k => impl_isPrime.l0 k p d) false := by
  intro n
  induction n with
  | zero =>
    intro d hd hp hn
    have : d = p := by omega
    subst this
    refine Ev.step (f := fun _ => some false) (fun k => ?_) (Ev.now _)
    simp only [impl_isPrime.l0]
    by_cases c : wrap64 (d * d) ≤ d
    · rw [if_pos c, if_neg (by omega), if_pos (Int.tmod_self)]
    · rw [if_neg c, within_, Option.bind_some]
      simp
      omega
  | succ n ih =>
    intro d hd hp hn
    by_cases c : wrap64 (d * d) ≤ p
    · by_cases c2 : Int.tmod p d = 0
      · refine Ev.step (f := fun _ => some false) (fun k => ?_) (Ev.now _)
        simp only [impl_isPrime.l0]
        rw [if_pos c, if_neg (by omega), if_pos c2]
      · refine Ev.step (fun k => ?_) (ih (d + 1) (by omega) (by omega) (by omega))
        simp only [impl_isPrime.l0]
        rw [if_pos c, if_neg (by omega), if_neg c2, w64 (by omega) (by omega)]
    · refine Ev.step (f := fun _ => some false) (fun k => ?_) (Ev.now _)
      simp only [impl_isPrime.l0]
      rw [if_neg c, within_, Option.bind_some]
      simp
      omega
theorem isPrime (p : Int) (h0 : -9223372036854775808 ≤ p) (h1 : p ≤ 9223372036854775807) : Ev (fun k => impl_isPrime.f k p) (pr p) := by
  by_cases c : 61 < p
  · have e : pr p = false := by
      cases h : pr p with
      | false => rfl
      | true => have := pr_bd h; omega
    rw [e]
    exact isPrime_big p c h1 _ 2 (by omega) (by omega) rfl
  · by_cases c2 : 0 ≤ p
    · have key : ∀ m : Nat, m < 62 → impl_isPrime.f 20 (m : Int) = some (pr m) := by decide +kernel
      exact Ev.of (impl_isPrime.mono p) (upto61 (P := fun p => impl_isPrime.f 20 p = some (pr p)) key p c2 (by omega))
    · have e : pr p = false := by
        cases h : pr p with
        | false => rfl
        | true => have := pr_bd h; omega
      rw [e]
      refine Ev.step (f := fun _ => some false) (fun k => ?_) (Ev.now _)
      simp only [impl_isPrime.f, impl_isPrime.l0]
      rw [if_neg (by rw [w64 (x := 2 * 2) (by omega) (by omega)]; omega), within_, Option.bind_some]
      simp
      omega
theorem l03Prime (p : Int) : Ev (fun k => spec_l03Prime.f k p) (pr p) := by
  by_cases c : 3 ≤ p ∧ p ≤ 61
  · have key : ∀ m : Nat, m < 62 → spec_l03Prime.f 20 (m : Int) = some (pr m) := by decide +kernel
    exact Ev.of (spec_l03Prime.mono p) (upto61 (P := fun p => spec_l03Prime.f 20 p = some (pr p)) key p (by omega) c.2)
  · have e : pr p = false := by
      cases h : pr p with
      | false => rfl
      | true => have := pr_bd h; omega
    rw [e]
    unfold spec_l03Prime.f
    refine ev_bind_const (l01In _ _ _) ?_
    rw [show (decide (3 ≤ p) && decide (p ≤ 61)) = false by simp; omega]
    exact Ev.now _
def cyc (n : Int) : List Int := [[], [-1, 1], [1, 1], [1, 1, 1], [1, 0, 1], [1, 1, 1, 1, 1], [1, -1, 1], [1, 1, 1, 1, 1, 1, 1], [1, 0, 0, 0, 1], [1, 0, 0, 1, 0, 0, 1], [1, -1, 1, -1, 1], [1, 1, 1, 1, 1, 1, 1, 1, 1, 1, 1], [1, 0, -1, 0, 1], [1, 1, 1, 1, 1, 1, 1, 1, 1, 1, 1, 1, 1], [1, -1, 1, -1, 1, -1, 1], [1, -1, 0, 1, -1, 1, 0, -1, 1], [1, 0, 0, 0, 0, 0, 0, 0, 1]].getD n.toNat []
theorem cyc_spec (n : Int) (h0 : 1 ≤ n) (h1 : n ≤ 16) : Ev (fun k => spec_l01Cyclotomic.f k n) (cyc n) := by
  have key : ∀ m : Nat, m < 17 → 1 ≤ m → spec_l01Cyclotomic.f 400 (m : Int) = some (cyc m) := by decide +kernel
  exact Ev.of (spec_l01Cyclotomic.mono n) (orders (P := fun n => spec_l01Cyclotomic.f 400 n = some (cyc n)) key n h0 h1)
def hv (cs : List Int) (r q : Int) : Int := cs.foldr (fun c out => (out * r + c) % q) 0
theorem tmod_emod (c q : Int) (hq : 0 < q) : (Int.tmod c q) % q = c % q := by
  rw [Int.tmod_eq_emod]
  split <;> simp
  rw [Int.sub_emod]
  simp [Int.natAbs_of_nonneg (Int.le_of_lt hq)]
theorem pow_emod (a m : Int) : ∀ k : Nat, (a % m) ^ k % m = a ^ k % m := by
  intro k
  induction k with
  | zero => rw [Int.pow_zero, Int.pow_zero]
  | succ k ih => rw [Int.pow_succ, Int.pow_succ, Int.mul_emod, ih, Int.emod_emod, ← Int.mul_emod]
theorem implPower_l0 (m : Int) (hm : 0 < m) (hm2 : m ≤ 1000000) : ∀ (n k : Nat) (x o : Int), k ≤ n → n ≤ 1000000 → 0 ≤ x → x < m → 0 ≤ o → o < m → Ev (fun f => impl_power.l0 f x (k : Int) m o) ((o * x ^ k) % m) := by
  intro n
  induction n with
  | zero =>
    intro k x o hk _ h0 h1 h2 h3
    obtain rfl : k = 0 := by omega
    refine Ev.step (fun f => by simp only [impl_power.l0]; rw [if_neg (by omega)] <;> rfl) ?_
    rw [Int.pow_zero, Int.mul_one, Int.emod_eq_of_lt h2 h3]
    exact Ev.now _
  | succ n ih =>
    intro k x o hk hn h0 h1 h2 h3
    by_cases hz : k = 0
    · subst hz
      refine Ev.step (fun f => by simp only [impl_power.l0]; rw [if_neg (by omega)] <;> rfl) ?_
      rw [Int.pow_zero, Int.mul_one, Int.emod_eq_of_lt h2 h3]
      exact Ev.now _
    have hxx : 0 ≤ x * x ∧ x * x ≤ 1000000 * 1000000 := ⟨Int.mul_nonneg h0 h0, Int.mul_le_mul (by omega) (by omega) h0 (by omega)⟩
    have hox : 0 ≤ o * x ∧ o * x ≤ 1000000 * 1000000 := ⟨Int.mul_nonneg h2 h0, Int.mul_le_mul (by omega) (by omega) h0 (by omega)⟩
    have e1 : wrap64 (Int.tdiv (k : Int) 2) = ((k / 2 : Nat) : Int) := by
      rw [Int.tdiv_eq_ediv_of_nonneg (by omega), w64 (by omega) (by omega)]
      omega
    have e2 : (x * x) % m = x * x % m := rfl
    by_cases ho : k % 2 = 1
    · have := ih (k / 2) ((x * x) % m) ((o * x) % m) (by omega) (by omega) (Int.emod_nonneg _ (by omega)) (Int.emod_lt_of_pos _ hm) (Int.emod_nonneg _ (by omega)) (Int.emod_lt_of_pos _ hm)
      have e : ((o * x) % m * ((x * x) % m) ^ (k / 2)) % m = (o * x ^ k) % m := by
        rw [Int.mul_emod, pow_emod, Int.emod_emod, ← Int.mul_emod]
        congr 1
        rw [Int.mul_assoc]
        congr 1
        have : k = 2 * (k / 2) + 1 := by omega
        conv => rhs; rw [this]
        rw [Int.pow_succ, Int.pow_mul, show x ^ 2 = x * x by rw [Int.pow_succ, Int.pow_succ, Int.pow_zero, Int.one_mul], Int.mul_comm]
      rw [e] at this
      refine Ev.step (fun f => ?_) this
      simp only [impl_power.l0]
      rw [if_pos (by omega), Int.tmod_eq_emod_of_nonneg (by omega), if_pos (by omega), if_neg (by omega), w64 (x := x * x) (by omega) (by omega), w64 (x := o * x) (by omega) (by omega), Int.tmod_eq_emod_of_nonneg hxx.1, Int.tmod_eq_emod_of_nonneg hox.1, e1]
    · have := ih (k / 2) ((x * x) % m) o (by omega) (by omega) (Int.emod_nonneg _ (by omega)) (Int.emod_lt_of_pos _ hm) h2 h3
      have e : (o * ((x * x) % m) ^ (k / 2)) % m = (o * x ^ k) % m := by
        rw [Int.mul_emod, pow_emod, ← Int.mul_emod]
        congr 2
        have : k = 2 * (k / 2) := by omega
        conv => rhs; rw [this]
        rw [Int.pow_mul, show x ^ 2 = x * x by rw [Int.pow_succ, Int.pow_succ, Int.pow_zero, Int.one_mul]]
      rw [e] at this
      refine Ev.step (fun f => ?_) this
      simp only [impl_power.l0]
      rw [if_pos (by omega), Int.tmod_eq_emod_of_nonneg (by omega), if_neg (by omega), if_neg (by omega), w64 (x := x * x) (by omega) (by omega), Int.tmod_eq_emod_of_nonneg hxx.1, e1]
theorem around (a m : Int) (hm : 0 < m) (hm2 : m ≤ 1000000000000) : impl_around.f a m = some (a % m) := by
  unfold impl_around.f
  have h1 := Int.tmod_lt_of_pos a hm
  have h2 := Int.lt_tmod_of_pos a hm
  rw [if_neg (by omega), w64 (by omega) (by omega), Int.tmod_eq_emod_of_nonneg (by omega), Int.add_emod_right, tmod_emod _ _ hm]
theorem implPower (m x : Int) (k : Nat) (hm : 1 < m) (hm2 : m ≤ 1000000) (hk : k ≤ 1000000) : Ev (fun f => impl_power.f f x (k : Int) m) (x ^ k % m) := by
  unfold impl_power.f
  have := implPower_l0 m (by omega) hm2 k k (x % m) 1 (by omega) hk (Int.emod_nonneg _ (by omega)) (Int.emod_lt_of_pos _ (by omega)) (by omega) hm
  rw [Int.one_mul, pow_emod] at this
  simp only [if_neg (show ¬ m = 0 by omega), show (1 : Int) % m = 1 from Int.emod_eq_of_lt (by omega) hm]
  exact ev_bind_const (around x m (by omega) (by omega)) this
theorem pow_nat (x l : Int) (k : Nat) (hx : 0 ≤ x) (hl : 0 ≤ l) : x ^ k % l = ((x.toNat ^ k % l.toNat : Nat) : Int) := by
  rw [Int.natCast_emod, Int.natCast_pow, Int.toNat_of_nonneg hx, Int.toNat_of_nonneg hl]
theorem w_mod (x : Int) : wrap64 x % 18446744073709551616 = x % 18446744073709551616 := by unfold wrap64; omega
def inW (x : Int) : Prop := -9223372036854775808 ≤ x ∧ x ≤ 9223372036854775807
theorem w_in (x : Int) : inW (wrap64 x) := by unfold inW wrap64; omega
theorem in_eq {a b : Int} (ha : inW a) (hb : inW b) (h : a % 18446744073709551616 = b % 18446744073709551616) : a = b := by unfold inW at ha hb; omega
theorem in_w {a : Int} (ha : inW a) : wrap64 a = a := w64 ha.1 ha.2
def dot : List Int → List Int → Int
  | x :: xs, y :: ys => x * y + dot xs ys
  | _, _ => 0
theorem dot_nil (xs : List Int) : dot xs [] = 0 := by cases xs <;> rfl
theorem dot_set : ∀ (xs ys : List Int) (e : Nat) (v : Int), e < xs.length → dot (xs.set e v) ys = dot xs ys + (v - xs.getD e 0) * ys.getD e 0
  | [], _, e, v, h => by simp at h
  | x :: xs, [], e, v, _ => by rw [dot_nil, dot_nil]; simp
  | x :: xs, y :: ys, 0, v, _ => by
    simp only [List.set_cons_zero, dot, List.getD_cons_zero, Int.sub_mul]
    omega
  | x :: xs, y :: ys, e + 1, v, h => by
    simp only [List.set_cons_succ, dot, List.getD_cons_succ]
    rw [dot_set xs ys e v (by simpa using h)]
    omega
theorem dot_zeros (n : Nat) (ys : List Int) : dot (List.replicate n 0) ys = 0 := by
  induction n generalizing ys with
  | zero => cases ys <;> rfl
  | succ n ih => cases ys with
    | nil => exact dot_nil _
    | cons y ys => rw [List.replicate_succ, dot, ih]; omega
theorem gE {α : Type} (l : List α) (d : α) {i : Nat} (h : i < l.length) : l.getD i d = l[i] := by rw [List.getD_eq_getElem?_getD, List.getElem?_eq_getElem h, Option.getD_some]
def axpy (x : Int) (out row : List Int) : List Int := List.zipWith (fun o r => wrap64 (o + wrap64 (x * r))) out row
theorem axpy_len (x : Int) (out row : List Int) (h : row.length = out.length) : (axpy x out row).length = out.length := by simp [axpy, h]
theorem axpy_get (x : Int) (out row : List Int) (h : row.length = out.length) (m : Nat) (hm : m < out.length) : (axpy x out row).getD m 0 = wrap64 (out.getD m 0 + wrap64 (x * row.getD m 0)) := by
  have h2 : m < (axpy x out row).length := by rw [axpy_len x out row h]; exact hm
  rw [gE _ _ h2, gE _ _ hm, gE _ _ (show m < row.length by omega)]
  simp [axpy]
theorem axpy_in (x : Int) (out row : List Int) : ∀ o ∈ axpy x out row, inW o := by
  intro o ho
  simp only [axpy, List.mem_iff_getElem] at ho
  obtain ⟨i, hi, rfl⟩ := ho
  rw [List.getElem_zipWith]
  exact w_in _
theorem axpy_mod (o x r : Int) : wrap64 (o + wrap64 (x * r)) % 18446744073709551616 = (o + x * r) % 18446744073709551616 := by
  generalize x * r = t
  rw [w_mod]
  have := w_mod t
  omega
theorem tk_set (Z l : List Int) (i : Nat) (h : Z.length = l.length) (hi : i < l.length) : (Z.take i ++ l.drop i).set i (Z.getD i 0) = Z.take (i + 1) ++ l.drop (i + 1) := by
  have e1 : (Z.take i).length = i := by rw [List.length_take]; omega
  rw [List.set_append_right _ _ (by omega), e1, Nat.sub_self, List.drop_eq_getElem_cons hi, List.set_cons_zero, List.take_succ_eq_append_getElem (by omega), List.append_assoc, gE _ _ (by omega)]
  rfl
theorem tk_rd (Z l : List Int) (i : Nat) (h : Z.length = l.length) (hi : i < l.length) : rd (Z.take i ++ l.drop i) (i : Int) = l.getD i 0 := by
  have e1 : (Z.take i).length = i := by rw [List.length_take]; omega
  rw [rd, Int.toNat_natCast, List.getD_eq_getElem?_getD, List.getElem?_append_right (by omega), e1, Nat.sub_self, List.getElem?_drop, Nat.add_zero, ← List.getD_eq_getElem?_getD]
theorem tk_len (Z l : List Int) (i : Nat) (h : Z.length = l.length) (hi : i ≤ l.length) : (Z.take i ++ l.drop i).length = l.length := by
  rw [List.length_append, List.length_take, List.length_drop]; omega
theorem tk_end (Z l : List Int) (h : Z.length = l.length) : Z.take l.length ++ l.drop l.length = Z := by
  rw [List.drop_length, List.append_nil, ← h, List.take_length]
theorem plus01_l0 (x n n' : Int) (l l' : List Int) (h : l'.length = l.length) (hl : l.length ≤ 1000) : ∀ (d i : Nat), d + i = l.length → Ev (fun k => spec_l01Plus.l0 k x (i : Int) n' l' n ((axpy x l l').take i ++ l.drop i)) (n, axpy x l l') := by
  intro d
  induction d with
  | zero =>
    intro i hi
    have e : i = l.length := by omega
    subst e
    refine Ev.step (f := fun _ => some (n, axpy x l l')) (fun k => ?_) (Ev.now _)
    simp only [spec_l01Plus.l0]
    rw [if_neg (by omega), tk_end _ _ (axpy_len x l l' h)]
  | succ d ih =>
    intro i hi
    refine Ev.step (fun k => ?_) (ih (i + 1) (by omega))
    simp only [spec_l01Plus.l0]
    rw [if_pos (by omega), if_pos (by omega), tk_len _ _ _ (axpy_len x l l' h) (by omega), if_pos (by omega), w64 (x := (i : Int) + 1) (by omega) (by omega), tk_rd _ _ _ (axpy_len x l l' h) (by omega), Int.toNat_natCast]
    rw [show wrap64 (l.getD i 0 + wrap64 (x * rd l' (i : Int))) = (axpy x l l').getD i 0 by rw [axpy_get x l l' h i (by omega), rd, Int.toNat_natCast], tk_set _ _ _ (axpy_len x l l' h) (by omega)]
    rfl
theorem own01 (l : List Int) (hl : l.length ≤ 1000) : spec_l01Own.f l = some l := by
  unfold spec_l01Own.f
  simp only [Option.bind_some, List.nil_append, List.length_nil, Nat.zero_add]
  rw [if_pos (by omega)]
theorem plus01 (x n n' : Int) (l l' : List Int) (h : l'.length = l.length) (hl : l.length ≤ 1000) : Ev (fun k => spec_l01Plus.f k n l n' l' x) (n, axpy x l l') := by
  unfold spec_l01Plus.f
  refine ev_bind_const (own01 l hl) ?_
  simpa using plus01_l0 x n n' l l' h hl l.length 0 (by omega)
def pw (n : Int) : List (List Int) := ([[], [[1]], [[1], [-1]], [[1, 0], [0, 1], [-1, -1]], [[1, 0], [0, 1], [-1, 0], [0, -1]], [[1, 0, 0, 0], [0, 1, 0, 0], [0, 0, 1, 0], [0, 0, 0, 1], [-1, -1, -1, -1]], [[1, 0], [0, 1], [-1, 1], [-1, 0], [0, -1], [1, -1]], [[1, 0, 0, 0, 0, 0], [0, 1, 0, 0, 0, 0], [0, 0, 1, 0, 0, 0], [0, 0, 0, 1, 0, 0], [0, 0, 0, 0, 1, 0], [0, 0, 0, 0, 0, 1], [-1, -1, -1, -1, -1, -1]], [[1, 0, 0, 0], [0, 1, 0, 0], [0, 0, 1, 0], [0, 0, 0, 1], [-1, 0, 0, 0], [0, -1, 0, 0], [0, 0, -1, 0], [0, 0, 0, -1]], [[1, 0, 0, 0, 0, 0], [0, 1, 0, 0, 0, 0], [0, 0, 1, 0, 0, 0], [0, 0, 0, 1, 0, 0], [0, 0, 0, 0, 1, 0], [0, 0, 0, 0, 0, 1], [-1, 0, 0, -1, 0, 0], [0, -1, 0, 0, -1, 0], [0, 0, -1, 0, 0, -1]], [[1, 0, 0, 0], [0, 1, 0, 0], [0, 0, 1, 0], [0, 0, 0, 1], [-1, 1, -1, 1], [-1, 0, 0, 0], [0, -1, 0, 0], [0, 0, -1, 0], [0, 0, 0, -1], [1, -1, 1, -1]], [[1, 0, 0, 0, 0, 0, 0, 0, 0, 0], [0, 1, 0, 0, 0, 0, 0, 0, 0, 0], [0, 0, 1, 0, 0, 0, 0, 0, 0, 0], [0, 0, 0, 1, 0, 0, 0, 0, 0, 0], [0, 0, 0, 0, 1, 0, 0, 0, 0, 0], [0, 0, 0, 0, 0, 1, 0, 0, 0, 0], [0, 0, 0, 0, 0, 0, 1, 0, 0, 0], [0, 0, 0, 0, 0, 0, 0, 1, 0, 0], [0, 0, 0, 0, 0, 0, 0, 0, 1, 0], [0, 0, 0, 0, 0, 0, 0, 0, 0, 1], [-1, -1, -1, -1, -1, -1, -1, -1, -1, -1]], [[1, 0, 0, 0], [0, 1, 0, 0], [0, 0, 1, 0], [0, 0, 0, 1], [-1, 0, 1, 0], [0, -1, 0, 1], [-1, 0, 0, 0], [0, -1, 0, 0], [0, 0, -1, 0], [0, 0, 0, -1], [1, 0, -1, 0], [0, 1, 0, -1]], [[1, 0, 0, 0, 0, 0, 0, 0, 0, 0, 0, 0], [0, 1, 0, 0, 0, 0, 0, 0, 0, 0, 0, 0], [0, 0, 1, 0, 0, 0, 0, 0, 0, 0, 0, 0], [0, 0, 0, 1, 0, 0, 0, 0, 0, 0, 0, 0], [0, 0, 0, 0, 1, 0, 0, 0, 0, 0, 0, 0], [0, 0, 0, 0, 0, 1, 0, 0, 0, 0, 0, 0], [0, 0, 0, 0, 0, 0, 1, 0, 0, 0, 0, 0], [0, 0, 0, 0, 0, 0, 0, 1, 0, 0, 0, 0], [0, 0, 0, 0, 0, 0, 0, 0, 1, 0, 0, 0], [0, 0, 0, 0, 0, 0, 0, 0, 0, 1, 0, 0], [0, 0, 0, 0, 0, 0, 0, 0, 0, 0, 1, 0], [0, 0, 0, 0, 0, 0, 0, 0, 0, 0, 0, 1], [-1, -1, -1, -1, -1, -1, -1, -1, -1, -1, -1, -1]], [[1, 0, 0, 0, 0, 0], [0, 1, 0, 0, 0, 0], [0, 0, 1, 0, 0, 0], [0, 0, 0, 1, 0, 0], [0, 0, 0, 0, 1, 0], [0, 0, 0, 0, 0, 1], [-1, 1, -1, 1, -1, 1], [-1, 0, 0, 0, 0, 0], [0, -1, 0, 0, 0, 0], [0, 0, -1, 0, 0, 0], [0, 0, 0, -1, 0, 0], [0, 0, 0, 0, -1, 0], [0, 0, 0, 0, 0, -1], [1, -1, 1, -1, 1, -1]], [[1, 0, 0, 0, 0, 0, 0, 0], [0, 1, 0, 0, 0, 0, 0, 0], [0, 0, 1, 0, 0, 0, 0, 0], [0, 0, 0, 1, 0, 0, 0, 0], [0, 0, 0, 0, 1, 0, 0, 0], [0, 0, 0, 0, 0, 1, 0, 0], [0, 0, 0, 0, 0, 0, 1, 0], [0, 0, 0, 0, 0, 0, 0, 1], [-1, 1, 0, -1, 1, -1, 0, 1], [-1, 0, 1, -1, 0, 0, -1, 1], [-1, 0, 0, 0, 0, -1, 0, 0], [0, -1, 0, 0, 0, 0, -1, 0], [0, 0, -1, 0, 0, 0, 0, -1], [1, -1, 0, 0, -1, 1, 0, -1], [1, 0, -1, 1, -1, 0, 1, -1]], [[1, 0, 0, 0, 0, 0, 0, 0], [0, 1, 0, 0, 0, 0, 0, 0], [0, 0, 1, 0, 0, 0, 0, 0], [0, 0, 0, 1, 0, 0, 0, 0], [0, 0, 0, 0, 1, 0, 0, 0], [0, 0, 0, 0, 0, 1, 0, 0], [0, 0, 0, 0, 0, 0, 1, 0], [0, 0, 0, 0, 0, 0, 0, 1], [-1, 0, 0, 0, 0, 0, 0, 0], [0, -1, 0, 0, 0, 0, 0, 0], [0, 0, -1, 0, 0, 0, 0, 0], [0, 0, 0, -1, 0, 0, 0, 0], [0, 0, 0, 0, -1, 0, 0, 0], [0, 0, 0, 0, 0, -1, 0, 0], [0, 0, 0, 0, 0, 0, -1, 0], [0, 0, 0, 0, 0, 0, 0, -1]]] : List (List (List Int))).getD n.toNat []
def phn (n : Int) : Nat := (phi n).toNat
theorem pw_all2 : ∀ m : Nat, m < 17 → 1 ≤ m → (pw (m : Int)).length = m := by decide +kernel
theorem pw_all3 : ∀ m : Nat, m < 17 → 1 ≤ m → ∀ r ∈ pw (m : Int), r.length = phn (m : Int) := by decide +kernel
theorem pw_len (n : Int) (h0 : 1 ≤ n) (h1 : n ≤ 16) : ((pw n).length : Int) = n :=
  orders (P := fun n => ((pw n).length : Int) = n) (fun m a b => by rw [pw_all2 m a b]) n h0 h1
theorem pw_row (n : Int) (h0 : 1 ≤ n) (h1 : n ≤ 16) : ∀ r ∈ pw n, r.length = phn n :=
  orders (P := fun n => ∀ r ∈ pw n, r.length = phn n) pw_all3 n h0 h1
theorem phn_bd (n : Int) (h0 : 1 ≤ n) (h1 : n ≤ 16) : 1 ≤ phn n ∧ phn n ≤ 12 :=
  orders (P := fun n => 1 ≤ phn n ∧ phn n ≤ 12) (by decide) n h0 h1
def cmb : List Int → List Int → List (List Int) → List Int
  | out, x :: xs, r :: rs => cmb (axpy x out r) xs rs
  | out, _, _ => out
def cl (n : Int) (m : Nat) : List Int := (pw n).map fun r => r.getD m 0
theorem cmb_spec : ∀ (xs : List Int) (rs : List (List Int)) (out : List Int), (∀ r ∈ rs, r.length = out.length) → (∀ o ∈ out, inW o) →
    (cmb out xs rs).length = out.length ∧ (∀ o ∈ cmb out xs rs, inW o) ∧ ∀ m, m < out.length → (cmb out xs rs).getD m 0 % 18446744073709551616 = (out.getD m 0 + dot xs (rs.map fun r => r.getD m 0)) % 18446744073709551616
  | [], rs, out, _, ho => ⟨by simp [cmb], by simpa [cmb] using ho, fun m _ => by simp [cmb, dot]⟩
  | x :: xs, [], out, _, ho => ⟨by simp [cmb], by simpa [cmb] using ho, fun m _ => by simp [cmb, dot]⟩
  | x :: xs, r :: rs, out, hr, ho => by
    have h1 : r.length = out.length := hr r (by simp)
    have hl := axpy_len x out r h1
    obtain ⟨a, b, c⟩ := cmb_spec xs rs (axpy x out r) (fun q hq => by rw [hl]; exact hr q (by simp [hq])) (axpy_in x out r)
    refine ⟨by rw [cmb, a, hl], by rw [cmb]; exact b, fun m hm => ?_⟩
    rw [cmb, c m (by rw [hl]; exact hm), axpy_get x out r h1 m hm, List.map_cons, dot]
    have := axpy_mod (out.getD m 0) x (r.getD m 0)
    omega
/-- The sum of powers of z, of each so many. -/
def cnt (n : Int) (many : List Int) : List Int := cmb (List.replicate (phn n) 0) many (pw n)
theorem cnt_spec (n : Int) (many : List Int) (h0 : 1 ≤ n) (h1 : n ≤ 16) : (cnt n many).length = phn n ∧ (∀ o ∈ cnt n many, inW o) ∧ ∀ m, m < phn n → (cnt n many).getD m 0 % 18446744073709551616 = dot many (cl n m) % 18446744073709551616 := by
  obtain ⟨a, b, c⟩ := cmb_spec many (pw n) (List.replicate (phn n) 0) (fun r hr => by simpa using pw_row n h0 h1 r hr) (fun o ho => by rw [List.eq_of_mem_replicate ho]; unfold inW; omega)
  rw [List.length_replicate] at a c
  refine ⟨a, b, fun m hm => ?_⟩
  have := c m hm
  rw [gE (List.replicate (phn n) 0) 0 (by rw [List.length_replicate]; exact hm), List.getElem_replicate, Int.zero_add] at this
  exact this
theorem lists_eq {l l' : List Int} (h : l.length = l'.length) (a : ∀ o ∈ l, inW o) (b : ∀ o ∈ l', inW o) (c : ∀ m, m < l.length → l.getD m 0 % 18446744073709551616 = l'.getD m 0 % 18446744073709551616) : l = l' := by
  refine List.ext_getElem h fun i hi hi' => ?_
  have := c i hi
  rw [gE _ _ hi, gE _ _ hi'] at this
  exact in_eq (a _ (List.getElem_mem hi)) (b _ (List.getElem_mem hi')) this
def ix (p : Int) : List Int := if p = 3 then [-1, 0, 1] else if p = 5 then [-1, 0, 1, 3, 2] else if p = 7 then [-1, 0, 2, 1, 4, 5, 3] else if p = 11 then [-1, 0, 1, 8, 2, 4, 9, 7, 3, 6, 5] else if p = 13 then [-1, 0, 1, 4, 2, 9, 5, 11, 3, 8, 10, 7, 6] else if p = 17 then [-1, 0, 14, 1, 12, 5, 15, 11, 10, 2, 3, 7, 13, 4, 9, 6, 8] else if p = 19 then [-1, 0, 1, 13, 2, 16, 14, 6, 3, 8, 17, 12, 15, 5, 7, 11, 4, 10, 9] else if p = 23 then [-1, 0, 2, 16, 4, 1, 18, 19, 6, 10, 3, 9, 20, 14, 21, 17, 8, 7, 12, 15, 5, 13, 11] else if p = 29 then [-1, 0, 1, 5, 2, 22, 6, 12, 3, 10, 23, 25, 7, 18, 13, 27, 4, 21, 11, 9, 24, 17, 26, 20, 8, 16, 19, 15, 14] else if p = 31 then [-1, 0, 24, 1, 18, 20, 25, 28, 12, 2, 14, 23, 19, 11, 22, 21, 6, 7, 26, 4, 8, 29, 17, 27, 13, 10, 5, 3, 16, 9, 15] else if p = 37 then [-1, 0, 1, 26, 2, 23, 27, 32, 3, 16, 24, 30, 28, 11, 33, 13, 4, 7, 17, 35, 25, 22, 31, 15, 29, 10, 12, 6, 34, 21, 14, 9, 5, 20, 8, 19, 18] else if p = 41 then [-1, 0, 26, 15, 12, 22, 1, 39, 38, 30, 8, 3, 27, 31, 25, 37, 24, 33, 16, 9, 34, 14, 29, 36, 13, 4, 17, 5, 11, 7, 23, 28, 10, 18, 19, 21, 2, 32, 35, 6, 20] else if p = 43 then [-1, 0, 27, 1, 12, 25, 28, 35, 39, 2, 10, 30, 13, 32, 20, 26, 24, 38, 29, 19, 37, 36, 15, 16, 40, 8, 17, 3, 5, 41, 11, 34, 9, 31, 23, 18, 14, 7, 4, 33, 22, 6, 21] else if p = 47 then [-1, 0, 18, 20, 36, 1, 38, 32, 8, 40, 19, 7, 10, 11, 4, 21, 26, 16, 12, 45, 37, 6, 25, 5, 28, 2, 29, 14, 22, 35, 39, 3, 44, 27, 34, 33, 30, 42, 17, 31, 9, 15, 24, 13, 43, 41, 23] else if p = 53 then [-1, 0, 1, 17, 2, 47, 18, 14, 3, 34, 48, 6, 19, 24, 15, 12, 4, 10, 35, 37, 49, 31, 7, 39, 20, 42, 25, 51, 16, 46, 13, 33, 5, 23, 11, 9, 36, 30, 38, 41, 50, 45, 32, 22, 8, 29, 40, 44, 21, 28, 43, 27, 26] else if p = 59 then [-1, 0, 1, 50, 2, 6, 51, 18, 3, 42, 7, 25, 52, 45, 19, 56, 4, 40, 43, 38, 8, 10, 26, 15, 53, 12, 46, 34, 20, 28, 57, 49, 5, 17, 41, 24, 44, 55, 39, 37, 9, 14, 11, 33, 27, 48, 16, 23, 54, 36, 13, 32, 47, 22, 35, 31, 21, 30, 29] else if p = 61 then [-1, 0, 1, 6, 2, 22, 7, 49, 3, 12, 23, 15, 8, 40, 50, 28, 4, 47, 13, 26, 24, 55, 16, 57, 9, 44, 41, 18, 51, 35, 29, 59, 5, 21, 48, 11, 14, 39, 27, 46, 25, 54, 56, 43, 17, 34, 58, 20, 10, 38, 45, 53, 42, 33, 19, 37, 52, 32, 36, 31, 30] else []
def rt (p : Int) : Int := if p = 3 then 2 else if p = 5 then 2 else if p = 7 then 3 else if p = 11 then 2 else if p = 13 then 2 else if p = 17 then 3 else if p = 19 then 2 else if p = 23 then 5 else if p = 29 then 2 else if p = 31 then 3 else if p = 37 then 2 else if p = 41 then 6 else if p = 43 then 3 else if p = 47 then 5 else if p = 53 then 2 else if p = 59 then 2 else if p = 61 then 2 else 0
def ex (p n c : Int) : List Int := -1 :: ((ix p).drop 1).map fun i => i * c % n
theorem ix_all : ∀ p ∈ prs, True ∧ ((ix p).length : Int) = p ∧ (∀ i ∈ (ix p).drop 1, 0 ≤ i ∧ i ≤ 60) ∧ rd (ix p) 0 = -1 := by decide +kernel
theorem root_all : ∀ p ∈ prs, spec_l03Root.f 200 p = some (rt p) := by decide +kernel
theorem index_all : ∀ p ∈ prs, ∀ y : Nat, y < 61 → 1 ≤ y → (y : Int) < p → spec_l03Index.l0 200 p (y : Int) (rt p) 1 0 = some (rd (ix p) (y : Int)) := by decide +kernel
theorem ex_len (p n c : Int) (hp : pr p = true) : ((ex p n c).length : Int) = p := by
  have := (ix_all p (pr_iff.mp hp)).2.1
  have := pr_bd hp
  simp only [ex, List.length_cons, List.length_map, List.length_drop]
  omega
theorem ex_bd (p n c : Int) (hn : 1 ≤ n) : ∀ e ∈ ex p n c, -1 ≤ e ∧ e < n := by
  intro e he
  simp only [ex, List.mem_cons, List.mem_map] at he
  rcases he with rfl | ⟨i, _, rfl⟩
  · omega
  · have := Int.emod_nonneg (i * c) (show n ≠ 0 by omega)
    have := Int.emod_lt_of_pos (i * c) (show 0 < n by omega)
    omega
theorem ex_get (p n c : Int) (hp : pr p = true) (hn : 1 ≤ n) (y : Nat) (hy : 1 ≤ y) (hy2 : (y : Int) < p) : (ex p n c).getD y 0 = rd (ix p) (y : Int) * c % n ∧ 0 ≤ (ex p n c).getD y 0 ∧ 0 ≤ rd (ix p) (y : Int) ∧ rd (ix p) (y : Int) ≤ 60 := by
  have hl := (ix_all p (pr_iff.mp hp)).2.1
  have hy3 : y < (ix p).length := by omega
  have hy4 : y - 1 < ((ix p).drop 1).length := by rw [List.length_drop]; omega
  have e1 : (ex p n c).getD y 0 = (ix p)[y] * c % n := by
    obtain ⟨z, rfl⟩ : ∃ z, y = z + 1 := ⟨y - 1, by omega⟩
    rw [ex, List.getD_cons_succ, gE _ _ (by rw [List.length_map]; exact hy4), List.getElem_map, List.getElem_drop]
    simp [Nat.add_comm]
  have e2 : rd (ix p) (y : Int) = (ix p)[y] := by rw [rd, Int.toNat_natCast, gE _ _ hy3]
  have hm : (ix p)[y] ∈ (ix p).drop 1 := by
    refine List.mem_iff_getElem.mpr ⟨y - 1, hy4, ?_⟩
    rw [List.getElem_drop]
    congr 1
    omega
  have hb := (ix_all p (pr_iff.mp hp)).2.2.1 _ hm
  rw [e1, e2]
  exact ⟨rfl, Int.emod_nonneg _ (by omega), hb.1, hb.2⟩
theorem exponent (p n c : Int) (hp : pr p = true) (hn : 1 ≤ n ∧ n ≤ 16) (hc : 0 ≤ c ∧ c ≤ 15) (y : Nat) (hy : 1 ≤ y) (hy2 : (y : Int) < p) : Ev (fun k => spec_l03Exponent.f k p n c (y : Int)) ((ex p n c).getD y 0) := by
  have hb := pr_bd hp
  obtain ⟨e1, _, e3, e4⟩ := ex_get p n c hp hn.1 y hy hy2
  unfold spec_l03Exponent.f
  have ht : Int.tmod (y : Int) p = (y : Int) := by rw [Int.tmod_eq_emod_of_nonneg (by omega), Int.emod_eq_of_lt (by omega) (by omega)]
  have ht2 : Int.tmod (wrap64 ((y : Int) + p)) p = (y : Int) := by
    rw [w64 (by omega) (by omega), Int.tmod_eq_emod_of_nonneg (by omega), Int.add_emod_right, Int.emod_eq_of_lt (by omega) (by omega)]
  simp only [ht, if_neg (show ¬ p = 0 by omega), if_neg (show ¬ (y : Int) = 0 by omega)]
  have hi : Ev (fun k => spec_l03Index.f k p (y : Int)) (rd (ix p) (y : Int)) := by
    unfold spec_l03Index.f
    refine Ev.bind (Ev.of (spec_l03Root.mono p) (root_all p (pr_iff.mp hp))) ?_
    simp only [ht, ht2, if_neg (show ¬ p = 0 by omega)]
    exact Ev.of (fun k => spec_l03Index.mono_l k _ _ _ _ _) (index_all p (pr_iff.mp hp) y (by omega) hy hy2)
  refine Ev.bind hi ?_
  have h5 : 0 ≤ rd (ix p) (y : Int) * c := Int.mul_nonneg e3 hc.1
  have h6 : rd (ix p) (y : Int) * c ≤ 60 * 15 := Int.mul_le_mul e4 hc.2 hc.1 (by omega)
  rw [if_neg (show ¬ n = 0 by omega), w64 (by omega) (by omega), Int.tmod_eq_emod_of_nonneg h5, ← e1]
  exact Ev.now _
def acc : List Int → List Int → List Int → List Int
  | many, t :: ts, e :: es => acc (if e ≥ 0 then many.set e.toNat (wrap64 (rd many e + t)) else many) ts es
  | many, _, _ => many
theorem pw_get (n e : Int) (h0 : 1 ≤ n) (h1 : n ≤ 16) (he : 0 ≤ e ∧ e < n) : (pw n).getD e.toNat [] ∈ pw n := by
  have := pw_len n h0 h1
  rw [gE _ _ (by omega)]
  exact List.getElem_mem _
theorem cl_get (n e : Int) (m : Nat) (h0 : 1 ≤ n) (h1 : n ≤ 16) (he : 0 ≤ e ∧ e < n) : (cl n m).getD e.toNat 0 = ((pw n).getD e.toNat []).getD m 0 := by
  have h2 := pw_len n h0 h1
  have h3 : e.toNat < (pw n).length := by omega
  rw [gE (cl n m) 0 (by rw [cl, List.length_map]; exact h3), gE (pw n) [] h3]
  simp only [cl, List.getElem_map]
theorem zero01 (n : Int) (h0 : 1 ≤ n) (h1 : n ≤ 16) : Ev (fun k => spec_l01Zero.f k n) (n, List.replicate (phn n) 0) := by
  have := phn_bd n h0 h1
  unfold spec_l01Zero.f
  refine Ev.bind (phi_spec n h0 h1) ?_
  have e : phi n = (phn n : Int) := by unfold phn at this ⊢; omega
  rw [e, if_pos (by omega), if_pos (by omega), Int.toNat_natCast]
  exact Ev.now _
def unitOk (n e : Nat) : Bool := decide (spec_l01Unit.f 400 (n : Int) (e : Int) = some ((n : Int), (pw (n : Int)).getD e []))
theorem unit_all : ∀ n : Nat, n < 17 → 1 ≤ n → ∀ e : Nat, e < n → unitOk n e = true := by decide +kernel
theorem unit01 (n e : Int) (h0 : 1 ≤ n) (h1 : n ≤ 16) (he : 0 ≤ e ∧ e < n) : Ev (fun k => spec_l01Unit.f k n e) (n, (pw n).getD e.toNat []) := by
  have := of_decide_eq_true (unit_all n.toNat (by omega) (by omega) e.toNat (by omega))
  rw [Int.toNat_of_nonneg (by omega), Int.toNat_of_nonneg (by omega)] at this
  exact Ev.of (spec_l01Unit.mono n e) this
theorem dot_zero : ∀ (xs ys : List Int), (∀ j, xs.getD j 0 * ys.getD j 0 = 0) → dot xs ys = 0
  | [], _, _ => by simp [dot]
  | _ :: _, [], _ => by simp [dot]
  | x :: xs, y :: ys, h => by
    rw [dot, dot_zero xs ys (fun j => by simpa using h (j + 1))]
    have := h 0
    simp only [List.getD_cons_zero] at this
    omega
theorem dot_cons_drop (xs ys : List Int) (i o : Nat) (hi : i < xs.length) (ho : o < ys.length) : dot (xs.drop i) (ys.drop o) = xs.getD i 0 * ys.getD o 0 + dot (xs.drop (i + 1)) (ys.drop (o + 1)) := by
  rw [List.drop_eq_getElem_cons hi, List.drop_eq_getElem_cons ho, dot, gE _ _ hi, gE _ _ ho]
theorem cyc_len : ∀ n : Nat, n < 17 → 1 ≤ n → (cyc (n : Int)).length = phn (n : Int) + 1 ∧ phn (n : Int) ≤ n ∧ rd (cyc (n : Int)) (phn (n : Int) : Int) = 1 := by decide +kernel
def cycOk (n k m : Nat) : Bool := decide (dot (cyc (n : Int)) ((cl (n : Int) m).drop (k - phn (n : Int))) = 0)
theorem cyc_rel : ∀ n : Nat, n < 17 → 1 ≤ n → ∀ k : Nat, k < n → phn (n : Int) ≤ k → ∀ m : Nat, m < phn (n : Int) → cycOk n k m = true := by decide +kernel
def unitsOk (n j m : Nat) : Bool := decide ((cl (n : Int) m).getD j 0 = if j = m then 1 else 0)
theorem cl_unit : ∀ n : Nat, n < 17 → 1 ≤ n → ∀ j : Nat, j < phn (n : Int) → ∀ m : Nat, m < phn (n : Int) → unitsOk n j m = true := by decide +kernel
theorem set_get (xs : List Int) (q : Nat) (v : Int) (j : Nat) (hq : q < xs.length) : (xs.set q v).getD j 0 = if j = q then v else xs.getD j 0 := by
  rw [List.getD_eq_getElem?_getD, List.getElem?_set, List.getD_eq_getElem?_getD]
  by_cases h : q = j
  · subst h
    simp [hq]
  · rw [if_neg h, if_neg (fun e => h e.symm)]
theorem set_in (xs : List Int) (q : Nat) (v : Int) (hv : inW v) (h : ∀ o ∈ xs, inW o) : ∀ o ∈ xs.set q v, inW o := by
  intro o ho
  rcases List.mem_or_eq_of_mem_set ho with h' | rfl
  · exact h o h'
  · exact hv
theorem get_in (xs : List Int) (h : ∀ o ∈ xs, inW o) (j : Nat) : inW (xs.getD j 0) := by
  rcases Nat.lt_or_ge j xs.length with hj | hj
  · rw [gE _ _ hj]; exact h _ (List.getElem_mem hj)
  · rw [List.getD_eq_getElem?_getD, List.getElem?_eq_none hj]; show inW 0; unfold inW; omega
theorem red_l1 (N : Nat) (hN0 : 1 ≤ N) (hN : N < 17) (C : Nat → Int) (k : Nat) (hk0 : phn (N : Int) ≤ k) (hk : k < N) (lead : Int) (hlead : inW lead) (r : Int × List Int)
    (H : ∀ rest : List Int, rest.length = N → (∀ o ∈ rest, inW o) → (∀ j, k ≤ j → rest.getD j 0 = 0) → (∀ m, m < phn (N : Int) → dot rest (cl (N : Int) m) % 18446744073709551616 = C m % 18446744073709551616) →
      Ev (fun f => spec_l01Reduce.l0 f (N : Int) (cyc (N : Int)) rest (phn (N : Int) : Int) ((k : Int) - 1)) r) :
    ∀ (d i : Nat) (rest : List Int), d + i = phn (N : Int) + 1 → rest.length = N → (∀ o ∈ rest, inW o) → (∀ j, k < j → rest.getD j 0 = 0) → (i ≤ phn (N : Int) → rest.getD k 0 = lead) → (i = phn (N : Int) + 1 → rest.getD k 0 = 0) →
      (∀ m, m < phn (N : Int) → (dot rest (cl (N : Int) m) - lead * dot ((cyc (N : Int)).drop i) ((cl (N : Int) m).drop (k - phn (N : Int) + i))) % 18446744073709551616 = C m % 18446744073709551616) →
      Ev (fun f => spec_l01Reduce.l1 f (N : Int) (cyc (N : Int)) rest (phn (N : Int) : Int) (k : Int) lead (i : Int)) r := by
  obtain ⟨hc1, hc2, hc3⟩ := cyc_len N hN hN0
  have hpl := pw_all2 N hN hN0
  have hcl : ∀ m, (cl (N : Int) m).length = N := fun m => by rw [cl, List.length_map]; exact hpl
  intro d
  induction d with
  | zero =>
    intro i rest hi hl hw hz _ h0 hd
    have e : i = phn (N : Int) + 1 := by omega
    subst e
    refine Ev.step (fun f => ?_) (H rest hl hw (fun j hj => ?_) (fun m hm => ?_))
    · simp only [spec_l01Reduce.l1]
      rw [if_neg (by omega), w64 (x := (k : Int) - 1) (by omega) (by omega)]
    · rcases Nat.lt_or_ge k j with h | h
      · exact hz j h
      · have : j = k := by omega
        subst this
        exact h0 rfl
    · have := hd m hm
      rw [List.drop_eq_nil_of_le (show (cyc (N : Int)).length ≤ phn (N : Int) + 1 by omega)] at this
      simp only [dot, Int.mul_zero, Int.sub_zero] at this
      exact this
  | succ d ih =>
    intro i rest hi hl hw hz h1 _ hd
    have hq : k - phn (N : Int) + i < rest.length := by omega
    have e1 : wrap64 (wrap64 ((k : Int) - (phn (N : Int) : Int)) + (i : Int)) = ((k - phn (N : Int) + i : Nat) : Int) := by
      rw [w64 (x := (k : Int) - (phn (N : Int) : Int)) (by omega) (by omega), w64 (by omega) (by omega)]
      omega
    refine Ev.step (f := fun f => spec_l01Reduce.l1 f (N : Int) (cyc (N : Int)) (rest.set (k - phn (N : Int) + i) (wrap64 (rest.getD (k - phn (N : Int) + i) 0 - wrap64 (lead * (cyc (N : Int)).getD i 0)))) (phn (N : Int) : Int) (k : Int) lead ((i + 1 : Nat) : Int)) (fun f => ?_) ?_
    · simp only [spec_l01Reduce.l1, e1]
      rw [if_pos (by omega), if_pos (by omega), if_pos (by omega), if_pos (by omega), if_pos (by omega), w64 (x := (i : Int) + 1) (by omega) (by omega)]
      simp only [rd, Int.toNat_natCast]
      rfl
    · refine ih (i + 1) _ (by omega) (by rw [List.length_set]; exact hl) (set_in _ _ _ (w_in _) hw) (fun j hj => ?_) (fun hi2 => ?_) (fun hi2 => ?_) (fun m hm => ?_)
      · rw [set_get _ _ _ _ hq, if_neg (by omega)]
        exact hz j hj
      · rw [set_get _ _ _ _ hq, if_neg (by omega)]
        exact h1 (by omega)
      · have hi3 : i = phn (N : Int) := by omega
        have hq2 : k - phn (N : Int) + i = k := by omega
        have hc4 : (cyc (N : Int)).getD i 0 = 1 := by rw [hi3]; simpa [rd] using hc3
        rw [set_get _ _ _ _ hq, if_pos hq2.symm, hq2, h1 (by omega), hc4, Int.mul_one, in_w hlead, Int.sub_self]
        exact w64 (by omega) (by omega)
      · have h3 := hd m hm
        rw [dot_cons_drop _ _ _ _ (by omega) (by rw [hcl]; omega), Int.mul_add] at h3
        rw [dot_set _ _ _ _ hq]
        have q1 : (wrap64 (rest.getD (k - phn (N : Int) + i) 0 - wrap64 (lead * (cyc (N : Int)).getD i 0)) - rest.getD (k - phn (N : Int) + i) 0) % 18446744073709551616 = (-(lead * (cyc (N : Int)).getD i 0)) % 18446744073709551616 := by
          have a1 := w_mod (lead * (cyc (N : Int)).getD i 0)
          have a2 := w_mod (rest.getD (k - phn (N : Int) + i) 0 - wrap64 (lead * (cyc (N : Int)).getD i 0))
          omega
        have q2 : (wrap64 (rest.getD (k - phn (N : Int) + i) 0 - wrap64 (lead * (cyc (N : Int)).getD i 0)) - rest.getD (k - phn (N : Int) + i) 0) * (cl (N : Int) m).getD (k - phn (N : Int) + i) 0 % 18446744073709551616 = (-(lead * ((cyc (N : Int)).getD i 0 * (cl (N : Int) m).getD (k - phn (N : Int) + i) 0))) % 18446744073709551616 := by
          rw [Int.mul_emod, q1, ← Int.mul_emod, Int.neg_mul, Int.mul_assoc]
        rw [show k - phn (N : Int) + (i + 1) = k - phn (N : Int) + i + 1 by omega]
        generalize (wrap64 (rest.getD (k - phn (N : Int) + i) 0 - wrap64 (lead * (cyc (N : Int)).getD i 0)) - rest.getD (k - phn (N : Int) + i) 0) * (cl (N : Int) m).getD (k - phn (N : Int) + i) 0 = A at *
        generalize lead * ((cyc (N : Int)).getD i 0 * (cl (N : Int) m).getD (k - phn (N : Int) + i) 0) = B at *
        generalize lead * dot ((cyc (N : Int)).drop (i + 1)) ((cl (N : Int) m).drop (k - phn (N : Int) + i + 1)) = D at *
        omega
theorem red_l2 (n : Int) (rest : List Int) (P : Nat) (hP : P ≤ 100) (hr : P ≤ rest.length) : ∀ (d i : Nat), d + i = P → Ev (fun f => spec_l01Reduce.l2 f rest (P : Int) (i : Int) n (rest.take i ++ (List.replicate P 0).drop i)) (n, rest.take P) := by
  intro d
  induction d with
  | zero =>
    intro i hi
    have e : i = P := by omega
    subst e
    refine Ev.step (f := fun _ => some (n, rest.take i)) (fun k => ?_) (Ev.now _)
    simp only [spec_l01Reduce.l2]
    rw [if_neg (by omega), List.drop_eq_nil_of_le (by simp), List.append_nil]
  | succ d ih =>
    intro i hi
    refine Ev.step (fun f => ?_) (ih (i + 1) (by omega))
    have e1 : (rest.take i).length = i := by rw [List.length_take]; omega
    have e2 : ((rest.take i ++ (List.replicate P 0).drop i).length : Int) = P := by rw [List.length_append, e1, List.length_drop, List.length_replicate]; omega
    simp only [spec_l01Reduce.l2]
    rw [if_pos (by omega), if_pos (by omega), if_pos (by omega), e2, if_pos (by omega), w64 (x := (i : Int) + 1) (by omega) (by omega), rd, Int.toNat_natCast, gE _ _ (show i < rest.length by omega),
      List.set_append_right _ _ (by omega), e1, Nat.sub_self, List.drop_eq_getElem_cons (show i < (List.replicate P (0 : Int)).length by rw [List.length_replicate]; omega), List.set_cons_zero, List.take_succ_eq_append_getElem (show i < rest.length by omega), List.append_assoc]
    rfl
theorem red_l0 (N : Nat) (hN0 : 1 ≤ N) (hN : N < 17) (row : List Int) : ∀ (d : Nat) (k : Int) (rest : List Int), (d : Int) + phn (N : Int) = k + 1 → k < N → rest.length = N → (∀ o ∈ rest, inW o) → (∀ j : Nat, k < j → rest.getD j 0 = 0) →
    (∀ m, m < phn (N : Int) → dot rest (cl (N : Int) m) % 18446744073709551616 = dot row (cl (N : Int) m) % 18446744073709551616) →
    Ev (fun f => spec_l01Reduce.l0 f (N : Int) (cyc (N : Int)) rest (phn (N : Int) : Int) k) ((N : Int), cnt (N : Int) row) := by
  obtain ⟨hc1, hc2, hc3⟩ := cyc_len N hN hN0
  have hpl := pw_all2 N hN hN0
  have hcl : ∀ m, (cl (N : Int) m).length = N := fun m => by rw [cl, List.length_map]; exact hpl
  have hb := phn_bd (N : Int) (by omega) (by omega)
  intro d
  induction d with
  | zero =>
    intro k rest hd hk hl hw hz hdot
    obtain ⟨c1, c2, c3⟩ := cnt_spec (N : Int) row (by omega) (by omega)
    have e : cnt (N : Int) row = rest.take (phn (N : Int)) := by
      refine lists_eq (by rw [c1, List.length_take]; omega) c2 (fun o ho => hw o (List.mem_of_mem_take ho)) (fun m hm => ?_)
      have hm2 : m < phn (N : Int) := by omega
      rw [c3 m hm2, ← hdot m hm2]
      have hu : (cl (N : Int) m).getD m 0 = 1 := by simpa using of_decide_eq_true (cl_unit N hN hN0 m hm2 m hm2)
      have hs := dot_set rest (cl (N : Int) m) m 0 (by omega)
      rw [dot_zero (rest.set m 0) (cl (N : Int) m) (fun j => by
        rw [set_get _ _ _ _ (by omega)]
        by_cases hj : j = m
        · rw [if_pos hj, Int.zero_mul]
        · rw [if_neg hj]
          rcases Nat.lt_or_ge j (phn (N : Int)) with h | h
          · rw [show (cl (N : Int) m).getD j 0 = 0 by simpa [hj] using of_decide_eq_true (cl_unit N hN hN0 j h m hm2), Int.mul_zero]
          · rw [hz j (by omega), Int.zero_mul]), hu] at hs
      have e3 : (rest.take (phn (N : Int))).getD m 0 = rest.getD m 0 := by
        rw [gE _ _ (by rw [List.length_take]; omega), gE _ _ (by omega), List.getElem_take]
      rw [e3]
      congr 1
      omega
    refine Ev.step (f := fun f => ((spec_l01Zero.f f (N : Int)).bind fun bt => (spec_l01Reduce.l2 f rest (phn (N : Int) : Int) 0 bt.1 bt.2))) (fun f => ?_) ?_
    · simp only [spec_l01Reduce.l0]
      rw [if_neg (by omega)]
    · refine Ev.bind (zero01 (N : Int) (by omega) (by omega)) ?_
      rw [e]
      simpa using red_l2 (N : Int) rest (phn (N : Int)) (by omega) (by omega) (phn (N : Int)) 0 (by omega)
  | succ d ih =>
    intro k rest hd hk hl hw hz hdot
    obtain ⟨K, rfl⟩ : ∃ K : Nat, k = K := ⟨k.toNat, by omega⟩
    refine Ev.step (f := fun f => spec_l01Reduce.l1 f (N : Int) (cyc (N : Int)) rest (phn (N : Int) : Int) (K : Int) (rest.getD K 0) 0) (fun f => ?_) ?_
    · simp only [spec_l01Reduce.l0]
      rw [if_pos (by omega), if_pos (by omega), if_pos (by omega), rd, Int.toNat_natCast]
    · refine red_l1 N hN0 hN (fun m => dot row (cl (N : Int) m)) K (by omega) (by omega) _ (get_in rest hw K) _ (fun rest' a b c e => ih ((K : Int) - 1) rest' (by omega) (by omega) a b (fun j hj => c j (by omega)) e) (phn (N : Int) + 1) 0 rest (by omega) hl hw (fun j hj => hz j (by omega)) (fun _ => rfl) (fun h => by omega) (fun m hm => ?_)
      have := of_decide_eq_true (cyc_rel N hN hN0 K (by omega) (by omega) m hm)
      rw [List.drop_zero, Nat.add_zero, this, Int.mul_zero, Int.sub_zero]
      exact hdot m hm
theorem reduce (n : Int) (row : List Int) (h0 : 1 ≤ n) (h1 : n ≤ 16) (hl : (row.length : Int) = n) (hw : ∀ o ∈ row, inW o) : Ev (fun f => spec_l01Reduce.f f n row) (n, cnt n row) := by
  obtain ⟨N, rfl⟩ : ∃ N : Nat, n = N := ⟨n.toNat, by omega⟩
  have hN0 : 1 ≤ N := by omega
  have hN : N < 17 := by omega
  obtain ⟨hc1, hc2, hc3⟩ := cyc_len N hN hN0
  have hb := phn_bd (N : Int) (by omega) (by omega)
  unfold spec_l01Reduce.f
  refine Ev.bind (cyc_spec (N : Int) h0 h1) (ev_bind_const (own01 row (by omega)) ?_)
  rw [w64 (x := ((cyc (N : Int)).length : Int) - 1) (by omega) (by omega), w64 (x := (row.length : Int) - 1) (by omega) (by omega), show ((cyc (N : Int)).length : Int) - 1 = (phn (N : Int) : Int) by omega]
  refine red_l0 N hN0 hN row (N - phn (N : Int)) _ row (by omega) (by omega) (by omega) hw (fun j hj => ?_) (fun m _ => rfl)
  rw [List.getD_eq_getElem?_getD, List.getElem?_eq_none (by omega)]
  rfl
def ad (n k : Int) (src : List Int) : Nat → Nat → List Int → List Int
  | 0, _, row => row
  | d + 1, j, row => ad n k src d (j + 1) (row.set (((j : Int) + k) % n).toNat (wrap64 (rd row (((j : Int) + k) % n) + src.getD j 0)))
def ax2 (p n y k : Int) (now : List (List Int)) : Nat → Nat → List (List Int) → List (List Int)
  | 0, _, nx => nx
  | d + 1, x, nx => ax2 p n y k now d (x + 1) (nx.set (((x : Int) + y) % p).toNat (ad n k (now.getD x []) n.toNat 0 (nx.getD (((x : Int) + y) % p).toNat [])))
def ay (p n : Int) (es : List Int) (now : List (List Int)) : Nat → Nat → List (List Int) → List (List Int)
  | 0, _, nx => nx
  | d + 1, y, nx => ay p n es now d (y + 1) (ax2 p n (y : Int) (es.getD y 0) now p.toNat 0 nx)
def zz (p n : Int) : List (List Int) := List.replicate p.toNat (List.replicate n.toNat 0)
def jb (p n : Int) (es : List Int) (now : List (List Int)) : List (List Int) := ay p n es now (p.toNat - 1) 1 (zz p n)
def jl (p n : Int) : List S37 → List (List Int) → List (List Int)
  | [], rows => rows
  | c :: cs, rows => jl p n cs (jb p n (ex p n c.f2) rows)
def sh (p n : Int) (rows : List (List Int)) : Prop := (rows.length : Int) = p ∧ ∀ r ∈ rows, (r.length : Int) = n ∧ ∀ o ∈ r, inW o
theorem ad_len (n k : Int) (src : List Int) : ∀ (d j : Nat) (row : List Int), (ad n k src d j row).length = row.length
  | 0, _, _ => rfl
  | d + 1, j, row => by rw [ad, ad_len, List.length_set]
theorem ad_in (n k : Int) (src : List Int) : ∀ (d j : Nat) (row : List Int), (∀ o ∈ row, inW o) → ∀ o ∈ ad n k src d j row, inW o
  | 0, _, _, h => h
  | d + 1, j, row, h => by rw [ad]; exact ad_in n k src d (j + 1) _ (set_in _ _ _ (w_in _) h)
theorem sh_set {p n : Int} {rows : List (List Int)} (h : sh p n rows) (i : Nat) (row : List Int) (hl : (row.length : Int) = n) (hw : ∀ o ∈ row, inW o) : sh p n (rows.set i row) := by
  refine ⟨by rw [List.length_set]; exact h.1, fun r hr => ?_⟩
  rcases List.mem_or_eq_of_mem_set hr with h' | rfl
  · exact h.2 r h'
  · exact ⟨hl, hw⟩
theorem sh_get {p n : Int} {rows : List (List Int)} (h : sh p n rows) (i : Nat) (hi : (i : Int) < p) : ((rows.getD i []).length : Int) = n ∧ ∀ o ∈ rows.getD i [], inW o := by
  have : i < rows.length := by have := h.1; omega
  rw [gE _ _ this]
  exact h.2 _ (List.getElem_mem this)
theorem sh_zz (p n : Int) (hp : 0 ≤ p) (hn : 0 ≤ n) : sh p n (zz p n) := by
  refine ⟨by rw [zz, List.length_replicate]; omega, fun r hr => ?_⟩
  rw [List.eq_of_mem_replicate hr]
  exact ⟨by rw [List.length_replicate]; omega, fun o ho => by rw [List.eq_of_mem_replicate ho]; unfold inW; omega⟩
theorem md_bd (a p : Int) (hp : 0 < p) : 0 ≤ a % p ∧ a % p < p := ⟨Int.emod_nonneg _ (by omega), Int.emod_lt_of_pos _ hp⟩
theorem sh_ax2 {p n : Int} (hp : 0 < p) (y k : Int) (now : List (List Int)) : ∀ (d x : Nat) (nx : List (List Int)), sh p n nx → sh p n (ax2 p n y k now d x nx)
  | 0, _, _, h => h
  | d + 1, x, nx, h => by
    rw [ax2]
    have hb := md_bd ((x : Int) + y) p hp
    have hg := sh_get h (((x : Int) + y) % p).toNat (by omega)
    exact sh_ax2 hp y k now d (x + 1) _ (sh_set h _ _ (by rw [ad_len]; exact hg.1) (ad_in _ _ _ _ _ _ hg.2))
theorem sh_ay {p n : Int} (hp : 0 < p) (es : List Int) (now : List (List Int)) : ∀ (d y : Nat) (nx : List (List Int)), sh p n nx → sh p n (ay p n es now d y nx)
  | 0, _, _, h => h
  | d + 1, y, nx, h => by rw [ay]; exact sh_ay hp es now d (y + 1) _ (sh_ax2 hp _ _ _ _ _ _ h)
theorem sh_jb {p n : Int} (hp : 0 < p) (hn : 0 ≤ n) (es : List Int) (now : List (List Int)) : sh p n (jb p n es now) := sh_ay hp _ _ _ _ _ (sh_zz p n (by omega) hn)
theorem rdL (rows : List (List Int)) (i : Nat) : rd_L2 rows (i : Int) = rows.getD i [] := by simp [rd_L2]
theorem set_getL (rows : List (List Int)) (i : Nat) (row : List Int) (h : i < rows.length) : (rows.set i row).getD i [] = row := by
  rw [gE _ _ (by rw [List.length_set]; exact h), List.getElem_set_self]
theorem tm_wr (a b m : Int) (h0 : 0 ≤ a + b) (h1 : a + b ≤ 1000000) (hm : 0 < m) : Int.tmod (wrap64 (a + b)) m = (a + b) % m := by
  rw [w64 (by omega) (by omega), Int.tmod_eq_emod_of_nonneg h0]
theorem sp_l3 (p n : Int) (hp : 0 < p ∧ p ≤ 61) (hn : 1 ≤ n ∧ n ≤ 16) (x0 : List S37) (now : List (List Int)) (hnow : sh p n now) (x10 y e : Int) (he : 0 ≤ e ∧ e < n) (x : Nat) (hx : (x : Int) < p) (nx : List (List Int)) (hnx : sh p n nx) (i : Nat) (hi : (i : Int) < p) (r : List (List Int)) :
    ∀ (d j : Nat) (row : List Int), (d : Int) + j = n → (row.length : Int) = n → Ev (fun f => spec_l04Sum_body.l2 f x0 p n now x10 (nx.set i (ad n e (now.getD x []) d j row)) y e ((x : Int) + 1)) r →
      Ev (fun f => spec_l04Sum_body.l3 f x0 p n now x10 (nx.set i row) y e (x : Int) (j : Int) (i : Int)) r := by
  have hil : i < nx.length := by have := hnx.1; omega
  have hsl := (sh_get hnow x hx).1
  intro d
  induction d with
  | zero =>
    intro j row hd hl H
    refine Ev.step (fun f => ?_) H
    simp only [spec_l04Sum_body.l3]
    rw [if_neg (by omega), w64 (x := (x : Int) + 1) (by omega) (by omega)]
    rfl
  | succ d ih =>
    intro j row hd hl H
    have hb := md_bd ((j : Int) + e) n (by omega)
    refine Ev.step (fun f => ?_) (ih (j + 1) (row.set (((j : Int) + e) % n).toNat (wrap64 (rd row (((j : Int) + e) % n) + (now.getD x []).getD j 0))) (by omega) (by rw [List.length_set]; exact hl) (by rw [ad] at H; exact H))
    simp only [spec_l04Sum_body.l3, rdL, set_getL nx i row hil, tm_wr (j : Int) e n (by omega) (by omega) (by omega), List.set_set, List.length_set, Int.toNat_natCast]
    rw [if_pos (by omega), if_pos (by omega), if_pos (by omega), if_neg (by omega), if_pos hb.1, if_pos (by omega), if_pos (by omega), if_pos (by have := hnow.1; omega), if_pos (by omega), if_pos (by omega), w64 (x := (j : Int) + 1) (by omega) (by omega)]
    simp only [rd, Int.toNat_natCast]
    rfl
theorem sp_l2 (p n : Int) (hp : 0 < p ∧ p ≤ 61) (hn : 1 ≤ n ∧ n ≤ 16) (x0 : List S37) (now : List (List Int)) (hnow : sh p n now) (x10 y e : Int) (hy : 0 ≤ y ∧ y < p) (he : 0 ≤ e ∧ e < n) (r : List (List Int)) :
    ∀ (d x : Nat) (nx : List (List Int)), (d : Int) + x = p → sh p n nx → Ev (fun f => spec_l04Sum_body.l1 f x0 p n now x10 (ax2 p n y e now d x nx) (y + 1)) r →
      Ev (fun f => spec_l04Sum_body.l2 f x0 p n now x10 nx y e (x : Int)) r := by
  intro d
  induction d with
  | zero =>
    intro x nx hd h H
    refine Ev.step (fun f => ?_) H
    simp only [spec_l04Sum_body.l2]
    rw [if_neg (by omega), w64 (x := y + 1) (by omega) (by omega)]
    rfl
  | succ d ih =>
    intro x nx hd h H
    have hb := md_bd ((x : Int) + y) p hp.1
    obtain ⟨i, hi⟩ : ∃ i : Nat, ((x : Int) + y) % p = i := ⟨(((x : Int) + y) % p).toNat, by omega⟩
    have hg := sh_get h i (by omega)
    have hil : i < nx.length := by have := h.1; omega
    have e1 : nx = nx.set i (nx.getD i []) := by rw [gE _ _ hil, List.set_getElem_self]
    refine Ev.step (f := fun f => spec_l04Sum_body.l3 f x0 p n now x10 nx y e (x : Int) 0 (i : Int)) (fun f => ?_) ?_
    · simp only [spec_l04Sum_body.l2, tm_wr (x : Int) y p (by omega) (by omega) (by omega), hi]
      rw [if_pos (by omega), if_neg (by omega), if_pos (by omega), if_pos (by omega)]
    · have H2 := sp_l3 p n hp hn x0 now hnow x10 y e he x (by omega) nx h i (by omega) r n.toNat 0 (nx.getD i []) (by omega) hg.1
      rw [← e1] at H2
      refine H2 (ih (x + 1) _ (by omega) (sh_set h _ _ (by rw [ad_len]; exact hg.1) (ad_in _ _ _ _ _ _ hg.2)) ?_)
      rw [ax2, hi, Int.toNat_natCast] at H
      exact H
theorem sp_l1 (p n : Int) (hp : pr p = true) (hn : 1 ≤ n ∧ n ≤ 16) (x0 : List S37) (now : List (List Int)) (hnow : sh p n now) (q : Nat) (hq : q < x0.length) (c : Int) (hc : 0 ≤ c ∧ c ≤ 15) (hx : x0[q] = ⟨p, n, c⟩) :
    ∀ (d y : Nat) (nx : List (List Int)), (d : Int) + y = p → 1 ≤ y → sh p n nx → Ev (fun f => spec_l04Sum_body.l1 f x0 p n now (q : Int) nx (y : Int)) (ay p n (ex p n c) now d y nx) := by
  have hb := pr_bd hp
  have hx2 : rd_T37 x0 (q : Int) = ⟨p, n, c⟩ := by rw [← hx]; simp [rd_T37, hq]
  intro d
  induction d with
  | zero =>
    intro y nx hd hy h
    refine Ev.step (f := fun _ => some nx) (fun f => ?_) (Ev.now _)
    simp only [spec_l04Sum_body.l1]
    rw [if_neg (by omega)]
  | succ d ih =>
    intro y nx hd hy h
    obtain ⟨_, e2, _, _⟩ := ex_get p n c hp hn.1 y hy (by omega)
    have hxl := ex_len p n c hp
    have e3 : (ex p n c).getD y 0 < n := by
      rw [gE _ _ (by omega)]
      exact (ex_bd p n c hn.1 _ (List.getElem_mem _)).2
    refine Ev.step (f := fun f => ((spec_l03Exponent.f f p n c (y : Int)).bind fun t => (spec_l04Sum_body.l2 f x0 p n now (q : Int) nx (y : Int) t 0))) (fun f => ?_) ?_
    · simp only [spec_l04Sum_body.l1, hx2]
      rw [if_pos (by omega), if_pos (by omega), if_pos (by omega)]
    · refine Ev.bind (exponent p n c hp hn hc y hy (by omega)) ?_
      rw [ay]
      exact sp_l2 p n ⟨by omega, hb.2⟩ hn x0 now hnow (q : Int) (y : Int) _ (by omega) ⟨e2, e3⟩ _ p.toNat 0 nx (by omega) h (ih (y + 1) _ (by omega) (by omega) (sh_ax2 (by omega) _ _ _ _ _ _ h))
theorem rep_snoc {α : Type} (n : Nat) (a : α) : List.replicate n a ++ [a] = List.replicate (n + 1) a := by rw [← List.replicate_succ']
theorem sp_body (p n : Int) (hp : pr p = true) (hn : 1 ≤ n ∧ n ≤ 16) (x0 : List S37) (now : List (List Int)) (hnow : sh p n now) (q : Nat) (hq : q < x0.length) (c : Int) (hc : 0 ≤ c ∧ c ≤ 15) (hx : x0[q] = ⟨p, n, c⟩) :
    Ev (fun f => spec_l04Sum_body.f f x0 (q : Int) now p n) (jb p n (ex p n c) now) := by
  have hb := pr_bd hp
  have key : ∀ (d i : Nat), (d : Int) + i = p → Ev (fun f => spec_l04Sum_body.l0 f x0 p n now (q : Int) (List.replicate i (List.replicate n.toNat 0)) (i : Int)) (jb p n (ex p n c) now) := by
    intro d
    induction d with
    | zero =>
      intro i hi
      have e : i = p.toNat := by omega
      refine Ev.step (fun f => ?_) (sp_l1 p n hp hn x0 now hnow q hq c hc hx (p.toNat - 1) 1 (zz p n) (by omega) (by omega) (sh_zz p n (by omega) (by omega)))
      simp only [spec_l04Sum_body.l0]
      rw [if_neg (by omega), e]
      rfl
    | succ d ih =>
      intro i hi
      refine Ev.step (fun f => ?_) (ih (i + 1) (by omega))
      simp only [spec_l04Sum_body.l0, List.length_replicate, rep_snoc]
      rw [if_pos (by omega), if_pos (by omega), if_pos (by omega), if_pos (by omega), w64 (x := (i : Int) + 1) (by omega) (by omega)]
      rfl
  exact key p.toNat 0 (by omega)
def okl (p n : Int) (cs : List S37) : Prop := ∀ c ∈ cs, c.f0 = p ∧ c.f1 = n ∧ 0 ≤ c.f2 ∧ c.f2 ≤ 15
def st (p n : Int) : List (List Int) := (zz p n).set 0 ((List.replicate n.toNat 0).set 0 1)
theorem sh_st (p n : Int) (hp : 0 ≤ p) (hn : 0 ≤ n) : sh p n (st p n) := by
  refine sh_set (sh_zz p n hp hn) 0 _ (by rw [List.length_set, List.length_replicate]; omega) (set_in _ _ _ (by unfold inW; omega) (fun o ho => by rw [List.eq_of_mem_replicate ho]; unfold inW; omega))
/-- The sum over a list of characters. -/
def js (p n : Int) (cs : List S37) (t : Int) : Int × List Int := (n, cnt n ((jl p n cs (st p n)).getD t.toNat []))
theorem sp_sum (p n : Int) (hp : pr p = true) (hn : 1 ≤ n ∧ n ≤ 16) (cs : List S37) (hcs : okl p n cs) (hl : 0 < cs.length) (hl2 : cs.length ≤ 1000) (t : Int) (ht : 0 ≤ t ∧ t < p) : Ev (fun f => spec_l04Sum.f f cs t) (js p n cs t) := by
  have hb := pr_bd hp
  have h0 := hcs _ (List.getElem_mem hl)
  have hx0 : rd_T37 cs 0 = cs[0] := by simp [rd_T37, hl]
  have k1 : ∀ (d i : Nat) (rows : List (List Int)), d + i = cs.length → sh p n rows → Ev (fun f => spec_l04Sum.l1 f cs t p n rows (i : Int)) (n, cnt n ((jl p n (cs.drop i) rows).getD t.toNat [])) := by
    intro d
    induction d with
    | zero =>
      intro i rows hi h
      have e : i = cs.length := by omega
      subst e
      obtain ⟨T, rfl⟩ : ∃ T : Nat, t = T := ⟨t.toNat, by omega⟩
      have hg := sh_get h T ht.2
      refine Ev.step (f := fun f => ((spec_l01Reduce.f f n (rows.getD T [])).bind fun bt => some (bt.1, bt.2))) (fun f => ?_) ?_
      · simp only [spec_l04Sum.l1, rdL]
        rw [if_neg (by omega), if_pos (by omega), if_pos (by have := h.1; omega)]
      · rw [List.drop_length, jl, Int.toNat_natCast]
        exact Ev.bind (reduce n _ hn.1 hn.2 hg.1 hg.2) (Ev.now _)
    | succ d ih =>
      intro i rows hi h
      have hi2 : i < cs.length := by omega
      have hc := hcs _ (List.getElem_mem hi2)
      refine Ev.step (f := fun f => ((spec_l04Sum_body.f f cs (i : Int) rows p n).bind fun t2 => (spec_l04Sum.l1 f cs t p n t2 ((i : Int) + 1)))) (fun f => ?_) ?_
      · simp only [spec_l04Sum.l1]
        rw [if_pos (by omega), w64 (x := (i : Int) + 1) (by omega) (by omega)]
      · refine Ev.bind (sp_body p n hp hn cs rows h i hi2 cs[i].f2 ⟨hc.2.2.1, hc.2.2.2⟩ (by rw [← hc.1, ← hc.2.1])) ?_
        rw [List.drop_eq_getElem_cons hi2, jl]
        exact ih (i + 1) _ (by omega) (sh_jb (by omega) (by omega) _ _)
  have k0 : ∀ (d i : Nat), (d : Int) + i = p → Ev (fun f => spec_l04Sum.l0 f cs t p n (List.replicate i (List.replicate n.toNat 0)) (i : Int)) (js p n cs t) := by
    intro d
    induction d with
    | zero =>
      intro i hi
      have e : i = p.toNat := by omega
      have e2 : (List.replicate i (List.replicate n.toNat (0 : Int))).getD 0 [] = List.replicate n.toNat 0 := by rw [gE _ _ (by rw [List.length_replicate]; omega), List.getElem_replicate]
      have H := k1 cs.length 0 (st p n) (by omega) (sh_st p n (by omega) (by omega))
      refine Ev.step (fun f => ?_) H
      have e3 : rd_L2 (List.replicate i (List.replicate n.toNat (0 : Int))) 0 = List.replicate n.toNat 0 := e2
      simp only [spec_l04Sum.l0, e3, List.length_replicate]
      rw [if_neg (by omega), if_pos (by omega), if_pos (by omega), e]
      rfl
    | succ d ih =>
      intro i hi
      refine Ev.step (fun f => ?_) (ih (i + 1) (by omega))
      simp only [spec_l04Sum.l0, List.length_replicate, rep_snoc]
      rw [if_pos (by omega), if_pos (by omega), if_pos (by omega), if_pos (by omega), w64 (x := (i : Int) + 1) (by omega) (by omega)]
      rfl
  unfold spec_l04Sum.f
  simp only [if_pos (show 0 < (cs.length : Int) by omega), hx0, h0.1, h0.2.1]
  exact k0 p.toNat 0 (by omega)
def sf (f : Nat → Int) : Nat → Nat → Int
  | 0, _ => 0
  | d + 1, j => f j + sf f d (j + 1)
theorem sf_mod {f g : Nat → Int} : ∀ (d j : Nat), (∀ x, j ≤ x → x < j + d → f x % 18446744073709551616 = g x % 18446744073709551616) → sf f d j % 18446744073709551616 = sf g d j % 18446744073709551616
  | 0, _, _ => rfl
  | d + 1, j, h => by
    have h1 := h j (by omega) (by omega)
    have h2 := sf_mod d (j + 1) (fun x a b => h x (by omega) (by omega))
    rw [sf, sf]
    omega
theorem sf_congr {f g : Nat → Int} : ∀ (d j : Nat), (∀ x, j ≤ x → x < j + d → f x = g x) → sf f d j = sf g d j
  | 0, _, _ => rfl
  | d + 1, j, h => by rw [sf, sf, h j (by omega) (by omega), sf_congr d (j + 1) (fun x a b => h x (by omega) (by omega))]
theorem sf_zero {f : Nat → Int} (d j : Nat) (h : ∀ x, j ≤ x → x < j + d → f x = 0) : sf f d j = 0 := by
  rw [sf_congr (g := fun _ => 0) d j h]
  clear h
  induction d generalizing j with
  | zero => rfl
  | succ d ih => rw [sf, ih]; rfl
theorem sf_add (f g : Nat → Int) : ∀ (d j : Nat), sf (fun x => f x + g x) d j = sf f d j + sf g d j
  | 0, _ => rfl
  | d + 1, j => by rw [sf, sf, sf, sf_add f g d (j + 1)]; omega
theorem sf_comm (f : Nat → Nat → Int) (e i : Nat) : ∀ (d j : Nat), sf (fun x => sf (fun y => f x y) e i) d j = sf (fun y => sf (fun x => f x y) d j) e i
  | 0, j => by
    rw [sf]
    exact (sf_zero e i (fun _ _ _ => rfl)).symm
  | d + 1, j => by
    rw [sf, sf_comm f e i d (j + 1), ← sf_add]
    rfl
theorem sf_one (g : Nat → Int) (t : Nat) : ∀ (d j : Nat), sf (fun x => if x = t then g x else 0) d j = if j ≤ t ∧ t < j + d then g t else 0
  | 0, j => by rw [sf, if_neg (by omega)]
  | d + 1, j => by
    rw [sf, sf_one g t d (j + 1)]
    by_cases h : j = t
    · subst h
      rw [if_pos rfl, if_neg (by omega), if_pos (by omega)]
      omega
    · rw [if_neg h]
      by_cases h2 : j ≤ t ∧ t < j + (d + 1)
      · rw [if_pos (by omega), if_pos h2]; omega
      · rw [if_neg (by omega), if_neg h2]; omega
theorem sf_dot (src w : List Int) : ∀ (d j : Nat), d + j = src.length → d + j = w.length → sf (fun x => src.getD x 0 * w.getD x 0) d j = dot (src.drop j) (w.drop j)
  | 0, j, h1, _ => by rw [sf, List.drop_eq_nil_of_le (by omega)]; rfl
  | d + 1, j, h1, h2 => by rw [sf, dot_cons_drop _ _ _ _ (by omega) (by omega), sf_dot src w d (j + 1) (by omega) (by omega)]
def rot (n k : Int) (v : List Int) : List Int := (List.range n.toNat).map fun (j : Nat) => v.getD (((j : Int) + k) % n).toNat 0
theorem rot_len (n k : Int) (v : List Int) : (rot n k v).length = n.toNat := by simp [rot]
theorem rot_get (n k : Int) (v : List Int) (j : Nat) (h : (j : Int) < n) : (rot n k v).getD j 0 = v.getD (((j : Int) + k) % n).toNat 0 := by
  rw [gE _ _ (by rw [rot_len]; omega)]
  simp [rot]
theorem ad_dot (n k : Int) (src v : List Int) (hn : 1 ≤ n) : ∀ (d j : Nat) (row : List Int), (row.length : Int) = n → dot (ad n k src d j row) v % 18446744073709551616 = (dot row v + sf (fun x => src.getD x 0 * v.getD (((x : Int) + k) % n).toNat 0) d j) % 18446744073709551616
  | 0, j, row, _ => by rw [ad, sf]; omega
  | d + 1, j, row, h => by
    have hb := md_bd ((j : Int) + k) n (by omega)
    rw [ad, ad_dot n k src v hn d (j + 1) _ (by rw [List.length_set]; exact h), sf, dot_set _ _ _ _ (by omega), rd]
    have q1 : (wrap64 (row.getD (((j : Int) + k) % n).toNat 0 + src.getD j 0) - row.getD (((j : Int) + k) % n).toNat 0) % 18446744073709551616 = src.getD j 0 % 18446744073709551616 := by
      have := w_mod (row.getD (((j : Int) + k) % n).toNat 0 + src.getD j 0)
      omega
    have q2 : (wrap64 (row.getD (((j : Int) + k) % n).toNat 0 + src.getD j 0) - row.getD (((j : Int) + k) % n).toNat 0) * v.getD (((j : Int) + k) % n).toNat 0 % 18446744073709551616 = src.getD j 0 * v.getD (((j : Int) + k) % n).toNat 0 % 18446744073709551616 := by
      rw [Int.mul_emod, q1, ← Int.mul_emod]
    generalize (wrap64 (row.getD (((j : Int) + k) % n).toNat 0 + src.getD j 0) - row.getD (((j : Int) + k) % n).toNat 0) * v.getD (((j : Int) + k) % n).toNat 0 = A at *
    generalize src.getD j 0 * v.getD (((j : Int) + k) % n).toNat 0 = B at *
    omega
theorem ad_dot' (n k : Int) (src v row : List Int) (hn : 1 ≤ n) (hs : (src.length : Int) = n) (hr : (row.length : Int) = n) : dot (ad n k src n.toNat 0 row) v % 18446744073709551616 = (dot row v + dot src (rot n k v)) % 18446744073709551616 := by
  rw [ad_dot n k src v hn n.toNat 0 row hr, sf_congr (g := fun x => src.getD x 0 * (rot n k v).getD x 0) n.toNat 0 (fun x _ hx => by rw [rot_get n k v x (by omega)]), sf_dot _ _ _ _ (by omega) (by rw [rot_len]; omega), List.drop_zero, List.drop_zero]
theorem ax2_dot (p n y k : Int) (hp : 0 < p) (hn : 1 ≤ n) (now : List (List Int)) (hnow : sh p n now) (v : List Int) (s : Nat) : ∀ (d x : Nat) (nx : List (List Int)), ((d + x : Nat) : Int) ≤ p → sh p n nx →
    dot ((ax2 p n y k now d x nx).getD s []) v % 18446744073709551616 = (dot (nx.getD s []) v + sf (fun x => if (((x : Int) + y) % p).toNat = s then dot (now.getD x []) (rot n k v) else 0) d x) % 18446744073709551616
  | 0, x, nx, _, _ => by rw [ax2, sf]; omega
  | d + 1, x, nx, hd, h => by
    have hb := md_bd ((x : Int) + y) p hp
    have hg := sh_get h (((x : Int) + y) % p).toNat (by omega)
    have hgn := sh_get hnow x (by omega)
    rw [ax2, ax2_dot p n y k hp hn now hnow v s d (x + 1) _ (by omega) (sh_set h _ _ (by rw [ad_len]; exact hg.1) (ad_in _ _ _ _ _ _ hg.2)), sf]
    by_cases hs : (((x : Int) + y) % p).toNat = s
    · rw [if_pos hs, hs]
      have hil : s < nx.length := by have := h.1; omega
      rw [set_getL nx s _ hil]
      have := ad_dot' n k (now.getD x []) v (nx.getD s []) hn hgn.1 (by rw [← hs]; exact hg.1)
      omega
    · rw [if_neg hs]
      have e : (nx.set (((x : Int) + y) % p).toNat (ad n k (now.getD x []) n.toNat 0 (nx.getD (((x : Int) + y) % p).toNat []))).getD s [] = nx.getD s [] := by
        rw [List.getD_eq_getElem?_getD, List.getElem?_set_ne hs, List.getD_eq_getElem?_getD]
      rw [e]
      omega
theorem ay_dot (p n : Int) (hp : 0 < p) (hn : 1 ≤ n) (es : List Int) (now : List (List Int)) (hnow : sh p n now) (v : List Int) (s : Nat) : ∀ (d y : Nat) (nx : List (List Int)), sh p n nx →
    dot ((ay p n es now d y nx).getD s []) v % 18446744073709551616 = (dot (nx.getD s []) v + sf (fun y => sf (fun x => if (((x : Int) + (y : Int)) % p).toNat = s then dot (now.getD x []) (rot n (es.getD y 0) v) else 0) p.toNat 0) d y) % 18446744073709551616
  | 0, y, nx, _ => by rw [ay, sf]; omega
  | d + 1, y, nx, h => by
    rw [ay, ay_dot p n hp hn es now hnow v s d (y + 1) _ (sh_ax2 hp _ _ _ _ _ _ h), sf]
    have := ax2_dot p n (y : Int) (es.getD y 0) hp hn now hnow v s p.toNat 0 nx (by omega) h
    omega
theorem dot_rep (n : Nat) (v : List Int) : dot ((List.replicate n 0).set 0 1) v = if 0 < n then v.getD 0 0 else 0 := by
  cases n with
  | zero => cases v <;> rfl
  | succ n =>
    rw [dot_set _ _ _ _ (by simp), dot_zeros, List.replicate_succ, List.getD_cons_zero, if_pos (by omega)]
    omega
theorem zz_get (p n : Int) (s : Nat) (h : (s : Int) < p) : (zz p n).getD s [] = List.replicate n.toNat 0 := by
  rw [gE _ _ (by rw [zz, List.length_replicate]; omega)]
  simp [zz]
theorem st_get (p n : Int) (x : Nat) (h : (x : Int) < p) : (st p n).getD x [] = if x = 0 then (List.replicate n.toNat 0).set 0 1 else List.replicate n.toNat 0 := by
  have hl : (zz p n).length = p.toNat := by simp [zz]
  rw [st, gE _ _ (by rw [List.length_set]; omega), List.getElem_set]
  by_cases h0 : x = 0
  · rw [if_pos h0.symm, if_pos h0]
  · rw [if_neg (fun e => h0 e.symm), if_neg h0]
    simp [zz]
theorem jb_dot (p n : Int) (hp : 0 < p) (hn : 1 ≤ n) (es : List Int) (now : List (List Int)) (hnow : sh p n now) (v : List Int) (s : Nat) (hs : (s : Int) < p) :
    dot ((jb p n es now).getD s []) v % 18446744073709551616 = sf (fun y => sf (fun x => if (((x : Int) + (y : Int)) % p).toNat = s then dot (now.getD x []) (rot n (es.getD y 0) v) else 0) p.toNat 0) (p.toNat - 1) 1 % 18446744073709551616 := by
  rw [jb, ay_dot p n hp hn es now hnow v s _ _ _ (sh_zz p n (by omega) (by omega)), zz_get p n s hs, dot_zeros, Int.zero_add]
theorem one_dot (p n : Int) (hp : 1 < p) (hn : 1 ≤ n) (es : List Int) (v : List Int) (s : Nat) (hs : (s : Int) < p) :
    dot ((jb p n es (st p n)).getD s []) v % 18446744073709551616 = (if 1 ≤ s then v.getD (es.getD s 0 % n).toNat 0 else 0) % 18446744073709551616 := by
  rw [jb_dot p n (by omega) hn es _ (sh_st p n (by omega) (by omega)) v s hs]
  have h1 : ∀ y : Nat, 1 ≤ y → y < 1 + (p.toNat - 1) → sf (fun x => if (((x : Int) + (y : Int)) % p).toNat = s then dot ((st p n).getD x []) (rot n (es.getD y 0) v) else 0) p.toNat 0 = if y = s then v.getD (es.getD y 0 % n).toNat 0 else 0 := by
    intro y hy hy2
    obtain ⟨q, hq⟩ : ∃ q, p.toNat = q + 1 := ⟨p.toNat - 1, by omega⟩
    rw [hq, sf, sf_zero q (0 + 1) (fun x hx hx2 => by
      have e := st_get p n x (by omega)
      rw [if_neg (show ¬ x = 0 by omega)] at e
      rw [e, dot_zeros]
      simp)]
    have e0 := st_get p n 0 (by omega)
    rw [if_pos rfl] at e0
    rw [show (((0 : Nat) : Int) + (y : Int)) % p = (y : Int) by rw [Int.emod_eq_of_lt (by omega) (by omega)]; omega, Int.toNat_natCast, e0, dot_rep, if_pos (show 0 < n.toNat by omega), rot_get n _ v 0 (by omega)]
    rw [show ((0 : Nat) : Int) + es.getD y 0 = es.getD y 0 by omega]
    omega
  rw [sf_congr (p.toNat - 1) 1 h1, sf_one (fun y => v.getD (es.getD y 0 % n).toNat 0) s]
  by_cases hs1 : 1 ≤ s
  · rw [if_pos (by omega), if_pos hs1]
  · rw [if_neg (by omega), if_neg hs1]
def gg (p n : Int) (e f v : List Int) : Int := sf (fun y => v.getD ((e.getD (p.toNat + 1 - y) 0 % n + f.getD y 0) % n).toNat 0) (p.toNat - 2) 2
theorem two_dot (p n : Int) (hp : 2 < p) (hn : 1 ≤ n) (e f : List Int) (v : List Int) :
    dot ((jb p n f (jb p n e (st p n))).getD 1 []) v % 18446744073709551616 = gg p n e f v % 18446744073709551616 := by
  rw [jb_dot p n (by omega) hn f _ (sh_jb (by omega) (by omega) _ _) v 1 (by omega)]
  have h1 : ∀ y : Nat, 1 ≤ y → y < 1 + (p.toNat - 1) → sf (fun x => if (((x : Int) + (y : Int)) % p).toNat = 1 then dot ((jb p n e (st p n)).getD x []) (rot n (f.getD y 0) v) else 0) p.toNat 0 % 18446744073709551616 =
      (if 2 ≤ y then v.getD ((e.getD (p.toNat + 1 - y) 0 % n + f.getD y 0) % n).toNat 0 else 0) % 18446744073709551616 := by
    intro y hy hy2
    have hm : ∀ x : Nat, (x : Int) < p → ((((x : Int) + (y : Int)) % p).toNat = 1 ↔ x = (if 2 ≤ y then p.toNat + 1 - y else 0)) := by
      intro x hx
      by_cases c : (x : Int) + y < p
      · rw [Int.emod_eq_of_lt (by omega) c]
        split <;> omega
      · rw [show (x : Int) + (y : Int) = ((x : Int) + y - p) + p by omega, Int.add_emod_right, Int.emod_eq_of_lt (by omega) (by omega)]
        split <;> omega
    rw [sf_congr (g := fun x => if x = (if 2 ≤ y then p.toNat + 1 - y else 0) then dot ((jb p n e (st p n)).getD x []) (rot n (f.getD y 0) v) else 0) p.toNat 0 (fun x _ hx => by
      by_cases c : (((x : Int) + (y : Int)) % p).toNat = 1
      · rw [if_pos c, if_pos ((hm x (by omega)).mp c)]
      · rw [if_neg c, if_neg (fun h => c ((hm x (by omega)).mpr h))]), sf_one (fun x => dot ((jb p n e (st p n)).getD x []) (rot n (f.getD y 0) v))]
    by_cases c : 2 ≤ y
    · rw [if_pos c, if_pos c, if_pos (by omega), one_dot p n (by omega) hn e _ _ (by omega), if_pos (by omega)]
      have hb := md_bd (e.getD (p.toNat + 1 - y) 0) n (by omega)
      rw [rot_get n _ v _ (by omega), Int.toNat_of_nonneg hb.1]
    · rw [if_neg c, if_neg c, if_pos (by omega), one_dot p n (by omega) hn e _ _ (by omega), if_neg (by omega)]
  rw [sf_mod (p.toNat - 1) 1 h1]
  obtain ⟨q, hq⟩ : ∃ q, p.toNat - 1 = q + 1 := ⟨p.toNat - 2, by omega⟩
  rw [hq, sf, if_neg (by omega), Int.zero_add, gg, show p.toNat - 2 = q by omega]
  congr 1
  exact sf_congr q 2 (fun x hx _ => by rw [if_pos hx])
def vt (n : Int) : List Int := [[], [1], [1, -1], [1, 0, -1], [1, 0, -1, 0], [1, 0, 0, 0, -1], [1, 0, -1, -1, 0, 1], [1, 0, 0, 0, 0, 0, -1], [1, 0, 0, 0, -1, 0, 0, 0], [1, 0, 0, 0, 0, 0, -1, 0, 0], [1, 0, 0, 0, -1, -1, 0, 0, 0, 1], [1, 0, 0, 0, 0, 0, 0, 0, 0, 0, -1], [1, 0, 0, 0, -1, 0, -1, 0, 0, 0, 1, 0], [1, 0, 0, 0, 0, 0, 0, 0, 0, 0, 0, 0, -1], [1, 0, 0, 0, 0, 0, -1, -1, 0, 0, 0, 0, 0, 1], [1, 0, 0, 0, 0, 0, 0, 0, -1, -1, -1, 0, 0, 1, 1], [1, 0, 0, 0, 0, 0, 0, 0, -1, 0, 0, 0, 0, 0, 0, 0]].getD n.toNat []
theorem vt_all : ∀ m : Nat, m < 17 → cl (m : Int) 0 = vt (m : Int) := by decide +kernel
def gd (a b : Nat) : Nat := Nat.gcd a b
def nn (a b : Nat) : Nat := a / gd a b * b
def gcdOk (a b : Nat) : Bool := decide (spec_l01Gcd.f 30 (a : Int) (b : Int) = some (gd a b : Int)) && decide (impl_gcd.f 30 (a : Int) (b : Int) = some (gd a b : Int)) && decide (1 ≤ gd a b) && decide (nn a b % a = 0) && decide (nn a b % b = 0) && decide (1 ≤ nn a b) && decide (nn a b ≤ 3600) && decide (Int.tdiv (a : Int) (gd a b : Int) = ((a / gd a b : Nat) : Int))
def dvs : List Nat := [1, 2, 3, 4, 5, 6, 7, 8, 9, 10, 11, 12, 13, 14, 15, 16, 18, 20, 21, 22, 23, 26, 28, 29, 30, 36, 40, 42, 46, 52, 58, 60]
theorem dvs_all : ∀ p ∈ prs, ∀ a : Nat, a < 61 → 1 ≤ a → (p - 1) % (a : Int) = 0 → a ∈ dvs := by decide +kernel
theorem gcd_all : ∀ a ∈ dvs, ∀ b ∈ dvs, gcdOk a b = true := by decide +kernel
def faOk (n a r t : Nat) : Bool := decide (sf (fun i => (vt (n : Int)).getD (((r * (i * (n / a))) % n + t) % n) 0) a 0 = if r = 0 then (a : Int) * (vt (n : Int)).getD t 0 else 0)
def faAll (n a : Nat) : Bool := decide (∀ r : Nat, r < a → ∀ t : Nat, t < n → faOk n a r t = true)
theorem fa_all : ∀ n : Nat, n < 17 → 1 ≤ n → ∀ a : Nat, a < 17 → 1 ≤ a → n % a = 0 → faAll n a = true := by decide +kernel
theorem v0_all : ∀ n : Nat, n < 17 → 1 ≤ n → (vt (n : Int)).getD 0 0 = 1 := by decide +kernel
theorem sf_mul (c : Int) (f : Nat → Int) : ∀ (d j : Nat), sf (fun x => c * f x) d j = c * sf f d j
  | 0, _ => by rw [sf, sf, Int.mul_zero]
  | d + 1, j => by rw [sf, sf, sf_mul c f d (j + 1), Int.mul_add]
theorem ff (n a b r s : Nat) (hn : n < 17) (hn0 : 1 ≤ n) (ha : a < 17) (ha0 : 1 ≤ a) (hb : b < 17) (hb0 : 1 ≤ b) (hna : n % a = 0) (hnb : n % b = 0) (hr : r < a) (hs : s < b) :
    sf (fun i => sf (fun k => (vt (n : Int)).getD (((r * (i * (n / a))) % n + (s * (k * (n / b))) % n) % n) 0) b 0) a 0 = if r = 0 ∧ s = 0 then (a : Int) * b else 0 := by
  have A := of_decide_eq_true (fa_all n hn hn0 a ha ha0 hna) r hr
  have B := of_decide_eq_true (of_decide_eq_true (fa_all n hn hn0 b hb hb0 hnb) s hs 0 (by omega))
  rw [sf_comm, sf_congr (g := fun k => if r = 0 then (a : Int) * (vt (n : Int)).getD ((s * (k * (n / b))) % n) 0 else 0) b 0 (fun k _ _ => of_decide_eq_true (A ((s * (k * (n / b))) % n) (Nat.mod_lt _ (by omega))))]
  by_cases c : r = 0
  · simp only [c, if_true, true_and]
    rw [sf_mul, sf_congr (g := fun k => (vt (n : Int)).getD (((s * (k * (n / b))) % n + 0) % n) 0) b 0 (fun k _ _ => by rw [Nat.add_zero, Nat.mod_mod]), B, v0_all n hn hn0]
    by_cases c2 : s = 0
    · rw [if_pos c2, if_pos c2, Int.mul_one]
    · rw [if_neg c2, if_neg c2, Int.mul_zero]
  · rw [if_neg (fun h => c h.1)]
    exact sf_zero b 0 (fun k _ _ => by simp only [if_neg c])
def onesOk (a b : Nat) : Bool := decide (sf (fun i => sf (fun k => (if i = 0 then (1 : Int) else 0) + (if k = 0 then 1 else 0)) b 0) a 0 = (a : Int) + b)
theorem ones_all : ∀ a : Nat, a < 17 → 1 ≤ a → ∀ b : Nat, b < 17 → 1 ≤ b → onesOk a b = true := by decide +kernel
/-- How many y have a power with a sum. -/
def nb (p b u : Nat) : Int := sf (fun y => if (u + y ^ b % p) % p = 1 then 1 else 0) p 0
def nbf (p b u : Nat) : Int := if (p + 1 - u) % p = 0 then 1 else if (ix (p : Int)).getD ((p + 1 - u) % p) 0 % (b : Int) = 0 then (b : Int) else 0
def nbOk (p b u : Nat) : Bool := decide (nb p b u = nbf p b u)
def pns : List Nat := prs.map Int.toNat
theorem nb_all : ∀ p ∈ pns, ∀ b : Nat, b < 17 → 1 ≤ b → (p - 1) % b = 0 → ∀ u : Nat, u < p → nbOk p b u = true := by decide +kernel
def endOk (p a b : Nat) : Bool := decide (sf (fun y => if (ix (p : Int)).getD (p + 1 - y) 0 % (a : Int) = 0 ∧ (ix (p : Int)).getD y 0 % (b : Int) = 0 then (a : Int) * b else 0) (p - 2) 2 + ((a : Int) + b) = sf (fun x => nbf p b (x ^ a % p)) p 0)
def endAll (p a : Nat) : Bool := decide (∀ b : Nat, b < 17 → 1 ≤ b → (p - 1) % b = 0 → nn a b ≤ 16 → endOk p a b = true)
theorem end_all : ∀ p ∈ pns, ∀ a : Nat, a < 17 → 1 ≤ a → (p - 1) % a = 0 → endAll p a = true := by decide +kernel
def cI (a b i : Nat) : Int := ((i * (nn a b / a) : Nat) : Int)
def dK (a b k : Nat) : Int := ((k * (nn a b / b) : Nat) : Int)
theorem part_lt {n a i : Nat} (h : n % a = 0) (hn : 1 ≤ n) (hi : i < a) : i * (n / a) < n ∧ 1 ≤ n / a ∧ n = a * (n / a) := by
  have e : n = a * (n / a) := by have := Nat.div_add_mod n a; omega
  have q : 1 ≤ n / a := by
    rcases Nat.eq_zero_or_pos (n / a) with h0 | h0
    · rw [h0, Nat.mul_zero] at e; omega
    · exact h0
  refine ⟨?_, q, e⟩
  have := Nat.mul_lt_mul_of_pos_right hi q
  omega
def jt (p : Int) (a b i k : Nat) : Int := gg p (nn a b : Nat) (ex p (nn a b : Nat) (cI a b i)) (ex p (nn a b : Nat) (dK a b k)) (cl (nn a b : Nat) 0) + ((if i = 0 then 1 else 0) + (if k = 0 then 1 else 0))
def VV (n : Int) (out : List Int) (acc : Int) : Prop := out.length = phn n ∧ (∀ o ∈ out, inW o) ∧ out.getD 0 0 % 18446744073709551616 = acc % 18446744073709551616
theorem VV_plus {n : Int} (h0 : 1 ≤ n) (h1 : n ≤ 16) {out l' : List Int} {acc x : Int} (h : VV n out acc) (hl : l'.length = phn n) (hx : l'.getD 0 0 % 18446744073709551616 = x % 18446744073709551616) : VV n (axpy 1 out l') (acc + x) ∧ Ev (fun k => spec_l01Plus.f k n out n l' 1) (n, axpy 1 out l') := by
  have hb := phn_bd n h0 h1
  refine ⟨⟨by rw [axpy_len _ _ _ (by rw [hl, h.1]), h.1], axpy_in _ _ _, ?_⟩, plus01 1 n n out l' (by rw [hl, h.1]) (by rw [h.1]; omega)⟩
  rw [axpy_get _ _ _ (by rw [hl, h.1]) 0 (by rw [h.1]; omega)]
  have := axpy_mod (out.getD 0 0) 1 (l'.getD 0 0)
  have := h.2.2
  omega
theorem one01 (n : Int) (h0 : 1 ≤ n) (h1 : n ≤ 16) : Ev (fun k => spec_l01One.f k n) (n, (pw n).getD 0 []) ∧ ((pw n).getD 0 []).length = phn n ∧ ((pw n).getD 0 []).getD 0 0 % 18446744073709551616 = 1 % 18446744073709551616 := by
  have hb := phn_bd n h0 h1
  have hg := pw_get n 0 h0 h1 (by omega)
  refine ⟨?_, pw_row n h0 h1 _ hg, ?_⟩
  · unfold spec_l01One.f
    exact Ev.bind (unit01 n 0 h0 h1 (by omega)) (Ev.now _)
  · have e := cl_get n 0 0 h0 h1 (by omega)
    have u := of_decide_eq_true (cl_unit n.toNat (by omega) (by omega) 0 (by rw [Int.toNat_of_nonneg (by omega)]; omega) 0 (by rw [Int.toNat_of_nonneg (by omega)]; omega))
    rw [Int.toNat_of_nonneg (by omega)] at u
    have e2 : ((pw n).getD 0 []).getD 0 0 = (cl n 0).getD 0 0 := e.symm
    rw [e2, u]
    rfl
theorem js_get (p n c d : Int) (hp : pr p = true) (hn : 1 ≤ n ∧ n ≤ 16) : (js p n [⟨p, n, c⟩, ⟨p, n, d⟩] 1).2.length = phn n ∧ (js p n [⟨p, n, c⟩, ⟨p, n, d⟩] 1).2.getD 0 0 % 18446744073709551616 = gg p n (ex p n c) (ex p n d) (cl n 0) % 18446744073709551616 := by
  have hb := pr_bd hp
  have hph := phn_bd n hn.1 hn.2
  obtain ⟨c1, _, c3⟩ := cnt_spec n ((jl p n [⟨p, n, c⟩, ⟨p, n, d⟩] (st p n)).getD (1 : Int).toNat []) hn.1 hn.2
  refine ⟨c1, ?_⟩
  rw [← two_dot p n (by omega) hn.1 (ex p n c) (ex p n d) (cl n 0)]
  exact c3 0 (by omega)
theorem sc_j3 (p : Int) (a b : Nat) (hp : pr p = true) (ha : 1 ≤ a) (hb : 1 ≤ b) (hn0 : 1 ≤ nn a b) (hn : nn a b ≤ 16) (hna : nn a b % a = 0) (hnb : nn a b % b = 0) (i k : Nat) (hk : k < b) (out : List Int) (acc : Int) (h : VV (nn a b : Nat) out acc) : ∃ out', VV (nn a b : Nat) out' (acc + if k = 0 then 1 else 0) ∧
    ∀ r, Ev (fun f => spec_CountByJacobi.l1 f p (a : Int) (b : Int) (nn a b : Nat) (i : Int) ((k : Int) + 1) (nn a b : Nat) out') r → Ev (fun f => spec_CountByJacobi.j3 f p (a : Int) (b : Int) (nn a b : Nat) (i : Int) (k : Int) (nn a b : Nat) out p (nn a b : Nat) (dK a b k)) r := by
  obtain ⟨q1, q2, q3⟩ := part_lt hnb hn0 hk
  have hb16 : b ≤ nn a b := by rw [q3]; exact Nat.le_mul_of_pos_right b (by omega)
  by_cases c : k = 0
  · subst c
    obtain ⟨o1, o2, o3⟩ := one01 (nn a b : Nat) (by omega) (by omega)
    obtain ⟨v1, v2⟩ := VV_plus (by omega) (by omega) h o2 o3
    refine ⟨_, by rw [if_pos rfl]; exact v1, fun r H => ?_⟩
    refine Ev.step (f := fun f => ((spec_l01One.f f (nn a b : Nat)).bind fun bt => ((spec_l01Plus.f f (nn a b : Nat) out bt.1 bt.2 1).bind fun bu => (spec_CountByJacobi.l1 f p (a : Int) (b : Int) (nn a b : Nat) (i : Int) (((0 : Nat) : Int) + 1) bu.1 bu.2)))) (fun f => ?_) (Ev.bind o1 (Ev.bind v2 H))
    have e : dK a b 0 = 0 := by simp [dK]
    simp only [spec_CountByJacobi.j3, e, if_true]
    rw [w64 (x := ((0 : Nat) : Int) + 1) (by omega) (by omega)]
  · refine ⟨out, by rw [if_neg c, Int.add_zero]; exact h, fun r H => Ev.step (fun f => ?_) H⟩
    have e : ¬ dK a b k = 0 := by
      have : 1 * 1 ≤ k * (nn a b / b) := Nat.mul_le_mul (by omega) q2
      simp only [dK]
      omega
    simp only [spec_CountByJacobi.j3]
    rw [if_neg e, w64 (x := (k : Int) + 1) (by omega) (by omega)]
theorem sc_l1 (p : Int) (a b : Nat) (hp : pr p = true) (ha : 1 ≤ a) (hb : 1 ≤ b) (hn0 : 1 ≤ nn a b) (hn : nn a b ≤ 16) (hna : nn a b % a = 0) (hnb : nn a b % b = 0) (i : Nat) (hi : i < a) : ∀ (d k : Nat) (out : List Int) (acc : Int), d + k = b → VV (nn a b : Nat) out acc → ∃ out', VV (nn a b : Nat) out' (acc + sf (jt p a b i) d k) ∧
    ∀ r, Ev (fun f => spec_CountByJacobi.l0 f p (a : Int) (b : Int) (nn a b : Nat) ((i : Int) + 1) (nn a b : Nat) out') r → Ev (fun f => spec_CountByJacobi.l1 f p (a : Int) (b : Int) (nn a b : Nat) (i : Int) (k : Int) (nn a b : Nat) out) r := by
  have hpb := pr_bd hp
  obtain ⟨a1, a2, a3⟩ := part_lt hna hn0 hi
  have ha16 : a ≤ nn a b := by rw [a3]; exact Nat.le_mul_of_pos_right a (by omega)
  intro d
  induction d with
  | zero =>
    intro k out acc hd h
    refine ⟨out, by rw [sf, Int.add_zero]; exact h, fun r H => Ev.step (fun f => ?_) H⟩
    simp only [spec_CountByJacobi.l1]
    rw [if_neg (by omega), w64 (x := (i : Int) + 1) (by omega) (by omega)]
  | succ d ih =>
    intro k out acc hd h
    obtain ⟨b1, b2, b3⟩ := part_lt hnb hn0 (show k < b by omega)
    have ec : wrap64 ((i : Int) * wrap64 (Int.tdiv ((nn a b : Nat) : Int) (a : Int))) = cI a b i := by
      rw [show Int.tdiv ((nn a b : Nat) : Int) (a : Int) = ((nn a b / a : Nat) : Int) from rfl, w64 (x := ((nn a b / a : Nat) : Int)) (by omega) (by have := Nat.div_le_self (nn a b) a; omega), ← Int.natCast_mul, w64 (by omega) (by omega)]
      rfl
    have ed : wrap64 ((k : Int) * wrap64 (Int.tdiv ((nn a b : Nat) : Int) (b : Int))) = dK a b k := by
      rw [show Int.tdiv ((nn a b : Nat) : Int) (b : Int) = ((nn a b / b : Nat) : Int) from rfl, w64 (x := ((nn a b / b : Nat) : Int)) (by omega) (by have := Nat.div_le_self (nn a b) b; omega), ← Int.natCast_mul, w64 (by omega) (by omega)]
      rfl
    have hcI : 0 ≤ cI a b i ∧ cI a b i ≤ 15 := by simp only [cI]; omega
    have hdK : 0 ≤ dK a b k ∧ dK a b k ≤ 15 := by simp only [dK]; omega
    obtain ⟨j1, j2⟩ := js_get p (nn a b : Nat) (cI a b i) (dK a b k) hp (by omega)
    have hj : Ev (fun f => spec_l04Jacobi.f f p (nn a b : Nat) (cI a b i) p (nn a b : Nat) (dK a b k)) (js p (nn a b : Nat) [⟨p, (nn a b : Nat), cI a b i⟩, ⟨p, (nn a b : Nat), dK a b k⟩] 1) := by
      unfold spec_l04Jacobi.f
      refine Ev.bind (sp_sum p (nn a b : Nat) hp (by omega) _ (fun c hc => ?_) (by simp) (by simp) 1 (by omega)) (Ev.now _)
      simp only [List.mem_cons, List.not_mem_nil, or_false] at hc
      rcases hc with rfl | rfl
      · exact ⟨rfl, rfl, hcI⟩
      · exact ⟨rfl, rfl, hdK⟩
    obtain ⟨v1, v2⟩ := VV_plus (by omega) (by omega) h j1 j2
    obtain ⟨o1, o2, o3⟩ := one01 (nn a b : Nat) (by omega) (by omega)
    by_cases c : i = 0
    · obtain ⟨v3, v4⟩ := VV_plus (by omega) (by omega) v1 o2 o3
      obtain ⟨out1, w1, w2⟩ := sc_j3 p a b hp ha hb hn0 hn hna hnb i k (by omega) _ _ v3
      obtain ⟨out2, u1, u2⟩ := ih (k + 1) out1 _ (by omega) w1
      refine ⟨out2, ?_, fun r H => ?_⟩
      · rw [sf]
        rw [show acc + (jt p a b i k + sf (jt p a b i) d (k + 1)) = acc + gg p (nn a b : Nat) (ex p (nn a b : Nat) (cI a b i)) (ex p (nn a b : Nat) (dK a b k)) (cl (nn a b : Nat) 0) + 1 + (if k = 0 then 1 else 0) + sf (jt p a b i) d (k + 1) by rw [jt, if_pos c]; omega]
        exact u1
      · refine Ev.step (f := fun f => ((spec_l04Jacobi.f f p (nn a b : Nat) (cI a b i) p (nn a b : Nat) (dK a b k)).bind fun bt => ((spec_l01Plus.f f (nn a b : Nat) out bt.1 bt.2 1).bind fun bu => ((spec_l01One.f f (nn a b : Nat)).bind fun bv => ((spec_l01Plus.f f bu.1 bu.2 bv.1 bv.2 1).bind fun bw => (spec_CountByJacobi.j3 f p (a : Int) (b : Int) (nn a b : Nat) (i : Int) (k : Int) bw.1 bw.2 p (nn a b : Nat) (dK a b k))))))) (fun f => ?_) (Ev.bind hj (Ev.bind v2 (Ev.bind o1 (Ev.bind v4 (w2 r (u2 r H))))))
        have e : cI a b i = 0 := by simp [cI, c]
        simp only [spec_CountByJacobi.l1, ec, ed]
        rw [if_pos (by omega), if_neg (by omega), if_neg (by omega)]
        simp only [if_pos e]
    · obtain ⟨out1, w1, w2⟩ := sc_j3 p a b hp ha hb hn0 hn hna hnb i k (by omega) _ _ v1
      obtain ⟨out2, u1, u2⟩ := ih (k + 1) out1 _ (by omega) w1
      refine ⟨out2, ?_, fun r H => ?_⟩
      · rw [sf]
        rw [show acc + (jt p a b i k + sf (jt p a b i) d (k + 1)) = acc + gg p (nn a b : Nat) (ex p (nn a b : Nat) (cI a b i)) (ex p (nn a b : Nat) (dK a b k)) (cl (nn a b : Nat) 0) + (if k = 0 then 1 else 0) + sf (jt p a b i) d (k + 1) by rw [jt, if_neg c]; omega]
        exact u1
      · refine Ev.step (f := fun f => ((spec_l04Jacobi.f f p (nn a b : Nat) (cI a b i) p (nn a b : Nat) (dK a b k)).bind fun bt => ((spec_l01Plus.f f (nn a b : Nat) out bt.1 bt.2 1).bind fun bu => (spec_CountByJacobi.j3 f p (a : Int) (b : Int) (nn a b : Nat) (i : Int) (k : Int) bu.1 bu.2 p (nn a b : Nat) (dK a b k))))) (fun f => ?_) (Ev.bind hj (Ev.bind v2 (w2 r (u2 r H))))
        have e : ¬ cI a b i = 0 := by
          have : 1 * 1 ≤ i * (nn a b / a) := Nat.mul_le_mul (by omega) a2
          simp only [cI]
          omega
        simp only [spec_CountByJacobi.l1, ec, ed]
        rw [if_pos (by omega), if_neg (by omega), if_neg (by omega)]
        simp only [if_neg e]
theorem sc_l0 (p : Int) (a b : Nat) (hp : pr p = true) (ha : 1 ≤ a) (hb : 1 ≤ b) (hn0 : 1 ≤ nn a b) (hn : nn a b ≤ 16) (hna : nn a b % a = 0) (hnb : nn a b % b = 0) : ∀ (d i : Nat) (out : List Int) (acc : Int), d + i = a → VV (nn a b : Nat) out acc → ∃ R, inW R ∧ R % 18446744073709551616 = (acc + sf (fun i => sf (jt p a b i) b 0) d i) % 18446744073709551616 ∧
    Ev (fun f => spec_CountByJacobi.l0 f p (a : Int) (b : Int) (nn a b : Nat) (i : Int) (nn a b : Nat) out) (R, 0) := by
  intro d
  induction d with
  | zero =>
    intro i out acc hd h
    have hph := phn_bd (nn a b : Nat) (by omega) (by omega)
    refine ⟨out.getD 0 0, get_in out h.2.1 0, by rw [sf, Int.add_zero]; exact h.2.2, Ev.step (f := fun _ => some (out.getD 0 0, 0)) (fun f => ?_) (Ev.now _)⟩
    simp only [spec_CountByJacobi.l0]
    rw [if_neg (by omega), if_pos (by have := h.1; omega)]
    rfl
  | succ d ih =>
    intro i out acc hd h
    obtain ⟨out1, w1, w2⟩ := sc_l1 p a b hp ha hb hn0 hn hna hnb i (by omega) b 0 out acc (by omega) h
    obtain ⟨R, r1, r2, r3⟩ := ih (i + 1) out1 _ (by omega) w1
    refine ⟨R, r1, by rw [r2, sf]; congr 1; omega, Ev.step (fun f => ?_) (w2 _ r3)⟩
    simp only [spec_CountByJacobi.l0]
    rw [if_pos (by omega)]
    rfl
theorem sf01 {f : Nat → Int} (h : ∀ x, f x = 0 ∨ f x = 1) : ∀ (d j : Nat), 0 ≤ sf f d j ∧ sf f d j ≤ d
  | 0, j => by rw [sf]; omega
  | d + 1, j => by
    have := sf01 h d (j + 1)
    have := h j
    rw [sf]
    omega
def hit1 (P a b x y : Nat) : Int := if (x ^ a % P + y ^ b % P) % P = 1 then 1 else 0
theorem ic_l1 (P a b : Nat) (hP : 3 ≤ P ∧ P ≤ 61) (ha : a ≤ 1000) (hb : b ≤ 1000) (x : Nat) (hx : x < P) (r : Int × Int) : ∀ (d y : Nat) (many : Int), d + y = P → 0 ≤ many → many + d ≤ 1000000 →
    Ev (fun f => impl_CountByJacobi.l0 f (P : Int) (a : Int) (b : Int) (many + sf (hit1 P a b x) d y) (P : Int) ((x : Int) + 1)) r →
    Ev (fun f => impl_CountByJacobi.l1 f (P : Int) (a : Int) (b : Int) many (x : Int) (P : Int) (x : Int) (P : Int) (y : Int)) r := by
  intro d
  induction d with
  | zero =>
    intro y many hd h0 h1 H
    rw [sf, Int.add_zero] at H
    refine Ev.step (fun f => ?_) H
    simp only [impl_CountByJacobi.l1]
    rw [if_neg (by omega), w64 (x := (x : Int) + 1) (by omega) (by omega)]
  | succ d ih =>
    intro y many hd h0 h1 H
    have e1 : (x : Int) ^ a % (P : Int) = ((x ^ a % P : Nat) : Int) := by rw [pow_nat _ _ _ (by omega) (by omega)]; rfl
    have e2 : (y : Int) ^ b % (P : Int) = ((y ^ b % P : Nat) : Int) := by rw [pow_nat _ _ _ (by omega) (by omega)]; rfl
    have p1 := implPower (P : Int) (x : Int) a (by omega) (by omega) (by omega)
    have p2 := implPower (P : Int) (y : Int) b (by omega) (by omega) (by omega)
    rw [e1] at p1
    rw [e2] at p2
    have m1 : x ^ a % P < P := Nat.mod_lt _ (by omega)
    have m2 : y ^ b % P < P := Nat.mod_lt _ (by omega)
    have e3 : Int.tmod (wrap64 (((x ^ a % P : Nat) : Int) + ((y ^ b % P : Nat) : Int))) (P : Int) = (((x ^ a % P + y ^ b % P) % P : Nat) : Int) := by
      rw [w64 (by omega) (by omega), Int.tmod_eq_emod_of_nonneg (by omega), ← Int.natCast_add, ← Int.natCast_emod]
    rw [sf] at H
    refine Ev.step (f := fun f => (impl_power.f f (x : Int) (a : Int) (P : Int)).bind fun t => ((impl_power.f f (y : Int) (b : Int) (P : Int)).bind fun u => if Int.tmod (wrap64 (t + u)) (P : Int) = 1 then impl_CountByJacobi.l1 f (P : Int) (a : Int) (b : Int) (many + 1) (x : Int) (P : Int) (x : Int) (P : Int) ((y : Int) + 1) else impl_CountByJacobi.l1 f (P : Int) (a : Int) (b : Int) many (x : Int) (P : Int) (x : Int) (P : Int) ((y : Int) + 1))) (fun f => ?_) ?_
    · simp only [impl_CountByJacobi.l1]
      rw [if_pos (by omega), w64 (x := many + 1) (by omega) (by omega), w64 (x := (y : Int) + 1) (by omega) (by omega)]
      simp only [if_neg (show ¬ (P : Int) = 0 by omega)]
    · refine Ev.bind p1 (Ev.bind p2 ?_)
      simp only [e3]
      by_cases c : (x ^ a % P + y ^ b % P) % P = 1
      · simp only [c, if_pos (show ((1 : Nat) : Int) = 1 from rfl)]
        refine ih (y + 1) (many + 1) (by omega) (by omega) (by omega) ?_
        rw [show hit1 P a b x y = 1 by rw [hit1, if_pos c]] at H
        rw [show many + 1 + sf (hit1 P a b x) d (y + 1) = many + (1 + sf (hit1 P a b x) d (y + 1)) by omega]
        exact H
      · simp only [if_neg (show ¬ (((x ^ a % P + y ^ b % P) % P : Nat) : Int) = 1 by omega)]
        refine ih (y + 1) many (by omega) (by omega) (by omega) ?_
        rw [show hit1 P a b x y = 0 by rw [hit1, if_neg c], Int.zero_add] at H
        exact H
theorem hit1_or (P a b x : Nat) : ∀ y, hit1 P a b x y = 0 ∨ hit1 P a b x y = 1 := by
  intro y
  unfold hit1
  split
  · exact Or.inr rfl
  · exact Or.inl rfl
theorem ic_l0 (P a b : Nat) (hP : 3 ≤ P ∧ P ≤ 61) (ha : a ≤ 1000) (hb : b ≤ 1000) : ∀ (d x : Nat) (many : Int), d + x = P → 0 ≤ many → many + d * 61 ≤ 100000 →
    Ev (fun f => impl_CountByJacobi.l0 f (P : Int) (a : Int) (b : Int) many (P : Int) (x : Int)) (many + sf (fun x => sf (hit1 P a b x) P 0) d x, 0) := by
  intro d
  induction d with
  | zero =>
    intro x many hd h0 h1
    refine Ev.step (f := fun _ => some (many, 0)) (fun f => ?_) ?_
    · simp only [impl_CountByJacobi.l0]
      rw [if_neg (by omega)]
    · rw [sf, Int.add_zero]
      exact Ev.now _
  | succ d ih =>
    intro x many hd h0 h1
    have hs := sf01 (hit1_or P a b x) P 0
    refine Ev.step (f := fun f => impl_CountByJacobi.l1 f (P : Int) (a : Int) (b : Int) many (x : Int) (P : Int) (x : Int) (P : Int) 0) (fun f => ?_) ?_
    · simp only [impl_CountByJacobi.l0]
      rw [if_pos (by omega)]
    · refine ic_l1 P a b hP ha hb x (by omega) _ P 0 many (by omega) h0 (by omega) ?_
      rw [sf, ← Int.add_assoc]
      exact ih (x + 1) _ (by omega) (by omega) (by omega)
def total (P a b : Nat) : Int := sf (fun x => sf (hit1 P a b x) P 0) P 0
theorem mod_part (a q X i : Nat) : X * (i * q) % (a * q) = X % a * (i * q) % (a * q) := by
  have e : X * (i * q) = X % a * (i * q) + a * q * (X / a * i) := by
    have h := Nat.div_add_mod X a
    calc X * (i * q) = (a * (X / a) + X % a) * (i * q) := by rw [h]
      _ = X % a * (i * q) + a * q * (X / a * i) := by rw [Nat.add_mul, Nat.add_comm]; congr 1; simp only [Nat.mul_assoc, Nat.mul_comm, Nat.mul_left_comm]
  rw [e, Nat.add_mul_mod_self_left]
theorem spec_total (P a b : Nat) (hp : pr (P : Int) = true) (ha : 1 ≤ a) (hb : 1 ≤ b) (hn0 : 1 ≤ nn a b) (hn : nn a b ≤ 16) (hna : nn a b % a = 0) (hnb : nn a b % b = 0) (hda : (P - 1) % a = 0) (hdb : (P - 1) % b = 0) :
    sf (fun i => sf (jt (P : Int) a b i) b 0) a 0 = total P a b := by
  have hpb := pr_bd hp
  have hpp := pr_iff.mp hp
  obtain ⟨_, qa, ea⟩ := part_lt hna hn0 ha
  obtain ⟨_, qb, eb⟩ := part_lt hnb hn0 hb
  have ha17 : a < 17 := by
    have := Nat.le_mul_of_pos_right a (show 0 < nn a b / a by omega)
    omega
  have hb17 : b < 17 := by
    have := Nat.le_mul_of_pos_right b (show 0 < nn a b / b by omega)
    omega
  have hix := ix_all (P : Int) hpp
  have hpn : P ∈ pns := by
    rw [pns, List.mem_map]
    exact ⟨(P : Int), hpp, rfl⟩
  -- the sum's three parts
  have h1 : sf (fun i => sf (jt (P : Int) a b i) b 0) a 0 = sf (fun i => sf (fun k => gg (P : Int) (nn a b : Nat) (ex (P : Int) (nn a b : Nat) (cI a b i)) (ex (P : Int) (nn a b : Nat) (dK a b k)) (cl (nn a b : Nat) 0)) b 0) a 0 + ((a : Int) + b) := by
    rw [← of_decide_eq_true (ones_all a ha17 ha b hb17 hb), ← sf_add]
    refine sf_congr a 0 fun i _ _ => ?_
    rw [← sf_add]
    rfl
  have h2 : sf (fun i => sf (fun k => gg (P : Int) (nn a b : Nat) (ex (P : Int) (nn a b : Nat) (cI a b i)) (ex (P : Int) (nn a b : Nat) (dK a b k)) (cl (nn a b : Nat) 0)) b 0) a 0 =
      sf (fun y => if (ix (P : Int)).getD (P + 1 - y) 0 % (a : Int) = 0 ∧ (ix (P : Int)).getD y 0 % (b : Int) = 0 then (a : Int) * b else 0) (P - 2) 2 := by
    simp only [gg, Int.toNat_natCast]
    rw [sf_congr (g := fun i => sf (fun y => sf (fun k => (cl (nn a b : Nat) 0).getD (((ex (P : Int) (nn a b : Nat) (cI a b i)).getD (P + 1 - y) 0 % (nn a b : Nat) + (ex (P : Int) (nn a b : Nat) (dK a b k)).getD y 0) % (nn a b : Nat)).toNat 0) b 0) (P - 2) 2) a 0 (fun i _ _ => sf_comm _ _ _ _ _), sf_comm]
    refine sf_congr (P - 2) 2 fun y hy hy2 => ?_
    obtain ⟨x1, x2, x3, x4⟩ := ex_get (P : Int) (nn a b : Nat) 0 hp (by omega) (P + 1 - y) (by omega) (by omega)
    obtain ⟨y1, y2, y3, y4⟩ := ex_get (P : Int) (nn a b : Nat) 0 hp (by omega) y (by omega) (by omega)
    obtain ⟨X, hX⟩ : ∃ X : Nat, rd (ix (P : Int)) ((P + 1 - y : Nat) : Int) = X := ⟨(rd (ix (P : Int)) ((P + 1 - y : Nat) : Int)).toNat, by omega⟩
    obtain ⟨Y, hY⟩ : ∃ Y : Nat, rd (ix (P : Int)) (y : Int) = Y := ⟨(rd (ix (P : Int)) (y : Int)).toNat, by omega⟩
    have eX : (ix (P : Int)).getD (P + 1 - y) 0 = X := by rw [← hX, rd, Int.toNat_natCast]
    have eY : (ix (P : Int)).getD y 0 = Y := by rw [← hY, rd, Int.toNat_natCast]
    rw [eX, eY]
    have F := ff (nn a b) a b (X % a) (Y % b) (by omega) hn0 ha17 ha hb17 hb hna hnb (Nat.mod_lt _ (by omega)) (Nat.mod_lt _ (by omega))
    have hcl : cl (nn a b : Nat) 0 = vt (nn a b : Nat) := vt_all (nn a b) (by omega)
    have key : sf (fun i => sf (fun k => (cl (nn a b : Nat) 0).getD (((ex (P : Int) (nn a b : Nat) (cI a b i)).getD (P + 1 - y) 0 % (nn a b : Nat) + (ex (P : Int) (nn a b : Nat) (dK a b k)).getD y 0) % (nn a b : Nat)).toNat 0) b 0) a 0 =
        sf (fun i => sf (fun k => (vt (nn a b : Nat)).getD (((X % a * (i * (nn a b / a))) % nn a b + (Y % b * (k * (nn a b / b))) % nn a b) % nn a b) 0) b 0) a 0 := by
      refine sf_congr a 0 fun i _ _ => sf_congr b 0 fun k _ _ => ?_
      rw [hcl, (ex_get (P : Int) (nn a b : Nat) (cI a b i) hp (by omega) (P + 1 - y) (by omega) (by omega)).1, (ex_get (P : Int) (nn a b : Nat) (dK a b k) hp (by omega) y (by omega) (by omega)).1, hX, hY]
      congr 1
      simp only [cI, dK, ← Int.natCast_mul, ← Int.natCast_emod, ← Int.natCast_add, Int.toNat_natCast]
      rw [Nat.mod_mod]
      have z1 := mod_part a (nn a b / a) X i
      have z2 := mod_part b (nn a b / b) Y k
      rw [← ea] at z1
      rw [← eb] at z2
      rw [z1, z2]
    rw [key, F]
    by_cases c1 : X % a = 0
    · by_cases c2 : Y % b = 0
      · rw [if_pos ⟨c1, c2⟩, if_pos ⟨by omega, by omega⟩]
      · rw [if_neg (fun h => c2 h.2), if_neg (fun h => c2 (by omega))]
    · rw [if_neg (fun h => c1 h.1), if_neg (fun h => c1 (by omega))]
  have h3 : total P a b = sf (fun x => nbf P b (x ^ a % P)) P 0 := by
    refine sf_congr P 0 fun x _ _ => ?_
    exact of_decide_eq_true (nb_all P hpn b hb17 hb hdb (x ^ a % P) (Nat.mod_lt _ (by omega)))
  rw [h1, h2, h3]
  exact of_decide_eq_true (of_decide_eq_true (end_all P hpn a ha17 ha hda) b hb17 hb hdb hn)
def dv (p a : Int) : Bool := decide (1 ≤ a) && decide ((p - 1) % a = 0)
def out (p a b : Int) : Int × Int := if pr p && dv p a && dv p b && decide (nn a.toNat b.toNat ≤ 16) then (total p.toNat a.toNat b.toNat, 0) else (0, 2)
theorem dv_le {p a : Int} (hp : 3 ≤ p) (h : dv p a = true) : 1 ≤ a ∧ a ≤ p - 1 ∧ (p - 1) % a = 0 := by
  simp only [dv, Bool.and_eq_true, decide_eq_true_eq] at h
  refine ⟨h.1, ?_, h.2⟩
  rcases Int.lt_or_le (p - 1) a with c | c
  · have := Int.emod_eq_of_lt (show 0 ≤ p - 1 by omega) c
    omega
  · exact c
theorem dv_in {p : Int} {a : Nat} (hp : pr p = true) (h : dv p (a : Int) = true) : a ∈ dvs := by
  have hb := pr_bd hp
  obtain ⟨h1, h2, h3⟩ := dv_le (by omega) h
  exact dvs_all p (pr_iff.mp hp) a (by omega) (by omega) h3
theorem gcd_facts {p : Int} {a b : Nat} (hp : pr p = true) (ha : dv p (a : Int) = true) (hb : dv p (b : Int) = true) : Ev (fun k => spec_l01Gcd.f k (a : Int) (b : Int)) (gd a b : Int) ∧ Ev (fun k => impl_gcd.f k (a : Int) (b : Int)) (gd a b : Int) ∧ 1 ≤ gd a b ∧ nn a b % a = 0 ∧ nn a b % b = 0 ∧ 1 ≤ nn a b ∧ nn a b ≤ 3600 := by
  have g := gcd_all a (dv_in hp ha) b (dv_in hp hb)
  simp only [gcdOk, Bool.and_eq_true, decide_eq_true_eq] at g
  obtain ⟨⟨⟨⟨⟨⟨⟨g1, g2⟩, g3⟩, g4⟩, g5⟩, g6⟩, g7⟩, _⟩ := g
  exact ⟨Ev.of (spec_l01Gcd.mono _ _) g1, Ev.of (impl_gcd.mono _ _) g2, g3, g4, g5, g6, g7⟩
theorem nn_w {a b : Nat} (ha : a ≤ 60) (hn : nn a b ≤ 3600) : wrap64 (wrap64 (Int.tdiv (a : Int) (gd a b : Int)) * (b : Int)) = ((nn a b : Nat) : Int) := by
  have hq := Nat.div_le_self a (gd a b)
  have hn' : a / gd a b * b ≤ 3600 := hn
  show wrap64 (wrap64 ((a / gd a b : Nat) : Int) * (b : Int)) = ((a / gd a b * b : Nat) : Int)
  generalize a / gd a b = q at *
  rw [w64 (x := (q : Int)) (by omega) (by omega), ← Int.natCast_mul, w64 (by omega) (by omega)]
theorem total_in (P a b : Nat) (hP : P ≤ 61) : inW (total P a b) ∧ 0 ≤ total P a b := by
  have : ∀ d j, 0 ≤ sf (fun x => sf (hit1 P a b x) P 0) d j ∧ sf (fun x => sf (hit1 P a b x) P 0) d j ≤ d * 61 := by
    intro d
    induction d with
    | zero => intro j; rw [sf]; omega
    | succ d ih =>
      intro j
      have h1 := ih (j + 1)
      have h2 := sf01 (hit1_or P a b j) P 0
      rw [sf]
      omega
  have h := this P 0
  unfold total inW
  omega
theorem spec_out (p a b : Int) : Ev (fun k => spec_CountByJacobi.f k p a b) (out p a b) := by
  have J : Ev (fun k => spec_CountByJacobi.j0 k p a b true) ((0, 2) : Int × Int) := Ev.step (fun k => by simp only [spec_CountByJacobi.j0, if_true] <;> rfl) (Ev.now _)
  unfold spec_CountByJacobi.f
  refine Ev.bind (l03Prime p) ?_
  cases hp : pr p with
  | false => simp only [Bool.false_eq_true, if_false, out, hp, Bool.false_and]; exact J
  | true =>
    have hb := pr_bd hp
    simp only [if_true, l01In, Option.bind_some, w64 (x := p - 1) (by omega) (by omega), out, hp, Bool.true_and]
    by_cases ha : 1 ≤ a ∧ a ≤ p - 1
    · by_cases hbb : 1 ≤ b ∧ b ≤ p - 1
      · simp only [ha, hbb, and_self, decide_true, Bool.and_self, if_true, if_neg (show ¬ a = 0 by omega), if_neg (show ¬ b = 0 by omega), Int.tmod_eq_emod_of_nonneg (show 0 ≤ p - 1 by omega)]
        by_cases ca : (p - 1) % a = 0
        · by_cases cb : (p - 1) % b = 0
          · obtain ⟨A, rfl⟩ : ∃ A : Nat, a = A := ⟨a.toNat, by omega⟩
            obtain ⟨B, rfl⟩ : ∃ B : Nat, b = B := ⟨b.toNat, by omega⟩
            obtain ⟨P, rfl⟩ : ∃ P : Nat, p = P := ⟨p.toNat, by omega⟩
            have da : dv (P : Int) (A : Int) = true := by simp only [dv, ca, decide_true, Bool.and_true, decide_eq_true_eq]; omega
            have db : dv (P : Int) (B : Int) = true := by simp only [dv, cb, decide_true, Bool.and_true, decide_eq_true_eq]; omega
            obtain ⟨g1, g2, g3, g4, g5, g6, g7⟩ := gcd_facts hp da db
            simp only [if_pos ca, cb, da, db, bne_self_eq_false, Bool.true_and, Int.toNat_natCast, decide_eq_true_eq]
            refine Ev.step (f := fun k => (spec_l01Gcd.f k (A : Int) (B : Int)).bind fun t => (if t = 0 then none else (if wrap64 (wrap64 (Int.tdiv (A : Int) t) * (B : Int)) > 16 then some (0, 2) else ((spec_l01Zero.f k (wrap64 (wrap64 (Int.tdiv (A : Int) t) * (B : Int)))).bind fun bt => (spec_CountByJacobi.l0 k (P : Int) (A : Int) (B : Int) (wrap64 (wrap64 (Int.tdiv (A : Int) t) * (B : Int))) 0 bt.1 bt.2))))) (fun k => by simp only [spec_CountByJacobi.j0, Bool.false_eq_true, if_false]) (Ev.bind g1 ?_)
            simp only [nn_w (show A ≤ 60 by omega) g7, if_neg (show ¬ (gd A B : Int) = 0 by omega)]
            by_cases cn : nn A B ≤ 16
            · have hA : (P - 1) % A = 0 := by
                have e : (((P - 1) % A : Nat) : Int) = ((P : Int) - 1) % (A : Int) := by rw [Int.natCast_emod, Int.natCast_sub (by omega)]; rfl
                omega
              have hB : (P - 1) % B = 0 := by
                have e : (((P - 1) % B : Nat) : Int) = ((P : Int) - 1) % (B : Int) := by rw [Int.natCast_emod, Int.natCast_sub (by omega)]; rfl
                omega
              simp only [if_neg (show ¬ ((nn A B : Nat) : Int) > 16 by omega), if_pos cn]
              refine Ev.bind (zero01 (nn A B : Nat) (by omega) (by omega)) ?_
              obtain ⟨R, r1, r2, r3⟩ := sc_l0 (P : Int) A B hp (by omega) (by omega) g6 cn g4 g5 A 0 (List.replicate (phn (nn A B : Nat)) 0) 0 (by omega) ⟨by simp, fun o ho => by rw [List.eq_of_mem_replicate ho]; unfold inW; omega, by
                rw [gE _ _ (by rw [List.length_replicate]; have := phn_bd (nn A B : Nat) (by omega) (by omega); omega), List.getElem_replicate]⟩
              rw [spec_total P A B hp (by omega) (by omega) g6 cn g4 g5 hA hB, Int.zero_add] at r2
              have e : R = total P A B := in_eq r1 (total_in P A B (by omega)).1 r2
              rw [e] at r3
              exact r3
            · simp only [if_pos (show ((nn A B : Nat) : Int) > 16 by omega), if_neg cn]
              exact Ev.now _
          · have db : dv p b = false := by simp [dv, cb]
            simp only [if_pos ca, db, Bool.and_false, Bool.false_and, Bool.false_eq_true, if_false, bne_iff_ne.mpr cb]
            exact J
        · have da : dv p a = false := by simp [dv, ca]
          simp only [if_neg ca, da, Bool.false_and, Bool.false_eq_true, if_false]
          exact J
      · have db : dv p b = false := by
          cases h : dv p b with
          | false => rfl
          | true => have := dv_le (by omega) h; omega
        have e : (decide (1 ≤ b) && decide (b ≤ p - 1)) = false := by simp; omega
        simp only [ha, and_self, decide_true, Bool.and_self, if_true, e, db, Bool.and_false, Bool.false_and, Bool.false_eq_true, if_false]
        exact J
    · have da : dv p a = false := by
        cases h : dv p a with
        | false => rfl
        | true => have := dv_le (by omega) h; omega
      have e : (decide (1 ≤ a) && decide (a ≤ p - 1)) = false := by simp; omega
      simp only [e, da, Bool.false_and, Bool.false_eq_true, if_false]
      exact J
theorem divides_ (p a : Int) (hp : 3 ≤ p ∧ p ≤ 61) : impl_divides.f a (wrap64 (p - 1)) = some (dv p a) := by
  unfold impl_divides.f dv
  rw [w64 (x := p - 1) (by omega) (by omega)]
  by_cases h : a > 0
  · rw [if_pos h, if_neg (by omega), Int.tmod_eq_emod_of_nonneg (by omega), decide_eq_true (show 1 ≤ a by omega), Bool.true_and]
    rfl
  · rw [if_neg h, decide_eq_false (show ¬ 1 ≤ a by omega), Bool.false_and]
theorem impl_out (p a b : Int) (h0 : -9223372036854775808 ≤ p) (h1 : p ≤ 9223372036854775807) : Ev (fun k => impl_CountByJacobi.f k p a b) (out p a b) := by
  have J : Ev (fun k => impl_CountByJacobi.j0 k p a b true) ((0, 2) : Int × Int) := Ev.step (fun k => by simp only [impl_CountByJacobi.j0, if_true] <;> rfl) (Ev.now _)
  unfold impl_CountByJacobi.f
  refine Ev.bind (isPrime p h0 h1) ?_
  cases hp : pr p with
  | false => simp only [Bool.false_eq_true, if_false, out, hp, Bool.false_and]; exact J
  | true =>
    have hb := pr_bd hp
    simp only [if_true, divides_ p _ hb, Option.bind_some, out, hp, Bool.true_and]
    cases da : dv p a with
    | false => simp only [Bool.false_eq_true, if_false, Bool.false_and]; exact J
    | true =>
      cases db : dv p b with
      | false => simp only [if_true, Bool.false_eq_true, if_false, Bool.and_false, Bool.false_and]; exact J
      | true =>
        simp only [if_true, Bool.true_and]
        have ea := dv_le (by omega) da
        have eb := dv_le (by omega) db
        obtain ⟨A, rfl⟩ : ∃ A : Nat, a = A := ⟨a.toNat, by omega⟩
        obtain ⟨B, rfl⟩ : ∃ B : Nat, b = B := ⟨b.toNat, by omega⟩
        obtain ⟨P, rfl⟩ : ∃ P : Nat, p = P := ⟨p.toNat, by omega⟩
        obtain ⟨g1, g2, g3, g4, g5, g6, g7⟩ := gcd_facts hp da db
        refine Ev.bind g2 ?_
        simp only [nn_w (show A ≤ 60 by omega) g7, if_neg (show ¬ (gd A B : Int) = 0 by omega), Int.toNat_natCast, decide_eq_true_eq]
        by_cases cn : nn A B ≤ 16
        · rw [decide_eq_false (show ¬ ((nn A B : Nat) : Int) > 16 by omega)]
          simp only [if_pos cn]
          refine Ev.step (f := fun k => impl_CountByJacobi.l0 k (P : Int) (A : Int) (B : Int) 0 (P : Int) 0) (fun k => by simp only [impl_CountByJacobi.j0, Bool.false_eq_true, if_false]) ?_
          have H := ic_l0 P A B (by omega) (by omega) (by omega) P 0 0 (by omega) (by omega) (by omega)
          rw [Int.zero_add] at H
          exact H
        · rw [decide_eq_true (show ((nn A B : Nat) : Int) > 16 by omega)]
          simp only [if_neg cn]
          exact J
theorem FnExactCountByJacobi : laws_FnExactCountByJacobi.Pure := by
  intro p a b hp _ _
  apply Ev.rounds
  have hp2 := wf64 hp
  unfold laws_FnExactCountByJacobi.f
  refine Ev.bind (spec_out p a b) (Ev.bind (impl_out p a b hp2.1 hp2.2) ?_)
  simp only [if_true]
  exact Ev.now _
end Go.Proofs.Ythdpdiahkphklaa.Pure
