/- The program's SumWith returns what the reference's returns, for all arguments; no condition. -/
import Derived.Test.YthdpdiahkphklaaPFnExactSumWithx12
import Derived.OpenShut
namespace Go.Proofs.Ythdpdiahkphklaa.Pure
open Go.RowKit Go.Proofs.Ythdpdiahkphklaa.PFnExactSumWith Go.Proofs.YthdpdiahkphklaaW.PrintWords Go.Proofs.YthdpdiahkphklaaW.PrintLast Go.Proofs.YthdpdiahkphklaaW.PrintMore
set_option linter.unusedVariables false
set_option linter.unusedSimpArgs false
theorem w64 {x : Int} (h0 : -9223372036854775808 ≤ x) (h1 : x ≤ 9223372036854775807) : wrap64 x = x := by unfold wrap64; omega
theorem wf64 {x : Int} (h : (Lit.int .i64 x).wf = true) : -9223372036854775808 ≤ x ∧ x ≤ 9223372036854775807 := bounds_i64 h
theorem ev_bind_const {α β : Type} {o : Option α} {a : α} {f : Nat → α → Option β} {r : β} (h : o = some a) (k : Ev (fun n => f n a) r) : Ev (fun n => o.bind (f n)) r := by
  subst h; exact k
theorem toInts_l0 (l : List Int) (hl : l.length ≤ 1048576) : ∀ (d : Nat) (ys : List Int) (i : Nat), d + i = l.length → ys.length = l.length → ys.take i = l.take i → Ev (fun k => laws_toInt64S.l0 k l ys (i : Int)) l := by
  intro d
  induction d with
  | zero =>
    intro ys i hd hy ht
    have : i = l.length := by omega
    subst this
    refine Ev.step (f := fun _ => some l) (fun k => ?_) (Ev.now _)
    simp only [laws_toInt64S.l0]
    rw [if_neg (by omega)]
    rw [List.take_of_length_le (by omega), List.take_of_length_le (by omega)] at ht
    rw [ht]
  | succ d ih =>
    intro ys i hd hy ht
    refine Ev.step (f := fun k => laws_toInt64S.l0 k l (ys.set i (rd l (i : Int))) ((i + 1 : Nat) : Int)) (fun k => ?_) (ih _ _ (by omega) (by simp [hy]) ?_)
    · simp only [laws_toInt64S.l0]
      rw [if_pos (by omega), if_pos (by omega), if_pos (by omega), w64 (by omega) (by omega)]
      rfl
    · have hi : i < l.length := by omega
      rw [List.take_succ_eq_append_getElem (by simpa [hy] using hi), List.take_succ_eq_append_getElem hi, List.take_set_of_le (Nat.le_refl _), ht]
      simp [rd, hi]
theorem toInts (l : List Int) (hl : l.length ≤ 1048576) : Ev (fun k => laws_toInt64S.f k l) l := by
  have h := toInts_l0 l hl l.length (List.replicate l.length 0) 0 (by omega) (by simp) (by simp)
  refine Ev.congr (fun k => ?_) h
  unfold laws_toInt64S.f
  rw [if_pos (by omega), if_pos (by omega)]
  simp
theorem eqInts_l0 (l m : List Int) (hl : l.length ≤ 1048576) (hm : m.length = l.length) : ∀ (d i : Nat), d + i = l.length → Ev (fun k => laws_eqInt64S.l0 k l m (i : Int)) (decide (l.drop i = m.drop i)) := by
  intro d
  induction d with
  | zero =>
    intro i hd
    refine Ev.step (f := fun _ => some (decide (l.drop i = m.drop i))) (fun k => ?_) (Ev.now _)
    simp only [laws_eqInt64S.l0]
    rw [if_neg (by omega), List.drop_of_length_le (by omega), List.drop_of_length_le (by omega)]
    simp
  | succ d ih =>
    intro i hd
    have hi : i < l.length := by omega
    have hi2 : i < m.length := by omega
    have e1 : rd l (i : Int) = l[i] := by simp [rd, hi]
    have e2 : rd m (i : Int) = m[i] := by simp [rd, hi2]
    by_cases he : l[i] = m[i]
    · refine Ev.step (f := fun k => laws_eqInt64S.l0 k l m ((i + 1 : Nat) : Int)) (fun k => ?_) ?_
      · simp only [laws_eqInt64S.l0]
        rw [if_pos (by omega), if_pos (by omega), if_pos (by omega), e1, e2, if_pos he, w64 (by omega) (by omega)]
        rfl
      · have e : decide (l.drop i = m.drop i) = decide (l.drop (i + 1) = m.drop (i + 1)) := by
          rw [List.drop_eq_getElem_cons hi, List.drop_eq_getElem_cons hi2]
          simp only [List.cons.injEq, he, true_and]
        rw [e]
        exact ih (i + 1) (by omega)
    · refine Ev.step (f := fun _ => some false) (fun k => ?_) ?_
      · simp only [laws_eqInt64S.l0]
        rw [if_pos (by omega), if_pos (by omega), if_pos (by omega), e1, e2, if_neg he]
      · have e : decide (l.drop i = m.drop i) = false := by
          rw [List.drop_eq_getElem_cons hi, List.drop_eq_getElem_cons hi2]
          simp only [List.cons.injEq, he, false_and, decide_false]
        rw [e]
        exact Ev.now _
theorem eqInts (l m : List Int) (hl : l.length ≤ 1048576) : Ev (fun k => laws_eqInt64S.f k l m) (decide (l = m)) := by
  by_cases h : m.length = l.length
  · have := eqInts_l0 l m hl h l.length 0 (by omega)
    refine Ev.congr (fun k => ?_) (by simpa using this)
    unfold laws_eqInt64S.f
    rw [if_pos (by omega)]
  · have hne : l ≠ m := fun e => h (by rw [e])
    rw [decide_eq_false hne]
    refine Ev.congr (fun k => ?_) (Ev.now _)
    unfold laws_eqInt64S.f
    rw [if_neg (by omega)]
theorem eqCyclo (n n' : Int) (l l' : List Int) (hl : l.length ≤ 1048576) : Ev (fun k => laws_eqCyclo.f k n l n' l') (decide (n = n' ∧ l = l')) := by
  unfold laws_eqCyclo.f
  by_cases h : n = n'
  · simp only [if_pos h]
    refine Ev.bind (eqInts l l' hl) ?_
    by_cases h2 : l = l' <;> simp [h, h2] <;> exact Ev.now _
  · simp only [if_neg h]
    simp [h]
    exact Ev.now _
def phi (n : Int) : Int := [0, 1, 1, 2, 2, 4, 2, 6, 4, 6, 4, 10, 4, 12, 6, 8, 8].getD n.toNat 0
theorem orders {P : Int → Prop} (h : ∀ m : Nat, m < 17 → 1 ≤ m → P m) (n : Int) (h0 : 1 ≤ n) (h1 : n ≤ 16) : P n := by
  have := h n.toNat (by omega) (by omega)
  rwa [Int.toNat_of_nonneg (by omega)] at this
theorem phi_spec (n : Int) (h0 : 1 ≤ n) (h1 : n ≤ 16) : Ev (fun k => spec_l01Phi.f k n) (phi n) := by
  have key : ∀ m : Nat, m < 17 → 1 ≤ m → spec_l01Phi.f 60 (m : Int) = some (phi m) := by decide +kernel
  exact Ev.of (spec_l01Phi.mono n) (orders (P := fun n => spec_l01Phi.f 60 n = some (phi n)) key n h0 h1)
theorem l01In (a b c : Int) : spec_l01In.f a b c = some (decide (b ≤ a) && decide (a ≤ c)) := by
  unfold spec_l01In.f
  by_cases h : a ≥ b
  · rw [if_pos h]; simp [h]
  · rw [if_neg h]; simp [h]
theorem within_ (a b c : Int) : impl_within.f a b c = some (decide (b ≤ a) && decide (a ≤ c)) := by
  unfold impl_within.f
  by_cases h : b ≤ a
  · rw [if_pos h]; simp [h]
  · rw [if_neg h]; simp [h]
def inP (m : Int) (x : Int) : Bool := decide (-m ≤ x) && decide (x ≤ m)
theorem areSmall (l : List Int) (m : Int) (h0 : 0 ≤ m) (h1 : m ≤ 9223372036854775807) : impl_areSmall.f l m = some (l.all (inP m)) := by
  unfold impl_areSmall.f
  rw [w64 (by omega) (by omega)]
  rfl
def upTo (a : Int) (n : Nat) : List Int := (List.range n).map fun (j : Nat) => a + (j : Int)
theorem upTo_len (a : Int) (n : Nat) : (upTo a n).length = n := by simp [upTo]
theorem upTo_get (a : Int) (n i : Nat) (hi : i < n) : (upTo a n)[i]'(by rw [upTo_len]; exact hi) = a + (i : Int) := by simp [upTo]
theorem upTo_snoc (a : Int) (n : Nat) : upTo a (n + 1) = upTo a n ++ [a + (n : Int)] := by
  unfold upTo
  rw [List.range_succ, List.map_append]
  rfl
theorem markInts_l0 : ∀ (d i : Nat) (ys : List Int), d + i = ys.length → ys.length ≤ 1048576 → ys.take i = upTo 1 i → Ev (fun k => laws_markInt64S.l0 k ys (1 + (i : Int)) (i : Int)) (1 + (ys.length : Int), upTo 1 ys.length) := by
  intro d
  induction d with
  | zero =>
    intro i ys hd hl ht
    obtain rfl : i = ys.length := by omega
    refine Ev.step (fun k => by simp only [laws_markInt64S.l0]; rw [if_neg (by omega)] <;> rfl) ?_
    rw [List.take_length] at ht
    rw [← ht]
    exact Ev.now _
  | succ d ih =>
    intro i ys hd hl ht
    have hi : i < ys.length := by omega
    have := ih (i + 1) (ys.set i (1 + (i : Int))) (by simp; omega) (by simpa using hl) (by
      rw [List.take_succ_eq_append_getElem (by simpa using hi), List.take_set_of_le (Nat.le_refl _), ht, upTo_snoc]
      simp)
    refine Ev.step (fun k => ?_) (by simpa using this)
    simp only [laws_markInt64S.l0]
    rw [if_pos (by omega), if_pos (by omega), w64 (x := 1 + (i : Int) + 1) (by omega) (by omega), w64 (x := (i : Int) + 1) (by omega) (by omega), show 1 + (i : Int) + 1 = 1 + ((i : Int) + 1) by omega]
    rfl
theorem markInts (l : List Int) (hl : l.length ≤ 1048576) : Ev (fun k => laws_markInt64S.f k l 1) (1 + (l.length : Int), upTo 1 l.length) := by
  have := markInts_l0 l.length 0 l (by omega) hl (by simp [upTo])
  unfold laws_markInt64S.f
  simpa using this
theorem heldInts_l0 (n : Nat) (hn : n ≤ 1048576) : ∀ (d i : Nat), d + i = n → Ev (fun k => laws_heldInt64S.l0 k (upTo 1 n) (1 + (i : Int)) (i : Int)) (1 + (n : Int)) := by
  intro d
  induction d with
  | zero =>
    intro i hd
    obtain rfl : i = n := by omega
    exact Ev.step (fun k => by simp only [laws_heldInt64S.l0]; rw [if_neg (by rw [upTo_len]; omega)] <;> rfl) (Ev.now _)
  | succ d ih =>
    intro i hd
    have hi : i < (upTo 1 n).length := by rw [upTo_len]; omega
    have e1 : rd (upTo 1 n) (i : Int) = 1 + (i : Int) := by
      have := upTo_get 1 n i (by omega)
      simp only [rd, Int.toNat_natCast, List.getD_eq_getElem?_getD, List.getElem?_eq_getElem hi, Option.getD_some, this]
    refine Ev.step (fun k => ?_) (ih (i + 1) (by omega))
    simp only [laws_heldInt64S.l0]
    rw [if_pos (by omega), if_pos (by omega), if_pos e1, w64 (x := 1 + (i : Int) + 1) (by omega) (by omega), w64 (x := (i : Int) + 1) (by omega) (by omega), show 1 + (i : Int) + 1 = 1 + ((i : Int) + 1) by omega]
    rfl
theorem heldInts (n : Nat) (hn : n ≤ 1048576) : Ev (fun k => laws_heldInt64S.f k (upTo 1 n) 1) (1 + (n : Int)) := by
  have := heldInts_l0 n hn n 0 (by omega)
  unfold laws_heldInt64S.f
  simpa using this
theorem markCyclo (n : Int) (l : List Int) (hl : l.length ≤ 1048576) : Ev (fun k => laws_markCyclo.f k n l 1) (1 + (l.length : Int), upTo 1 l.length) := Ev.bind (markInts l hl) (Ev.now _)
theorem heldCyclo (m : Int) (n : Nat) (hn : n ≤ 1048576) : Ev (fun k => laws_heldCyclo.f k m (upTo 1 n) 1) (1 + (n : Int)) := by
  unfold laws_heldCyclo.f
  refine Ev.bind (heldInts n hn) ?_
  simp only [if_neg (show ¬ (1 + (n : Int) < 0) by omega)]
  exact Ev.now _
def prs : List Int := [3, 5, 7, 11, 13, 17, 19, 23, 29, 31, 37, 41, 43, 47, 53, 59, 61]
def pr (l : Int) : Bool := prs.contains l
theorem pr_iff {l : Int} : pr l = true ↔ l ∈ prs := by unfold pr; exact List.contains_iff_mem
theorem pr_bd {l : Int} (h : pr l = true) : 3 ≤ l ∧ l ≤ 61 := by
  rw [pr_iff] at h
  simp only [prs, List.mem_cons, List.not_mem_nil, or_false] at h
  omega
theorem upto61 {P : Int → Prop} (h : ∀ m : Nat, m < 62 → P m) (n : Int) (h0 : 0 ≤ n) (h1 : n ≤ 61) : P n := by
  have := h n.toNat (by omega)
  rwa [Int.toNat_of_nonneg (by omega)] at this
theorem isPrime_big (p : Int) (h0 : 61 < p) (h1 : p ≤ 9223372036854775807) : ∀ (n : Nat) (d : Int), 2 ≤ d → d ≤ p → (p - d).toNat = n → Ev (fun k => impl_isPrime.l0 k p d) false := by
  intro n
  induction n with
  | zero =>
    intro d hd hp hn
    have : d = p := by omega
    subst this
    refine Ev.step (f := fun _ => some false) (fun k => ?_) (Ev.now _)
    simp only [impl_isPrime.l0]
    by_cases c : wrap64 (d * d) ≤ d
    · rw [if_pos c, if_neg (by omega), if_pos (Int.tmod_self)]
    · rw [if_neg c, within_, Option.bind_some]
      simp
      omega
  | succ n ih =>
    intro d hd hp hn
    by_cases c : wrap64 (d * d) ≤ p
    · by_cases c2 : Int.tmod p d = 0
      · refine Ev.step (f := fun _ => some false) (fun k => ?_) (Ev.now _)
        simp only [impl_isPrime.l0]
        rw [if_pos c, if_neg (by omega), if_pos c2]
      · refine Ev.step (fun k => ?_) (ih (d + 1) (by omega) (by omega) (by omega))
        simp only [impl_isPrime.l0]
        rw [if_pos c, if_neg (by omega), if_neg c2, w64 (by omega) (by omega)]
    · refine Ev.step (f := fun _ => some false) (fun k => ?_) (Ev.now _)
      simp only [impl_isPrime.l0]
      rw [if_neg c, within_, Option.bind_some]
      simp
      omega
theorem isPrime (p : Int) (h0 : -9223372036854775808 ≤ p) (h1 : p ≤ 9223372036854775807) : Ev (fun k => impl_isPrime.f k p) (pr p) := by
  by_cases c : 61 < p
  · have e : pr p = false := by
      cases h : pr p with
      | false => rfl
      | true => have := pr_bd h; omega
    rw [e]
    exact isPrime_big p c h1 _ 2 (by omega) (by omega) rfl
  · by_cases c2 : 0 ≤ p
    · have key : ∀ m : Nat, m < 62 → impl_isPrime.f 20 (m : Int) = some (pr m) := by decide +kernel
      exact Ev.of (impl_isPrime.mono p) (upto61 (P := fun p => impl_isPrime.f 20 p = some (pr p)) key p c2 (by omega))
    · have e : pr p = false := by
        cases h : pr p with
        | false => rfl
        | true => have := pr_bd h; omega
      rw [e]
      refine Ev.step (f := fun _ => some false) (fun k => ?_) (Ev.now _)
      simp only [impl_isPrime.f, impl_isPrime.l0]
      rw [if_neg (by rw [w64 (x := 2 * 2) (by omega) (by omega)]; omega), within_, Option.bind_some]
      simp
      omega
theorem l03Prime (p : Int) : Ev (fun k => spec_l03Prime.f k p) (pr p) := by
  by_cases c : 3 ≤ p ∧ p ≤ 61
  · have key : ∀ m : Nat, m < 62 → spec_l03Prime.f 20 (m : Int) = some (pr m) := by decide +kernel
    exact Ev.of (spec_l03Prime.mono p) (upto61 (P := fun p => spec_l03Prime.f 20 p = some (pr p)) key p (by omega) c.2)
  · have e : pr p = false := by
      cases h : pr p with
      | false => rfl
      | true => have := pr_bd h; omega
    rw [e]
    unfold spec_l03Prime.f
    refine ev_bind_const (l01In _ _ _) ?_
    rw [show (decide (3 ≤ p) && decide (p ≤ 61)) = false by simp; omega]
    exact Ev.now _
theorem tmod_emod (c q : Int) (hq : 0 < q) : (Int.tmod c q) % q = c % q := by
  rw [Int.tmod_eq_emod]
  split <;> simp
  rw [Int.sub_emod]
  simp [Int.natAbs_of_nonneg (Int.le_of_lt hq)]
theorem around (a m : Int) (hm : 0 < m) (hm2 : m ≤ 1000000000000) : impl_around.f a m = some (a % m) := by
  unfold impl_around.f
  have h1 := Int.tmod_lt_of_pos a hm
  have h2 := Int.lt_tmod_of_pos a hm
  rw [if_neg (by omega), w64 (by omega) (by omega), Int.tmod_eq_emod_of_nonneg (by omega), Int.add_emod_right, tmod_emod _ _ hm]
theorem w_mod (x : Int) : wrap64 x % 18446744073709551616 = x % 18446744073709551616 := by unfold wrap64; omega
def inW (x : Int) : Prop := -9223372036854775808 ≤ x ∧ x ≤ 9223372036854775807
theorem w_in (x : Int) : inW (wrap64 x) := by unfold inW wrap64; omega
theorem in_eq {a b : Int} (ha : inW a) (hb : inW b) (h : a % 18446744073709551616 = b % 18446744073709551616) : a = b := by unfold inW at ha hb; omega
def dot : List Int → List Int → Int
  | x :: xs, y :: ys => x * y + dot xs ys
  | _, _ => 0
theorem dot_nil (xs : List Int) : dot xs [] = 0 := by cases xs <;> rfl
theorem dot_set : ∀ (xs ys : List Int) (e : Nat) (v : Int), e < xs.length → dot (xs.set e v) ys = dot xs ys + (v - xs.getD e 0) * ys.getD e 0
  | [], _, e, v, h => by simp at h
  | x :: xs, [], e, v, _ => by rw [dot_nil, dot_nil]; simp
  | x :: xs, y :: ys, 0, v, _ => by
    simp only [List.set_cons_zero, dot, List.getD_cons_zero, Int.sub_mul]
    omega
  | x :: xs, y :: ys, e + 1, v, h => by
    simp only [List.set_cons_succ, dot, List.getD_cons_succ]
    rw [dot_set xs ys e v (by simpa using h)]
    omega
theorem dot_zeros (n : Nat) (ys : List Int) : dot (List.replicate n 0) ys = 0 := by
  induction n generalizing ys with
  | zero => cases ys <;> rfl
  | succ n ih => cases ys with
    | nil => exact dot_nil _
    | cons y ys => rw [List.replicate_succ, dot, ih]; omega
theorem gE {α : Type} (l : List α) (d : α) {i : Nat} (h : i < l.length) : l.getD i d = l[i] := by rw [List.getD_eq_getElem?_getD, List.getElem?_eq_getElem h, Option.getD_some]
def axpy (x : Int) (out row : List Int) : List Int := List.zipWith (fun o r => wrap64 (o + wrap64 (x * r))) out row
theorem axpy_len (x : Int) (out row : List Int) (h : row.length = out.length) : (axpy x out row).length = out.length := by simp [axpy, h]
theorem axpy_get (x : Int) (out row : List Int) (h : row.length = out.length) (m : Nat) (hm : m < out.length) : (axpy x out row).getD m 0 = wrap64 (out.getD m 0 + wrap64 (x * row.getD m 0)) := by
  have h2 : m < (axpy x out row).length := by rw [axpy_len x out row h]; exact hm
  rw [gE _ _ h2, gE _ _ hm, gE _ _ (show m < row.length by omega)]
  simp [axpy]
theorem axpy_in (x : Int) (out row : List Int) : ∀ o ∈ axpy x out row, inW o := by
  intro o ho
  simp only [axpy, List.mem_iff_getElem] at ho
  obtain ⟨i, hi, rfl⟩ := ho
  rw [List.getElem_zipWith]
  exact w_in _
theorem axpy_mod (o x r : Int) : wrap64 (o + wrap64 (x * r)) % 18446744073709551616 = (o + x * r) % 18446744073709551616 := by
  generalize x * r = t
  rw [w_mod]
  have := w_mod t
  omega
theorem tk_set (Z l : List Int) (i : Nat) (h : Z.length = l.length) (hi : i < l.length) : (Z.take i ++ l.drop i).set i (Z.getD i 0) = Z.take (i + 1) ++ l.drop (i + 1) := by
  have e1 : (Z.take i).length = i := by rw [List.length_take]; omega
  rw [List.set_append_right _ _ (by omega), e1, Nat.sub_self, List.drop_eq_getElem_cons hi, List.set_cons_zero, List.take_succ_eq_append_getElem (by omega), List.append_assoc, gE _ _ (by omega)]
  rfl
theorem tk_rd (Z l : List Int) (i : Nat) (h : Z.length = l.length) (hi : i < l.length) : rd (Z.take i ++ l.drop i) (i : Int) = l.getD i 0 := by
  have e1 : (Z.take i).length = i := by rw [List.length_take]; omega
  rw [rd, Int.toNat_natCast, List.getD_eq_getElem?_getD, List.getElem?_append_right (by omega), e1, Nat.sub_self, List.getElem?_drop, Nat.add_zero, ← List.getD_eq_getElem?_getD]
theorem tk_len (Z l : List Int) (i : Nat) (h : Z.length = l.length) (hi : i ≤ l.length) : (Z.take i ++ l.drop i).length = l.length := by
  rw [List.length_append, List.length_take, List.length_drop]; omega
theorem tk_end (Z l : List Int) (h : Z.length = l.length) : Z.take l.length ++ l.drop l.length = Z := by
  rw [List.drop_length, List.append_nil, ← h, List.take_length]
theorem plus01_l0 (x n n' : Int) (l l' : List Int) (h : l'.length = l.length) (hl : l.length ≤ 1000) : ∀ (d i : Nat), d + i = l.length → Ev (fun k => spec_l01Plus.l0 k x (i : Int) n' l' n ((axpy x l l').take i ++ l.drop i)) (n, axpy x l l') := by
  intro d
  induction d with
  | zero =>
    intro i hi
    have e : i = l.length := by omega
    subst e
    refine Ev.step (f := fun _ => some (n, axpy x l l')) (fun k => ?_) (Ev.now _)
    simp only [spec_l01Plus.l0]
    rw [if_neg (by omega), tk_end _ _ (axpy_len x l l' h)]
  | succ d ih =>
    intro i hi
    refine Ev.step (fun k => ?_) (ih (i + 1) (by omega))
    simp only [spec_l01Plus.l0]
    rw [if_pos (by omega), if_pos (by omega), tk_len _ _ _ (axpy_len x l l' h) (by omega), if_pos (by omega), w64 (x := (i : Int) + 1) (by omega) (by omega), tk_rd _ _ _ (axpy_len x l l' h) (by omega), Int.toNat_natCast]
    rw [show wrap64 (l.getD i 0 + wrap64 (x * rd l' (i : Int))) = (axpy x l l').getD i 0 by rw [axpy_get x l l' h i (by omega), rd, Int.toNat_natCast], tk_set _ _ _ (axpy_len x l l' h) (by omega)]
    rfl
theorem own01 (l : List Int) (hl : l.length ≤ 1000) : spec_l01Own.f l = some l := by
  unfold spec_l01Own.f
  simp only [Option.bind_some, List.nil_append, List.length_nil, Nat.zero_add]
  rw [if_pos (by omega)]
theorem plus01 (x n n' : Int) (l l' : List Int) (h : l'.length = l.length) (hl : l.length ≤ 1000) : Ev (fun k => spec_l01Plus.f k n l n' l' x) (n, axpy x l l') := by
  unfold spec_l01Plus.f
  refine ev_bind_const (own01 l hl) ?_
  simpa using plus01_l0 x n n' l l' h hl l.length 0 (by omega)
def pw (n : Int) : List (List Int) := (impl_powers.f 400 n).getD []
def phn (n : Int) : Nat := (phi n).toNat
theorem pw_all1 : ∀ m : Nat, m < 17 → 1 ≤ m → impl_powers.f 400 (m : Int) = some (pw (m : Int)) := by decide +kernel
theorem pw_all2 : ∀ m : Nat, m < 17 → 1 ≤ m → (pw (m : Int)).length = m := by decide +kernel
theorem pw_all3 : ∀ m : Nat, m < 17 → 1 ≤ m → ∀ r ∈ pw (m : Int), r.length = phn (m : Int) := by decide +kernel
theorem pw_impl (n : Int) (h0 : 1 ≤ n) (h1 : n ≤ 16) : Ev (fun k => impl_powers.f k n) (pw n) :=
  Ev.of (impl_powers.mono n) (orders (P := fun n => impl_powers.f 400 n = some (pw n)) pw_all1 n h0 h1)
theorem pw_len (n : Int) (h0 : 1 ≤ n) (h1 : n ≤ 16) : ((pw n).length : Int) = n :=
  orders (P := fun n => ((pw n).length : Int) = n) (fun m a b => by rw [pw_all2 m a b]) n h0 h1
theorem pw_row (n : Int) (h0 : 1 ≤ n) (h1 : n ≤ 16) : ∀ r ∈ pw n, r.length = phn n :=
  orders (P := fun n => ∀ r ∈ pw n, r.length = phn n) pw_all3 n h0 h1
theorem phn_bd (n : Int) (h0 : 1 ≤ n) (h1 : n ≤ 16) : 1 ≤ phn n ∧ phn n ≤ 12 :=
  orders (P := fun n => 1 ≤ phn n ∧ phn n ≤ 12) (by decide) n h0 h1
theorem rd_L1_pw (pws : List (List Int)) (i : Nat) : rd_L1 pws (i : Int) = pws.getD i [] := by simp [rd_L1]
def cmb : List Int → List Int → List (List Int) → List Int
  | out, x :: xs, r :: rs => cmb (axpy x out r) xs rs
  | out, _, _ => out
def cl (n : Int) (m : Nat) : List Int := (pw n).map fun r => r.getD m 0
theorem cmb_spec : ∀ (xs : List Int) (rs : List (List Int)) (out : List Int), (∀ r ∈ rs, r.length = out.length) → (∀ o ∈ out, inW o) →
    (cmb out xs rs).length = out.length ∧ (∀ o ∈ cmb out xs rs, inW o) ∧ ∀ m, m < out.length → (cmb out xs rs).getD m 0 % 18446744073709551616 = (out.getD m 0 + dot xs (rs.map fun r => r.getD m 0)) % 18446744073709551616
  | [], rs, out, _, ho => ⟨by simp [cmb], by simpa [cmb] using ho, fun m _ => by simp [cmb, dot]⟩
  | x :: xs, [], out, _, ho => ⟨by simp [cmb], by simpa [cmb] using ho, fun m _ => by simp [cmb, dot]⟩
  | x :: xs, r :: rs, out, hr, ho => by
    have h1 : r.length = out.length := hr r (by simp)
    have hl := axpy_len x out r h1
    obtain ⟨a, b, c⟩ := cmb_spec xs rs (axpy x out r) (fun q hq => by rw [hl]; exact hr q (by simp [hq])) (axpy_in x out r)
    refine ⟨by rw [cmb, a, hl], by rw [cmb]; exact b, fun m hm => ?_⟩
    rw [cmb, c m (by rw [hl]; exact hm), axpy_get x out r h1 m hm, List.map_cons, dot]
    have := axpy_mod (out.getD m 0) x (r.getD m 0)
    omega
theorem with_l1 (x : Int) (out row list : List Int) (x18 x19 n ph : Int) (pws : List (List Int)) (h : row.length = out.length) (hl : out.length ≤ 1000) (r : List Int × Int × Int)
    (H : Ev (fun k => impl_field_with.l0 k (axpy x out row) list x18 (wrap64 (x19 + 1)) n ph pws) r) :
    ∀ (d i : Nat), d + i = row.length → Ev (fun k => impl_field_with.l1 k ((axpy x out row).take i ++ out.drop i) x list x18 x19 row (row.length : Int) (i : Int) n ph pws) r := by
  intro d
  induction d with
  | zero =>
    intro i hi
    have e : i = out.length := by omega
    subst e
    refine Ev.step (fun k => ?_) H
    simp only [impl_field_with.l1]
    rw [if_neg (by omega), tk_end _ _ (axpy_len x out row h)]
  | succ d ih =>
    intro i hi
    refine Ev.step (fun k => ?_) (ih (i + 1) (by omega))
    simp only [impl_field_with.l1]
    rw [if_pos (by omega), if_pos (by omega), if_pos (by omega), tk_len _ _ _ (axpy_len x out row h) (by omega), if_pos (by omega), w64 (x := (i : Int) + 1) (by omega) (by omega), tk_rd _ _ _ (axpy_len x out row h) (by omega), Int.toNat_natCast]
    rw [show wrap64 (out.getD i 0 + wrap64 (x * rd row (i : Int))) = (axpy x out row).getD i 0 by rw [axpy_get x out row h i (by omega), rd, Int.toNat_natCast], tk_set _ _ _ (axpy_len x out row h) (by omega)]
    rfl
theorem with_l0 (n ph : Int) (list : List Int) (pws : List (List Int)) (hn : (list.length : Int) = n) (hn2 : n ≤ 16) (hp : pws.length = list.length) (P : Nat) (hP : P ≤ 1000) (hr : ∀ r ∈ pws, r.length = P) :
    ∀ (d i : Nat) (out : List Int), d + i = list.length → out.length = P → Ev (fun k => impl_field_with.l0 k out list (list.length : Int) (i : Int) n ph pws) (cmb out (list.drop i) (pws.drop i), n, ph) := by
  intro d
  induction d with
  | zero =>
    intro i out hi ho
    have e : i = list.length := by omega
    subst e
    refine Ev.step (f := fun _ => some (out, n, ph)) (fun k => ?_) ?_
    · simp only [impl_field_with.l0]
      rw [if_neg (by omega)]
    · rw [List.drop_length, cmb]
      exact Ev.now _
      all_goals simp
  | succ d ih =>
    intro i out hi ho
    have hi2 : i < list.length := by omega
    have hi3 : i < pws.length := by omega
    have hrow : pws[i].length = P := hr _ (List.getElem_mem hi3)
    have ha : impl_around.f (i : Int) n = some (i : Int) := by rw [around _ _ (by omega) (by omega), Int.emod_eq_of_lt (by omega) (by omega)]
    refine Ev.step (f := fun k => impl_field_with.l1 k out list[i] list (list.length : Int) (i : Int) pws[i] (pws[i].length : Int) 0 n ph pws) (fun k => ?_) ?_
    · simp only [impl_field_with.l0]
      rw [if_pos (by omega), if_pos (by omega), if_pos (by omega), ha, Option.bind_some, if_pos (by omega), if_pos (by omega), rd_L1_pw, gE _ _ hi3, rd, Int.toNat_natCast, gE _ _ hi2]
    · have H := ih (i + 1) (axpy list[i] out pws[i]) (by omega) (by rw [axpy_len _ _ _ (by omega), ho])
      have := with_l1 list[i] out pws[i] list (list.length : Int) (i : Int) n ph pws (by omega) (by omega) (cmb out (list.drop i) (pws.drop i), n, ph) (by
        rw [w64 (x := (i : Int) + 1) (by omega) (by omega), List.drop_eq_getElem_cons hi2, List.drop_eq_getElem_cons hi3, cmb]
        exact H) pws[i].length 0 (by omega)
      simpa using this
/-- The sum of powers of z, of each so many. -/
def cnt (n : Int) (many : List Int) : List Int := cmb (List.replicate (phn n) 0) many (pw n)
theorem counted (n : Int) (many : List Int) (h0 : 1 ≤ n) (h1 : n ≤ 16) (hm : (many.length : Int) = n) : Ev (fun k => impl_counted.f k n many) (cnt n many) := by
  have hp := pw_len n h0 h1
  have hb := phn_bd n h0 h1
  have hrow := pw_row n h0 h1
  have hf : Ev (fun k => impl_fieldOf.f k n) (n, (phn n : Int), pw n) := by
    unfold impl_fieldOf.f
    refine Ev.bind (pw_impl n h0 h1) ?_
    rw [if_pos (by omega), show ((rd_L1 (pw n) 0).length : Int) = (phn n : Int) by
      have : 0 < (pw n).length := by omega
      rw [show (0 : Int) = ((0 : Nat) : Int) from rfl, rd_L1_pw, gE _ _ this, hrow _ (List.getElem_mem this)]]
    exact Ev.now _
  unfold impl_counted.f
  refine Ev.bind hf ?_
  simp only
  refine Ev.bind (a := (cnt n many, n, (phn n : Int))) ?_ (Ev.now _)
  unfold impl_field_with.f
  simp only [Int.toNat_natCast, if_pos (show 0 ≤ (phn n : Int) by omega), if_pos (show phn n ≤ 35184372088832 by omega)]
  have := with_l0 n (phn n : Int) many (pw n) hm h1 (by omega) (phn n) (by omega) hrow many.length 0 (List.replicate (phn n) 0) (by omega) (by simp)
  simpa [cnt] using this
theorem cnt_spec (n : Int) (many : List Int) (h0 : 1 ≤ n) (h1 : n ≤ 16) : (cnt n many).length = phn n ∧ (∀ o ∈ cnt n many, inW o) ∧ ∀ m, m < phn n → (cnt n many).getD m 0 % 18446744073709551616 = dot many (cl n m) % 18446744073709551616 := by
  obtain ⟨a, b, c⟩ := cmb_spec many (pw n) (List.replicate (phn n) 0) (fun r hr => by simpa using pw_row n h0 h1 r hr) (fun o ho => by rw [List.eq_of_mem_replicate ho]; unfold inW; omega)
  rw [List.length_replicate] at a c
  refine ⟨a, b, fun m hm => ?_⟩
  have := c m hm
  rw [gE (List.replicate (phn n) 0) 0 (by rw [List.length_replicate]; exact hm), List.getElem_replicate, Int.zero_add] at this
  exact this
theorem lists_eq {l l' : List Int} (h : l.length = l'.length) (a : ∀ o ∈ l, inW o) (b : ∀ o ∈ l', inW o) (c : ∀ m, m < l.length → l.getD m 0 % 18446744073709551616 = l'.getD m 0 % 18446744073709551616) : l = l' := by
  refine List.ext_getElem h fun i hi hi' => ?_
  have := c i hi
  rw [gE _ _ hi, gE _ _ hi'] at this
  exact in_eq (a _ (List.getElem_mem hi)) (b _ (List.getElem_mem hi')) this
def ix (p : Int) : List Int := ((impl_indices.f 1000 p).getD ([], 0)).1
def rt (p : Int) : Int := ((impl_indices.f 1000 p).getD ([], 0)).2
def ex (p n c : Int) : List Int := -1 :: ((ix p).drop 1).map fun i => i * c % n
theorem ix_all : ∀ p ∈ prs, impl_indices.f 1000 p = some (ix p, rt p) ∧ ((ix p).length : Int) = p ∧ (∀ i ∈ (ix p).drop 1, 0 ≤ i ∧ i ≤ 60) ∧ rd (ix p) 0 = -1 := by decide +kernel
theorem root_all : ∀ p ∈ prs, spec_l03Root.f 200 p = some (rt p) := by decide +kernel
theorem index_all : ∀ p ∈ prs, ∀ y : Nat, y < 61 → 1 ≤ y → (y : Int) < p → spec_l03Index.l0 200 p (y : Int) (rt p) 1 0 = some (rd (ix p) (y : Int)) := by decide +kernel
def okC (p n c : Int) : Bool := pr p && ((decide (1 ≤ n) && decide (n ≤ 16)) && decide ((p - 1) % n = 0)) && (decide (0 ≤ c) && decide (c ≤ n - 1))
theorem okC_iff {p n c : Int} : okC p n c = true ↔ pr p = true ∧ (1 ≤ n ∧ n ≤ 16) ∧ (p - 1) % n = 0 ∧ 0 ≤ c ∧ c ≤ n - 1 := by simp [okC, and_assoc]
theorem l03Is (p n c : Int) : Ev (fun k => spec_l03Is.f k p n c) (okC p n c) := by
  unfold spec_l03Is.f okC
  refine Ev.bind (l03Prime p) ?_
  cases hp : pr p with
  | false => simp only [Bool.false_eq_true, if_false, Bool.false_and]; exact Ev.now _
  | true =>
    have hb := pr_bd hp
    simp only [if_true, Bool.true_and]
    unfold spec_l03Order.f
    rw [l01In, Option.bind_some]
    cases hn : decide (1 ≤ n) && decide (n ≤ 16) with
    | false => simp only [Bool.false_eq_true, if_false, Bool.false_and, Option.bind_some]; exact Ev.now _
    | true =>
      have hn' : 1 ≤ n ∧ n ≤ 16 := by simpa using hn
      simp only [if_true, if_neg (show ¬ n = 0 by omega), w64 (x := p - 1) (by omega) (by omega), Int.tmod_eq_emod_of_nonneg (show 0 ≤ p - 1 by omega), Option.bind_some, Bool.true_and, l01In, w64 (x := n - 1) (by omega) (by omega)]
      cases hm : (p - 1) % n == 0 with
      | false =>
        have : ¬ (p - 1) % n = 0 := by simpa using hm
        simp only [Bool.false_eq_true, if_false, this, decide_false, Bool.false_and]
        exact Ev.now _
      | true =>
        have : (p - 1) % n = 0 := by simpa using hm
        simp only [if_true, this, decide_true, Bool.true_and]
        exact Ev.now _
theorem isCharacter (p n c : Int) (h0 : -9223372036854775808 ≤ p) (h1 : p ≤ 9223372036854775807) : Ev (fun k => impl_IsCharacter.f k p n c) (okC p n c) := by
  unfold impl_IsCharacter.f impl_areOf.f okC
  cases hp : pr p with
  | false =>
    refine Ev.bind (a := false) ?_ (by simp only [Bool.false_eq_true, if_false, Bool.false_and]; exact Ev.now _)
    refine Ev.bind (isPrime p h0 h1) ?_
    simp only [hp, Bool.false_eq_true, if_false]
    exact Ev.now _
  | true =>
    have hb := pr_bd hp
    simp only [Bool.true_and]
    cases hn : decide (1 ≤ n) && decide (n ≤ 16) with
    | false =>
      refine Ev.bind (a := false) ?_ (by simp only [Bool.false_eq_true, if_false, Bool.false_and]; exact Ev.now _)
      refine Ev.bind (isPrime p h0 h1) ?_
      simp only [hp, if_true]
      unfold impl_isOrder.f
      rw [within_, Option.bind_some, hn]
      simp only [Option.bind_some, Bool.false_eq_true, if_false]
      exact Ev.now _
    | true =>
      have hn' : 1 ≤ n ∧ n ≤ 16 := by simpa using hn
      refine Ev.bind (a := (p - 1) % n == 0) ?_ ?_
      · refine Ev.bind (isPrime p h0 h1) ?_
        simp only [hp, if_true]
        unfold impl_isOrder.f
        rw [within_, Option.bind_some, hn]
        simp only [Option.bind_some, if_true, if_neg (show ¬ n = 0 by omega), w64 (x := p - 1) (by omega) (by omega), Int.tmod_eq_emod_of_nonneg (show 0 ≤ p - 1 by omega)]
        exact Ev.now _
      · cases hm : (p - 1) % n == 0 with
        | false =>
          have : ¬ (p - 1) % n = 0 := by simpa using hm
          simp only [Bool.false_eq_true, if_false, this, decide_false, Bool.and_false, Bool.false_and]
          exact Ev.now _
        | true =>
          have : (p - 1) % n = 0 := by simpa using hm
          simp only [if_true, this, decide_true, Bool.true_and, within_, w64 (x := n - 1) (by omega) (by omega), Option.bind_some]
          exact Ev.now _
theorem ix_impl (p : Int) (hp : pr p = true) : Ev (fun k => impl_indices.f k p) (ix p, rt p) := Ev.of (impl_indices.mono p) (ix_all p (pr_iff.mp hp)).1
theorem ex_len (p n c : Int) (hp : pr p = true) : ((ex p n c).length : Int) = p := by
  have := (ix_all p (pr_iff.mp hp)).2.1
  have := pr_bd hp
  simp only [ex, List.length_cons, List.length_map, List.length_drop]
  omega
theorem ex_bd (p n c : Int) (hn : 1 ≤ n) : ∀ e ∈ ex p n c, -1 ≤ e ∧ e < n := by
  intro e he
  simp only [ex, List.mem_cons, List.mem_map] at he
  rcases he with rfl | ⟨i, _, rfl⟩
  · omega
  · have := Int.emod_nonneg (i * c) (show n ≠ 0 by omega)
    have := Int.emod_lt_of_pos (i * c) (show 0 < n by omega)
    omega
theorem ex_get (p n c : Int) (hp : pr p = true) (hn : 1 ≤ n) (y : Nat) (hy : 1 ≤ y) (hy2 : (y : Int) < p) : (ex p n c).getD y 0 = rd (ix p) (y : Int) * c % n ∧ 0 ≤ (ex p n c).getD y 0 ∧ 0 ≤ rd (ix p) (y : Int) ∧ rd (ix p) (y : Int) ≤ 60 := by
  have hl := (ix_all p (pr_iff.mp hp)).2.1
  have hy3 : y < (ix p).length := by omega
  have hy4 : y - 1 < ((ix p).drop 1).length := by rw [List.length_drop]; omega
  have e1 : (ex p n c).getD y 0 = (ix p)[y] * c % n := by
    obtain ⟨z, rfl⟩ : ∃ z, y = z + 1 := ⟨y - 1, by omega⟩
    rw [ex, List.getD_cons_succ, gE _ _ (by rw [List.length_map]; exact hy4), List.getElem_map, List.getElem_drop]
    simp [Nat.add_comm]
  have e2 : rd (ix p) (y : Int) = (ix p)[y] := by rw [rd, Int.toNat_natCast, gE _ _ hy3]
  have hm : (ix p)[y] ∈ (ix p).drop 1 := by
    refine List.mem_iff_getElem.mpr ⟨y - 1, hy4, ?_⟩
    rw [List.getElem_drop]
    congr 1
    omega
  have hb := (ix_all p (pr_iff.mp hp)).2.2.1 _ hm
  rw [e1, e2]
  exact ⟨rfl, Int.emod_nonneg _ (by omega), hb.1, hb.2⟩
theorem exponent (p n c : Int) (hp : pr p = true) (hn : 1 ≤ n ∧ n ≤ 16) (hc : 0 ≤ c ∧ c ≤ 15) (y : Nat) (hy : 1 ≤ y) (hy2 : (y : Int) < p) : Ev (fun k => spec_l03Exponent.f k p n c (y : Int)) ((ex p n c).getD y 0) := by
  have hb := pr_bd hp
  obtain ⟨e1, _, e3, e4⟩ := ex_get p n c hp hn.1 y hy hy2
  unfold spec_l03Exponent.f
  have ht : Int.tmod (y : Int) p = (y : Int) := by rw [Int.tmod_eq_emod_of_nonneg (by omega), Int.emod_eq_of_lt (by omega) (by omega)]
  have ht2 : Int.tmod (wrap64 ((y : Int) + p)) p = (y : Int) := by
    rw [w64 (by omega) (by omega), Int.tmod_eq_emod_of_nonneg (by omega), Int.add_emod_right, Int.emod_eq_of_lt (by omega) (by omega)]
  simp only [ht, if_neg (show ¬ p = 0 by omega), if_neg (show ¬ (y : Int) = 0 by omega)]
  have hi : Ev (fun k => spec_l03Index.f k p (y : Int)) (rd (ix p) (y : Int)) := by
    unfold spec_l03Index.f
    refine Ev.bind (Ev.of (spec_l03Root.mono p) (root_all p (pr_iff.mp hp))) ?_
    simp only [ht, ht2, if_neg (show ¬ p = 0 by omega)]
    exact Ev.of (fun k => spec_l03Index.mono_l k _ _ _ _ _) (index_all p (pr_iff.mp hp) y (by omega) hy hy2)
  refine Ev.bind hi ?_
  have h5 : 0 ≤ rd (ix p) (y : Int) * c := Int.mul_nonneg e3 hc.1
  have h6 : rd (ix p) (y : Int) * c ≤ 60 * 15 := Int.mul_le_mul e4 hc.2 hc.1 (by omega)
  rw [if_neg (show ¬ n = 0 by omega), w64 (by omega) (by omega), Int.tmod_eq_emod_of_nonneg h5, ← e1]
  exact Ev.now _
theorem exponents_l0 (p n c : Int) (hp : pr p = true) (hn : 1 ≤ n ∧ n ≤ 16) (hc : 0 ≤ c ∧ c ≤ 15) : ∀ (d i : Nat), d + i = (ix p).length → 1 ≤ i → Ev (fun k => impl_exponents.l0 k ((ex p n c).take i ++ (ix p).drop i) ((ix p).length : Int) (i : Int) p n c) (ex p n c) := by
  have hl := (ix_all p (pr_iff.mp hp)).2.1
  have hb := pr_bd hp
  have hx := ex_len p n c hp
  have hx2 : (ex p n c).length = (ix p).length := by omega
  intro d
  induction d with
  | zero =>
    intro i hi h1
    have e : i = (ix p).length := by omega
    subst e
    refine Ev.step (f := fun _ => some (ex p n c)) (fun k => ?_) (Ev.now _)
    simp only [impl_exponents.l0]
    rw [if_neg (by omega), tk_end _ _ hx2]
  | succ d ih =>
    intro i hi h1
    obtain ⟨e1, _, e3, e4⟩ := ex_get p n c hp hn.1 i h1 (by omega)
    have h5 : 0 ≤ rd (ix p) (i : Int) * c := Int.mul_nonneg e3 hc.1
    have h6 : rd (ix p) (i : Int) * c ≤ 60 * 15 := Int.mul_le_mul e4 hc.2 hc.1 (by omega)
    have e5 : (ix p).getD i 0 = rd (ix p) (i : Int) := by rw [rd, Int.toNat_natCast]
    refine Ev.step (fun k => ?_) (ih (i + 1) (by omega) (by omega))
    simp only [impl_exponents.l0]
    rw [if_pos (by omega), if_pos (by omega), tk_len _ _ _ hx2 (by omega), if_pos (by omega), if_pos (by omega), if_neg (show ¬ n = 0 by omega), w64 (x := (i : Int) + 1) (by omega) (by omega), tk_rd _ _ _ hx2 (by omega), Int.toNat_natCast, e5, w64 (by omega) (by omega), Int.tmod_eq_emod_of_nonneg h5, ← e1, tk_set _ _ _ hx2 (by omega)]
    rfl
theorem exponents (p n c : Int) (hp : pr p = true) (hn : 1 ≤ n ∧ n ≤ 16) (hc : 0 ≤ c ∧ c ≤ 15) : Ev (fun k => impl_exponents.f k p n c) (ex p n c) := by
  have hl := (ix_all p (pr_iff.mp hp)).2.1
  have hb := pr_bd hp
  have h0 := (ix_all p (pr_iff.mp hp)).2.2.2
  unfold impl_exponents.f
  refine Ev.bind (ix_impl p hp) ?_
  refine Ev.step (fun k => ?_) (exponents_l0 p n c hp hn hc ((ix p).length - 1) 1 (by omega) (by omega))
  simp only [impl_exponents.l0]
  rw [if_pos (by omega), if_pos (by omega), if_pos (by omega), if_neg (by omega), w64 (x := (0 : Int) + 1) (by omega) (by omega)]
  congr 1
  have h1 : 0 < (ix p).length := by omega
  rw [rd, Int.toNat_zero, gE _ _ h1] at h0
  have : ix p = (-1) :: (ix p).drop 1 := by
    conv => lhs; rw [← List.drop_zero (l := ix p), List.drop_eq_getElem_cons h1, h0]
  conv => lhs; rw [this]
  simp [ex]
def acc : List Int → List Int → List Int → List Int
  | many, t :: ts, e :: es => acc (if e ≥ 0 then many.set e.toNat (wrap64 (rd many e + t)) else many) ts es
  | many, _, _ => many
def spd (n : Int) : List Int → List Int → List Int → List Int
  | out, t :: ts, e :: es => spd n (if e ≥ 0 then axpy t out ((pw n).getD e.toNat []) else out) ts es
  | out, _, _ => out
theorem pw_get (n e : Int) (h0 : 1 ≤ n) (h1 : n ≤ 16) (he : 0 ≤ e ∧ e < n) : (pw n).getD e.toNat [] ∈ pw n := by
  have := pw_len n h0 h1
  rw [gE _ _ (by omega)]
  exact List.getElem_mem _
theorem cl_get (n e : Int) (m : Nat) (h0 : 1 ≤ n) (h1 : n ≤ 16) (he : 0 ≤ e ∧ e < n) : (cl n m).getD e.toNat 0 = ((pw n).getD e.toNat []).getD m 0 := by
  have h2 := pw_len n h0 h1
  have h3 : e.toNat < (pw n).length := by omega
  rw [gE (cl n m) 0 (by rw [cl, List.length_map]; exact h3), gE (pw n) [] h3]
  simp only [cl, List.getElem_map]
theorem acc_spd (n : Int) (h0 : 1 ≤ n) (h1 : n ≤ 16) : ∀ (ts es many out : List Int), (∀ e ∈ es, -1 ≤ e ∧ e < n) → (many.length : Int) = n → out.length = phn n → (∀ o ∈ out, inW o) →
    (∀ m, m < phn n → out.getD m 0 % 18446744073709551616 = dot many (cl n m) % 18446744073709551616) →
    (spd n out ts es).length = phn n ∧ (∀ o ∈ spd n out ts es, inW o) ∧ ∀ m, m < phn n → (spd n out ts es).getD m 0 % 18446744073709551616 = dot (acc many ts es) (cl n m) % 18446744073709551616
  | [], _, _, _, _, _, h, ho, hd => by simpa [spd, acc] using ⟨h, ho, hd⟩
  | _ :: _, [], _, _, _, _, h, ho, hd => by simpa [spd, acc] using ⟨h, ho, hd⟩
  | t :: ts, e :: es, many, out, he, hm, h, ho, hd => by
    rw [spd, acc]
    have he1 := he e (by simp)
    by_cases c : e ≥ 0
    · rw [if_pos c, if_pos c]
      have hr := pw_row n h0 h1 _ (pw_get n e h0 h1 ⟨c, he1.2⟩)
      refine acc_spd n h0 h1 ts es _ _ (fun q hq => he q (by simp [hq])) (by simpa using hm) (by rw [axpy_len _ _ _ (by omega), h]) (axpy_in _ _ _) (fun m hm2 => ?_)
      rw [axpy_get _ _ _ (by omega) m (by omega), dot_set _ _ _ _ (by omega), cl_get n e m h0 h1 ⟨c, he1.2⟩]
      have q1 := axpy_mod (out.getD m 0) t (((pw n).getD e.toNat []).getD m 0)
      have q2 := hd m hm2
      have q3 : (wrap64 (rd many e + t) - many.getD e.toNat 0) * ((pw n).getD e.toNat []).getD m 0 % 18446744073709551616 = t * ((pw n).getD e.toNat []).getD m 0 % 18446744073709551616 := by
        rw [rd]
        have q4 := w_mod (many.getD e.toNat 0 + t)
        have q5 : (wrap64 (many.getD e.toNat 0 + t) - many.getD e.toNat 0) % 18446744073709551616 = t % 18446744073709551616 := by omega
        rw [Int.mul_emod, q5, ← Int.mul_emod]
      generalize ((pw n).getD e.toNat []).getD m 0 = z at *
      generalize t * z = y at *
      generalize (wrap64 (rd many e + t) - many.getD e.toNat 0) * z = x at *
      omega
    · rw [if_neg c, if_neg c]
      exact acc_spd n h0 h1 ts es many out (fun q hq => he q (by simp [hq])) hm h ho hd
theorem sums_eq (n : Int) (h0 : 1 ≤ n) (h1 : n ≤ 16) (ts es : List Int) (he : ∀ e ∈ es, -1 ≤ e ∧ e < n) : cnt n (acc (List.replicate n.toNat 0) ts es) = spd n (List.replicate (phn n) 0) ts es := by
  obtain ⟨a, b, c⟩ := acc_spd n h0 h1 ts es (List.replicate n.toNat 0) (List.replicate (phn n) 0) he (by simp; omega) (by simp) (fun o ho => by rw [List.eq_of_mem_replicate ho]; unfold inW; omega) (fun m hm => by
    rw [dot_zeros, gE _ _ (by simpa using hm), List.getElem_replicate])
  obtain ⟨a', b', c'⟩ := cnt_spec n (acc (List.replicate n.toNat 0) ts es) h0 h1
  exact lists_eq (by omega) b' b (fun m hm => by rw [c' m (by omega), c m (by omega)])
theorem summed_l0 (p n c : Int) (tab es : List Int) (h0 : 1 ≤ n) (h1 : n ≤ 16) (he : ∀ e ∈ es, -1 ≤ e ∧ e < n) (ht : tab.length = es.length) (hl : es.length ≤ 1000) :
    ∀ (d i : Nat) (many : List Int), d + i = es.length → (many.length : Int) = n → Ev (fun k => impl_summed.l0 k tab many es (es.length : Int) (i : Int) p n c) (n, cnt n (acc many (tab.drop i) (es.drop i))) := by
  intro d
  induction d with
  | zero =>
    intro i many hi hm
    have e : i = es.length := by omega
    subst e
    refine Ev.step (f := fun k => (impl_counted.f k n many).bind fun t => some (n, t)) (fun k => ?_) ?_
    · simp only [impl_summed.l0]
      rw [if_neg (by omega)]
    · refine Ev.bind (counted n many h0 h1 hm) ?_
      rw [← ht, List.drop_length]
      simp only [acc]
      exact Ev.now _
  | succ d ih =>
    intro i many hi hm
    have hi2 : i < es.length := by omega
    have hi3 : i < tab.length := by omega
    have he1 := he _ (List.getElem_mem hi2)
    have e1 : rd es (i : Int) = es[i] := by rw [rd, Int.toNat_natCast, gE _ _ hi2]
    have e2 : rd tab (i : Int) = tab[i] := by rw [rd, Int.toNat_natCast, gE _ _ hi3]
    rw [List.drop_eq_getElem_cons hi2, List.drop_eq_getElem_cons hi3, acc]
    by_cases c0 : es[i] ≥ 0
    · rw [if_pos c0]
      refine Ev.step (fun k => ?_) (ih (i + 1) (many.set (es[i]).toNat (wrap64 (rd many es[i] + tab[i]))) (by omega) (by simpa using hm))
      simp only [impl_summed.l0, e1, e2]
      rw [if_pos (by omega), if_pos (by omega), if_pos (by omega), if_pos c0, if_pos (by omega), if_pos (by omega), if_pos (by omega), w64 (x := (i : Int) + 1) (by omega) (by omega)]
      rfl
    · rw [if_neg c0]
      refine Ev.step (fun k => ?_) (ih (i + 1) many (by omega) hm)
      simp only [impl_summed.l0, e1]
      rw [if_pos (by omega), if_pos (by omega), if_pos (by omega), if_neg c0, w64 (x := (i : Int) + 1) (by omega) (by omega)]
      rfl
theorem summed (p n c : Int) (tab : List Int) (hp : pr p = true) (hn : 1 ≤ n ∧ n ≤ 16) (hc : 0 ≤ c ∧ c ≤ 15) (ht : (tab.length : Int) = p) : Ev (fun k => impl_summed.f k tab p n c) (n, spd n (List.replicate (phn n) 0) tab (ex p n c)) := by
  have hx := ex_len p n c hp
  have hb := pr_bd hp
  have := summed_l0 p n c tab (ex p n c) hn.1 hn.2 (ex_bd p n c hn.1) (by omega) (by omega) (ex p n c).length 0 (List.replicate n.toNat 0) (by omega) (by simp; omega)
  rw [List.drop_zero, List.drop_zero, sums_eq n hn.1 hn.2 _ _ (ex_bd p n c hn.1)] at this
  unfold impl_summed.f
  simp only [if_pos (show 0 ≤ n by omega), if_pos (show n.toNat ≤ 35184372088832 by omega)]
  refine Ev.bind (exponents p n c hp hn hc) ?_
  simpa using this
theorem zero01 (n : Int) (h0 : 1 ≤ n) (h1 : n ≤ 16) : Ev (fun k => spec_l01Zero.f k n) (n, List.replicate (phn n) 0) := by
  have := phn_bd n h0 h1
  unfold spec_l01Zero.f
  refine Ev.bind (phi_spec n h0 h1) ?_
  have e : phi n = (phn n : Int) := by unfold phn at this ⊢; omega
  rw [e, if_pos (by omega), if_pos (by omega), Int.toNat_natCast]
  exact Ev.now _
def unitOk (n e : Nat) : Bool := decide (spec_l01Unit.f 400 (n : Int) (e : Int) = some ((n : Int), (pw (n : Int)).getD e []))
theorem unit_all : ∀ n : Nat, n < 17 → 1 ≤ n → ∀ e : Nat, e < n → unitOk n e = true := by decide +kernel
theorem unit01 (n e : Int) (h0 : 1 ≤ n) (h1 : n ≤ 16) (he : 0 ≤ e ∧ e < n) : Ev (fun k => spec_l01Unit.f k n e) (n, (pw n).getD e.toNat []) := by
  have := of_decide_eq_true (unit_all n.toNat (by omega) (by omega) e.toNat (by omega))
  rw [Int.toNat_of_nonneg (by omega), Int.toNat_of_nonneg (by omega)] at this
  exact Ev.of (spec_l01Unit.mono n e) this
theorem at03 (p n c : Int) (hp : pr p = true) (hn : 1 ≤ n ∧ n ≤ 16) (hc : 0 ≤ c ∧ c ≤ 15) (y : Nat) (hy : 1 ≤ y) (hy2 : (y : Int) < p) : Ev (fun k => spec_l03At.f k p n c (y : Int)) (n, (pw n).getD ((ex p n c).getD y 0).toNat []) := by
  have hx := ex_len p n c hp
  obtain ⟨_, e2, _, _⟩ := ex_get p n c hp hn.1 y hy hy2
  have hb : (ex p n c).getD y 0 < n := by
    rw [gE _ _ (by omega)]
    exact (ex_bd p n c hn.1 _ (List.getElem_mem _)).2
  unfold spec_l03At.f
  refine Ev.bind (exponent p n c hp hn hc y hy hy2) ?_
  simp only [if_neg (show ¬ (ex p n c).getD y 0 < 0 by omega)]
  exact Ev.bind (unit01 n _ hn.1 hn.2 ⟨e2, hb⟩) (Ev.now _)
theorem sw_l1 (p n c : Int) (tab : List Int) (hp : pr p = true) (hn : 1 ≤ n ∧ n ≤ 16) (hc : 0 ≤ c ∧ c ≤ 15) (ht : (tab.length : Int) = p) : ∀ (d y : Nat) (out : List Int), (d : Int) + y = p → 1 ≤ y → out.length = phn n → Ev (fun k => spec_SumWith.l1 k tab (y : Int) p n c n out) (n, spd n out (tab.drop y) ((ex p n c).drop y), 0) := by
  have hx := ex_len p n c hp
  have hb := pr_bd hp
  have hph := phn_bd n hn.1 hn.2
  intro d
  induction d with
  | zero =>
    intro y out hy h1 ho
    refine Ev.step (f := fun _ => some (n, out, 0)) (fun k => ?_) ?_
    · simp only [spec_SumWith.l1]
      rw [if_neg (by omega)]
    · rw [List.drop_eq_nil_of_le (show tab.length ≤ y by omega)]
      simp only [spd]
      exact Ev.now _
  | succ d ih =>
    intro y out hy h1 ho
    have hy2 : y < (ex p n c).length := by omega
    have hy3 : y < tab.length := by omega
    obtain ⟨_, e2, _, _⟩ := ex_get p n c hp hn.1 y h1 (by omega)
    have hbd : (ex p n c).getD y 0 < n := by
      rw [gE _ _ hy2]
      exact (ex_bd p n c hn.1 _ (List.getElem_mem _)).2
    have hr := pw_row n hn.1 hn.2 _ (pw_get n _ hn.1 hn.2 ⟨e2, hbd⟩)
    have et : rd tab (y : Int) = tab[y] := by rw [rd, Int.toNat_natCast, gE _ _ hy3]
    refine Ev.step (f := fun k => ((spec_l03At.f k p n c (y : Int)).bind fun bt => ((spec_l01Plus.f k n out bt.1 bt.2 tab[y]).bind fun bu => (spec_SumWith.l1 k tab ((y : Int) + 1) p n c bu.1 bu.2)))) (fun k => ?_) ?_
    · simp only [spec_SumWith.l1, et]
      rw [if_pos (by omega), w64 (x := (y : Int) + 1) (by omega) (by omega)]
      simp only [if_pos (show 0 ≤ (y : Int) by omega)]
    · refine Ev.bind (at03 p n c hp hn hc y h1 (by omega)) (Ev.bind (plus01 tab[y] n n out _ (show ((pw n).getD ((ex p n c).getD y 0).toNat []).length = out.length by omega) (by omega)) ?_)
      have := ih (y + 1) (axpy tab[y] out ((pw n).getD ((ex p n c).getD y 0).toNat [])) (by omega) (by omega) (by rw [axpy_len _ _ _ (by omega), ho])
      rw [List.drop_eq_getElem_cons hy2, List.drop_eq_getElem_cons hy3, spd, ← gE _ 0 hy2, if_pos e2]
      exact this
def swRest (p n c : Int) (tab : List Int) (b : Bool) : Int × List Int × Int := if b then (n, spd n (List.replicate (phn n) 0) tab (ex p n c), 0) else (0, [], 2)
theorem sw_l0 (p n c : Int) (tab : List Int) (hp : pr p = true) (hn : 1 ≤ n ∧ n ≤ 16) (hc : 0 ≤ c ∧ c ≤ 15) (ht : (tab.length : Int) = p) : ∀ (d i : Nat), d + i = tab.length → Ev (fun k => spec_SumWith.l0 k tab (i : Int) p n c) (swRest p n c tab ((tab.drop i).all (inP 1000000))) := by
  have hx := ex_len p n c hp
  have hb := pr_bd hp
  intro d
  induction d with
  | zero =>
    intro i hi
    have e : i = tab.length := by omega
    subst e
    refine Ev.step (f := fun k => ((spec_l01Zero.f k n).bind fun bt => (spec_SumWith.l1 k tab 1 p n c bt.1 bt.2))) (fun k => ?_) ?_
    · simp only [spec_SumWith.l0]
      rw [if_neg (by omega)]
    · refine Ev.bind (zero01 n hn.1 hn.2) ?_
      have := sw_l1 p n c tab hp hn hc ht (p.toNat - 1) 1 (List.replicate (phn n) 0) (by omega) (by omega) (by simp)
      rw [List.drop_length]
      simp only [List.all_nil, swRest, if_true]
      have h0 : 0 < tab.length := by omega
      have e0 : tab = tab[0] :: tab.drop 1 := by
        conv => lhs; rw [← List.drop_zero (l := tab), List.drop_eq_getElem_cons h0]
      have e1 : spd n (List.replicate (phn n) 0) tab (ex p n c) = spd n (List.replicate (phn n) 0) (tab.drop 1) ((ex p n c).drop 1) := by
        conv => lhs; rw [e0, ex, spd, if_neg (show ¬ ((-1 : Int) ≥ 0) by omega)]
        simp [ex]
      rw [e1]
      exact this
  | succ d ih =>
    intro i hi
    have hi2 : i < tab.length := by omega
    have et : rd tab (i : Int) = tab[i] := by rw [rd, Int.toNat_natCast, gE _ _ hi2]
    have eI : (decide (-1000000 ≤ tab[i]) && decide (tab[i] ≤ 1000000)) = inP 1000000 tab[i] := rfl
    rw [List.drop_eq_getElem_cons hi2, List.all_cons]
    cases h : inP 1000000 tab[i] with
    | false =>
      refine Ev.step (f := fun _ => some (0, ([] : List Int), 2)) (fun k => ?_) ?_
      · simp only [spec_SumWith.l0, et, l01In, eI, h, Option.bind_some, Bool.false_eq_true, if_false]
        rw [if_pos (by omega), if_pos (by omega)]
      · simp only [Bool.false_and, swRest, Bool.false_eq_true, if_false]
        exact Ev.now _
    | true =>
      refine Ev.step (fun k => ?_) (ih (i + 1) (by omega))
      simp only [spec_SumWith.l0, et, l01In, eI, h, Option.bind_some, if_true]
      rw [if_pos (by omega), if_pos (by omega), w64 (x := (i : Int) + 1) (by omega) (by omega)]
      rfl
def out (tab : List Int) (p n c : Int) : Int × List Int × Int := if okC p n c then (if (tab.length : Int) = p then swRest p n c tab (tab.all (inP 1000000)) else (0, [], 2)) else (0, [], 1)
theorem spec_out (tab : List Int) (p n c : Int) : Ev (fun k => spec_SumWith.f k tab p n c) (out tab p n c) := by
  unfold spec_SumWith.f out
  refine Ev.bind (l03Is p n c) ?_
  cases h : okC p n c with
  | false => simp only [Bool.false_eq_true, if_false]; exact Ev.now _
  | true =>
    obtain ⟨hp, hn, _, hc0, hc1⟩ := okC_iff.mp h
    simp only [if_true]
    by_cases hl : (tab.length : Int) = p
    · simp only [if_pos hl]
      have := sw_l0 p n c tab hp hn ⟨hc0, by omega⟩ hl tab.length 0 (by omega)
      simpa using this
    · simp only [if_neg hl]
      exact Ev.now _
theorem impl_out (tab : List Int) (p n c : Int) (h0 : -9223372036854775808 ≤ p) (h1 : p ≤ 9223372036854775807) : Ev (fun k => impl_SumWith.f k tab p n c) (out tab p n c) := by
  unfold impl_SumWith.f out
  refine Ev.bind (isCharacter p n c h0 h1) ?_
  cases h : okC p n c with
  | false => simp only [Bool.false_eq_true, if_false]; exact Ev.now _
  | true =>
    obtain ⟨hp, hn, _, hc0, hc1⟩ := okC_iff.mp h
    simp only [if_true]
    by_cases hl : (tab.length : Int) = p
    · simp only [if_pos hl]
      refine ev_bind_const (areSmall tab 1000000 (by omega) (by omega)) ?_
      cases ha : tab.all (inP 1000000) with
      | false => simp only [Bool.false_eq_true, if_false, swRest]; exact Ev.now _
      | true =>
        simp only [if_true, swRest]
        exact Ev.bind (summed p n c tab hp hn ⟨hc0, by omega⟩ hl) (Ev.now _)
    · simp only [if_neg hl]
      exact Ev.now _
theorem out_len (tab : List Int) (p n c : Int) : (out tab p n c).2.1.length ≤ 1048576 := by
  unfold out
  cases h : okC p n c with
  | false => simp
  | true =>
    obtain ⟨hp, hn, _, hc0, hc1⟩ := okC_iff.mp h
    have := phn_bd n hn.1 hn.2
    obtain ⟨a, _, _⟩ := acc_spd n hn.1 hn.2 tab (ex p n c) (List.replicate n.toNat 0) (List.replicate (phn n) 0) (ex_bd p n c hn.1) (by simp; omega) (by simp) (fun o ho => by rw [List.eq_of_mem_replicate ho]; unfold inW; omega) (fun m hm => by
      rw [dot_zeros, gE _ _ (by simpa using hm), List.getElem_replicate])
    simp only [if_true]
    split
    · unfold swRest
      split
      · show (spd n (List.replicate (phn n) 0) tab (ex p n c)).length ≤ 1048576
        omega
      · simp
    · simp
theorem FnExactSumWith : laws_FnExactSumWith.Pure := by
  intro tab p n c _ _ hp hn hc
  apply Ev.rounds
  have hp2 := wf64 hp
  obtain ⟨⟨m, l, e⟩, ho⟩ : ∃ o, o = out tab p n c := ⟨_, rfl⟩
  have hs := spec_out tab p n c
  have hi := impl_out tab p n c hp2.1 hp2.2
  have hl := out_len tab p n c
  rw [← ho] at hs hi hl
  unfold laws_FnExactSumWith.f laws_toCharacter.f
  by_cases hb : (tab.length : Int) > 1048576
  · simp only [if_pos hb]
    exact Ev.now _
  simp only [if_neg hb, Option.bind_some]
  have htl : tab.length ≤ 1048576 := by omega
  have ht := toInts tab htl
  refine Ev.bind ht (Ev.bind hs (Ev.bind ht (Ev.bind hi (Ev.bind (eqCyclo _ _ _ _ hl) ?_))))
  simp only [and_self, decide_true, if_true, bne_self_eq_false]
  refine Ev.step (fun k => by simp only [laws_FnExactSumWith.j0, Bool.false_eq_true, if_false] <;> rfl) ?_
  refine Ev.bind ht (Ev.bind (eqInts tab tab htl) ?_)
  simp only [decide_true, if_true]
  refine Ev.bind (markInts tab htl) ?_
  simp only [if_neg (show ¬ (1 + (tab.length : Int) < 0) by omega)]
  refine Ev.bind (eqCyclo _ _ _ _ hl) ?_
  simp only [and_self, decide_true, if_true, bne_self_eq_false]
  refine Ev.step (fun k => by simp only [laws_FnExactSumWith.j1, Bool.false_eq_true, if_false, laws_toCharacter.f, Option.bind_some] <;> rfl) ?_
  refine Ev.bind (markCyclo m l hl) (Ev.bind (heldCyclo m l.length hl) ?_)
  simp only [if_neg (show ¬ (1 + (l.length : Int) < 0) by omega), if_true]
  refine Ev.bind ht (Ev.bind hi (Ev.bind (eqCyclo _ _ _ _ hl) ?_))
  simp only [and_self, decide_true, if_true, bne_self_eq_false]
  refine Ev.step (fun k => by simp only [laws_FnExactSumWith.j2, Bool.false_eq_true, if_false] <;> rfl) ?_
  refine Ev.bind (heldCyclo m l.length hl) ?_
  simp only [if_neg (show ¬ (1 + (l.length : Int) < 0) by omega), if_true]
  exact Ev.now _
end Go.Proofs.Ythdpdiahkphklaa.Pure
