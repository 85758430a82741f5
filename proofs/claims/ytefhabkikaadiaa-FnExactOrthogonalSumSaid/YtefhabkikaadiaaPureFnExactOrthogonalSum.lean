/- The program's OrthogonalSum returns what the reference's returns, for all arguments; no condition. -/
import Derived.Test.YtefhabkikaadiaaPFnExactOrthogonalSumx16
import Derived.OpenShut
namespace Go.Proofs.Ytefhabkikaadiaa.Pure
open Go.RowKit Go.Proofs.Ytefhabkikaadiaa.PFnExactOrthogonalSum Go.Proofs.YtefhabkikaadiaaW.PrintWords Go.Proofs.YtefhabkikaadiaaW.PrintLast Go.Proofs.YtefhabkikaadiaaW.PrintMore
set_option linter.unusedVariables false
set_option linter.unusedSimpArgs false
theorem w64 {x : Int} (h0 : -9223372036854775808 ≤ x) (h1 : x ≤ 9223372036854775807) : wrap64 x = x := by unfold wrap64; omega
theorem wf64 {x : Int} (h : (Lit.int .i64 x).wf = true) : -9223372036854775808 ≤ x ∧ x ≤ 9223372036854775807 := bounds_i64 h
theorem ev_bind_const {α β : Type} {o : Option α} {a : α} {f : Nat → α → Option β} {r : β} (h : o = some a) (k : Ev (fun n => f n a) r) : Ev (fun n => o.bind (f n)) r := by
  subst h; exact k
theorem eqInts_l0 (l m : List Int) (hl : l.length ≤ 1048576) (hm : m.length = l.length) : ∀ (d i : Nat), d + i = l.length → Ev (fun k => laws_eqInt64S.l0 k l m (i : Int)) (decide (l.drop i = m.drop i)) := by
  intro d
  induction d with
  | zero =>
    intro i hd
    refine Ev.step (f := fun _ => some (decide (l.drop i = m.drop i))) (fun k => ?_) (Ev.now _)
    simp only [laws_eqInt64S.l0]
    rw [if_neg (by omega), List.drop_of_length_le (by omega), List.drop_of_length_le (by omega)]
    simp
  | succ d ih =>
    intro i hd
    have hi : i < l.length := by omega
    have hi2 : i < m.length := by omega
    have e1 : rd l (i : Int) = l[i] := by simp [rd, hi]
    have e2 : rd m (i : Int) = m[i] := by simp [rd, hi2]
    by_cases he : l[i] = m[i]
    · refine Ev.step (f := fun k => laws_eqInt64S.l0 k l m ((i + 1 : Nat) : Int)) (fun k => ?_) ?_
      · simp only [laws_eqInt64S.l0]
        rw [if_pos (by omega), if_pos (by omega), if_pos (by omega), e1, e2, if_pos he, w64 (by omega) (by omega)]
        rfl
      · have e : decide (l.drop i = m.drop i) = decide (l.drop (i + 1) = m.drop (i + 1)) := by
          rw [List.drop_eq_getElem_cons hi, List.drop_eq_getElem_cons hi2]
          simp only [List.cons.injEq, he, true_and]
        rw [e]
        exact ih (i + 1) (by omega)
    · refine Ev.step (f := fun _ => some false) (fun k => ?_) ?_
      · simp only [laws_eqInt64S.l0]
        rw [if_pos (by omega), if_pos (by omega), if_pos (by omega), e1, e2, if_neg he]
      · have e : decide (l.drop i = m.drop i) = false := by
          rw [List.drop_eq_getElem_cons hi, List.drop_eq_getElem_cons hi2]
          simp only [List.cons.injEq, he, false_and, decide_false]
        rw [e]
        exact Ev.now _
theorem eqInts (l m : List Int) (hl : l.length ≤ 1048576) : Ev (fun k => laws_eqInt64S.f k l m) (decide (l = m)) := by
  by_cases h : m.length = l.length
  · have := eqInts_l0 l m hl h l.length 0 (by omega)
    refine Ev.congr (fun k => ?_) (by simpa using this)
    unfold laws_eqInt64S.f
    rw [if_pos (by omega)]
  · have hne : l ≠ m := fun e => h (by rw [e])
    rw [decide_eq_false hne]
    refine Ev.congr (fun k => ?_) (Ev.now _)
    unfold laws_eqInt64S.f
    rw [if_neg (by omega)]
theorem eqCyclo (n n' : Int) (l l' : List Int) (hl : l.length ≤ 1048576) : Ev (fun k => laws_eqCyclo.f k n l n' l') (decide (n = n' ∧ l = l')) := by
  unfold laws_eqCyclo.f
  by_cases h : n = n'
  · simp only [if_pos h]
    refine Ev.bind (eqInts l l' hl) ?_
    by_cases h2 : l = l' <;> simp [h, h2] <;> exact Ev.now _
  · simp only [if_neg h]
    simp [h]
    exact Ev.now _
def phi (n : Int) : Int := [0, 1, 1, 2, 2, 4, 2, 6, 4, 6, 4, 10, 4, 12, 6, 8, 8].getD n.toNat 0
theorem orders {P : Int → Prop} (h : ∀ m : Nat, m < 17 → 1 ≤ m → P m) (n : Int) (h0 : 1 ≤ n) (h1 : n ≤ 16) : P n := by
  have := h n.toNat (by omega) (by omega)
  rwa [Int.toNat_of_nonneg (by omega)] at this
theorem phi_spec (n : Int) (h0 : 1 ≤ n) (h1 : n ≤ 16) : Ev (fun k => spec_l01Phi.f k n) (phi n) := by
  have key : ∀ m : Nat, m < 17 → 1 ≤ m → spec_l01Phi.f 60 (m : Int) = some (phi m) := by decide +kernel
  exact Ev.of (spec_l01Phi.mono n) (orders (P := fun n => spec_l01Phi.f 60 n = some (phi n)) key n h0 h1)
theorem l01In (a b c : Int) : spec_l01In.f a b c = some (decide (b ≤ a) && decide (a ≤ c)) := by
  unfold spec_l01In.f
  by_cases h : a ≥ b
  · rw [if_pos h]; simp [h]
  · rw [if_neg h]; simp [h]
theorem within_ (a b c : Int) : impl_within.f a b c = some (decide (b ≤ a) && decide (a ≤ c)) := by
  unfold impl_within.f
  by_cases h : b ≤ a
  · rw [if_pos h]; simp [h]
  · rw [if_neg h]; simp [h]
def upTo (a : Int) (n : Nat) : List Int := (List.range n).map fun (j : Nat) => a + (j : Int)
theorem upTo_len (a : Int) (n : Nat) : (upTo a n).length = n := by simp [upTo]
theorem upTo_get (a : Int) (n i : Nat) (hi : i < n) : (upTo a n)[i]'(by rw [upTo_len]; exact hi) = a + (i : Int) := by simp [upTo]
theorem upTo_snoc (a : Int) (n : Nat) : upTo a (n + 1) = upTo a n ++ [a + (n : Int)] := by
  unfold upTo
  rw [List.range_succ, List.map_append]
  rfl
theorem markInts_l0 : ∀ (d i : Nat) (ys : List Int), d + i = ys.length → ys.length ≤ 1048576 → ys.take i = upTo 1 i → Ev (fun k => laws_markInt64S.l0 k ys (1 + (i : Int)) (i : Int)) (1 + (ys.length : Int), upTo 1 ys.length) := by
  intro d
  induction d with
  | zero =>
    intro i ys hd hl ht
    obtain rfl : i = ys.length := by omega
    refine Ev.step (fun k => by simp only [laws_markInt64S.l0]; rw [if_neg (by omega)] <;> rfl) ?_
    rw [List.take_length] at ht
    rw [← ht]
    exact Ev.now _
  | succ d ih =>
    intro i ys hd hl ht
    have hi : i < ys.length := by omega
    have := ih (i + 1) (ys.set i (1 + (i : Int))) (by simp; omega) (by simpa using hl) (by
      rw [List.take_succ_eq_append_getElem (by simpa using hi), List.take_set_of_le (Nat.le_refl _), ht, upTo_snoc]
      simp)
    refine Ev.step (fun k => ?_) (by simpa using this)
    simp only [laws_markInt64S.l0]
    rw [if_pos (by omega), if_pos (by omega), w64 (x := 1 + (i : Int) + 1) (by omega) (by omega), w64 (x := (i : Int) + 1) (by omega) (by omega), show 1 + (i : Int) + 1 = 1 + ((i : Int) + 1) by omega]
    rfl
theorem markInts (l : List Int) (hl : l.length ≤ 1048576) : Ev (fun k => laws_markInt64S.f k l 1) (1 + (l.length : Int), upTo 1 l.length) := by
  have := markInts_l0 l.length 0 l (by omega) hl (by simp [upTo])
  unfold laws_markInt64S.f
  simpa using this
theorem heldInts_l0 (n : Nat) (hn : n ≤ 1048576) : ∀ (d i : Nat), d + i = n → Ev (fun k => laws_heldInt64S.l0 k (upTo 1 n) (1 + (i : Int)) (i : Int)) (1 + (n : Int)) := by
  intro d
  induction d with
  | zero =>
    intro i hd
    obtain rfl : i = n := by omega
    exact Ev.step (fun k => by simp only [laws_heldInt64S.l0]; rw [if_neg (by rw [upTo_len]; omega)] <;> rfl) (Ev.now _)
  | succ d ih =>
    intro i hd
    have hi : i < (upTo 1 n).length := by rw [upTo_len]; omega
    have e1 : rd (upTo 1 n) (i : Int) = 1 + (i : Int) := by
      have := upTo_get 1 n i (by omega)
      simp only [rd, Int.toNat_natCast, List.getD_eq_getElem?_getD, List.getElem?_eq_getElem hi, Option.getD_some, this]
    refine Ev.step (fun k => ?_) (ih (i + 1) (by omega))
    simp only [laws_heldInt64S.l0]
    rw [if_pos (by omega), if_pos (by omega), if_pos e1, w64 (x := 1 + (i : Int) + 1) (by omega) (by omega), w64 (x := (i : Int) + 1) (by omega) (by omega), show 1 + (i : Int) + 1 = 1 + ((i : Int) + 1) by omega]
    rfl
theorem heldInts (n : Nat) (hn : n ≤ 1048576) : Ev (fun k => laws_heldInt64S.f k (upTo 1 n) 1) (1 + (n : Int)) := by
  have := heldInts_l0 n hn n 0 (by omega)
  unfold laws_heldInt64S.f
  simpa using this
theorem markCyclo (n : Int) (l : List Int) (hl : l.length ≤ 1048576) : Ev (fun k => laws_markCyclo.f k n l 1) (1 + (l.length : Int), upTo 1 l.length) := Ev.bind (markInts l hl) (Ev.now _)
theorem heldCyclo (m : Int) (n : Nat) (hn : n ≤ 1048576) : Ev (fun k => laws_heldCyclo.f k m (upTo 1 n) 1) (1 + (n : Int)) := by
  unfold laws_heldCyclo.f
  refine Ev.bind (heldInts n hn) ?_
  simp only [if_neg (show ¬ (1 + (n : Int) < 0) by omega)]
  exact Ev.now _
def prs : List Int := [3, 5, 7, 11, 13, 17, 19, 23, 29, 31, 37, 41, 43, 47, 53, 59, 61]
def pr (l : Int) : Bool := prs.contains l
theorem pr_iff {l : Int} : pr l = true ↔ l ∈ prs := by unfold pr; exact List.contains_iff_mem
theorem pr_bd {l : Int} (h : pr l = true) : 3 ≤ l ∧ l ≤ 61 := by
  rw [pr_iff] at h
  simp only [prs, List.mem_cons, List.not_mem_nil, or_false] at h
  omega
theorem upto61 {P : Int → Prop} (h : ∀ m : Nat, m < 62 → P m) (n : Int) (h0 : 0 ≤ n) (h1 : n ≤ 61) : P n := by
  have := h n.toNat (by omega)
  rwa [Int.toNat_of_nonneg (by omega)] at this
theorem isPrime_big (p : Int) (h0 : 61 < p) (h1 : p ≤ 9223372036854775807) : ∀ (n : Nat) (d : Int), 2 ≤ d → d ≤ p → (p - d).toNat = n → Ev (fun k => impl_isPrime.l0 k p d) false := by
  intro n
  induction n with
  | zero =>
    intro d hd hp hn
    have : d = p := by omega
    subst this
    refine Ev.step (f := fun _ => some false) (fun k => ?_) (Ev.now _)
    simp only [impl_isPrime.l0]
    by_cases c : wrap64 (d * d) ≤ d
    · rw [if_pos c, if_neg (by omega), if_pos (Int.tmod_self)]
    · rw [if_neg c, within_, Option.bind_some]
      simp
      omega
  | succ n ih =>
    intro d hd hp hn
    by_cases c : wrap64 (d * d) ≤ p
    · by_cases c2 : Int.tmod p d = 0
      · refine Ev.step (f := fun _ => some false) (fun k => ?_) (Ev.now _)
        simp only [impl_isPrime.l0]
        rw [if_pos c, if_neg (by omega), if_pos c2]
      · refine Ev.step (fun k => ?_) (ih (d + 1) (by omega) (by omega) (by omega))
        simp only [impl_isPrime.l0]
        rw [if_pos c, if_neg (by omega), if_neg c2, w64 (by omega) (by omega)]
    · refine Ev.step (f := fun _ => some false) (fun k => ?_) (Ev.now _)
      simp only [impl_isPrime.l0]
      rw [if_neg c, within_, Option.bind_some]
      simp
      omega
theorem isPrime (p : Int) (h0 : -9223372036854775808 ≤ p) (h1 : p ≤ 9223372036854775807) : Ev (fun k => impl_isPrime.f k p) (pr p) := by
  by_cases c : 61 < p
  · have e : pr p = false := by
      cases h : pr p with
      | false => rfl
      | true => have := pr_bd h; omega
    rw [e]
    exact isPrime_big p c h1 _ 2 (by omega) (by omega) rfl
  · by_cases c2 : 0 ≤ p
    · have key : ∀ m : Nat, m < 62 → impl_isPrime.f 20 (m : Int) = some (pr m) := by decide +kernel
      exact Ev.of (impl_isPrime.mono p) (upto61 (P := fun p => impl_isPrime.f 20 p = some (pr p)) key p c2 (by omega))
    · have e : pr p = false := by
        cases h : pr p with
        | false => rfl
        | true => have := pr_bd h; omega
      rw [e]
      refine Ev.step (f := fun _ => some false) (fun k => ?_) (Ev.now _)
      simp only [impl_isPrime.f, impl_isPrime.l0]
      rw [if_neg (by rw [w64 (x := 2 * 2) (by omega) (by omega)]; omega), within_, Option.bind_some]
      simp
      omega
theorem l03Prime (p : Int) : Ev (fun k => spec_l03Prime.f k p) (pr p) := by
  by_cases c : 3 ≤ p ∧ p ≤ 61
  · have key : ∀ m : Nat, m < 62 → spec_l03Prime.f 20 (m : Int) = some (pr m) := by decide +kernel
    exact Ev.of (spec_l03Prime.mono p) (upto61 (P := fun p => spec_l03Prime.f 20 p = some (pr p)) key p (by omega) c.2)
  · have e : pr p = false := by
      cases h : pr p with
      | false => rfl
      | true => have := pr_bd h; omega
    rw [e]
    unfold spec_l03Prime.f
    refine ev_bind_const (l01In _ _ _) ?_
    rw [show (decide (3 ≤ p) && decide (p ≤ 61)) = false by simp; omega]
    exact Ev.now _
def cyc (n : Int) : List Int := [[], [-1, 1], [1, 1], [1, 1, 1], [1, 0, 1], [1, 1, 1, 1, 1], [1, -1, 1], [1, 1, 1, 1, 1, 1, 1], [1, 0, 0, 0, 1], [1, 0, 0, 1, 0, 0, 1], [1, -1, 1, -1, 1], [1, 1, 1, 1, 1, 1, 1, 1, 1, 1, 1], [1, 0, -1, 0, 1], [1, 1, 1, 1, 1, 1, 1, 1, 1, 1, 1, 1, 1], [1, -1, 1, -1, 1, -1, 1], [1, -1, 0, 1, -1, 1, 0, -1, 1], [1, 0, 0, 0, 0, 0, 0, 0, 1]].getD n.toNat []
theorem cyc_spec (n : Int) (h0 : 1 ≤ n) (h1 : n ≤ 16) : Ev (fun k => spec_l01Cyclotomic.f k n) (cyc n) := by
  have key : ∀ m : Nat, m < 17 → 1 ≤ m → spec_l01Cyclotomic.f 400 (m : Int) = some (cyc m) := by decide +kernel
  exact Ev.of (spec_l01Cyclotomic.mono n) (orders (P := fun n => spec_l01Cyclotomic.f 400 n = some (cyc n)) key n h0 h1)
def hv (cs : List Int) (r q : Int) : Int := cs.foldr (fun c out => (out * r + c) % q) 0
theorem tmod_emod (c q : Int) (hq : 0 < q) : (Int.tmod c q) % q = c % q := by
  rw [Int.tmod_eq_emod]
  split <;> simp
  rw [Int.sub_emod]
  simp [Int.natAbs_of_nonneg (Int.le_of_lt hq)]
theorem around (a m : Int) (hm : 0 < m) (hm2 : m ≤ 1000000000000) : impl_around.f a m = some (a % m) := by
  unfold impl_around.f
  have h1 := Int.tmod_lt_of_pos a hm
  have h2 := Int.lt_tmod_of_pos a hm
  rw [if_neg (by omega), w64 (by omega) (by omega), Int.tmod_eq_emod_of_nonneg (by omega), Int.add_emod_right, tmod_emod _ _ hm]
theorem w_mod (x : Int) : wrap64 x % 18446744073709551616 = x % 18446744073709551616 := by unfold wrap64; omega
def inW (x : Int) : Prop := -9223372036854775808 ≤ x ∧ x ≤ 9223372036854775807
theorem w_in (x : Int) : inW (wrap64 x) := by unfold inW wrap64; omega
theorem in_eq {a b : Int} (ha : inW a) (hb : inW b) (h : a % 18446744073709551616 = b % 18446744073709551616) : a = b := by unfold inW at ha hb; omega
theorem in_w {a : Int} (ha : inW a) : wrap64 a = a := w64 ha.1 ha.2
def dot : List Int → List Int → Int
  | x :: xs, y :: ys => x * y + dot xs ys
  | _, _ => 0
theorem dot_nil (xs : List Int) : dot xs [] = 0 := by cases xs <;> rfl
theorem dot_set : ∀ (xs ys : List Int) (e : Nat) (v : Int), e < xs.length → dot (xs.set e v) ys = dot xs ys + (v - xs.getD e 0) * ys.getD e 0
  | [], _, e, v, h => by simp at h
  | x :: xs, [], e, v, _ => by rw [dot_nil, dot_nil]; simp
  | x :: xs, y :: ys, 0, v, _ => by
    simp only [List.set_cons_zero, dot, List.getD_cons_zero, Int.sub_mul]
    omega
  | x :: xs, y :: ys, e + 1, v, h => by
    simp only [List.set_cons_succ, dot, List.getD_cons_succ]
    rw [dot_set xs ys e v (by simpa using h)]
    omega
theorem dot_zeros (n : Nat) (ys : List Int) : dot (List.replicate n 0) ys = 0 := by
  induction n generalizing ys with
  | zero => cases ys <;> rfl
  | succ n ih => cases ys with
    | nil => exact dot_nil _
    | cons y ys => rw [List.replicate_succ, dot, ih]; omega
theorem gE {α : Type} (l : List α) (d : α) {i : Nat} (h : i < l.length) : l.getD i d = l[i] := by rw [List.getD_eq_getElem?_getD, List.getElem?_eq_getElem h, Option.getD_some]
def axpy (x : Int) (out row : List Int) : List Int := List.zipWith (fun o r => wrap64 (o + wrap64 (x * r))) out row
theorem axpy_len (x : Int) (out row : List Int) (h : row.length = out.length) : (axpy x out row).length = out.length := by simp [axpy, h]
theorem axpy_get (x : Int) (out row : List Int) (h : row.length = out.length) (m : Nat) (hm : m < out.length) : (axpy x out row).getD m 0 = wrap64 (out.getD m 0 + wrap64 (x * row.getD m 0)) := by
  have h2 : m < (axpy x out row).length := by rw [axpy_len x out row h]; exact hm
  rw [gE _ _ h2, gE _ _ hm, gE _ _ (show m < row.length by omega)]
  simp [axpy]
theorem axpy_in (x : Int) (out row : List Int) : ∀ o ∈ axpy x out row, inW o := by
  intro o ho
  simp only [axpy, List.mem_iff_getElem] at ho
  obtain ⟨i, hi, rfl⟩ := ho
  rw [List.getElem_zipWith]
  exact w_in _
theorem axpy_mod (o x r : Int) : wrap64 (o + wrap64 (x * r)) % 18446744073709551616 = (o + x * r) % 18446744073709551616 := by
  generalize x * r = t
  rw [w_mod]
  have := w_mod t
  omega
theorem tk_set (Z l : List Int) (i : Nat) (h : Z.length = l.length) (hi : i < l.length) : (Z.take i ++ l.drop i).set i (Z.getD i 0) = Z.take (i + 1) ++ l.drop (i + 1) := by
  have e1 : (Z.take i).length = i := by rw [List.length_take]; omega
  rw [List.set_append_right _ _ (by omega), e1, Nat.sub_self, List.drop_eq_getElem_cons hi, List.set_cons_zero, List.take_succ_eq_append_getElem (by omega), List.append_assoc, gE _ _ (by omega)]
  rfl
theorem tk_rd (Z l : List Int) (i : Nat) (h : Z.length = l.length) (hi : i < l.length) : rd (Z.take i ++ l.drop i) (i : Int) = l.getD i 0 := by
  have e1 : (Z.take i).length = i := by rw [List.length_take]; omega
  rw [rd, Int.toNat_natCast, List.getD_eq_getElem?_getD, List.getElem?_append_right (by omega), e1, Nat.sub_self, List.getElem?_drop, Nat.add_zero, ← List.getD_eq_getElem?_getD]
theorem tk_len (Z l : List Int) (i : Nat) (h : Z.length = l.length) (hi : i ≤ l.length) : (Z.take i ++ l.drop i).length = l.length := by
  rw [List.length_append, List.length_take, List.length_drop]; omega
theorem tk_end (Z l : List Int) (h : Z.length = l.length) : Z.take l.length ++ l.drop l.length = Z := by
  rw [List.drop_length, List.append_nil, ← h, List.take_length]
theorem plus01_l0 (x n n' : Int) (l l' : List Int) (h : l'.length = l.length) (hl : l.length ≤ 1000) : ∀ (d i : Nat), d + i = l.length → Ev (fun k => spec_l01Plus.l0 k x (i : Int) n' l' n ((axpy x l l').take i ++ l.drop i)) (n, axpy x l l') := by
  intro d
  induction d with
  | zero =>
    intro i hi
    have e : i = l.length := by omega
    subst e
    refine Ev.step (f := fun _ => some (n, axpy x l l')) (fun k => ?_) (Ev.now _)
    simp only [spec_l01Plus.l0]
    rw [if_neg (by omega), tk_end _ _ (axpy_len x l l' h)]
  | succ d ih =>
    intro i hi
    refine Ev.step (fun k => ?_) (ih (i + 1) (by omega))
    simp only [spec_l01Plus.l0]
    rw [if_pos (by omega), if_pos (by omega), tk_len _ _ _ (axpy_len x l l' h) (by omega), if_pos (by omega), w64 (x := (i : Int) + 1) (by omega) (by omega), tk_rd _ _ _ (axpy_len x l l' h) (by omega), Int.toNat_natCast]
    rw [show wrap64 (l.getD i 0 + wrap64 (x * rd l' (i : Int))) = (axpy x l l').getD i 0 by rw [axpy_get x l l' h i (by omega), rd, Int.toNat_natCast], tk_set _ _ _ (axpy_len x l l' h) (by omega)]
    rfl
theorem own01 (l : List Int) (hl : l.length ≤ 1000) : spec_l01Own.f l = some l := by
  unfold spec_l01Own.f
  simp only [Option.bind_some, List.nil_append, List.length_nil, Nat.zero_add]
  rw [if_pos (by omega)]
theorem plus01 (x n n' : Int) (l l' : List Int) (h : l'.length = l.length) (hl : l.length ≤ 1000) : Ev (fun k => spec_l01Plus.f k n l n' l' x) (n, axpy x l l') := by
  unfold spec_l01Plus.f
  refine ev_bind_const (own01 l hl) ?_
  simpa using plus01_l0 x n n' l l' h hl l.length 0 (by omega)
def pw (n : Int) : List (List Int) := ([[], [[1]], [[1], [-1]], [[1, 0], [0, 1], [-1, -1]], [[1, 0], [0, 1], [-1, 0], [0, -1]], [[1, 0, 0, 0], [0, 1, 0, 0], [0, 0, 1, 0], [0, 0, 0, 1], [-1, -1, -1, -1]], [[1, 0], [0, 1], [-1, 1], [-1, 0], [0, -1], [1, -1]], [[1, 0, 0, 0, 0, 0], [0, 1, 0, 0, 0, 0], [0, 0, 1, 0, 0, 0], [0, 0, 0, 1, 0, 0], [0, 0, 0, 0, 1, 0], [0, 0, 0, 0, 0, 1], [-1, -1, -1, -1, -1, -1]], [[1, 0, 0, 0], [0, 1, 0, 0], [0, 0, 1, 0], [0, 0, 0, 1], [-1, 0, 0, 0], [0, -1, 0, 0], [0, 0, -1, 0], [0, 0, 0, -1]], [[1, 0, 0, 0, 0, 0], [0, 1, 0, 0, 0, 0], [0, 0, 1, 0, 0, 0], [0, 0, 0, 1, 0, 0], [0, 0, 0, 0, 1, 0], [0, 0, 0, 0, 0, 1], [-1, 0, 0, -1, 0, 0], [0, -1, 0, 0, -1, 0], [0, 0, -1, 0, 0, -1]], [[1, 0, 0, 0], [0, 1, 0, 0], [0, 0, 1, 0], [0, 0, 0, 1], [-1, 1, -1, 1], [-1, 0, 0, 0], [0, -1, 0, 0], [0, 0, -1, 0], [0, 0, 0, -1], [1, -1, 1, -1]], [[1, 0, 0, 0, 0, 0, 0, 0, 0, 0], [0, 1, 0, 0, 0, 0, 0, 0, 0, 0], [0, 0, 1, 0, 0, 0, 0, 0, 0, 0], [0, 0, 0, 1, 0, 0, 0, 0, 0, 0], [0, 0, 0, 0, 1, 0, 0, 0, 0, 0], [0, 0, 0, 0, 0, 1, 0, 0, 0, 0], [0, 0, 0, 0, 0, 0, 1, 0, 0, 0], [0, 0, 0, 0, 0, 0, 0, 1, 0, 0], [0, 0, 0, 0, 0, 0, 0, 0, 1, 0], [0, 0, 0, 0, 0, 0, 0, 0, 0, 1], [-1, -1, -1, -1, -1, -1, -1, -1, -1, -1]], [[1, 0, 0, 0], [0, 1, 0, 0], [0, 0, 1, 0], [0, 0, 0, 1], [-1, 0, 1, 0], [0, -1, 0, 1], [-1, 0, 0, 0], [0, -1, 0, 0], [0, 0, -1, 0], [0, 0, 0, -1], [1, 0, -1, 0], [0, 1, 0, -1]], [[1, 0, 0, 0, 0, 0, 0, 0, 0, 0, 0, 0], [0, 1, 0, 0, 0, 0, 0, 0, 0, 0, 0, 0], [0, 0, 1, 0, 0, 0, 0, 0, 0, 0, 0, 0], [0, 0, 0, 1, 0, 0, 0, 0, 0, 0, 0, 0], [0, 0, 0, 0, 1, 0, 0, 0, 0, 0, 0, 0], [0, 0, 0, 0, 0, 1, 0, 0, 0, 0, 0, 0], [0, 0, 0, 0, 0, 0, 1, 0, 0, 0, 0, 0], [0, 0, 0, 0, 0, 0, 0, 1, 0, 0, 0, 0], [0, 0, 0, 0, 0, 0, 0, 0, 1, 0, 0, 0], [0, 0, 0, 0, 0, 0, 0, 0, 0, 1, 0, 0], [0, 0, 0, 0, 0, 0, 0, 0, 0, 0, 1, 0], [0, 0, 0, 0, 0, 0, 0, 0, 0, 0, 0, 1], [-1, -1, -1, -1, -1, -1, -1, -1, -1, -1, -1, -1]], [[1, 0, 0, 0, 0, 0], [0, 1, 0, 0, 0, 0], [0, 0, 1, 0, 0, 0], [0, 0, 0, 1, 0, 0], [0, 0, 0, 0, 1, 0], [0, 0, 0, 0, 0, 1], [-1, 1, -1, 1, -1, 1], [-1, 0, 0, 0, 0, 0], [0, -1, 0, 0, 0, 0], [0, 0, -1, 0, 0, 0], [0, 0, 0, -1, 0, 0], [0, 0, 0, 0, -1, 0], [0, 0, 0, 0, 0, -1], [1, -1, 1, -1, 1, -1]], [[1, 0, 0, 0, 0, 0, 0, 0], [0, 1, 0, 0, 0, 0, 0, 0], [0, 0, 1, 0, 0, 0, 0, 0], [0, 0, 0, 1, 0, 0, 0, 0], [0, 0, 0, 0, 1, 0, 0, 0], [0, 0, 0, 0, 0, 1, 0, 0], [0, 0, 0, 0, 0, 0, 1, 0], [0, 0, 0, 0, 0, 0, 0, 1], [-1, 1, 0, -1, 1, -1, 0, 1], [-1, 0, 1, -1, 0, 0, -1, 1], [-1, 0, 0, 0, 0, -1, 0, 0], [0, -1, 0, 0, 0, 0, -1, 0], [0, 0, -1, 0, 0, 0, 0, -1], [1, -1, 0, 0, -1, 1, 0, -1], [1, 0, -1, 1, -1, 0, 1, -1]], [[1, 0, 0, 0, 0, 0, 0, 0], [0, 1, 0, 0, 0, 0, 0, 0], [0, 0, 1, 0, 0, 0, 0, 0], [0, 0, 0, 1, 0, 0, 0, 0], [0, 0, 0, 0, 1, 0, 0, 0], [0, 0, 0, 0, 0, 1, 0, 0], [0, 0, 0, 0, 0, 0, 1, 0], [0, 0, 0, 0, 0, 0, 0, 1], [-1, 0, 0, 0, 0, 0, 0, 0], [0, -1, 0, 0, 0, 0, 0, 0], [0, 0, -1, 0, 0, 0, 0, 0], [0, 0, 0, -1, 0, 0, 0, 0], [0, 0, 0, 0, -1, 0, 0, 0], [0, 0, 0, 0, 0, -1, 0, 0], [0, 0, 0, 0, 0, 0, -1, 0], [0, 0, 0, 0, 0, 0, 0, -1]]] : List (List (List Int))).getD n.toNat []
def phn (n : Int) : Nat := (phi n).toNat
theorem pw_all1 : ∀ m : Nat, m < 17 → 1 ≤ m → impl_powers.f 400 (m : Int) = some (pw (m : Int)) := by decide +kernel
theorem pw_all2 : ∀ m : Nat, m < 17 → 1 ≤ m → (pw (m : Int)).length = m := by decide +kernel
theorem pw_all3 : ∀ m : Nat, m < 17 → 1 ≤ m → ∀ r ∈ pw (m : Int), r.length = phn (m : Int) := by decide +kernel
theorem pw_all4 : ∀ m : Nat, m < 17 → 1 ≤ m → ∀ r ∈ pw (m : Int), ∀ c ∈ r, -1 ≤ c ∧ c ≤ 1 := by decide +kernel
theorem pw_impl (n : Int) (h0 : 1 ≤ n) (h1 : n ≤ 16) : Ev (fun k => impl_powers.f k n) (pw n) :=
  Ev.of (impl_powers.mono n) (orders (P := fun n => impl_powers.f 400 n = some (pw n)) pw_all1 n h0 h1)
theorem pw_len (n : Int) (h0 : 1 ≤ n) (h1 : n ≤ 16) : ((pw n).length : Int) = n :=
  orders (P := fun n => ((pw n).length : Int) = n) (fun m a b => by rw [pw_all2 m a b]) n h0 h1
theorem pw_row (n : Int) (h0 : 1 ≤ n) (h1 : n ≤ 16) : ∀ r ∈ pw n, r.length = phn n :=
  orders (P := fun n => ∀ r ∈ pw n, r.length = phn n) pw_all3 n h0 h1
theorem phn_bd (n : Int) (h0 : 1 ≤ n) (h1 : n ≤ 16) : 1 ≤ phn n ∧ phn n ≤ 12 :=
  orders (P := fun n => 1 ≤ phn n ∧ phn n ≤ 12) (by decide) n h0 h1
theorem rd_L1_pw (pws : List (List Int)) (i : Nat) : rd_L1 pws (i : Int) = pws.getD i [] := by simp [rd_L1]
def cmb : List Int → List Int → List (List Int) → List Int
  | out, x :: xs, r :: rs => cmb (axpy x out r) xs rs
  | out, _, _ => out
def cl (n : Int) (m : Nat) : List Int := (pw n).map fun r => r.getD m 0
theorem cmb_spec : ∀ (xs : List Int) (rs : List (List Int)) (out : List Int), (∀ r ∈ rs, r.length = out.length) → (∀ o ∈ out, inW o) →
    (cmb out xs rs).length = out.length ∧ (∀ o ∈ cmb out xs rs, inW o) ∧ ∀ m, m < out.length → (cmb out xs rs).getD m 0 % 18446744073709551616 = (out.getD m 0 + dot xs (rs.map fun r => r.getD m 0)) % 18446744073709551616
  | [], rs, out, _, ho => ⟨by simp [cmb], by simpa [cmb] using ho, fun m _ => by simp [cmb, dot]⟩
  | x :: xs, [], out, _, ho => ⟨by simp [cmb], by simpa [cmb] using ho, fun m _ => by simp [cmb, dot]⟩
  | x :: xs, r :: rs, out, hr, ho => by
    have h1 : r.length = out.length := hr r (by simp)
    have hl := axpy_len x out r h1
    obtain ⟨a, b, c⟩ := cmb_spec xs rs (axpy x out r) (fun q hq => by rw [hl]; exact hr q (by simp [hq])) (axpy_in x out r)
    refine ⟨by rw [cmb, a, hl], by rw [cmb]; exact b, fun m hm => ?_⟩
    rw [cmb, c m (by rw [hl]; exact hm), axpy_get x out r h1 m hm, List.map_cons, dot]
    have := axpy_mod (out.getD m 0) x (r.getD m 0)
    omega
theorem with_l1 (x : Int) (out row list : List Int) (x18 x19 n ph : Int) (pws : List (List Int)) (h : row.length = out.length) (hl : out.length ≤ 1000) (r : List Int × Int × Int)
    (H : Ev (fun k => impl_field_with.l0 k (axpy x out row) list x18 (wrap64 (x19 + 1)) n ph pws) r) :
    ∀ (d i : Nat), d + i = row.length → Ev (fun k => impl_field_with.l1 k ((axpy x out row).take i ++ out.drop i) x list x18 x19 row (row.length : Int) (i : Int) n ph pws) r := by
  intro d
  induction d with
  | zero =>
    intro i hi
    have e : i = out.length := by omega
    subst e
    refine Ev.step (fun k => ?_) H
    simp only [impl_field_with.l1]
    rw [if_neg (by omega), tk_end _ _ (axpy_len x out row h)]
  | succ d ih =>
    intro i hi
    refine Ev.step (fun k => ?_) (ih (i + 1) (by omega))
    simp only [impl_field_with.l1]
    rw [if_pos (by omega), if_pos (by omega), if_pos (by omega), tk_len _ _ _ (axpy_len x out row h) (by omega), if_pos (by omega), w64 (x := (i : Int) + 1) (by omega) (by omega), tk_rd _ _ _ (axpy_len x out row h) (by omega), Int.toNat_natCast]
    rw [show wrap64 (out.getD i 0 + wrap64 (x * rd row (i : Int))) = (axpy x out row).getD i 0 by rw [axpy_get x out row h i (by omega), rd, Int.toNat_natCast], tk_set _ _ _ (axpy_len x out row h) (by omega)]
    rfl
theorem with_l0 (n ph : Int) (list : List Int) (pws : List (List Int)) (hn : (list.length : Int) = n) (hn2 : n ≤ 16) (hp : pws.length = list.length) (P : Nat) (hP : P ≤ 1000) (hr : ∀ r ∈ pws, r.length = P) :
    ∀ (d i : Nat) (out : List Int), d + i = list.length → out.length = P → Ev (fun k => impl_field_with.l0 k out list (list.length : Int) (i : Int) n ph pws) (cmb out (list.drop i) (pws.drop i), n, ph) := by
  intro d
  induction d with
  | zero =>
    intro i out hi ho
    have e : i = list.length := by omega
    subst e
    refine Ev.step (f := fun _ => some (out, n, ph)) (fun k => ?_) ?_
    · simp only [impl_field_with.l0]
      rw [if_neg (by omega)]
    · rw [List.drop_length, cmb]
      exact Ev.now _
      all_goals simp
  | succ d ih =>
    intro i out hi ho
    have hi2 : i < list.length := by omega
    have hi3 : i < pws.length := by omega
    have hrow : pws[i].length = P := hr _ (List.getElem_mem hi3)
    have ha : impl_around.f (i : Int) n = some (i : Int) := by rw [around _ _ (by omega) (by omega), Int.emod_eq_of_lt (by omega) (by omega)]
    refine Ev.step (f := fun k => impl_field_with.l1 k out list[i] list (list.length : Int) (i : Int) pws[i] (pws[i].length : Int) 0 n ph pws) (fun k => ?_) ?_
    · simp only [impl_field_with.l0]
      rw [if_pos (by omega), if_pos (by omega), if_pos (by omega), ha, Option.bind_some, if_pos (by omega), if_pos (by omega), rd_L1_pw, gE _ _ hi3, rd, Int.toNat_natCast, gE _ _ hi2]
    · have H := ih (i + 1) (axpy list[i] out pws[i]) (by omega) (by rw [axpy_len _ _ _ (by omega), ho])
      have := with_l1 list[i] out pws[i] list (list.length : Int) (i : Int) n ph pws (by omega) (by omega) (cmb out (list.drop i) (pws.drop i), n, ph) (by
        rw [w64 (x := (i : Int) + 1) (by omega) (by omega), List.drop_eq_getElem_cons hi2, List.drop_eq_getElem_cons hi3, cmb]
        exact H) pws[i].length 0 (by omega)
      simpa using this
/-- The sum of powers of z, of each so many. -/
def cnt (n : Int) (many : List Int) : List Int := cmb (List.replicate (phn n) 0) many (pw n)
theorem counted (n : Int) (many : List Int) (h0 : 1 ≤ n) (h1 : n ≤ 16) (hm : (many.length : Int) = n) : Ev (fun k => impl_counted.f k n many) (cnt n many) := by
  have hp := pw_len n h0 h1
  have hb := phn_bd n h0 h1
  have hrow := pw_row n h0 h1
  have hf : Ev (fun k => impl_fieldOf.f k n) (n, (phn n : Int), pw n) := by
    unfold impl_fieldOf.f
    refine Ev.bind (pw_impl n h0 h1) ?_
    rw [if_pos (by omega), show ((rd_L1 (pw n) 0).length : Int) = (phn n : Int) by
      have : 0 < (pw n).length := by omega
      rw [show (0 : Int) = ((0 : Nat) : Int) from rfl, rd_L1_pw, gE _ _ this, hrow _ (List.getElem_mem this)]]
    exact Ev.now _
  unfold impl_counted.f
  refine Ev.bind hf ?_
  simp only
  refine Ev.bind (a := (cnt n many, n, (phn n : Int))) ?_ (Ev.now _)
  unfold impl_field_with.f
  simp only [Int.toNat_natCast, if_pos (show 0 ≤ (phn n : Int) by omega), if_pos (show phn n ≤ 35184372088832 by omega)]
  have := with_l0 n (phn n : Int) many (pw n) hm h1 (by omega) (phn n) (by omega) hrow many.length 0 (List.replicate (phn n) 0) (by omega) (by simp)
  simpa [cnt] using this
theorem cnt_spec (n : Int) (many : List Int) (h0 : 1 ≤ n) (h1 : n ≤ 16) : (cnt n many).length = phn n ∧ (∀ o ∈ cnt n many, inW o) ∧ ∀ m, m < phn n → (cnt n many).getD m 0 % 18446744073709551616 = dot many (cl n m) % 18446744073709551616 := by
  obtain ⟨a, b, c⟩ := cmb_spec many (pw n) (List.replicate (phn n) 0) (fun r hr => by simpa using pw_row n h0 h1 r hr) (fun o ho => by rw [List.eq_of_mem_replicate ho]; unfold inW; omega)
  rw [List.length_replicate] at a c
  refine ⟨a, b, fun m hm => ?_⟩
  have := c m hm
  rw [gE (List.replicate (phn n) 0) 0 (by rw [List.length_replicate]; exact hm), List.getElem_replicate, Int.zero_add] at this
  exact this
theorem lists_eq {l l' : List Int} (h : l.length = l'.length) (a : ∀ o ∈ l, inW o) (b : ∀ o ∈ l', inW o) (c : ∀ m, m < l.length → l.getD m 0 % 18446744073709551616 = l'.getD m 0 % 18446744073709551616) : l = l' := by
  refine List.ext_getElem h fun i hi hi' => ?_
  have := c i hi
  rw [gE _ _ hi, gE _ _ hi'] at this
  exact in_eq (a _ (List.getElem_mem hi)) (b _ (List.getElem_mem hi')) this
def ix (p : Int) : List Int := if p = 3 then [-1, 0, 1] else if p = 5 then [-1, 0, 1, 3, 2] else if p = 7 then [-1, 0, 2, 1, 4, 5, 3] else if p = 11 then [-1, 0, 1, 8, 2, 4, 9, 7, 3, 6, 5] else if p = 13 then [-1, 0, 1, 4, 2, 9, 5, 11, 3, 8, 10, 7, 6] else if p = 17 then [-1, 0, 14, 1, 12, 5, 15, 11, 10, 2, 3, 7, 13, 4, 9, 6, 8] else if p = 19 then [-1, 0, 1, 13, 2, 16, 14, 6, 3, 8, 17, 12, 15, 5, 7, 11, 4, 10, 9] else if p = 23 then [-1, 0, 2, 16, 4, 1, 18, 19, 6, 10, 3, 9, 20, 14, 21, 17, 8, 7, 12, 15, 5, 13, 11] else if p = 29 then [-1, 0, 1, 5, 2, 22, 6, 12, 3, 10, 23, 25, 7, 18, 13, 27, 4, 21, 11, 9, 24, 17, 26, 20, 8, 16, 19, 15, 14] else if p = 31 then [-1, 0, 24, 1, 18, 20, 25, 28, 12, 2, 14, 23, 19, 11, 22, 21, 6, 7, 26, 4, 8, 29, 17, 27, 13, 10, 5, 3, 16, 9, 15] else if p = 37 then [-1, 0, 1, 26, 2, 23, 27, 32, 3, 16, 24, 30, 28, 11, 33, 13, 4, 7, 17, 35, 25, 22, 31, 15, 29, 10, 12, 6, 34, 21, 14, 9, 5, 20, 8, 19, 18] else if p = 41 then [-1, 0, 26, 15, 12, 22, 1, 39, 38, 30, 8, 3, 27, 31, 25, 37, 24, 33, 16, 9, 34, 14, 29, 36, 13, 4, 17, 5, 11, 7, 23, 28, 10, 18, 19, 21, 2, 32, 35, 6, 20] else if p = 43 then [-1, 0, 27, 1, 12, 25, 28, 35, 39, 2, 10, 30, 13, 32, 20, 26, 24, 38, 29, 19, 37, 36, 15, 16, 40, 8, 17, 3, 5, 41, 11, 34, 9, 31, 23, 18, 14, 7, 4, 33, 22, 6, 21] else if p = 47 then [-1, 0, 18, 20, 36, 1, 38, 32, 8, 40, 19, 7, 10, 11, 4, 21, 26, 16, 12, 45, 37, 6, 25, 5, 28, 2, 29, 14, 22, 35, 39, 3, 44, 27, 34, 33, 30, 42, 17, 31, 9, 15, 24, 13, 43, 41, 23] else if p = 53 then [-1, 0, 1, 17, 2, 47, 18, 14, 3, 34, 48, 6, 19, 24, 15, 12, 4, 10, 35, 37, 49, 31, 7, 39, 20, 42, 25, 51, 16, 46, 13, 33, 5, 23, 11, 9, 36, 30, 38, 41, 50, 45, 32, 22, 8, 29, 40, 44, 21, 28, 43, 27, 26] else if p = 59 then [-1, 0, 1, 50, 2, 6, 51, 18, 3, 42, 7, 25, 52, 45, 19, 56, 4, 40, 43, 38, 8, 10, 26, 15, 53, 12, 46, 34, 20, 28, 57, 49, 5, 17, 41, 24, 44, 55, 39, 37, 9, 14, 11, 33, 27, 48, 16, 23, 54, 36, 13, 32, 47, 22, 35, 31, 21, 30, 29] else if p = 61 then [-1, 0, 1, 6, 2, 22, 7, 49, 3, 12, 23, 15, 8, 40, 50, 28, 4, 47, 13, 26, 24, 55, 16, 57, 9, 44, 41, 18, 51, 35, 29, 59, 5, 21, 48, 11, 14, 39, 27, 46, 25, 54, 56, 43, 17, 34, 58, 20, 10, 38, 45, 53, 42, 33, 19, 37, 52, 32, 36, 31, 30] else []
def rt (p : Int) : Int := if p = 3 then 2 else if p = 5 then 2 else if p = 7 then 3 else if p = 11 then 2 else if p = 13 then 2 else if p = 17 then 3 else if p = 19 then 2 else if p = 23 then 5 else if p = 29 then 2 else if p = 31 then 3 else if p = 37 then 2 else if p = 41 then 6 else if p = 43 then 3 else if p = 47 then 5 else if p = 53 then 2 else if p = 59 then 2 else if p = 61 then 2 else 0
def ex (p n c : Int) : List Int := -1 :: ((ix p).drop 1).map fun i => i * c % n
theorem ix_run : ∀ p ∈ prs, impl_indices.f 1000 p = some (ix p, rt p) := by decide +kernel
theorem ix_all : ∀ p ∈ prs, True ∧ ((ix p).length : Int) = p ∧ (∀ i ∈ (ix p).drop 1, 0 ≤ i ∧ i ≤ 60) ∧ rd (ix p) 0 = -1 := by decide +kernel
theorem root_all : ∀ p ∈ prs, spec_l03Root.f 200 p = some (rt p) := by decide +kernel
theorem index_all : ∀ p ∈ prs, ∀ y : Nat, y < 61 → 1 ≤ y → (y : Int) < p → spec_l03Index.l0 200 p (y : Int) (rt p) 1 0 = some (rd (ix p) (y : Int)) := by decide +kernel
def okC (p n c : Int) : Bool := pr p && ((decide (1 ≤ n) && decide (n ≤ 16)) && decide ((p - 1) % n = 0)) && (decide (0 ≤ c) && decide (c ≤ n - 1))
theorem okC_iff {p n c : Int} : okC p n c = true ↔ pr p = true ∧ (1 ≤ n ∧ n ≤ 16) ∧ (p - 1) % n = 0 ∧ 0 ≤ c ∧ c ≤ n - 1 := by simp [okC, and_assoc]
theorem l03Is (p n c : Int) : Ev (fun k => spec_l03Is.f k p n c) (okC p n c) := by
  unfold spec_l03Is.f okC
  refine Ev.bind (l03Prime p) ?_
  cases hp : pr p with
  | false => simp only [Bool.false_eq_true, if_false, Bool.false_and]; exact Ev.now _
  | true =>
    have hb := pr_bd hp
    simp only [if_true, Bool.true_and]
    unfold spec_l03Order.f
    rw [l01In, Option.bind_some]
    cases hn : decide (1 ≤ n) && decide (n ≤ 16) with
    | false => simp only [Bool.false_eq_true, if_false, Bool.false_and, Option.bind_some]; exact Ev.now _
    | true =>
      have hn' : 1 ≤ n ∧ n ≤ 16 := by simpa using hn
      simp only [if_true, if_neg (show ¬ n = 0 by omega), w64 (x := p - 1) (by omega) (by omega), Int.tmod_eq_emod_of_nonneg (show 0 ≤ p - 1 by omega), Option.bind_some, Bool.true_and, l01In, w64 (x := n - 1) (by omega) (by omega)]
      cases hm : (p - 1) % n == 0 with
      | false =>
        have : ¬ (p - 1) % n = 0 := by simpa using hm
        simp only [Bool.false_eq_true, if_false, this, decide_false, Bool.false_and]
        exact Ev.now _
      | true =>
        have : (p - 1) % n = 0 := by simpa using hm
        simp only [if_true, this, decide_true, Bool.true_and]
        exact Ev.now _
theorem isCharacter (p n c : Int) (h0 : -9223372036854775808 ≤ p) (h1 : p ≤ 9223372036854775807) : Ev (fun k => impl_IsCharacter.f k p n c) (okC p n c) := by
  unfold impl_IsCharacter.f impl_areOf.f okC
  cases hp : pr p with
  | false =>
    refine Ev.bind (a := false) ?_ (by simp only [Bool.false_eq_true, if_false, Bool.false_and]; exact Ev.now _)
    refine Ev.bind (isPrime p h0 h1) ?_
    simp only [hp, Bool.false_eq_true, if_false]
    exact Ev.now _
  | true =>
    have hb := pr_bd hp
    simp only [Bool.true_and]
    cases hn : decide (1 ≤ n) && decide (n ≤ 16) with
    | false =>
      refine Ev.bind (a := false) ?_ (by simp only [Bool.false_eq_true, if_false, Bool.false_and]; exact Ev.now _)
      refine Ev.bind (isPrime p h0 h1) ?_
      simp only [hp, if_true]
      unfold impl_isOrder.f
      rw [within_, Option.bind_some, hn]
      simp only [Option.bind_some, Bool.false_eq_true, if_false]
      exact Ev.now _
    | true =>
      have hn' : 1 ≤ n ∧ n ≤ 16 := by simpa using hn
      refine Ev.bind (a := (p - 1) % n == 0) ?_ ?_
      · refine Ev.bind (isPrime p h0 h1) ?_
        simp only [hp, if_true]
        unfold impl_isOrder.f
        rw [within_, Option.bind_some, hn]
        simp only [Option.bind_some, if_true, if_neg (show ¬ n = 0 by omega), w64 (x := p - 1) (by omega) (by omega), Int.tmod_eq_emod_of_nonneg (show 0 ≤ p - 1 by omega)]
        exact Ev.now _
      · cases hm : (p - 1) % n == 0 with
        | false =>
          have : ¬ (p - 1) % n = 0 := by simpa using hm
          simp only [Bool.false_eq_true, if_false, this, decide_false, Bool.and_false, Bool.false_and]
          exact Ev.now _
        | true =>
          have : (p - 1) % n = 0 := by simpa using hm
          simp only [if_true, this, decide_true, Bool.true_and, within_, w64 (x := n - 1) (by omega) (by omega), Option.bind_some]
          exact Ev.now _
theorem ix_impl (p : Int) (hp : pr p = true) : Ev (fun k => impl_indices.f k p) (ix p, rt p) := Ev.of (impl_indices.mono p) (ix_run p (pr_iff.mp hp))
theorem ex_len (p n c : Int) (hp : pr p = true) : ((ex p n c).length : Int) = p := by
  have := (ix_all p (pr_iff.mp hp)).2.1
  have := pr_bd hp
  simp only [ex, List.length_cons, List.length_map, List.length_drop]
  omega
theorem ex_bd (p n c : Int) (hn : 1 ≤ n) : ∀ e ∈ ex p n c, -1 ≤ e ∧ e < n := by
  intro e he
  simp only [ex, List.mem_cons, List.mem_map] at he
  rcases he with rfl | ⟨i, _, rfl⟩
  · omega
  · have := Int.emod_nonneg (i * c) (show n ≠ 0 by omega)
    have := Int.emod_lt_of_pos (i * c) (show 0 < n by omega)
    omega
theorem ex_get (p n c : Int) (hp : pr p = true) (hn : 1 ≤ n) (y : Nat) (hy : 1 ≤ y) (hy2 : (y : Int) < p) : (ex p n c).getD y 0 = rd (ix p) (y : Int) * c % n ∧ 0 ≤ (ex p n c).getD y 0 ∧ 0 ≤ rd (ix p) (y : Int) ∧ rd (ix p) (y : Int) ≤ 60 := by
  have hl := (ix_all p (pr_iff.mp hp)).2.1
  have hy3 : y < (ix p).length := by omega
  have hy4 : y - 1 < ((ix p).drop 1).length := by rw [List.length_drop]; omega
  have e1 : (ex p n c).getD y 0 = (ix p)[y] * c % n := by
    obtain ⟨z, rfl⟩ : ∃ z, y = z + 1 := ⟨y - 1, by omega⟩
    rw [ex, List.getD_cons_succ, gE _ _ (by rw [List.length_map]; exact hy4), List.getElem_map, List.getElem_drop]
    simp [Nat.add_comm]
  have e2 : rd (ix p) (y : Int) = (ix p)[y] := by rw [rd, Int.toNat_natCast, gE _ _ hy3]
  have hm : (ix p)[y] ∈ (ix p).drop 1 := by
    refine List.mem_iff_getElem.mpr ⟨y - 1, hy4, ?_⟩
    rw [List.getElem_drop]
    congr 1
    omega
  have hb := (ix_all p (pr_iff.mp hp)).2.2.1 _ hm
  rw [e1, e2]
  exact ⟨rfl, Int.emod_nonneg _ (by omega), hb.1, hb.2⟩
theorem exponent (p n c : Int) (hp : pr p = true) (hn : 1 ≤ n ∧ n ≤ 16) (hc : 0 ≤ c ∧ c ≤ 15) (y : Nat) (hy : 1 ≤ y) (hy2 : (y : Int) < p) : Ev (fun k => spec_l03Exponent.f k p n c (y : Int)) ((ex p n c).getD y 0) := by
  have hb := pr_bd hp
  obtain ⟨e1, _, e3, e4⟩ := ex_get p n c hp hn.1 y hy hy2
  unfold spec_l03Exponent.f
  have ht : Int.tmod (y : Int) p = (y : Int) := by rw [Int.tmod_eq_emod_of_nonneg (by omega), Int.emod_eq_of_lt (by omega) (by omega)]
  have ht2 : Int.tmod (wrap64 ((y : Int) + p)) p = (y : Int) := by
    rw [w64 (by omega) (by omega), Int.tmod_eq_emod_of_nonneg (by omega), Int.add_emod_right, Int.emod_eq_of_lt (by omega) (by omega)]
  simp only [ht, if_neg (show ¬ p = 0 by omega), if_neg (show ¬ (y : Int) = 0 by omega)]
  have hi : Ev (fun k => spec_l03Index.f k p (y : Int)) (rd (ix p) (y : Int)) := by
    unfold spec_l03Index.f
    refine Ev.bind (Ev.of (spec_l03Root.mono p) (root_all p (pr_iff.mp hp))) ?_
    simp only [ht, ht2, if_neg (show ¬ p = 0 by omega)]
    exact Ev.of (fun k => spec_l03Index.mono_l k _ _ _ _ _) (index_all p (pr_iff.mp hp) y (by omega) hy hy2)
  refine Ev.bind hi ?_
  have h5 : 0 ≤ rd (ix p) (y : Int) * c := Int.mul_nonneg e3 hc.1
  have h6 : rd (ix p) (y : Int) * c ≤ 60 * 15 := Int.mul_le_mul e4 hc.2 hc.1 (by omega)
  rw [if_neg (show ¬ n = 0 by omega), w64 (by omega) (by omega), Int.tmod_eq_emod_of_nonneg h5, ← e1]
  exact Ev.now _
theorem exponents_l0 (p n c : Int) (hp : pr p = true) (hn : 1 ≤ n ∧ n ≤ 16) (hc : 0 ≤ c ∧ c ≤ 15) : ∀ (d i : Nat), d + i = (ix p).length → 1 ≤ i → Ev (fun k => impl_exponents.l0 k ((ex p n c).take i ++ (ix p).drop i) ((ix p).length : Int) (i : Int) p n c) (ex p n c) := by
  have hl := (ix_all p (pr_iff.mp hp)).2.1
  have hb := pr_bd hp
  have hx := ex_len p n c hp
  have hx2 : (ex p n c).length = (ix p).length := by omega
  intro d
  induction d with
  | zero =>
    intro i hi h1
    have e : i = (ix p).length := by omega
    subst e
    refine Ev.step (f := fun _ => some (ex p n c)) (fun k => ?_) (Ev.now _)
    simp only [impl_exponents.l0]
    rw [if_neg (by omega), tk_end _ _ hx2]
  | succ d ih =>
    intro i hi h1
    obtain ⟨e1, _, e3, e4⟩ := ex_get p n c hp hn.1 i h1 (by omega)
    have h5 : 0 ≤ rd (ix p) (i : Int) * c := Int.mul_nonneg e3 hc.1
    have h6 : rd (ix p) (i : Int) * c ≤ 60 * 15 := Int.mul_le_mul e4 hc.2 hc.1 (by omega)
    have e5 : (ix p).getD i 0 = rd (ix p) (i : Int) := by rw [rd, Int.toNat_natCast]
    refine Ev.step (fun k => ?_) (ih (i + 1) (by omega) (by omega))
    simp only [impl_exponents.l0]
    rw [if_pos (by omega), if_pos (by omega), tk_len _ _ _ hx2 (by omega), if_pos (by omega), if_pos (by omega), if_neg (show ¬ n = 0 by omega), w64 (x := (i : Int) + 1) (by omega) (by omega), tk_rd _ _ _ hx2 (by omega), Int.toNat_natCast, e5, w64 (by omega) (by omega), Int.tmod_eq_emod_of_nonneg h5, ← e1, tk_set _ _ _ hx2 (by omega)]
    rfl
theorem exponents (p n c : Int) (hp : pr p = true) (hn : 1 ≤ n ∧ n ≤ 16) (hc : 0 ≤ c ∧ c ≤ 15) : Ev (fun k => impl_exponents.f k p n c) (ex p n c) := by
  have hl := (ix_all p (pr_iff.mp hp)).2.1
  have hb := pr_bd hp
  have h0 := (ix_all p (pr_iff.mp hp)).2.2.2
  unfold impl_exponents.f
  refine Ev.bind (ix_impl p hp) ?_
  refine Ev.step (fun k => ?_) (exponents_l0 p n c hp hn hc ((ix p).length - 1) 1 (by omega) (by omega))
  simp only [impl_exponents.l0]
  rw [if_pos (by omega), if_pos (by omega), if_pos (by omega), if_neg (by omega), w64 (x := (0 : Int) + 1) (by omega) (by omega)]
  congr 1
  have h1 : 0 < (ix p).length := by omega
  rw [rd, Int.toNat_zero, gE _ _ h1] at h0
  have : ix p = (-1) :: (ix p).drop 1 := by
    conv => lhs; rw [← List.drop_zero (l := ix p), List.drop_eq_getElem_cons h1, h0]
  conv => lhs; rw [this]
  simp [ex]
def acc : List Int → List Int → List Int → List Int
  | many, t :: ts, e :: es => acc (if e ≥ 0 then many.set e.toNat (wrap64 (rd many e + t)) else many) ts es
  | many, _, _ => many
def spd (n : Int) : List Int → List Int → List Int → List Int
  | out, t :: ts, e :: es => spd n (if e ≥ 0 then axpy t out ((pw n).getD e.toNat []) else out) ts es
  | out, _, _ => out
theorem pw_get (n e : Int) (h0 : 1 ≤ n) (h1 : n ≤ 16) (he : 0 ≤ e ∧ e < n) : (pw n).getD e.toNat [] ∈ pw n := by
  have := pw_len n h0 h1
  rw [gE _ _ (by omega)]
  exact List.getElem_mem _
theorem cl_get (n e : Int) (m : Nat) (h0 : 1 ≤ n) (h1 : n ≤ 16) (he : 0 ≤ e ∧ e < n) : (cl n m).getD e.toNat 0 = ((pw n).getD e.toNat []).getD m 0 := by
  have h2 := pw_len n h0 h1
  have h3 : e.toNat < (pw n).length := by omega
  rw [gE (cl n m) 0 (by rw [cl, List.length_map]; exact h3), gE (pw n) [] h3]
  simp only [cl, List.getElem_map]
theorem acc_spd (n : Int) (h0 : 1 ≤ n) (h1 : n ≤ 16) : ∀ (ts es many out : List Int), (∀ e ∈ es, -1 ≤ e ∧ e < n) → (many.length : Int) = n → out.length = phn n → (∀ o ∈ out, inW o) →
    (∀ m, m < phn n → out.getD m 0 % 18446744073709551616 = dot many (cl n m) % 18446744073709551616) →
    (spd n out ts es).length = phn n ∧ (∀ o ∈ spd n out ts es, inW o) ∧ ∀ m, m < phn n → (spd n out ts es).getD m 0 % 18446744073709551616 = dot (acc many ts es) (cl n m) % 18446744073709551616
  | [], _, _, _, _, _, h, ho, hd => by simpa [spd, acc] using ⟨h, ho, hd⟩
  | _ :: _, [], _, _, _, _, h, ho, hd => by simpa [spd, acc] using ⟨h, ho, hd⟩
  | t :: ts, e :: es, many, out, he, hm, h, ho, hd => by
    rw [spd, acc]
    have he1 := he e (by simp)
    by_cases c : e ≥ 0
    · rw [if_pos c, if_pos c]
      have hr := pw_row n h0 h1 _ (pw_get n e h0 h1 ⟨c, he1.2⟩)
      refine acc_spd n h0 h1 ts es _ _ (fun q hq => he q (by simp [hq])) (by simpa using hm) (by rw [axpy_len _ _ _ (by omega), h]) (axpy_in _ _ _) (fun m hm2 => ?_)
      rw [axpy_get _ _ _ (by omega) m (by omega), dot_set _ _ _ _ (by omega), cl_get n e m h0 h1 ⟨c, he1.2⟩]
      have q1 := axpy_mod (out.getD m 0) t (((pw n).getD e.toNat []).getD m 0)
      have q2 := hd m hm2
      have q3 : (wrap64 (rd many e + t) - many.getD e.toNat 0) * ((pw n).getD e.toNat []).getD m 0 % 18446744073709551616 = t * ((pw n).getD e.toNat []).getD m 0 % 18446744073709551616 := by
        rw [rd]
        have q4 := w_mod (many.getD e.toNat 0 + t)
        have q5 : (wrap64 (many.getD e.toNat 0 + t) - many.getD e.toNat 0) % 18446744073709551616 = t % 18446744073709551616 := by omega
        rw [Int.mul_emod, q5, ← Int.mul_emod]
      generalize ((pw n).getD e.toNat []).getD m 0 = z at *
      generalize t * z = y at *
      generalize (wrap64 (rd many e + t) - many.getD e.toNat 0) * z = x at *
      omega
    · rw [if_neg c, if_neg c]
      exact acc_spd n h0 h1 ts es many out (fun q hq => he q (by simp [hq])) hm h ho hd
theorem sums_eq (n : Int) (h0 : 1 ≤ n) (h1 : n ≤ 16) (ts es : List Int) (he : ∀ e ∈ es, -1 ≤ e ∧ e < n) : cnt n (acc (List.replicate n.toNat 0) ts es) = spd n (List.replicate (phn n) 0) ts es := by
  obtain ⟨a, b, c⟩ := acc_spd n h0 h1 ts es (List.replicate n.toNat 0) (List.replicate (phn n) 0) he (by simp; omega) (by simp) (fun o ho => by rw [List.eq_of_mem_replicate ho]; unfold inW; omega) (fun m hm => by
    rw [dot_zeros, gE _ _ (by simpa using hm), List.getElem_replicate])
  obtain ⟨a', b', c'⟩ := cnt_spec n (acc (List.replicate n.toNat 0) ts es) h0 h1
  exact lists_eq (by omega) b' b (fun m hm => by rw [c' m (by omega), c m (by omega)])
theorem summed_l0 (p n c : Int) (tab es : List Int) (h0 : 1 ≤ n) (h1 : n ≤ 16) (he : ∀ e ∈ es, -1 ≤ e ∧ e < n) (ht : tab.length = es.length) (hl : es.length ≤ 1000) :
    ∀ (d i : Nat) (many : List Int), d + i = es.length → (many.length : Int) = n → Ev (fun k => impl_summed.l0 k tab many es (es.length : Int) (i : Int) p n c) (n, cnt n (acc many (tab.drop i) (es.drop i))) := by
  intro d
  induction d with
  | zero =>
    intro i many hi hm
    have e : i = es.length := by omega
    subst e
    refine Ev.step (f := fun k => (impl_counted.f k n many).bind fun t => some (n, t)) (fun k => ?_) ?_
    · simp only [impl_summed.l0]
      rw [if_neg (by omega)]
    · refine Ev.bind (counted n many h0 h1 hm) ?_
      rw [← ht, List.drop_length]
      simp only [acc]
      exact Ev.now _
  | succ d ih =>
    intro i many hi hm
    have hi2 : i < es.length := by omega
    have hi3 : i < tab.length := by omega
    have he1 := he _ (List.getElem_mem hi2)
    have e1 : rd es (i : Int) = es[i] := by rw [rd, Int.toNat_natCast, gE _ _ hi2]
    have e2 : rd tab (i : Int) = tab[i] := by rw [rd, Int.toNat_natCast, gE _ _ hi3]
    rw [List.drop_eq_getElem_cons hi2, List.drop_eq_getElem_cons hi3, acc]
    by_cases c0 : es[i] ≥ 0
    · rw [if_pos c0]
      refine Ev.step (fun k => ?_) (ih (i + 1) (many.set (es[i]).toNat (wrap64 (rd many es[i] + tab[i]))) (by omega) (by simpa using hm))
      simp only [impl_summed.l0, e1, e2]
      rw [if_pos (by omega), if_pos (by omega), if_pos (by omega), if_pos c0, if_pos (by omega), if_pos (by omega), if_pos (by omega), w64 (x := (i : Int) + 1) (by omega) (by omega)]
      rfl
    · rw [if_neg c0]
      refine Ev.step (fun k => ?_) (ih (i + 1) many (by omega) hm)
      simp only [impl_summed.l0, e1]
      rw [if_pos (by omega), if_pos (by omega), if_pos (by omega), if_neg c0, w64 (x := (i : Int) + 1) (by omega) (by omega)]
      rfl
theorem summed (p n c : Int) (tab : List Int) (hp : pr p = true) (hn : 1 ≤ n ∧ n ≤ 16) (hc : 0 ≤ c ∧ c ≤ 15) (ht : (tab.length : Int) = p) : Ev (fun k => impl_summed.f k tab p n c) (n, spd n (List.replicate (phn n) 0) tab (ex p n c)) := by
  have hx := ex_len p n c hp
  have hb := pr_bd hp
  have := summed_l0 p n c tab (ex p n c) hn.1 hn.2 (ex_bd p n c hn.1) (by omega) (by omega) (ex p n c).length 0 (List.replicate n.toNat 0) (by omega) (by simp; omega)
  rw [List.drop_zero, List.drop_zero, sums_eq n hn.1 hn.2 _ _ (ex_bd p n c hn.1)] at this
  unfold impl_summed.f
  simp only [if_pos (show 0 ≤ n by omega), if_pos (show n.toNat ≤ 35184372088832 by omega)]
  refine Ev.bind (exponents p n c hp hn hc) ?_
  simpa using this
theorem zero01 (n : Int) (h0 : 1 ≤ n) (h1 : n ≤ 16) : Ev (fun k => spec_l01Zero.f k n) (n, List.replicate (phn n) 0) := by
  have := phn_bd n h0 h1
  unfold spec_l01Zero.f
  refine Ev.bind (phi_spec n h0 h1) ?_
  have e : phi n = (phn n : Int) := by unfold phn at this ⊢; omega
  rw [e, if_pos (by omega), if_pos (by omega), Int.toNat_natCast]
  exact Ev.now _
def unitOk (n e : Nat) : Bool := decide (spec_l01Unit.f 400 (n : Int) (e : Int) = some ((n : Int), (pw (n : Int)).getD e []))
theorem unit_all : ∀ n : Nat, n < 17 → 1 ≤ n → ∀ e : Nat, e < n → unitOk n e = true := by decide +kernel
theorem unit01 (n e : Int) (h0 : 1 ≤ n) (h1 : n ≤ 16) (he : 0 ≤ e ∧ e < n) : Ev (fun k => spec_l01Unit.f k n e) (n, (pw n).getD e.toNat []) := by
  have := of_decide_eq_true (unit_all n.toNat (by omega) (by omega) e.toNat (by omega))
  rw [Int.toNat_of_nonneg (by omega), Int.toNat_of_nonneg (by omega)] at this
  exact Ev.of (spec_l01Unit.mono n e) this
theorem at03 (p n c : Int) (hp : pr p = true) (hn : 1 ≤ n ∧ n ≤ 16) (hc : 0 ≤ c ∧ c ≤ 15) (y : Nat) (hy : 1 ≤ y) (hy2 : (y : Int) < p) : Ev (fun k => spec_l03At.f k p n c (y : Int)) (n, (pw n).getD ((ex p n c).getD y 0).toNat []) := by
  have hx := ex_len p n c hp
  obtain ⟨_, e2, _, _⟩ := ex_get p n c hp hn.1 y hy hy2
  have hb : (ex p n c).getD y 0 < n := by
    rw [gE _ _ (by omega)]
    exact (ex_bd p n c hn.1 _ (List.getElem_mem _)).2
  unfold spec_l03At.f
  refine Ev.bind (exponent p n c hp hn hc y hy hy2) ?_
  simp only [if_neg (show ¬ (ex p n c).getD y 0 < 0 by omega)]
  exact Ev.bind (unit01 n _ hn.1 hn.2 ⟨e2, hb⟩) (Ev.now _)
theorem dot_zero : ∀ (xs ys : List Int), (∀ j, xs.getD j 0 * ys.getD j 0 = 0) → dot xs ys = 0
  | [], _, _ => by simp [dot]
  | _ :: _, [], _ => by simp [dot]
  | x :: xs, y :: ys, h => by
    rw [dot, dot_zero xs ys (fun j => by simpa using h (j + 1))]
    have := h 0
    simp only [List.getD_cons_zero] at this
    omega
theorem dot_cons_drop (xs ys : List Int) (i o : Nat) (hi : i < xs.length) (ho : o < ys.length) : dot (xs.drop i) (ys.drop o) = xs.getD i 0 * ys.getD o 0 + dot (xs.drop (i + 1)) (ys.drop (o + 1)) := by
  rw [List.drop_eq_getElem_cons hi, List.drop_eq_getElem_cons ho, dot, gE _ _ hi, gE _ _ ho]
theorem cyc_len : ∀ n : Nat, n < 17 → 1 ≤ n → (cyc (n : Int)).length = phn (n : Int) + 1 ∧ phn (n : Int) ≤ n ∧ rd (cyc (n : Int)) (phn (n : Int) : Int) = 1 := by decide +kernel
theorem set_get (xs : List Int) (q : Nat) (v : Int) (j : Nat) (hq : q < xs.length) : (xs.set q v).getD j 0 = if j = q then v else xs.getD j 0 := by
  rw [List.getD_eq_getElem?_getD, List.getElem?_set, List.getD_eq_getElem?_getD]
  by_cases h : q = j
  · subst h
    simp [hq]
  · rw [if_neg h, if_neg (fun e => h e.symm)]
theorem set_in (xs : List Int) (q : Nat) (v : Int) (hv : inW v) (h : ∀ o ∈ xs, inW o) : ∀ o ∈ xs.set q v, inW o := by
  intro o ho
  rcases List.mem_or_eq_of_mem_set ho with h' | rfl
  · exact h o h'
  · exact hv
theorem get_in (xs : List Int) (h : ∀ o ∈ xs, inW o) (j : Nat) : inW (xs.getD j 0) := by
  rcases Nat.lt_or_ge j xs.length with hj | hj
  · rw [gE _ _ hj]; exact h _ (List.getElem_mem hj)
  · rw [List.getD_eq_getElem?_getD, List.getElem?_eq_none hj]; show inW 0; unfold inW; omega
theorem red_l2 (n : Int) (rest : List Int) (P : Nat) (hP : P ≤ 100) (hr : P ≤ rest.length) : ∀ (d i : Nat), d + i = P → Ev (fun f => spec_l01Reduce.l2 f rest (P : Int) (i : Int) n (rest.take i ++ (List.replicate P 0).drop i)) (n, rest.take P) := by
  intro d
  induction d with
  | zero =>
    intro i hi
    have e : i = P := by omega
    subst e
    refine Ev.step (f := fun _ => some (n, rest.take i)) (fun k => ?_) (Ev.now _)
    simp only [spec_l01Reduce.l2]
    rw [if_neg (by omega), List.drop_eq_nil_of_le (by simp), List.append_nil]
  | succ d ih =>
    intro i hi
    refine Ev.step (fun f => ?_) (ih (i + 1) (by omega))
    have e1 : (rest.take i).length = i := by rw [List.length_take]; omega
    have e2 : ((rest.take i ++ (List.replicate P 0).drop i).length : Int) = P := by rw [List.length_append, e1, List.length_drop, List.length_replicate]; omega
    simp only [spec_l01Reduce.l2]
    rw [if_pos (by omega), if_pos (by omega), if_pos (by omega), e2, if_pos (by omega), w64 (x := (i : Int) + 1) (by omega) (by omega), rd, Int.toNat_natCast, gE _ _ (show i < rest.length by omega),
      List.set_append_right _ _ (by omega), e1, Nat.sub_self, List.drop_eq_getElem_cons (show i < (List.replicate P (0 : Int)).length by rw [List.length_replicate]; omega), List.set_cons_zero, List.take_succ_eq_append_getElem (show i < rest.length by omega), List.append_assoc]
    rfl
def cl2 (N : Nat) (m : Nat) : List Int := cl (N : Int) m ++ cl (N : Int) m
theorem cl2_len (N : Nat) (hN : N < 17) (hN0 : 1 ≤ N) (m : Nat) : (cl2 N m).length = 2 * N := by
  have := pw_all2 N hN hN0
  rw [cl2, List.length_append, cl, List.length_map]
  omega
def cycOk2 (n k m : Nat) : Bool := decide (dot (cyc (n : Int)) ((cl2 n m).drop (k - phn (n : Int))) = 0)
theorem cyc_rel2 : ∀ n : Nat, n < 17 → 1 ≤ n → ∀ k : Nat, k < 2 * n → phn (n : Int) ≤ k → ∀ m : Nat, m < phn (n : Int) → cycOk2 n k m = true := by decide +kernel
def unitsOk2 (n j m : Nat) : Bool := decide ((cl2 n m).getD j 0 = if j = m then 1 else 0)
theorem cl2_unit : ∀ n : Nat, n < 17 → 1 ≤ n → ∀ j : Nat, j < phn (n : Int) → ∀ m : Nat, m < phn (n : Int) → unitsOk2 n j m = true := by decide +kernel
theorem rec_l1 (N : Nat) (hN0 : 1 ≤ N) (hN : N < 17) (L : Nat) (hL : L ≤ 2 * N) (C : Nat → Int) (k : Nat) (hk0 : phn (N : Int) ≤ k) (hk : k < L) (lead : Int) (hlead : inW lead) (r : Int × List Int)
    (H : ∀ rest : List Int, rest.length = L → (∀ o ∈ rest, inW o) → (∀ j, k ≤ j → rest.getD j 0 = 0) → (∀ m, m < phn (N : Int) → dot rest (cl2 N m) % 18446744073709551616 = C m % 18446744073709551616) →
      Ev (fun f => spec_l01Reduce.l0 f (N : Int) (cyc (N : Int)) rest (phn (N : Int) : Int) ((k : Int) - 1)) r) :
    ∀ (d i : Nat) (rest : List Int), d + i = phn (N : Int) + 1 → rest.length = L → (∀ o ∈ rest, inW o) → (∀ j, k < j → rest.getD j 0 = 0) → (i ≤ phn (N : Int) → rest.getD k 0 = lead) → (i = phn (N : Int) + 1 → rest.getD k 0 = 0) →
      (∀ m, m < phn (N : Int) → (dot rest (cl2 N m) - lead * dot ((cyc (N : Int)).drop i) ((cl2 N m).drop (k - phn (N : Int) + i))) % 18446744073709551616 = C m % 18446744073709551616) →
      Ev (fun f => spec_l01Reduce.l1 f (N : Int) (cyc (N : Int)) rest (phn (N : Int) : Int) (k : Int) lead (i : Int)) r := by
  obtain ⟨hc1, hc2, hc3⟩ := cyc_len N hN hN0
  have hcl : ∀ m, (cl2 N m).length = 2 * N := cl2_len N hN hN0
  intro d
  induction d with
  | zero =>
    intro i rest hi hl hw hz _ h0 hd
    have e : i = phn (N : Int) + 1 := by omega
    subst e
    refine Ev.step (fun f => ?_) (H rest hl hw (fun j hj => ?_) (fun m hm => ?_))
    · simp only [spec_l01Reduce.l1]
      rw [if_neg (by omega), w64 (x := (k : Int) - 1) (by omega) (by omega)]
    · rcases Nat.lt_or_ge k j with h | h
      · exact hz j h
      · have : j = k := by omega
        subst this
        exact h0 rfl
    · have := hd m hm
      rw [List.drop_eq_nil_of_le (show (cyc (N : Int)).length ≤ phn (N : Int) + 1 by omega)] at this
      simp only [dot, Int.mul_zero, Int.sub_zero] at this
      exact this
  | succ d ih =>
    intro i rest hi hl hw hz h1 _ hd
    have hq : k - phn (N : Int) + i < rest.length := by omega
    have e1 : wrap64 (wrap64 ((k : Int) - (phn (N : Int) : Int)) + (i : Int)) = ((k - phn (N : Int) + i : Nat) : Int) := by
      rw [w64 (x := (k : Int) - (phn (N : Int) : Int)) (by omega) (by omega), w64 (by omega) (by omega)]
      omega
    refine Ev.step (f := fun f => spec_l01Reduce.l1 f (N : Int) (cyc (N : Int)) (rest.set (k - phn (N : Int) + i) (wrap64 (rest.getD (k - phn (N : Int) + i) 0 - wrap64 (lead * (cyc (N : Int)).getD i 0)))) (phn (N : Int) : Int) (k : Int) lead ((i + 1 : Nat) : Int)) (fun f => ?_) ?_
    · simp only [spec_l01Reduce.l1, e1]
      rw [if_pos (by omega), if_pos (by omega), if_pos (by omega), if_pos (by omega), if_pos (by omega), w64 (x := (i : Int) + 1) (by omega) (by omega)]
      simp only [rd, Int.toNat_natCast]
      rfl
    · refine ih (i + 1) _ (by omega) (by rw [List.length_set]; exact hl) (set_in _ _ _ (w_in _) hw) (fun j hj => ?_) (fun hi2 => ?_) (fun hi2 => ?_) (fun m hm => ?_)
      · rw [set_get _ _ _ _ hq, if_neg (by omega)]
        exact hz j hj
      · rw [set_get _ _ _ _ hq, if_neg (by omega)]
        exact h1 (by omega)
      · have hi3 : i = phn (N : Int) := by omega
        have hq2 : k - phn (N : Int) + i = k := by omega
        have hc4 : (cyc (N : Int)).getD i 0 = 1 := by rw [hi3]; simpa [rd] using hc3
        rw [set_get _ _ _ _ hq, if_pos hq2.symm, hq2, h1 (by omega), hc4, Int.mul_one, in_w hlead, Int.sub_self]
        exact w64 (by omega) (by omega)
      · have h3 := hd m hm
        rw [dot_cons_drop _ _ _ _ (by omega) (by rw [hcl]; omega), Int.mul_add] at h3
        rw [dot_set _ _ _ _ hq]
        have q1 : (wrap64 (rest.getD (k - phn (N : Int) + i) 0 - wrap64 (lead * (cyc (N : Int)).getD i 0)) - rest.getD (k - phn (N : Int) + i) 0) % 18446744073709551616 = (-(lead * (cyc (N : Int)).getD i 0)) % 18446744073709551616 := by
          have a1 := w_mod (lead * (cyc (N : Int)).getD i 0)
          have a2 := w_mod (rest.getD (k - phn (N : Int) + i) 0 - wrap64 (lead * (cyc (N : Int)).getD i 0))
          omega
        have q2 : (wrap64 (rest.getD (k - phn (N : Int) + i) 0 - wrap64 (lead * (cyc (N : Int)).getD i 0)) - rest.getD (k - phn (N : Int) + i) 0) * (cl2 N m).getD (k - phn (N : Int) + i) 0 % 18446744073709551616 = (-(lead * ((cyc (N : Int)).getD i 0 * (cl2 N m).getD (k - phn (N : Int) + i) 0))) % 18446744073709551616 := by
          rw [Int.mul_emod, q1, ← Int.mul_emod, Int.neg_mul, Int.mul_assoc]
        rw [show k - phn (N : Int) + (i + 1) = k - phn (N : Int) + i + 1 by omega]
        generalize (wrap64 (rest.getD (k - phn (N : Int) + i) 0 - wrap64 (lead * (cyc (N : Int)).getD i 0)) - rest.getD (k - phn (N : Int) + i) 0) * (cl2 N m).getD (k - phn (N : Int) + i) 0 = A at *
        generalize lead * ((cyc (N : Int)).getD i 0 * (cl2 N m).getD (k - phn (N : Int) + i) 0) = B at *
        generalize lead * dot ((cyc (N : Int)).drop (i + 1)) ((cl2 N m).drop (k - phn (N : Int) + i + 1)) = D at *
        omega
theorem rec_l0 (N : Nat) (hN0 : 1 ≤ N) (hN : N < 17) (L : Nat) (hL : L ≤ 2 * N) (row out : List Int) (ho1 : out.length = phn (N : Int)) (ho2 : ∀ o ∈ out, inW o) (ho3 : ∀ m, m < phn (N : Int) → out.getD m 0 % 18446744073709551616 = dot row (cl2 N m) % 18446744073709551616) (hpL : phn (N : Int) ≤ L) : ∀ (d : Nat) (k : Int) (rest : List Int), (d : Int) + phn (N : Int) = k + 1 → k < L → rest.length = L → (∀ o ∈ rest, inW o) → (∀ j : Nat, k < j → rest.getD j 0 = 0) →
    (∀ m, m < phn (N : Int) → dot rest (cl2 N m) % 18446744073709551616 = dot row (cl2 N m) % 18446744073709551616) →
    Ev (fun f => spec_l01Reduce.l0 f (N : Int) (cyc (N : Int)) rest (phn (N : Int) : Int) k) ((N : Int), out) := by
  obtain ⟨hc1, hc2, hc3⟩ := cyc_len N hN hN0
  have hcl : ∀ m, (cl2 N m).length = 2 * N := cl2_len N hN hN0
  have hb := phn_bd (N : Int) (by omega) (by omega)
  intro d
  induction d with
  | zero =>
    intro k rest hd hk hl hw hz hdot
    have e : out = rest.take (phn (N : Int)) := by
      refine lists_eq (by rw [ho1, List.length_take]; omega) ho2 (fun o ho => hw o (List.mem_of_mem_take ho)) (fun m hm => ?_)
      have hm2 : m < phn (N : Int) := by omega
      rw [ho3 m hm2, ← hdot m hm2]
      have hu : (cl2 N m).getD m 0 = 1 := by simpa using of_decide_eq_true (cl2_unit N hN hN0 m hm2 m hm2)
      have hs := dot_set rest (cl2 N m) m 0 (by omega)
      rw [dot_zero (rest.set m 0) (cl2 N m) (fun j => by
        rw [set_get _ _ _ _ (by omega)]
        by_cases hj : j = m
        · rw [if_pos hj, Int.zero_mul]
        · rw [if_neg hj]
          rcases Nat.lt_or_ge j (phn (N : Int)) with h | h
          · rw [show (cl2 N m).getD j 0 = 0 by simpa [hj] using of_decide_eq_true (cl2_unit N hN hN0 j h m hm2), Int.mul_zero]
          · rw [hz j (by omega), Int.zero_mul]), hu] at hs
      have e3 : (rest.take (phn (N : Int))).getD m 0 = rest.getD m 0 := by
        rw [gE _ _ (by rw [List.length_take]; omega), gE _ _ (by omega), List.getElem_take]
      rw [e3]
      congr 1
      omega
    refine Ev.step (f := fun f => ((spec_l01Zero.f f (N : Int)).bind fun bt => (spec_l01Reduce.l2 f rest (phn (N : Int) : Int) 0 bt.1 bt.2))) (fun f => ?_) ?_
    · simp only [spec_l01Reduce.l0]
      rw [if_neg (by omega)]
    · refine Ev.bind (zero01 (N : Int) (by omega) (by omega)) ?_
      rw [e]
      simpa using red_l2 (N : Int) rest (phn (N : Int)) (by omega) (by omega) (phn (N : Int)) 0 (by omega)
  | succ d ih =>
    intro k rest hd hk hl hw hz hdot
    obtain ⟨K, rfl⟩ : ∃ K : Nat, k = K := ⟨k.toNat, by omega⟩
    refine Ev.step (f := fun f => spec_l01Reduce.l1 f (N : Int) (cyc (N : Int)) rest (phn (N : Int) : Int) (K : Int) (rest.getD K 0) 0) (fun f => ?_) ?_
    · simp only [spec_l01Reduce.l0]
      rw [if_pos (by omega), if_pos (by omega), if_pos (by omega), rd, Int.toNat_natCast]
    · refine rec_l1 N hN0 hN L hL (fun m => dot row (cl2 N m)) K (by omega) (by omega) _ (get_in rest hw K) _ (fun rest' a b c e => ih ((K : Int) - 1) rest' (by omega) (by omega) a b (fun j hj => c j (by omega)) e) (phn (N : Int) + 1) 0 rest (by omega) hl hw (fun j hj => hz j (by omega)) (fun _ => rfl) (fun h => by omega) (fun m hm => ?_)
      have := of_decide_eq_true (cyc_rel2 N hN hN0 K (by omega) (by omega) m hm)
      rw [List.drop_zero, Nat.add_zero, this, Int.mul_zero, Int.sub_zero]
      exact hdot m hm
theorem reduce2 (n : Int) (row out : List Int) (h0 : 1 ≤ n) (h1 : n ≤ 16) (hl : phn n ≤ row.length ∧ (row.length : Int) ≤ 2 * n) (hw : ∀ o ∈ row, inW o) (ho1 : out.length = phn n) (ho2 : ∀ o ∈ out, inW o) (ho3 : ∀ m, m < phn n → out.getD m 0 % 18446744073709551616 = dot row (cl2 n.toNat m) % 18446744073709551616) : Ev (fun f => spec_l01Reduce.f f n row) (n, out) := by
  obtain ⟨N, rfl⟩ : ∃ N : Nat, n = N := ⟨n.toNat, by omega⟩
  have hN0 : 1 ≤ N := by omega
  have hN : N < 17 := by omega
  obtain ⟨hc1, hc2, hc3⟩ := cyc_len N hN hN0
  have hb := phn_bd (N : Int) (by omega) (by omega)
  rw [Int.toNat_natCast] at ho3
  unfold spec_l01Reduce.f
  refine Ev.bind (cyc_spec (N : Int) h0 h1) (ev_bind_const (own01 row (by omega)) ?_)
  rw [w64 (x := ((cyc (N : Int)).length : Int) - 1) (by omega) (by omega), w64 (x := (row.length : Int) - 1) (by omega) (by omega), show ((cyc (N : Int)).length : Int) - 1 = (phn (N : Int) : Int) by omega]
  refine rec_l0 N hN0 hN row.length (by omega) row out ho1 ho2 ho3 (by omega) (row.length - phn (N : Int)) _ row (by omega) (by omega) rfl hw (fun j hj => ?_) (fun m _ => rfl)
  rw [List.getD_eq_getElem?_getD, List.getElem?_eq_none (by omega)]
  rfl
def cvr (x : Int) : List Int → Nat → List Int → List Int
  | [], _, acc => acc
  | y :: ys, p, acc => cvr x ys (p + 1) (acc.set p (wrap64 (acc.getD p 0 + wrap64 (x * y))))
def cv (ys : List Int) : List Int → Nat → List Int → List Int
  | [], _, acc => acc
  | x :: xs, p, acc => cv ys xs (p + 1) (cvr x ys p acc)
theorem cvr_len (x : Int) : ∀ (ys : List Int) (p : Nat) (acc : List Int), (cvr x ys p acc).length = acc.length
  | [], _, _ => rfl
  | y :: ys, p, acc => by rw [cvr, cvr_len x ys, List.length_set]
theorem cvr_in (x : Int) : ∀ (ys : List Int) (p : Nat) (acc : List Int), (∀ o ∈ acc, inW o) → ∀ o ∈ cvr x ys p acc, inW o
  | [], _, _, h => h
  | y :: ys, p, acc, h => cvr_in x ys _ _ (set_in _ _ _ (w_in _) h)
theorem cv_len (ys : List Int) : ∀ (xs : List Int) (p : Nat) (acc : List Int), (cv ys xs p acc).length = acc.length
  | [], _, _ => rfl
  | x :: xs, p, acc => by rw [cv, cv_len ys xs, cvr_len]
theorem cv_in (ys : List Int) : ∀ (xs : List Int) (p : Nat) (acc : List Int), (∀ o ∈ acc, inW o) → ∀ o ∈ cv ys xs p acc, inW o
  | [], _, _, h => h
  | x :: xs, p, acc, h => cv_in ys xs _ _ (cvr_in x ys _ _ h)
theorem prod_l1 (n : Int) (xs ys : List Int) (L : Nat) (hL : L ≤ 1000) (i : Nat) (hi : i < xs.length) (hy : i + ys.length ≤ L) (r : Int × List Int) : ∀ (d j : Nat) (acc : List Int), d + j = ys.length → acc.length = L →
    Ev (fun k => spec_l01Product.l0 k ys (cvr (xs.getD i 0) (ys.drop j) (i + j) acc) ((i + 1 : Nat) : Int) n xs) r → Ev (fun k => spec_l01Product.l1 k ys acc (i : Int) (j : Int) n xs) r := by
  intro d
  induction d with
  | zero =>
    intro j acc hj hl H
    rw [List.drop_eq_nil_of_le (by omega), cvr] at H
    refine Ev.step (fun k => ?_) H
    simp only [spec_l01Product.l1]
    rw [if_neg (by omega), w64 (x := (i : Int) + 1) (by omega) (by omega)]
    rfl
  | succ d ih =>
    intro j acc hj hl H
    have hj2 : j < ys.length := by omega
    rw [List.drop_eq_getElem_cons hj2, cvr] at H
    refine Ev.step (fun k => ?_) (ih (j + 1) (acc.set (i + j) (wrap64 (acc.getD (i + j) 0 + wrap64 (xs.getD i 0 * ys.getD j 0)))) (by omega) (by rw [List.length_set]; exact hl) (by rw [gE ys 0 hj2]; exact H))
    have e1 : wrap64 ((i : Int) + (j : Int)) = ((i + j : Nat) : Int) := by rw [w64 (by omega) (by omega)]; omega
    simp only [spec_l01Product.l1, e1]
    rw [if_pos (by omega), if_pos (by omega), if_pos (by omega), if_pos (by omega), if_pos (by omega), if_pos (by omega), w64 (x := (j : Int) + 1) (by omega) (by omega)]
    simp only [rd, Int.toNat_natCast]
    rfl
theorem prod_l0 (n : Int) (xs ys : List Int) (L : Nat) (hL : L ≤ 1000) (hy : xs.length + ys.length = L + 1) (r : Int × List Int) : ∀ (d i : Nat) (acc : List Int), d + i = xs.length → acc.length = L →
    Ev (fun k => spec_l01Reduce.f k n (cv ys (xs.drop i) i acc)) r → Ev (fun k => spec_l01Product.l0 k ys acc (i : Int) n xs) r := by
  intro d
  induction d with
  | zero =>
    intro i acc hi hl H
    rw [List.drop_eq_nil_of_le (by omega), cv] at H
    refine Ev.step (f := fun k => (spec_l01Reduce.f k n acc).bind fun b => some (b.1, b.2)) (fun k => ?_) (Ev.bind H (Ev.now _))
    simp only [spec_l01Product.l0]
    rw [if_neg (by omega)]
  | succ d ih =>
    intro i acc hi hl H
    have hi2 : i < xs.length := by omega
    rw [List.drop_eq_getElem_cons hi2, cv] at H
    refine Ev.step (f := fun k => spec_l01Product.l1 k ys acc (i : Int) 0 n xs) (fun k => ?_) ?_
    · simp only [spec_l01Product.l0]
      rw [if_pos (by omega)]
    · refine prod_l1 n xs ys L hL i hi2 (by omega) r ys.length 0 acc (by omega) hl ?_
      rw [List.drop_zero, Nat.add_zero, gE xs 0 hi2]
      exact ih (i + 1) _ (by omega) (by rw [cvr_len]; exact hl) H
theorem product01 (n : Int) (xs ys out : List Int) (h0 : 1 ≤ n) (h1 : n ≤ 16) (hx : xs.length = phn n) (hy : ys.length = phn n) (ho1 : out.length = phn n) (ho2 : ∀ o ∈ out, inW o)
    (ho3 : ∀ m, m < phn n → out.getD m 0 % 18446744073709551616 = dot (cv ys xs 0 (List.replicate (2 * phn n - 1) 0)) (cl2 n.toNat m) % 18446744073709551616) : Ev (fun k => spec_l01Product.f k n xs ys) (n, out) := by
  have hb := phn_bd n h0 h1
  have hc2 := (cyc_len n.toNat (by omega) (by omega)).2.1
  rw [Int.toNat_of_nonneg (by omega)] at hc2
  have e : wrap64 (wrap64 ((xs.length : Int) + (ys.length : Int)) - 1) = ((2 * phn n - 1 : Nat) : Int) := by
    rw [w64 (x := (xs.length : Int) + (ys.length : Int)) (by omega) (by omega), w64 (by omega) (by omega)]
    omega
  unfold spec_l01Product.f
  rw [e]
  simp only [if_pos (show 0 ≤ ((2 * phn n - 1 : Nat) : Int) by omega), Int.toNat_natCast, if_pos (show 2 * phn n - 1 ≤ 35184372088832 by omega)]
  refine prod_l0 n xs ys (2 * phn n - 1) (by omega) (by omega) _ xs.length 0 _ (by omega) (by simp) ?_
  rw [List.drop_zero]
  exact reduce2 n _ out h0 h1 (by rw [cv_len, List.length_replicate]; omega) (cv_in _ _ _ _ (fun o ho => by rw [List.eq_of_mem_replicate ho]; unfold inW; omega)) ho1 ho2 ho3
theorem w0 : wrap64 0 = 0 := w64 (by omega) (by omega)
theorem in01 (a b c : Int) : spec_l01In.f a b c = some (decide (b ≤ a) && decide (a ≤ c)) := by
  unfold spec_l01In.f
  by_cases h : a ≥ b
  · rw [if_pos h, decide_eq_true (show b ≤ a by omega), Bool.true_and]
  · rw [if_neg h, decide_eq_false (show ¬ b ≤ a by omega), Bool.false_and]
theorem fitsq (n : Int) (l : List Int) (hl : l.length ≤ 1000) (h : ∀ c ∈ l, -1 ≤ c ∧ c ≤ 1) : Ev (fun k => spec_l01Fits.f k n l) true := by
  unfold spec_l01Fits.f
  have key : ∀ (d i : Nat), d + i = l.length → Ev (fun k => spec_l01Fits.l0 k (i : Int) n l) true := by
    intro d
    induction d with
    | zero =>
      intro i hi
      refine Ev.step (f := fun _ => some true) (fun k => ?_) (Ev.now _)
      simp only [spec_l01Fits.l0]
      rw [if_neg (by omega)]
    | succ d ih =>
      intro i hi
      have hi2 : i < l.length := by omega
      have hb := h _ (List.getElem_mem hi2)
      refine Ev.step (fun k => ?_) (ih (i + 1) (by omega))
      simp only [spec_l01Fits.l0]
      rw [if_pos (by omega), if_pos (by omega), in01, rd, Int.toNat_natCast, gE _ _ hi2, decide_eq_true (show -1000000000 ≤ l[i] by omega), decide_eq_true (show l[i] ≤ 1000000000 by omega), w64 (x := (i : Int) + 1) (by omega) (by omega)]
      rfl
  simpa using key l.length 0 (by omega)
theorem rep_snoc0 (n : Nat) (a : Int) : List.replicate n a ++ [a] = List.replicate (n + 1) a := by rw [← List.replicate_succ']
theorem times_l1 (n n1 n2 : Int) (Z : List Int) (P : Nat) (hP : P ≤ 1000) (hZ : Z.length = P) (h : ∀ c ∈ Z, -1 ≤ c ∧ c ≤ 1) : ∀ (d i : Nat), d + i = P → Ev (fun k => spec_l01Times.l1 k (i : Int) n1 Z n2 (List.replicate P 0) n (Z.take i ++ (List.replicate P 0).drop i)) (n, Z, true) := by
  intro d
  induction d with
  | zero =>
    intro i hi
    have e : i = P := by omega
    subst e
    have e2 : Z.take i ++ (List.replicate i 0).drop i = Z := by rw [List.drop_eq_nil_of_le (by simp), List.append_nil, List.take_of_length_le (by omega)]
    refine Ev.step (f := fun k => (spec_l01Fits.f k n Z).bind fun t => some (n, Z, t)) (fun k => ?_) (Ev.bind (fitsq n Z (by omega) h) (Ev.now _))
    simp only [spec_l01Times.l1]
    rw [e2, if_neg (by omega)]
  | succ d ih =>
    intro i hi
    have hz : Z.length = (List.replicate P (0 : Int)).length := by rw [List.length_replicate]; exact hZ
    have hi2 : i < Z.length := by omega
    have hb := h _ (List.getElem_mem hi2)
    have e1 := tk_len Z (List.replicate P 0) i hz (by rw [List.length_replicate]; omega)
    have e2 := tk_set Z (List.replicate P 0) i hz (by rw [List.length_replicate]; omega)
    rw [List.length_replicate] at e1
    have e3 : rd (List.replicate P 0) (i : Int) = 0 := by rw [rd, Int.toNat_natCast, gE _ _ (by rw [List.length_replicate]; omega), List.getElem_replicate]
    refine Ev.step (fun k => ?_) (ih (i + 1) (by omega))
    simp only [spec_l01Times.l1]
    rw [e1, e3, if_pos (by omega), if_pos (by omega), if_pos (by rw [List.length_replicate]; omega), in01, show (decide ((-10000000000000 : Int) ≤ 0) && decide ((0 : Int) ≤ 10000000000000)) = true from rfl, Option.bind_some, if_pos rfl, if_pos (by omega), w64 (x := (i : Int) + 1) (by omega) (by omega), rd, Int.toNat_natCast,
      show wrap64 (wrap64 ((0 : Int) * 100000) + Z.getD i 0) = Z.getD i 0 by rw [gE _ _ hi2, show wrap64 ((0 : Int) * 100000) = 0 from w0, w64 (by omega) (by omega)]; omega, e2]
    rfl
def cvrF (x : Int) : List Int → Nat → List Int → List Int
  | [], _, acc => acc
  | y :: ys, p, acc => if y = 0 then cvrF x ys (p + 1) acc else cvrF x ys (p + 1) (acc.set p (wrap64 (acc.getD p 0 + wrap64 (x * y))))
def cvF (ys : List Int) : List Int → Nat → List Int → List Int
  | [], _, acc => acc
  | x :: xs, p, acc => if x = 0 then cvF ys xs (p + 1) acc else cvF ys xs (p + 1) (cvrF x ys p acc)
def cmbF : List Int → List Int → List (List Int) → List Int
  | out, x :: xs, r :: rs => if x = 0 then cmbF out xs rs else cmbF (axpy x out r) xs rs
  | out, _, _ => out
theorem wz (a : Int) (h : inW a) : wrap64 (a + 0) = a := by rw [Int.add_zero]; exact in_w h
theorem set_same (acc : List Int) (p : Nat) (h : ∀ o ∈ acc, inW o) : acc.set p (wrap64 (acc.getD p 0 + 0)) = acc := by
  rcases Nat.lt_or_ge p acc.length with hp | hp
  · rw [gE _ _ hp, wz _ (h _ (List.getElem_mem hp)), List.set_getElem_self]
  · exact List.set_eq_of_length_le hp
theorem cvrF_eq (x : Int) : ∀ (ys : List Int) (p : Nat) (acc : List Int), (∀ o ∈ acc, inW o) → cvrF x ys p acc = cvr x ys p acc
  | [], _, _, _ => rfl
  | y :: ys, p, acc, h => by
    rw [cvrF, cvr]
    by_cases hy : y = 0
    · rw [if_pos hy, hy, Int.mul_zero, w0, set_same acc p h]
      exact cvrF_eq x ys _ _ h
    · rw [if_neg hy]
      exact cvrF_eq x ys _ _ (set_in _ _ _ (w_in _) h)
theorem cvr_zero : ∀ (ys : List Int) (p : Nat) (acc : List Int), (∀ o ∈ acc, inW o) → cvr 0 ys p acc = acc
  | [], _, _, _ => rfl
  | y :: ys, p, acc, h => by rw [cvr, Int.zero_mul, w0, set_same acc p h]; exact cvr_zero ys _ _ h
theorem cvF_eq (ys : List Int) : ∀ (xs : List Int) (p : Nat) (acc : List Int), (∀ o ∈ acc, inW o) → cvF ys xs p acc = cv ys xs p acc
  | [], _, _, _ => rfl
  | x :: xs, p, acc, h => by
    rw [cvF, cv]
    by_cases hx : x = 0
    · rw [if_pos hx, hx, cvr_zero ys p acc h]
      exact cvF_eq ys xs _ _ h
    · rw [if_neg hx, cvrF_eq x ys p acc h]
      exact cvF_eq ys xs _ _ (cvr_in x ys _ _ h)
theorem axpy_zero : ∀ (out r : List Int), r.length = out.length → (∀ o ∈ out, inW o) → axpy 0 out r = out
  | [], r, _, _ => by simp [axpy]
  | _ :: _, [], h, _ => by simp at h
  | o :: out, r :: rs, h, ho => by
    have := axpy_zero out rs (by simpa using h) (fun q hq => ho q (by simp [hq]))
    simp only [axpy, List.zipWith_cons_cons] at this ⊢
    rw [this, Int.zero_mul, w0, wz _ (ho o (by simp))]
theorem cmbF_eq : ∀ (xs : List Int) (rs : List (List Int)) (out : List Int), (∀ r ∈ rs, r.length = out.length) → (∀ o ∈ out, inW o) → cmbF out xs rs = cmb out xs rs
  | [], rs, out, _, _ => by simp [cmbF, cmb]
  | x :: xs, [], out, _, _ => by simp [cmbF, cmb]
  | x :: xs, r :: rs, out, hr, ho => by
    have h1 := hr r (by simp)
    rw [cmbF, cmb]
    by_cases hx : x = 0
    · rw [if_pos hx, hx, axpy_zero out r h1 ho]
      exact cmbF_eq xs rs out (fun q hq => hr q (by simp [hq])) ho
    · rw [if_neg hx]
      exact cmbF_eq xs rs _ (fun q hq => by rw [axpy_len _ _ _ h1]; exact hr q (by simp [hq])) (axpy_in _ _ _)
def prodOk (n : Nat) (xs ys out : List Int) : Bool := decide (cmbF (List.replicate (phn (n : Int)) 0) (cvF ys xs 0 (List.replicate (2 * phn (n : Int) - 1) 0)) (pw (n : Int) ++ pw (n : Int)) = out)
theorem rep_in (n : Nat) : ∀ o ∈ List.replicate n (0 : Int), inW o := fun o ho => by rw [List.eq_of_mem_replicate ho]; unfold inW; omega
theorem prod_ok (n : Int) (xs ys out : List Int) (h0 : 1 ≤ n) (h1 : n ≤ 16) (h : prodOk n.toNat xs ys out = true) : ∀ m, m < phn n → out.getD m 0 % 18446744073709551616 = dot (cv ys xs 0 (List.replicate (2 * phn n - 1) 0)) (cl2 n.toNat m) % 18446744073709551616 := by
  have h2 := of_decide_eq_true h
  rw [Int.toNat_of_nonneg (by omega)] at h2
  have hrow : ∀ r ∈ pw n ++ pw n, r.length = (List.replicate (phn n) (0 : Int)).length := fun r hr => by
    rw [List.length_replicate]
    rcases List.mem_append.mp hr with hr | hr <;> exact pw_row n h0 h1 r hr
  rw [cmbF_eq _ _ _ hrow (rep_in _), cvF_eq _ _ _ _ (rep_in _)] at h2
  obtain ⟨_, _, c⟩ := cmb_spec (cv ys xs 0 (List.replicate (2 * phn n - 1) 0)) (pw n ++ pw n) _ hrow (rep_in _)
  intro m hm
  have := c m (by rw [List.length_replicate]; exact hm)
  rw [h2, gE (List.replicate (phn n) (0 : Int)) 0 (by rw [List.length_replicate]; exact hm), List.getElem_replicate, Int.zero_add] at this
  rw [this, cl2, cl, Int.toNat_of_nonneg (by omega), List.map_append]
theorem zv_all : ∀ n : Nat, n < 17 → 1 ≤ n → ∀ a : Nat, a < n → prodOk n ((pw (n : Int)).getD a []) (List.replicate (phn (n : Int)) 0) (List.replicate (phn (n : Int)) 0) = true := by decide +kernel
set_option maxHeartbeats 8000000 in
set_option maxRecDepth 100000 in
theorem cv_all : ∀ n : Nat, n < 17 → 1 ≤ n → ∀ a : Nat, a < n → ∀ b : Nat, b < n → prodOk n ((pw (n : Int)).getD a []) ((pw (n : Int)).getD b []) ((pw (n : Int)).getD ((a + b) % n) []) = true := by decide +kernel
theorem pw_small (n e : Int) (h0 : 1 ≤ n) (h1 : n ≤ 16) (he : 0 ≤ e ∧ e < n) : ∀ c ∈ (pw n).getD e.toNat [], -1 ≤ c ∧ c ≤ 1 := by
  have := pw_all4 n.toNat (by omega) (by omega)
  rw [Int.toNat_of_nonneg (by omega)] at this
  exact this _ (pw_get n e h0 h1 he)
theorem times_l0 (n n' : Int) (xs ys : List Int) (hl : ys.length ≤ 1000) (h : ∀ c ∈ ys, -1 ≤ c ∧ c ≤ 1) (r : Int × List Int × Bool)
    (H : Ev (fun k => ((spec_l01Product.f k n xs ys).bind fun bt197 => ((spec_l01Product.f k n xs (List.replicate ys.length 0)).bind fun bt201 => ((spec_l01Zero.f k n).bind fun bt207 => (spec_l01Times.l1 k 0 bt197.1 bt197.2 bt201.1 bt201.2 bt207.1 bt207.2))))) r) :
    ∀ (d i : Nat), d + i = ys.length → Ev (fun k => spec_l01Times.l0 k (ys.take i) (List.replicate i 0) (i : Int) n xs n' ys) r := by
  intro d
  induction d with
  | zero =>
    intro i hi
    have e : i = ys.length := by omega
    subst e
    refine Ev.step (fun k => ?_) H
    simp only [spec_l01Times.l0]
    rw [if_neg (by omega), List.take_length]
  | succ d ih =>
    intro i hi
    have hi2 : i < ys.length := by omega
    have hb := h _ (List.getElem_mem hi2)
    have e1 : Int.tmod ys[i] 100000 = ys[i] := by
      have : ys[i] = -1 ∨ ys[i] = 0 ∨ ys[i] = 1 := by omega
      rcases this with e | e | e <;> rw [e] <;> rfl
    have e2 : wrap64 (Int.tdiv ys[i] 100000) = 0 := by
      have : ys[i] = -1 ∨ ys[i] = 0 ∨ ys[i] = 1 := by omega
      have : Int.tdiv ys[i] 100000 = 0 := by rcases this with e | e | e <;> rw [e] <;> rfl
      rw [this, w0]
    refine Ev.step (fun k => ?_) (ih (i + 1) (by omega))
    simp only [spec_l01Times.l0]
    rw [if_pos (by omega), if_pos (by omega), if_pos (by rw [List.length_take]; omega), if_pos (by rw [List.length_replicate]; omega), rd, Int.toNat_natCast, gE _ _ hi2, e1, e2, rep_snoc0, w64 (x := (i : Int) + 1) (by omega) (by omega), ← List.take_succ_eq_append_getElem hi2]
    rfl
theorem times01 (n a b : Int) (h0 : 1 ≤ n) (h1 : n ≤ 16) (ha : 0 ≤ a ∧ a < n) (hb : 0 ≤ b ∧ b < n) : Ev (fun k => spec_l01Times.f k n ((pw n).getD a.toNat []) n ((pw n).getD b.toNat [])) (n, (pw n).getD ((a + b) % n).toNat [], true) := by
  have hm0 := Int.emod_nonneg (a + b) (show n ≠ 0 by omega)
  have hm1 := Int.emod_lt_of_pos (a + b) (show 0 < n by omega)
  have la := pw_row n h0 h1 _ (pw_get n a h0 h1 ha)
  have lb := pw_row n h0 h1 _ (pw_get n b h0 h1 hb)
  have lc := pw_row n h0 h1 _ (pw_get n ((a + b) % n) h0 h1 ⟨hm0, hm1⟩)
  have sc := pw_small n ((a + b) % n) h0 h1 ⟨hm0, hm1⟩
  have hph := phn_bd n h0 h1
  have z := zv_all n.toNat (by omega) (by omega) a.toNat (by omega)
  have c := cv_all n.toNat (by omega) (by omega) a.toNat (by omega) b.toNat (by omega)
  rw [Int.toNat_of_nonneg (by omega)] at z c
  have e : ((a + b) % n).toNat = (a.toNat + b.toNat) % n.toNat := by rw [Int.toNat_emod (by omega) (by omega), Int.toNat_add (by omega) (by omega)]
  rw [← e] at c
  unfold spec_l01Times.f
  have key := times_l0 n n ((pw n).getD a.toNat []) ((pw n).getD b.toNat []) (by omega) (pw_small n b h0 h1 hb) (n, (pw n).getD ((a + b) % n).toNat [], true) ?_ ((pw n).getD b.toNat []).length 0 (by omega)
  · simpa using key
  · refine Ev.bind (product01 n _ _ _ h0 h1 la lb lc (fun o ho => by have := sc o ho; unfold inW; omega) (fun m hm => ?_)) (Ev.bind (product01 n _ (List.replicate ((pw n).getD b.toNat []).length 0) (List.replicate (phn n) 0) h0 h1 la (by rw [List.length_replicate]; exact lb) (by simp) (fun o ho => by rw [List.eq_of_mem_replicate ho]; unfold inW; omega) (fun m hm => ?_)) (Ev.bind (zero01 n h0 h1) ?_))
    · exact prod_ok n _ _ _ h0 h1 c m hm
    · rw [lb]; exact prod_ok n _ _ _ h0 h1 z m hm
    · have := times_l1 n n n ((pw n).getD ((a + b) % n).toNat []) (phn n) (by omega) lc sc (phn n) 0 (by omega)
      simpa using this
def barOk (n e : Nat) : Bool := decide (spec_l01Bar.f 400 (n : Int) ((pw (n : Int)).getD e []) = some ((n : Int), (pw (n : Int)).getD ((n - e) % n) []))
theorem bar_all : ∀ n : Nat, n < 17 → 1 ≤ n → ∀ e : Nat, e < n → barOk n e = true := by decide +kernel
theorem bar01 (n e : Int) (h0 : 1 ≤ n) (h1 : n ≤ 16) (he : 0 ≤ e ∧ e < n) : Ev (fun k => spec_l01Bar.f k n ((pw n).getD e.toNat [])) (n, (pw n).getD ((n - e) % n).toNat []) := by
  have := of_decide_eq_true (bar_all n.toNat (by omega) (by omega) e.toNat (by omega))
  rw [Int.toNat_of_nonneg (by omega)] at this
  rw [show ((n - e) % n).toNat = (n.toNat - e.toNat) % n.toNat by rw [Int.toNat_emod (by omega) (by omega), Int.toNat_sub'' (by omega) (by omega)]]
  exact Ev.of (spec_l01Bar.mono n _) this
theorem diff_mod (i c d n : Int) : (i * c % n + (n - i * d % n) % n) % n = i * ((c - d) % n) % n := by
  have e1 : i * ((c - d) % n) % n = (i * c - i * d) % n := by
    rw [Int.mul_emod, Int.emod_emod, ← Int.mul_emod, Int.mul_sub]
  rw [e1, Int.add_emod, Int.emod_emod, Int.emod_emod, ← Int.add_emod]
  have e2 : i * c + (n - i * d % n) = (i * c - i * d % n) + n := by omega
  rw [e2, Int.add_emod_right, Int.sub_emod, Int.emod_emod, ← Int.sub_emod]
theorem orth_l0 (p n c d : Int) (hp : pr p = true) (hn : 1 ≤ n ∧ n ≤ 16) (hc : 0 ≤ c ∧ c ≤ 15) (hd : 0 ≤ d ∧ d ≤ 15) : ∀ (m y : Nat) (out : List Int), (m : Int) + y = p → 1 ≤ y → out.length = phn n → Ev (fun k => spec_OrthogonalSum.l0 k (y : Int) p n c p n d n out) (n, spd n out (List.replicate m 1) ((ex p n ((c - d) % n)).drop y), 0) := by
  have hx := ex_len p n ((c - d) % n) hp
  have hxc := ex_len p n c hp
  have hxd := ex_len p n d hp
  have hb := pr_bd hp
  have hph := phn_bd n hn.1 hn.2
  intro m
  induction m with
  | zero =>
    intro y out hy h1 ho
    refine Ev.step (f := fun _ => some (n, out, 0)) (fun k => ?_) ?_
    · simp only [spec_OrthogonalSum.l0]
      rw [if_neg (by omega)]
    · simp only [List.replicate_zero, spd]
      exact Ev.now _
  | succ m ih =>
    intro y out hy h1 ho
    have hy2 : y < (ex p n ((c - d) % n)).length := by omega
    obtain ⟨e1, e2, e3, _⟩ := ex_get p n ((c - d) % n) hp hn.1 y h1 (by omega)
    obtain ⟨ec1, ec2, _, _⟩ := ex_get p n c hp hn.1 y h1 (by omega)
    obtain ⟨ed1, ed2, _, _⟩ := ex_get p n d hp hn.1 y h1 (by omega)
    have hbd : (ex p n ((c - d) % n)).getD y 0 < n := by
      rw [gE _ _ hy2]
      exact (ex_bd p n _ hn.1 _ (List.getElem_mem _)).2
    have hbc : (ex p n c).getD y 0 < n := by
      rw [gE _ _ (by omega)]
      exact (ex_bd p n _ hn.1 _ (List.getElem_mem _)).2
    have hbd' : (ex p n d).getD y 0 < n := by
      rw [gE _ _ (by omega)]
      exact (ex_bd p n _ hn.1 _ (List.getElem_mem _)).2
    have hr := pw_row n hn.1 hn.2 _ (pw_get n _ hn.1 hn.2 ⟨e2, hbd⟩)
    have hdiff : ((ex p n c).getD y 0 + (n - (ex p n d).getD y 0) % n) % n = (ex p n ((c - d) % n)).getD y 0 := by
      rw [e1, ec1, ed1]
      exact diff_mod _ _ _ _
    have hm0 := Int.emod_nonneg (n - (ex p n d).getD y 0) (show n ≠ 0 by omega)
    have hm1 := Int.emod_lt_of_pos (n - (ex p n d).getD y 0) (show 0 < n by omega)
    refine Ev.step (f := fun k => ((spec_l03At.f k p n c (y : Int)).bind fun bt279 => ((spec_l03At.f k p n d (y : Int)).bind fun bt283 => ((spec_l01Bar.f k bt283.1 bt283.2).bind fun bt287 => ((spec_l01Times.f k bt279.1 bt279.2 bt287.1 bt287.2).bind fun bt291 => ((spec_l01Plus.f k n out bt291.1 bt291.2.1 1).bind fun bt297 => (spec_OrthogonalSum.l0 k ((y : Int) + 1) p n c p n d bt297.1 bt297.2))))))) (fun k => ?_) ?_
    · simp only [spec_OrthogonalSum.l0]
      rw [if_pos (by omega), w64 (x := (y : Int) + 1) (by omega) (by omega)]
    · refine Ev.bind (at03 p n c hp hn hc y h1 (by omega)) (Ev.bind (at03 p n d hp hn hd y h1 (by omega)) (Ev.bind (bar01 n _ hn.1 hn.2 ⟨ed2, hbd'⟩) (Ev.bind (times01 n _ _ hn.1 hn.2 ⟨ec2, hbc⟩ ⟨hm0, hm1⟩) ?_)))
      rw [hdiff]
      refine Ev.bind (plus01 1 n n out _ (show ((pw n).getD ((ex p n ((c - d) % n)).getD y 0).toNat []).length = out.length by omega) (by omega)) ?_
      have := ih (y + 1) (axpy 1 out ((pw n).getD ((ex p n ((c - d) % n)).getD y 0).toNat [])) (by omega) (by omega) (by rw [axpy_len _ _ _ (by omega), ho])
      rw [List.drop_eq_getElem_cons hy2, List.replicate_succ, spd, ← gE _ 0 hy2, if_pos e2]
      exact this
def pc (p n c p' n' c' : Int) : Int := if okC p n c && okC p' n' c' then (if p = p' then (if n = n' then 0 else 2) else 2) else 1
theorem like (p n c p' n' c' : Int) : Ev (fun k => spec_l03Like.f k p n c p' n' c') (pc p n c p' n' c') := by
  unfold spec_l03Like.f pc
  refine Ev.bind (l03Is p n c) ?_
  cases h1 : okC p n c with
  | false =>
    simp only [Bool.false_eq_true, if_false, Bool.false_and]
    exact Ev.step (fun k => by simp only [spec_l03Like.j0, if_true] <;> rfl) (Ev.now _)
  | true =>
    simp only [if_true, Bool.true_and]
    refine Ev.bind (l03Is p' n' c') ?_
    cases h2 : okC p' n' c' with
    | false => exact Ev.step (fun k => by simp only [Bool.not_false, spec_l03Like.j0, if_true] <;> rfl) (Ev.now _)
    | true =>
      simp only [if_true]
      by_cases e1 : p = p'
      · by_cases e2 : n = n'
        · simp only [if_pos e1, if_pos e2]
          exact Ev.step (fun k => by simp only [Bool.not_true, spec_l03Like.j0, Bool.false_eq_true, if_false, if_pos e1, if_pos e2] <;> rfl) (Ev.now _)
        · simp only [if_pos e1, if_neg e2]
          exact Ev.step (fun k => by simp only [Bool.not_true, spec_l03Like.j0, Bool.false_eq_true, if_false, if_pos e1, if_neg e2] <;> rfl) (Ev.now _)
      · simp only [if_neg e1]
        exact Ev.step (fun k => by simp only [Bool.not_true, spec_l03Like.j0, Bool.false_eq_true, if_false, if_neg e1] <;> rfl) (Ev.now _)
theorem pairCode (p n c p' n' c' : Int) (h0 : inW p) (h1 : inW p') : Ev (fun k => impl_pairCode.f k p n c p' n' c') (pc p n c p' n' c') := by
  unfold impl_pairCode.f pc
  refine Ev.bind (isCharacter p n c h0.1 h0.2) ?_
  cases h1' : okC p n c with
  | false =>
    simp only [Bool.false_eq_true, if_false, Bool.false_and]
    exact Ev.step (fun k => by simp only [impl_pairCode.j0, if_true] <;> rfl) (Ev.now _)
  | true =>
    simp only [if_true, Bool.true_and]
    refine Ev.bind (isCharacter p' n' c' h1.1 h1.2) ?_
    cases h2 : okC p' n' c' with
    | false => exact Ev.step (fun k => by simp only [Bool.not_false, impl_pairCode.j0, if_true] <;> rfl) (Ev.now _)
    | true =>
      simp only [if_true]
      by_cases e1 : p = p'
      · by_cases e2 : n = n'
        · simp only [if_pos e1, if_pos e2]
          exact Ev.step (fun k => by simp only [Bool.not_true, impl_pairCode.j0, Bool.false_eq_true, if_false, if_pos e1, if_pos e2] <;> rfl) (Ev.now _)
        · simp only [if_pos e1, if_neg e2]
          exact Ev.step (fun k => by simp only [Bool.not_true, impl_pairCode.j0, Bool.false_eq_true, if_false, if_pos e1, if_neg e2] <;> rfl) (Ev.now _)
      · simp only [if_neg e1]
        exact Ev.step (fun k => by simp only [Bool.not_true, impl_pairCode.j0, Bool.false_eq_true, if_false, if_neg e1] <;> rfl) (Ev.now _)
def out (p n c p' n' c' : Int) : Int × List Int × Int := if pc p n c p' n' c' = 0 then (n, spd n (List.replicate (phn n) 0) (List.replicate p.toNat 1) (ex p n ((c - c') % n)), 0) else (0, [], pc p n c p' n' c')
theorem pc_ok {p n c p' n' c' : Int} (h : pc p n c p' n' c' = 0) : p' = p ∧ n' = n ∧ pr p = true ∧ (1 ≤ n ∧ n ≤ 16) ∧ (0 ≤ c ∧ c ≤ 15) ∧ (0 ≤ c' ∧ c' ≤ 15) := by
  unfold pc at h
  cases h1 : okC p n c with
  | false => rw [h1] at h; simp at h
  | true =>
    cases h2 : okC p' n' c' with
    | false => rw [h1, h2] at h; simp at h
    | true =>
      rw [h1, h2] at h
      simp only [Bool.and_self, if_true] at h
      by_cases e1 : p = p'
      · by_cases e2 : n = n'
        · obtain ⟨a1, a2, a3, a4, a5⟩ := okC_iff.mp h1
          obtain ⟨b1, b2, b3, b4, b5⟩ := okC_iff.mp h2
          exact ⟨e1.symm, e2.symm, a1, a2, ⟨a4, by omega⟩, ⟨b4, by omega⟩⟩
        · rw [if_pos e1, if_neg e2] at h; omega
      · rw [if_neg e1] at h; omega
theorem spec_out (p n c p' n' c' : Int) : Ev (fun k => spec_OrthogonalSum.f k p n c p' n' c') (out p n c p' n' c') := by
  unfold spec_OrthogonalSum.f out
  refine Ev.bind (like p n c p' n' c') ?_
  by_cases h : pc p n c p' n' c' = 0
  · obtain ⟨rfl, rfl, hp, hn, hc, hd⟩ := pc_ok h
    have hb := pr_bd hp
    simp only [if_pos h]
    refine Ev.bind (zero01 _ hn.1 hn.2) ?_
    have := orth_l0 _ _ c c' hp hn hc hd (p'.toNat - 1) 1 (List.replicate (phn n') 0) (by omega) (by omega) (by simp)
    obtain ⟨q, hq⟩ : ∃ q, p'.toNat = q + 1 := ⟨p'.toNat - 1, by omega⟩
    rw [hq, Nat.add_sub_cancel] at this
    rw [hq, List.replicate_succ, ex, spd, if_neg (by omega)]
    simpa [ex] using this
  · simp only [if_neg h]
    exact Ev.now _
theorem impl_out (p n c p' n' c' : Int) (h0 : inW p) (h1 : inW p') : Ev (fun k => impl_OrthogonalSum.f k p n c p' n' c') (out p n c p' n' c') := by
  unfold impl_OrthogonalSum.f out
  refine Ev.bind (pairCode p n c p' n' c' h0 h1) ?_
  by_cases h : pc p n c p' n' c' = 0
  · obtain ⟨rfl, rfl, hp, hn, hc, hd⟩ := pc_ok h
    have hb := pr_bd hp
    simp only [if_pos h]
    have ho : impl_ones.f p' = some (List.replicate p'.toNat 1) := by
      unfold impl_ones.f slices_Repeat_int64_int64.f
      rw [if_pos ⟨rfl, by omega, by omega⟩]
      rfl
    have hm0 := Int.emod_nonneg (c - c') (show n' ≠ 0 by omega)
    have hm1 := Int.emod_lt_of_pos (c - c') (show 0 < n' by omega)
    have hw : impl_withPower.f p' n' c (wrap64 (c - c')) = some (p', n', (c - c') % n') := by
      unfold impl_withPower.f
      rw [w64 (by omega) (by omega), around _ _ (by omega) (by omega)]
      rfl
    refine ev_bind_const ho (ev_bind_const hw (Ev.bind (summed p' n' ((c - c') % n') _ hp hn ⟨hm0, by omega⟩ (by simp; omega)) (Ev.now _)))
  · simp only [if_neg h]
    exact Ev.now _
theorem out_len (p n c p' n' c' : Int) : (out p n c p' n' c').2.1.length ≤ 1048576 := by
  unfold out
  by_cases h : pc p n c p' n' c' = 0
  · obtain ⟨rfl, rfl, hp, hn, hc, hd⟩ := pc_ok h
    have := phn_bd n' hn.1 hn.2
    obtain ⟨a, _, _⟩ := acc_spd n' hn.1 hn.2 (List.replicate p'.toNat 1) (ex p' n' ((c - c') % n')) (List.replicate n'.toNat 0) (List.replicate (phn n') 0) (ex_bd p' n' _ hn.1) (by simp; omega) (by simp) (fun o ho => by rw [List.eq_of_mem_replicate ho]; unfold inW; omega) (fun m hm => by
      rw [dot_zeros, gE _ _ (by simpa using hm), List.getElem_replicate])
    simp only [if_pos h]
    omega
  · simp [if_neg h]
theorem FnExactOrthogonalSum : laws_FnExactOrthogonalSum.Pure := by
  intro p n c p' n' c' hp hn hc hp' hn' hc'
  apply Ev.rounds
  have hp2 := wf64 hp
  have hp2' := wf64 hp'
  obtain ⟨⟨m, l, e⟩, ho⟩ : ∃ o, o = out p n c p' n' c' := ⟨_, rfl⟩
  have hs := spec_out p n c p' n' c'
  have hi := impl_out p n c p' n' c' hp2 hp2'
  have hl := out_len p n c p' n' c'
  rw [← ho] at hs hi hl
  unfold laws_FnExactOrthogonalSum.f laws_toCharacter.f
  simp only [Option.bind_some]
  refine Ev.bind hs (Ev.bind hi (Ev.bind (eqCyclo _ _ _ _ hl) ?_))
  simp only [and_self, decide_true, if_true, bne_self_eq_false]
  refine Ev.step (fun k => by simp only [laws_FnExactOrthogonalSum.j0, Bool.false_eq_true, if_false, laws_toCharacter.f, Option.bind_some] <;> rfl) ?_
  refine Ev.bind (markCyclo m l hl) (Ev.bind (heldCyclo m l.length hl) ?_)
  simp only [if_neg (show ¬ (1 + (l.length : Int) < 0) by omega), if_true]
  refine Ev.bind hi (Ev.bind (eqCyclo _ _ _ _ hl) ?_)
  simp only [and_self, decide_true, if_true, bne_self_eq_false]
  refine Ev.step (fun k => by simp only [laws_FnExactOrthogonalSum.j1, Bool.false_eq_true, if_false] <;> rfl) ?_
  refine Ev.bind (heldCyclo m l.length hl) ?_
  simp only [if_neg (show ¬ (1 + (l.length : Int) < 0) by omega), if_true]
  exact Ev.now _
end Go.Proofs.Ytefhabkikaadiaa.Pure
