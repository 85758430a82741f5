/- The program's CharacterAt returns what the reference's returns, for all arguments; no condition. -/
import Derived.Test.YtghlmdjedpnglaaPFnExactCharacterAtx10
import Derived.OpenShut
namespace Go.Proofs.Ytghlmdjedpnglaa.Pure
open Go.RowKit Go.Proofs.Ytghlmdjedpnglaa.PFnExactCharacterAt Go.Proofs.YtghlmdjedpnglaaW.PrintWords Go.Proofs.YtghlmdjedpnglaaW.PrintLast Go.Proofs.YtghlmdjedpnglaaW.PrintMore
set_option linter.unusedVariables false
set_option linter.unusedSimpArgs false
theorem w64 {x : Int} (h0 : -9223372036854775808 ≤ x) (h1 : x ≤ 9223372036854775807) : wrap64 x = x := by unfold wrap64; omega
theorem wf64 {x : Int} (h : (Lit.int .i64 x).wf = true) : -9223372036854775808 ≤ x ∧ x ≤ 9223372036854775807 := bounds_i64 h
theorem ev_bind_const {α β : Type} {o : Option α} {a : α} {f : Nat → α → Option β} {r : β} (h : o = some a) (k : Ev (fun n => f n a) r) : Ev (fun n => o.bind (f n)) r := by
  subst h; exact k
theorem eqInts_l0 (l m : List Int) (hl : l.length ≤ 1048576) (hm : m.length = l.length) : ∀ (d i : Nat), d + i = l.length → Ev (fun k => laws_eqInt64S.l0 k l m (i : Int)) (decide (l.drop i = m.drop i)) := by
  intro d
  induction d with
  | zero =>
    intro i hd
    refine Ev.step (f := fun _ => some (decide (l.drop i = m.drop i))) (fun k => ?_) (Ev.now _)
    simp only [laws_eqInt64S.l0]
    rw [if_neg (by omega), List.drop_of_length_le (by omega), List.drop_of_length_le (by omega)]
    simp
  | succ d ih =>
    intro i hd
    have hi : i < l.length := by omega
    have hi2 : i < m.length := by omega
    have e1 : rd l (i : Int) = l[i] := by simp [rd, hi]
    have e2 : rd m (i : Int) = m[i] := by simp [rd, hi2]
    by_cases he : l[i] = m[i]
    · refine Ev.step (f := fun k => laws_eqInt64S.l0 k l m ((i + 1 : Nat) : Int)) (fun k => ?_) ?_
      · simp only [laws_eqInt64S.l0]
        rw [if_pos (by omega), if_pos (by omega), if_pos (by omega), e1, e2, if_pos he, w64 (by omega) (by omega)]
        rfl
      · have e : decide (l.drop i = m.drop i) = decide (l.drop (i + 1) = m.drop (i + 1)) := by
          rw [List.drop_eq_getElem_cons hi, List.drop_eq_getElem_cons hi2]
          simp only [List.cons.injEq, he, true_and]
        rw [e]
        exact ih (i + 1) (by omega)
    · refine Ev.step (f := fun _ => some false) (fun k => ?_) ?_
      · simp only [laws_eqInt64S.l0]
        rw [if_pos (by omega), if_pos (by omega), if_pos (by omega), e1, e2, if_neg he]
      · have e : decide (l.drop i = m.drop i) = false := by
          rw [List.drop_eq_getElem_cons hi, List.drop_eq_getElem_cons hi2]
          simp only [List.cons.injEq, he, false_and, decide_false]
        rw [e]
        exact Ev.now _
theorem eqInts (l m : List Int) (hl : l.length ≤ 1048576) : Ev (fun k => laws_eqInt64S.f k l m) (decide (l = m)) := by
  by_cases h : m.length = l.length
  · have := eqInts_l0 l m hl h l.length 0 (by omega)
    refine Ev.congr (fun k => ?_) (by simpa using this)
    unfold laws_eqInt64S.f
    rw [if_pos (by omega)]
  · have hne : l ≠ m := fun e => h (by rw [e])
    rw [decide_eq_false hne]
    refine Ev.congr (fun k => ?_) (Ev.now _)
    unfold laws_eqInt64S.f
    rw [if_neg (by omega)]
theorem eqCyclo (n n' : Int) (l l' : List Int) (hl : l.length ≤ 1048576) : Ev (fun k => laws_eqCyclo.f k n l n' l') (decide (n = n' ∧ l = l')) := by
  unfold laws_eqCyclo.f
  by_cases h : n = n'
  · simp only [if_pos h]
    refine Ev.bind (eqInts l l' hl) ?_
    by_cases h2 : l = l' <;> simp [h, h2] <;> exact Ev.now _
  · simp only [if_neg h]
    simp [h]
    exact Ev.now _
def phi (n : Int) : Int := [0, 1, 1, 2, 2, 4, 2, 6, 4, 6, 4, 10, 4, 12, 6, 8, 8].getD n.toNat 0
theorem orders {P : Int → Prop} (h : ∀ m : Nat, m < 17 → 1 ≤ m → P m) (n : Int) (h0 : 1 ≤ n) (h1 : n ≤ 16) : P n := by
  have := h n.toNat (by omega) (by omega)
  rwa [Int.toNat_of_nonneg (by omega)] at this
theorem phi_spec (n : Int) (h0 : 1 ≤ n) (h1 : n ≤ 16) : Ev (fun k => spec_l01Phi.f k n) (phi n) := by
  have key : ∀ m : Nat, m < 17 → 1 ≤ m → spec_l01Phi.f 60 (m : Int) = some (phi m) := by decide +kernel
  exact Ev.of (spec_l01Phi.mono n) (orders (P := fun n => spec_l01Phi.f 60 n = some (phi n)) key n h0 h1)
theorem l01In (a b c : Int) : spec_l01In.f a b c = some (decide (b ≤ a) && decide (a ≤ c)) := by
  unfold spec_l01In.f
  by_cases h : a ≥ b
  · rw [if_pos h]; simp [h]
  · rw [if_neg h]; simp [h]
theorem within_ (a b c : Int) : impl_within.f a b c = some (decide (b ≤ a) && decide (a ≤ c)) := by
  unfold impl_within.f
  by_cases h : b ≤ a
  · rw [if_pos h]; simp [h]
  · rw [if_neg h]; simp [h]
def upTo (a : Int) (n : Nat) : List Int := (List.range n).map fun (j : Nat) => a + (j : Int)
theorem upTo_len (a : Int) (n : Nat) : (upTo a n).length = n := by simp [upTo]
theorem upTo_get (a : Int) (n i : Nat) (hi : i < n) : (upTo a n)[i]'(by rw [upTo_len]; exact hi) = a + (i : Int) := by simp [upTo]
theorem upTo_snoc (a : Int) (n : Nat) : upTo a (n + 1) = upTo a n ++ [a + (n : Int)] := by
  unfold upTo
  rw [List.range_succ, List.map_append]
  rfl
theorem markInts_l0 : ∀ (d i : Nat) (ys : List Int), d + i = ys.length → ys.length ≤ 1048576 → ys.take i = upTo 1 i → Ev (fun k => laws_markInt64S.l0 k ys (1 + (i : Int)) (i : Int)) (1 + (ys.length : Int), upTo 1 ys.length) := by
  intro d
  induction d with
  | zero =>
    intro i ys hd hl ht
    obtain rfl : i = ys.length := by omega
    refine Ev.step (fun k => by simp only [laws_markInt64S.l0]; rw [if_neg (by omega)] <;> rfl) ?_
    rw [List.take_length] at ht
    rw [← ht]
    exact Ev.now _
  | succ d ih =>
    intro i ys hd hl ht
    have hi : i < ys.length := by omega
    have := ih (i + 1) (ys.set i (1 + (i : Int))) (by simp; omega) (by simpa using hl) (by
      rw [List.take_succ_eq_append_getElem (by simpa using hi), List.take_set_of_le (Nat.le_refl _), ht, upTo_snoc]
      simp)
    refine Ev.step (fun k => ?_) (by simpa using this)
    simp only [laws_markInt64S.l0]
    rw [if_pos (by omega), if_pos (by omega), w64 (x := 1 + (i : Int) + 1) (by omega) (by omega), w64 (x := (i : Int) + 1) (by omega) (by omega), show 1 + (i : Int) + 1 = 1 + ((i : Int) + 1) by omega]
    rfl
theorem markInts (l : List Int) (hl : l.length ≤ 1048576) : Ev (fun k => laws_markInt64S.f k l 1) (1 + (l.length : Int), upTo 1 l.length) := by
  have := markInts_l0 l.length 0 l (by omega) hl (by simp [upTo])
  unfold laws_markInt64S.f
  simpa using this
theorem heldInts_l0 (n : Nat) (hn : n ≤ 1048576) : ∀ (d i : Nat), d + i = n → Ev (fun k => laws_heldInt64S.l0 k (upTo 1 n) (1 + (i : Int)) (i : Int)) (1 + (n : Int)) := by
  intro d
  induction d with
  | zero =>
    intro i hd
    obtain rfl : i = n := by omega
    exact Ev.step (fun k => by simp only [laws_heldInt64S.l0]; rw [if_neg (by rw [upTo_len]; omega)] <;> rfl) (Ev.now _)
  | succ d ih =>
    intro i hd
    have hi : i < (upTo 1 n).length := by rw [upTo_len]; omega
    have e1 : rd (upTo 1 n) (i : Int) = 1 + (i : Int) := by
      have := upTo_get 1 n i (by omega)
      simp only [rd, Int.toNat_natCast, List.getD_eq_getElem?_getD, List.getElem?_eq_getElem hi, Option.getD_some, this]
    refine Ev.step (fun k => ?_) (ih (i + 1) (by omega))
    simp only [laws_heldInt64S.l0]
    rw [if_pos (by omega), if_pos (by omega), if_pos e1, w64 (x := 1 + (i : Int) + 1) (by omega) (by omega), w64 (x := (i : Int) + 1) (by omega) (by omega), show 1 + (i : Int) + 1 = 1 + ((i : Int) + 1) by omega]
    rfl
theorem heldInts (n : Nat) (hn : n ≤ 1048576) : Ev (fun k => laws_heldInt64S.f k (upTo 1 n) 1) (1 + (n : Int)) := by
  have := heldInts_l0 n hn n 0 (by omega)
  unfold laws_heldInt64S.f
  simpa using this
theorem markCyclo (n : Int) (l : List Int) (hl : l.length ≤ 1048576) : Ev (fun k => laws_markCyclo.f k n l 1) (1 + (l.length : Int), upTo 1 l.length) := Ev.bind (markInts l hl) (Ev.now _)
theorem heldCyclo (m : Int) (n : Nat) (hn : n ≤ 1048576) : Ev (fun k => laws_heldCyclo.f k m (upTo 1 n) 1) (1 + (n : Int)) := by
  unfold laws_heldCyclo.f
  refine Ev.bind (heldInts n hn) ?_
  simp only [if_neg (show ¬ (1 + (n : Int) < 0) by omega)]
  exact Ev.now _
def prs : List Int := [3, 5, 7, 11, 13, 17, 19, 23, 29, 31, 37, 41, 43, 47, 53, 59, 61]
def pr (l : Int) : Bool := prs.contains l
theorem pr_iff {l : Int} : pr l = true ↔ l ∈ prs := by unfold pr; exact List.contains_iff_mem
theorem pr_bd {l : Int} (h : pr l = true) : 3 ≤ l ∧ l ≤ 61 := by
  rw [pr_iff] at h
  simp only [prs, List.mem_cons, List.not_mem_nil, or_false] at h
  omega
theorem upto61 {P : Int → Prop} (h : ∀ m : Nat, m < 62 → P m) (n : Int) (h0 : 0 ≤ n) (h1 : n ≤ 61) : P n := by
  have := h n.toNat (by omega)
  rwa [Int.toNat_of_nonneg (by omega)] at this
theorem isPrime_big (p : Int) (h0 : 61 < p) (h1 : p ≤ 9223372036854775807) : ∀ (n : Nat) (d : Int), 2 ≤ d → d ≤ p → (p - d).toNat = n → Ev (fun k => impl_isPrime.l0 k p d) false := by
  intro n
  induction n with
  | zero =>
    intro d hd hp hn
    have : d = p := by omega
    subst this
    refine Ev.step (f := fun _ => some false) (fun k => ?_) (Ev.now _)
    simp only [impl_isPrime.l0]
    by_cases c : wrap64 (d * d) ≤ d
    · rw [if_pos c, if_neg (by omega), if_pos (Int.tmod_self)]
    · rw [if_neg c, within_, Option.bind_some]
      simp
      omega
  | succ n ih =>
    intro d hd hp hn
    by_cases c : wrap64 (d * d) ≤ p
    · by_cases c2 : Int.tmod p d = 0
      · refine Ev.step (f := fun _ => some false) (fun k => ?_) (Ev.now _)
        simp only [impl_isPrime.l0]
        rw [if_pos c, if_neg (by omega), if_pos c2]
      · refine Ev.step (fun k => ?_) (ih (d + 1) (by omega) (by omega) (by omega))
        simp only [impl_isPrime.l0]
        rw [if_pos c, if_neg (by omega), if_neg c2, w64 (by omega) (by omega)]
    · refine Ev.step (f := fun _ => some false) (fun k => ?_) (Ev.now _)
      simp only [impl_isPrime.l0]
      rw [if_neg c, within_, Option.bind_some]
      simp
      omega
theorem isPrime (p : Int) (h0 : -9223372036854775808 ≤ p) (h1 : p ≤ 9223372036854775807) : Ev (fun k => impl_isPrime.f k p) (pr p) := by
  by_cases c : 61 < p
  · have e : pr p = false := by
      cases h : pr p with
      | false => rfl
      | true => have := pr_bd h; omega
    rw [e]
    exact isPrime_big p c h1 _ 2 (by omega) (by omega) rfl
  · by_cases c2 : 0 ≤ p
    · have key : ∀ m : Nat, m < 62 → impl_isPrime.f 20 (m : Int) = some (pr m) := by decide +kernel
      exact Ev.of (impl_isPrime.mono p) (upto61 (P := fun p => impl_isPrime.f 20 p = some (pr p)) key p c2 (by omega))
    · have e : pr p = false := by
        cases h : pr p with
        | false => rfl
        | true => have := pr_bd h; omega
      rw [e]
      refine Ev.step (f := fun _ => some false) (fun k => ?_) (Ev.now _)
      simp only [impl_isPrime.f, impl_isPrime.l0]
      rw [if_neg (by rw [w64 (x := 2 * 2) (by omega) (by omega)]; omega), within_, Option.bind_some]
      simp
      omega
theorem l03Prime (p : Int) : Ev (fun k => spec_l03Prime.f k p) (pr p) := by
  by_cases c : 3 ≤ p ∧ p ≤ 61
  · have key : ∀ m : Nat, m < 62 → spec_l03Prime.f 20 (m : Int) = some (pr m) := by decide +kernel
    exact Ev.of (spec_l03Prime.mono p) (upto61 (P := fun p => spec_l03Prime.f 20 p = some (pr p)) key p (by omega) c.2)
  · have e : pr p = false := by
      cases h : pr p with
      | false => rfl
      | true => have := pr_bd h; omega
    rw [e]
    unfold spec_l03Prime.f
    refine ev_bind_const (l01In _ _ _) ?_
    rw [show (decide (3 ≤ p) && decide (p ≤ 61)) = false by simp; omega]
    exact Ev.now _
theorem tmod_emod (c q : Int) (hq : 0 < q) : (Int.tmod c q) % q = c % q := by
  rw [Int.tmod_eq_emod]
  split <;> simp
  rw [Int.sub_emod]
  simp [Int.natAbs_of_nonneg (Int.le_of_lt hq)]
theorem around (a m : Int) (hm : 0 < m) (hm2 : m ≤ 1000000000000) : impl_around.f a m = some (a % m) := by
  unfold impl_around.f
  have h1 := Int.tmod_lt_of_pos a hm
  have h2 := Int.lt_tmod_of_pos a hm
  rw [if_neg (by omega), w64 (by omega) (by omega), Int.tmod_eq_emod_of_nonneg (by omega), Int.add_emod_right, tmod_emod _ _ hm]
theorem gE {α : Type} (l : List α) (d : α) {i : Nat} (h : i < l.length) : l.getD i d = l[i] := by rw [List.getD_eq_getElem?_getD, List.getElem?_eq_getElem h, Option.getD_some]
def axpy (x : Int) (out row : List Int) : List Int := List.zipWith (fun o r => wrap64 (o + wrap64 (x * r))) out row
theorem axpy_len (x : Int) (out row : List Int) (h : row.length = out.length) : (axpy x out row).length = out.length := by simp [axpy, h]
theorem axpy_get (x : Int) (out row : List Int) (h : row.length = out.length) (m : Nat) (hm : m < out.length) : (axpy x out row).getD m 0 = wrap64 (out.getD m 0 + wrap64 (x * row.getD m 0)) := by
  have h2 : m < (axpy x out row).length := by rw [axpy_len x out row h]; exact hm
  rw [gE _ _ h2, gE _ _ hm, gE _ _ (show m < row.length by omega)]
  simp [axpy]
theorem tk_set (Z l : List Int) (i : Nat) (h : Z.length = l.length) (hi : i < l.length) : (Z.take i ++ l.drop i).set i (Z.getD i 0) = Z.take (i + 1) ++ l.drop (i + 1) := by
  have e1 : (Z.take i).length = i := by rw [List.length_take]; omega
  rw [List.set_append_right _ _ (by omega), e1, Nat.sub_self, List.drop_eq_getElem_cons hi, List.set_cons_zero, List.take_succ_eq_append_getElem (by omega), List.append_assoc, gE _ _ (by omega)]
  rfl
theorem tk_rd (Z l : List Int) (i : Nat) (h : Z.length = l.length) (hi : i < l.length) : rd (Z.take i ++ l.drop i) (i : Int) = l.getD i 0 := by
  have e1 : (Z.take i).length = i := by rw [List.length_take]; omega
  rw [rd, Int.toNat_natCast, List.getD_eq_getElem?_getD, List.getElem?_append_right (by omega), e1, Nat.sub_self, List.getElem?_drop, Nat.add_zero, ← List.getD_eq_getElem?_getD]
theorem tk_len (Z l : List Int) (i : Nat) (h : Z.length = l.length) (hi : i ≤ l.length) : (Z.take i ++ l.drop i).length = l.length := by
  rw [List.length_append, List.length_take, List.length_drop]; omega
theorem tk_end (Z l : List Int) (h : Z.length = l.length) : Z.take l.length ++ l.drop l.length = Z := by
  rw [List.drop_length, List.append_nil, ← h, List.take_length]
def pw (n : Int) : List (List Int) := ([[], [[1]], [[1], [-1]], [[1, 0], [0, 1], [-1, -1]], [[1, 0], [0, 1], [-1, 0], [0, -1]], [[1, 0, 0, 0], [0, 1, 0, 0], [0, 0, 1, 0], [0, 0, 0, 1], [-1, -1, -1, -1]], [[1, 0], [0, 1], [-1, 1], [-1, 0], [0, -1], [1, -1]], [[1, 0, 0, 0, 0, 0], [0, 1, 0, 0, 0, 0], [0, 0, 1, 0, 0, 0], [0, 0, 0, 1, 0, 0], [0, 0, 0, 0, 1, 0], [0, 0, 0, 0, 0, 1], [-1, -1, -1, -1, -1, -1]], [[1, 0, 0, 0], [0, 1, 0, 0], [0, 0, 1, 0], [0, 0, 0, 1], [-1, 0, 0, 0], [0, -1, 0, 0], [0, 0, -1, 0], [0, 0, 0, -1]], [[1, 0, 0, 0, 0, 0], [0, 1, 0, 0, 0, 0], [0, 0, 1, 0, 0, 0], [0, 0, 0, 1, 0, 0], [0, 0, 0, 0, 1, 0], [0, 0, 0, 0, 0, 1], [-1, 0, 0, -1, 0, 0], [0, -1, 0, 0, -1, 0], [0, 0, -1, 0, 0, -1]], [[1, 0, 0, 0], [0, 1, 0, 0], [0, 0, 1, 0], [0, 0, 0, 1], [-1, 1, -1, 1], [-1, 0, 0, 0], [0, -1, 0, 0], [0, 0, -1, 0], [0, 0, 0, -1], [1, -1, 1, -1]], [[1, 0, 0, 0, 0, 0, 0, 0, 0, 0], [0, 1, 0, 0, 0, 0, 0, 0, 0, 0], [0, 0, 1, 0, 0, 0, 0, 0, 0, 0], [0, 0, 0, 1, 0, 0, 0, 0, 0, 0], [0, 0, 0, 0, 1, 0, 0, 0, 0, 0], [0, 0, 0, 0, 0, 1, 0, 0, 0, 0], [0, 0, 0, 0, 0, 0, 1, 0, 0, 0], [0, 0, 0, 0, 0, 0, 0, 1, 0, 0], [0, 0, 0, 0, 0, 0, 0, 0, 1, 0], [0, 0, 0, 0, 0, 0, 0, 0, 0, 1], [-1, -1, -1, -1, -1, -1, -1, -1, -1, -1]], [[1, 0, 0, 0], [0, 1, 0, 0], [0, 0, 1, 0], [0, 0, 0, 1], [-1, 0, 1, 0], [0, -1, 0, 1], [-1, 0, 0, 0], [0, -1, 0, 0], [0, 0, -1, 0], [0, 0, 0, -1], [1, 0, -1, 0], [0, 1, 0, -1]], [[1, 0, 0, 0, 0, 0, 0, 0, 0, 0, 0, 0], [0, 1, 0, 0, 0, 0, 0, 0, 0, 0, 0, 0], [0, 0, 1, 0, 0, 0, 0, 0, 0, 0, 0, 0], [0, 0, 0, 1, 0, 0, 0, 0, 0, 0, 0, 0], [0, 0, 0, 0, 1, 0, 0, 0, 0, 0, 0, 0], [0, 0, 0, 0, 0, 1, 0, 0, 0, 0, 0, 0], [0, 0, 0, 0, 0, 0, 1, 0, 0, 0, 0, 0], [0, 0, 0, 0, 0, 0, 0, 1, 0, 0, 0, 0], [0, 0, 0, 0, 0, 0, 0, 0, 1, 0, 0, 0], [0, 0, 0, 0, 0, 0, 0, 0, 0, 1, 0, 0], [0, 0, 0, 0, 0, 0, 0, 0, 0, 0, 1, 0], [0, 0, 0, 0, 0, 0, 0, 0, 0, 0, 0, 1], [-1, -1, -1, -1, -1, -1, -1, -1, -1, -1, -1, -1]], [[1, 0, 0, 0, 0, 0], [0, 1, 0, 0, 0, 0], [0, 0, 1, 0, 0, 0], [0, 0, 0, 1, 0, 0], [0, 0, 0, 0, 1, 0], [0, 0, 0, 0, 0, 1], [-1, 1, -1, 1, -1, 1], [-1, 0, 0, 0, 0, 0], [0, -1, 0, 0, 0, 0], [0, 0, -1, 0, 0, 0], [0, 0, 0, -1, 0, 0], [0, 0, 0, 0, -1, 0], [0, 0, 0, 0, 0, -1], [1, -1, 1, -1, 1, -1]], [[1, 0, 0, 0, 0, 0, 0, 0], [0, 1, 0, 0, 0, 0, 0, 0], [0, 0, 1, 0, 0, 0, 0, 0], [0, 0, 0, 1, 0, 0, 0, 0], [0, 0, 0, 0, 1, 0, 0, 0], [0, 0, 0, 0, 0, 1, 0, 0], [0, 0, 0, 0, 0, 0, 1, 0], [0, 0, 0, 0, 0, 0, 0, 1], [-1, 1, 0, -1, 1, -1, 0, 1], [-1, 0, 1, -1, 0, 0, -1, 1], [-1, 0, 0, 0, 0, -1, 0, 0], [0, -1, 0, 0, 0, 0, -1, 0], [0, 0, -1, 0, 0, 0, 0, -1], [1, -1, 0, 0, -1, 1, 0, -1], [1, 0, -1, 1, -1, 0, 1, -1]], [[1, 0, 0, 0, 0, 0, 0, 0], [0, 1, 0, 0, 0, 0, 0, 0], [0, 0, 1, 0, 0, 0, 0, 0], [0, 0, 0, 1, 0, 0, 0, 0], [0, 0, 0, 0, 1, 0, 0, 0], [0, 0, 0, 0, 0, 1, 0, 0], [0, 0, 0, 0, 0, 0, 1, 0], [0, 0, 0, 0, 0, 0, 0, 1], [-1, 0, 0, 0, 0, 0, 0, 0], [0, -1, 0, 0, 0, 0, 0, 0], [0, 0, -1, 0, 0, 0, 0, 0], [0, 0, 0, -1, 0, 0, 0, 0], [0, 0, 0, 0, -1, 0, 0, 0], [0, 0, 0, 0, 0, -1, 0, 0], [0, 0, 0, 0, 0, 0, -1, 0], [0, 0, 0, 0, 0, 0, 0, -1]]] : List (List (List Int))).getD n.toNat []
def phn (n : Int) : Nat := (phi n).toNat
theorem pw_all1 : ∀ m : Nat, m < 17 → 1 ≤ m → impl_powers.f 400 (m : Int) = some (pw (m : Int)) := by decide +kernel
theorem pw_all2 : ∀ m : Nat, m < 17 → 1 ≤ m → (pw (m : Int)).length = m := by decide +kernel
theorem pw_all3 : ∀ m : Nat, m < 17 → 1 ≤ m → ∀ r ∈ pw (m : Int), r.length = phn (m : Int) := by decide +kernel
theorem pw_impl (n : Int) (h0 : 1 ≤ n) (h1 : n ≤ 16) : Ev (fun k => impl_powers.f k n) (pw n) :=
  Ev.of (impl_powers.mono n) (orders (P := fun n => impl_powers.f 400 n = some (pw n)) pw_all1 n h0 h1)
theorem pw_len (n : Int) (h0 : 1 ≤ n) (h1 : n ≤ 16) : ((pw n).length : Int) = n :=
  orders (P := fun n => ((pw n).length : Int) = n) (fun m a b => by rw [pw_all2 m a b]) n h0 h1
theorem pw_row (n : Int) (h0 : 1 ≤ n) (h1 : n ≤ 16) : ∀ r ∈ pw n, r.length = phn n :=
  orders (P := fun n => ∀ r ∈ pw n, r.length = phn n) pw_all3 n h0 h1
theorem phn_bd (n : Int) (h0 : 1 ≤ n) (h1 : n ≤ 16) : 1 ≤ phn n ∧ phn n ≤ 12 :=
  orders (P := fun n => 1 ≤ phn n ∧ phn n ≤ 12) (by decide) n h0 h1
theorem rd_L1_pw (pws : List (List Int)) (i : Nat) : rd_L1 pws (i : Int) = pws.getD i [] := by simp [rd_L1]
def cmb : List Int → List Int → List (List Int) → List Int
  | out, x :: xs, r :: rs => cmb (axpy x out r) xs rs
  | out, _, _ => out
theorem with_l1 (x : Int) (out row list : List Int) (x18 x19 n ph : Int) (pws : List (List Int)) (h : row.length = out.length) (hl : out.length ≤ 1000) (r : List Int × Int × Int)
    (H : Ev (fun k => impl_field_with.l0 k (axpy x out row) list x18 (wrap64 (x19 + 1)) n ph pws) r) :
    ∀ (d i : Nat), d + i = row.length → Ev (fun k => impl_field_with.l1 k ((axpy x out row).take i ++ out.drop i) x list x18 x19 row (row.length : Int) (i : Int) n ph pws) r := by
  intro d
  induction d with
  | zero =>
    intro i hi
    have e : i = out.length := by omega
    subst e
    refine Ev.step (fun k => ?_) H
    simp only [impl_field_with.l1]
    rw [if_neg (by omega), tk_end _ _ (axpy_len x out row h)]
  | succ d ih =>
    intro i hi
    refine Ev.step (fun k => ?_) (ih (i + 1) (by omega))
    simp only [impl_field_with.l1]
    rw [if_pos (by omega), if_pos (by omega), if_pos (by omega), tk_len _ _ _ (axpy_len x out row h) (by omega), if_pos (by omega), w64 (x := (i : Int) + 1) (by omega) (by omega), tk_rd _ _ _ (axpy_len x out row h) (by omega), Int.toNat_natCast]
    rw [show wrap64 (out.getD i 0 + wrap64 (x * rd row (i : Int))) = (axpy x out row).getD i 0 by rw [axpy_get x out row h i (by omega), rd, Int.toNat_natCast], tk_set _ _ _ (axpy_len x out row h) (by omega)]
    rfl
theorem with_l0 (n ph : Int) (list : List Int) (pws : List (List Int)) (hn : (list.length : Int) = n) (hn2 : n ≤ 16) (hp : pws.length = list.length) (P : Nat) (hP : P ≤ 1000) (hr : ∀ r ∈ pws, r.length = P) :
    ∀ (d i : Nat) (out : List Int), d + i = list.length → out.length = P → Ev (fun k => impl_field_with.l0 k out list (list.length : Int) (i : Int) n ph pws) (cmb out (list.drop i) (pws.drop i), n, ph) := by
  intro d
  induction d with
  | zero =>
    intro i out hi ho
    have e : i = list.length := by omega
    subst e
    refine Ev.step (f := fun _ => some (out, n, ph)) (fun k => ?_) ?_
    · simp only [impl_field_with.l0]
      rw [if_neg (by omega)]
    · rw [List.drop_length, cmb]
      exact Ev.now _
      all_goals simp
  | succ d ih =>
    intro i out hi ho
    have hi2 : i < list.length := by omega
    have hi3 : i < pws.length := by omega
    have hrow : pws[i].length = P := hr _ (List.getElem_mem hi3)
    have ha : impl_around.f (i : Int) n = some (i : Int) := by rw [around _ _ (by omega) (by omega), Int.emod_eq_of_lt (by omega) (by omega)]
    refine Ev.step (f := fun k => impl_field_with.l1 k out list[i] list (list.length : Int) (i : Int) pws[i] (pws[i].length : Int) 0 n ph pws) (fun k => ?_) ?_
    · simp only [impl_field_with.l0]
      rw [if_pos (by omega), if_pos (by omega), if_pos (by omega), ha, Option.bind_some, if_pos (by omega), if_pos (by omega), rd_L1_pw, gE _ _ hi3, rd, Int.toNat_natCast, gE _ _ hi2]
    · have H := ih (i + 1) (axpy list[i] out pws[i]) (by omega) (by rw [axpy_len _ _ _ (by omega), ho])
      have := with_l1 list[i] out pws[i] list (list.length : Int) (i : Int) n ph pws (by omega) (by omega) (cmb out (list.drop i) (pws.drop i), n, ph) (by
        rw [w64 (x := (i : Int) + 1) (by omega) (by omega), List.drop_eq_getElem_cons hi2, List.drop_eq_getElem_cons hi3, cmb]
        exact H) pws[i].length 0 (by omega)
      simpa using this
/-- The sum of powers of z, of each so many. -/
def cnt (n : Int) (many : List Int) : List Int := cmb (List.replicate (phn n) 0) many (pw n)
theorem counted (n : Int) (many : List Int) (h0 : 1 ≤ n) (h1 : n ≤ 16) (hm : (many.length : Int) = n) : Ev (fun k => impl_counted.f k n many) (cnt n many) := by
  have hp := pw_len n h0 h1
  have hb := phn_bd n h0 h1
  have hrow := pw_row n h0 h1
  have hf : Ev (fun k => impl_fieldOf.f k n) (n, (phn n : Int), pw n) := by
    unfold impl_fieldOf.f
    refine Ev.bind (pw_impl n h0 h1) ?_
    rw [if_pos (by omega), show ((rd_L1 (pw n) 0).length : Int) = (phn n : Int) by
      have : 0 < (pw n).length := by omega
      rw [show (0 : Int) = ((0 : Nat) : Int) from rfl, rd_L1_pw, gE _ _ this, hrow _ (List.getElem_mem this)]]
    exact Ev.now _
  unfold impl_counted.f
  refine Ev.bind hf ?_
  simp only
  refine Ev.bind (a := (cnt n many, n, (phn n : Int))) ?_ (Ev.now _)
  unfold impl_field_with.f
  simp only [Int.toNat_natCast, if_pos (show 0 ≤ (phn n : Int) by omega), if_pos (show phn n ≤ 35184372088832 by omega)]
  have := with_l0 n (phn n : Int) many (pw n) hm h1 (by omega) (phn n) (by omega) hrow many.length 0 (List.replicate (phn n) 0) (by omega) (by simp)
  simpa [cnt] using this
def ix (p : Int) : List Int := if p = 3 then [-1, 0, 1] else if p = 5 then [-1, 0, 1, 3, 2] else if p = 7 then [-1, 0, 2, 1, 4, 5, 3] else if p = 11 then [-1, 0, 1, 8, 2, 4, 9, 7, 3, 6, 5] else if p = 13 then [-1, 0, 1, 4, 2, 9, 5, 11, 3, 8, 10, 7, 6] else if p = 17 then [-1, 0, 14, 1, 12, 5, 15, 11, 10, 2, 3, 7, 13, 4, 9, 6, 8] else if p = 19 then [-1, 0, 1, 13, 2, 16, 14, 6, 3, 8, 17, 12, 15, 5, 7, 11, 4, 10, 9] else if p = 23 then [-1, 0, 2, 16, 4, 1, 18, 19, 6, 10, 3, 9, 20, 14, 21, 17, 8, 7, 12, 15, 5, 13, 11] else if p = 29 then [-1, 0, 1, 5, 2, 22, 6, 12, 3, 10, 23, 25, 7, 18, 13, 27, 4, 21, 11, 9, 24, 17, 26, 20, 8, 16, 19, 15, 14] else if p = 31 then [-1, 0, 24, 1, 18, 20, 25, 28, 12, 2, 14, 23, 19, 11, 22, 21, 6, 7, 26, 4, 8, 29, 17, 27, 13, 10, 5, 3, 16, 9, 15] else if p = 37 then [-1, 0, 1, 26, 2, 23, 27, 32, 3, 16, 24, 30, 28, 11, 33, 13, 4, 7, 17, 35, 25, 22, 31, 15, 29, 10, 12, 6, 34, 21, 14, 9, 5, 20, 8, 19, 18] else if p = 41 then [-1, 0, 26, 15, 12, 22, 1, 39, 38, 30, 8, 3, 27, 31, 25, 37, 24, 33, 16, 9, 34, 14, 29, 36, 13, 4, 17, 5, 11, 7, 23, 28, 10, 18, 19, 21, 2, 32, 35, 6, 20] else if p = 43 then [-1, 0, 27, 1, 12, 25, 28, 35, 39, 2, 10, 30, 13, 32, 20, 26, 24, 38, 29, 19, 37, 36, 15, 16, 40, 8, 17, 3, 5, 41, 11, 34, 9, 31, 23, 18, 14, 7, 4, 33, 22, 6, 21] else if p = 47 then [-1, 0, 18, 20, 36, 1, 38, 32, 8, 40, 19, 7, 10, 11, 4, 21, 26, 16, 12, 45, 37, 6, 25, 5, 28, 2, 29, 14, 22, 35, 39, 3, 44, 27, 34, 33, 30, 42, 17, 31, 9, 15, 24, 13, 43, 41, 23] else if p = 53 then [-1, 0, 1, 17, 2, 47, 18, 14, 3, 34, 48, 6, 19, 24, 15, 12, 4, 10, 35, 37, 49, 31, 7, 39, 20, 42, 25, 51, 16, 46, 13, 33, 5, 23, 11, 9, 36, 30, 38, 41, 50, 45, 32, 22, 8, 29, 40, 44, 21, 28, 43, 27, 26] else if p = 59 then [-1, 0, 1, 50, 2, 6, 51, 18, 3, 42, 7, 25, 52, 45, 19, 56, 4, 40, 43, 38, 8, 10, 26, 15, 53, 12, 46, 34, 20, 28, 57, 49, 5, 17, 41, 24, 44, 55, 39, 37, 9, 14, 11, 33, 27, 48, 16, 23, 54, 36, 13, 32, 47, 22, 35, 31, 21, 30, 29] else if p = 61 then [-1, 0, 1, 6, 2, 22, 7, 49, 3, 12, 23, 15, 8, 40, 50, 28, 4, 47, 13, 26, 24, 55, 16, 57, 9, 44, 41, 18, 51, 35, 29, 59, 5, 21, 48, 11, 14, 39, 27, 46, 25, 54, 56, 43, 17, 34, 58, 20, 10, 38, 45, 53, 42, 33, 19, 37, 52, 32, 36, 31, 30] else []
def rt (p : Int) : Int := if p = 3 then 2 else if p = 5 then 2 else if p = 7 then 3 else if p = 11 then 2 else if p = 13 then 2 else if p = 17 then 3 else if p = 19 then 2 else if p = 23 then 5 else if p = 29 then 2 else if p = 31 then 3 else if p = 37 then 2 else if p = 41 then 6 else if p = 43 then 3 else if p = 47 then 5 else if p = 53 then 2 else if p = 59 then 2 else if p = 61 then 2 else 0
def ex (p n c : Int) : List Int := -1 :: ((ix p).drop 1).map fun i => i * c % n
theorem ix_run : ∀ p ∈ prs, impl_indices.f 1000 p = some (ix p, rt p) := by decide +kernel
theorem ix_all : ∀ p ∈ prs, True ∧ ((ix p).length : Int) = p ∧ (∀ i ∈ (ix p).drop 1, 0 ≤ i ∧ i ≤ 60) ∧ rd (ix p) 0 = -1 := by decide +kernel
theorem root_all : ∀ p ∈ prs, spec_l03Root.f 200 p = some (rt p) := by decide +kernel
theorem index_all : ∀ p ∈ prs, ∀ y : Nat, y < 61 → 1 ≤ y → (y : Int) < p → spec_l03Index.l0 200 p (y : Int) (rt p) 1 0 = some (rd (ix p) (y : Int)) := by decide +kernel
def okC (p n c : Int) : Bool := pr p && ((decide (1 ≤ n) && decide (n ≤ 16)) && decide ((p - 1) % n = 0)) && (decide (0 ≤ c) && decide (c ≤ n - 1))
theorem okC_iff {p n c : Int} : okC p n c = true ↔ pr p = true ∧ (1 ≤ n ∧ n ≤ 16) ∧ (p - 1) % n = 0 ∧ 0 ≤ c ∧ c ≤ n - 1 := by simp [okC, and_assoc]
theorem l03Is (p n c : Int) : Ev (fun k => spec_l03Is.f k p n c) (okC p n c) := by
  unfold spec_l03Is.f okC
  refine Ev.bind (l03Prime p) ?_
  cases hp : pr p with
  | false => simp only [Bool.false_eq_true, if_false, Bool.false_and]; exact Ev.now _
  | true =>
    have hb := pr_bd hp
    simp only [if_true, Bool.true_and]
    unfold spec_l03Order.f
    rw [l01In, Option.bind_some]
    cases hn : decide (1 ≤ n) && decide (n ≤ 16) with
    | false => simp only [Bool.false_eq_true, if_false, Bool.false_and, Option.bind_some]; exact Ev.now _
    | true =>
      have hn' : 1 ≤ n ∧ n ≤ 16 := by simpa using hn
      simp only [if_true, if_neg (show ¬ n = 0 by omega), w64 (x := p - 1) (by omega) (by omega), Int.tmod_eq_emod_of_nonneg (show 0 ≤ p - 1 by omega), Option.bind_some, Bool.true_and, l01In, w64 (x := n - 1) (by omega) (by omega)]
      cases hm : (p - 1) % n == 0 with
      | false =>
        have : ¬ (p - 1) % n = 0 := by simpa using hm
        simp only [Bool.false_eq_true, if_false, this, decide_false, Bool.false_and]
        exact Ev.now _
      | true =>
        have : (p - 1) % n = 0 := by simpa using hm
        simp only [if_true, this, decide_true, Bool.true_and]
        exact Ev.now _
theorem isCharacter (p n c : Int) (h0 : -9223372036854775808 ≤ p) (h1 : p ≤ 9223372036854775807) : Ev (fun k => impl_IsCharacter.f k p n c) (okC p n c) := by
  unfold impl_IsCharacter.f impl_areOf.f okC
  cases hp : pr p with
  | false =>
    refine Ev.bind (a := false) ?_ (by simp only [Bool.false_eq_true, if_false, Bool.false_and]; exact Ev.now _)
    refine Ev.bind (isPrime p h0 h1) ?_
    simp only [hp, Bool.false_eq_true, if_false]
    exact Ev.now _
  | true =>
    have hb := pr_bd hp
    simp only [Bool.true_and]
    cases hn : decide (1 ≤ n) && decide (n ≤ 16) with
    | false =>
      refine Ev.bind (a := false) ?_ (by simp only [Bool.false_eq_true, if_false, Bool.false_and]; exact Ev.now _)
      refine Ev.bind (isPrime p h0 h1) ?_
      simp only [hp, if_true]
      unfold impl_isOrder.f
      rw [within_, Option.bind_some, hn]
      simp only [Option.bind_some, Bool.false_eq_true, if_false]
      exact Ev.now _
    | true =>
      have hn' : 1 ≤ n ∧ n ≤ 16 := by simpa using hn
      refine Ev.bind (a := (p - 1) % n == 0) ?_ ?_
      · refine Ev.bind (isPrime p h0 h1) ?_
        simp only [hp, if_true]
        unfold impl_isOrder.f
        rw [within_, Option.bind_some, hn]
        simp only [Option.bind_some, if_true, if_neg (show ¬ n = 0 by omega), w64 (x := p - 1) (by omega) (by omega), Int.tmod_eq_emod_of_nonneg (show 0 ≤ p - 1 by omega)]
        exact Ev.now _
      · cases hm : (p - 1) % n == 0 with
        | false =>
          have : ¬ (p - 1) % n = 0 := by simpa using hm
          simp only [Bool.false_eq_true, if_false, this, decide_false, Bool.and_false, Bool.false_and]
          exact Ev.now _
        | true =>
          have : (p - 1) % n = 0 := by simpa using hm
          simp only [if_true, this, decide_true, Bool.true_and, within_, w64 (x := n - 1) (by omega) (by omega), Option.bind_some]
          exact Ev.now _
theorem ix_impl (p : Int) (hp : pr p = true) : Ev (fun k => impl_indices.f k p) (ix p, rt p) := Ev.of (impl_indices.mono p) (ix_run p (pr_iff.mp hp))
theorem ex_len (p n c : Int) (hp : pr p = true) : ((ex p n c).length : Int) = p := by
  have := (ix_all p (pr_iff.mp hp)).2.1
  have := pr_bd hp
  simp only [ex, List.length_cons, List.length_map, List.length_drop]
  omega
theorem ex_bd (p n c : Int) (hn : 1 ≤ n) : ∀ e ∈ ex p n c, -1 ≤ e ∧ e < n := by
  intro e he
  simp only [ex, List.mem_cons, List.mem_map] at he
  rcases he with rfl | ⟨i, _, rfl⟩
  · omega
  · have := Int.emod_nonneg (i * c) (show n ≠ 0 by omega)
    have := Int.emod_lt_of_pos (i * c) (show 0 < n by omega)
    omega
theorem ex_get (p n c : Int) (hp : pr p = true) (hn : 1 ≤ n) (y : Nat) (hy : 1 ≤ y) (hy2 : (y : Int) < p) : (ex p n c).getD y 0 = rd (ix p) (y : Int) * c % n ∧ 0 ≤ (ex p n c).getD y 0 ∧ 0 ≤ rd (ix p) (y : Int) ∧ rd (ix p) (y : Int) ≤ 60 := by
  have hl := (ix_all p (pr_iff.mp hp)).2.1
  have hy3 : y < (ix p).length := by omega
  have hy4 : y - 1 < ((ix p).drop 1).length := by rw [List.length_drop]; omega
  have e1 : (ex p n c).getD y 0 = (ix p)[y] * c % n := by
    obtain ⟨z, rfl⟩ : ∃ z, y = z + 1 := ⟨y - 1, by omega⟩
    rw [ex, List.getD_cons_succ, gE _ _ (by rw [List.length_map]; exact hy4), List.getElem_map, List.getElem_drop]
    simp [Nat.add_comm]
  have e2 : rd (ix p) (y : Int) = (ix p)[y] := by rw [rd, Int.toNat_natCast, gE _ _ hy3]
  have hm : (ix p)[y] ∈ (ix p).drop 1 := by
    refine List.mem_iff_getElem.mpr ⟨y - 1, hy4, ?_⟩
    rw [List.getElem_drop]
    congr 1
    omega
  have hb := (ix_all p (pr_iff.mp hp)).2.2.1 _ hm
  rw [e1, e2]
  exact ⟨rfl, Int.emod_nonneg _ (by omega), hb.1, hb.2⟩
theorem exponent (p n c : Int) (hp : pr p = true) (hn : 1 ≤ n ∧ n ≤ 16) (hc : 0 ≤ c ∧ c ≤ 15) (y : Nat) (hy : 1 ≤ y) (hy2 : (y : Int) < p) : Ev (fun k => spec_l03Exponent.f k p n c (y : Int)) ((ex p n c).getD y 0) := by
  have hb := pr_bd hp
  obtain ⟨e1, _, e3, e4⟩ := ex_get p n c hp hn.1 y hy hy2
  unfold spec_l03Exponent.f
  have ht : Int.tmod (y : Int) p = (y : Int) := by rw [Int.tmod_eq_emod_of_nonneg (by omega), Int.emod_eq_of_lt (by omega) (by omega)]
  have ht2 : Int.tmod (wrap64 ((y : Int) + p)) p = (y : Int) := by
    rw [w64 (by omega) (by omega), Int.tmod_eq_emod_of_nonneg (by omega), Int.add_emod_right, Int.emod_eq_of_lt (by omega) (by omega)]
  simp only [ht, if_neg (show ¬ p = 0 by omega), if_neg (show ¬ (y : Int) = 0 by omega)]
  have hi : Ev (fun k => spec_l03Index.f k p (y : Int)) (rd (ix p) (y : Int)) := by
    unfold spec_l03Index.f
    refine Ev.bind (Ev.of (spec_l03Root.mono p) (root_all p (pr_iff.mp hp))) ?_
    simp only [ht, ht2, if_neg (show ¬ p = 0 by omega)]
    exact Ev.of (fun k => spec_l03Index.mono_l k _ _ _ _ _) (index_all p (pr_iff.mp hp) y (by omega) hy hy2)
  refine Ev.bind hi ?_
  have h5 : 0 ≤ rd (ix p) (y : Int) * c := Int.mul_nonneg e3 hc.1
  have h6 : rd (ix p) (y : Int) * c ≤ 60 * 15 := Int.mul_le_mul e4 hc.2 hc.1 (by omega)
  rw [if_neg (show ¬ n = 0 by omega), w64 (by omega) (by omega), Int.tmod_eq_emod_of_nonneg h5, ← e1]
  exact Ev.now _
theorem exponents_l0 (p n c : Int) (hp : pr p = true) (hn : 1 ≤ n ∧ n ≤ 16) (hc : 0 ≤ c ∧ c ≤ 15) : ∀ (d i : Nat), d + i = (ix p).length → 1 ≤ i → Ev (fun k => impl_exponents.l0 k ((ex p n c).take i ++ (ix p).drop i) ((ix p).length : Int) (i : Int) p n c) (ex p n c) := by
  have hl := (ix_all p (pr_iff.mp hp)).2.1
  have hb := pr_bd hp
  have hx := ex_len p n c hp
  have hx2 : (ex p n c).length = (ix p).length := by omega
  intro d
  induction d with
  | zero =>
    intro i hi h1
    have e : i = (ix p).length := by omega
    subst e
    refine Ev.step (f := fun _ => some (ex p n c)) (fun k => ?_) (Ev.now _)
    simp only [impl_exponents.l0]
    rw [if_neg (by omega), tk_end _ _ hx2]
  | succ d ih =>
    intro i hi h1
    obtain ⟨e1, _, e3, e4⟩ := ex_get p n c hp hn.1 i h1 (by omega)
    have h5 : 0 ≤ rd (ix p) (i : Int) * c := Int.mul_nonneg e3 hc.1
    have h6 : rd (ix p) (i : Int) * c ≤ 60 * 15 := Int.mul_le_mul e4 hc.2 hc.1 (by omega)
    have e5 : (ix p).getD i 0 = rd (ix p) (i : Int) := by rw [rd, Int.toNat_natCast]
    refine Ev.step (fun k => ?_) (ih (i + 1) (by omega) (by omega))
    simp only [impl_exponents.l0]
    rw [if_pos (by omega), if_pos (by omega), tk_len _ _ _ hx2 (by omega), if_pos (by omega), if_pos (by omega), if_neg (show ¬ n = 0 by omega), w64 (x := (i : Int) + 1) (by omega) (by omega), tk_rd _ _ _ hx2 (by omega), Int.toNat_natCast, e5, w64 (by omega) (by omega), Int.tmod_eq_emod_of_nonneg h5, ← e1, tk_set _ _ _ hx2 (by omega)]
    rfl
theorem exponents (p n c : Int) (hp : pr p = true) (hn : 1 ≤ n ∧ n ≤ 16) (hc : 0 ≤ c ∧ c ≤ 15) : Ev (fun k => impl_exponents.f k p n c) (ex p n c) := by
  have hl := (ix_all p (pr_iff.mp hp)).2.1
  have hb := pr_bd hp
  have h0 := (ix_all p (pr_iff.mp hp)).2.2.2
  unfold impl_exponents.f
  refine Ev.bind (ix_impl p hp) ?_
  refine Ev.step (fun k => ?_) (exponents_l0 p n c hp hn hc ((ix p).length - 1) 1 (by omega) (by omega))
  simp only [impl_exponents.l0]
  rw [if_pos (by omega), if_pos (by omega), if_pos (by omega), if_neg (by omega), w64 (x := (0 : Int) + 1) (by omega) (by omega)]
  congr 1
  have h1 : 0 < (ix p).length := by omega
  rw [rd, Int.toNat_zero, gE _ _ h1] at h0
  have : ix p = (-1) :: (ix p).drop 1 := by
    conv => lhs; rw [← List.drop_zero (l := ix p), List.drop_eq_getElem_cons h1, h0]
  conv => lhs; rw [this]
  simp [ex]
theorem pw_get (n e : Int) (h0 : 1 ≤ n) (h1 : n ≤ 16) (he : 0 ≤ e ∧ e < n) : (pw n).getD e.toNat [] ∈ pw n := by
  have := pw_len n h0 h1
  rw [gE _ _ (by omega)]
  exact List.getElem_mem _
theorem zero01 (n : Int) (h0 : 1 ≤ n) (h1 : n ≤ 16) : Ev (fun k => spec_l01Zero.f k n) (n, List.replicate (phn n) 0) := by
  have := phn_bd n h0 h1
  unfold spec_l01Zero.f
  refine Ev.bind (phi_spec n h0 h1) ?_
  have e : phi n = (phn n : Int) := by unfold phn at this ⊢; omega
  rw [e, if_pos (by omega), if_pos (by omega), Int.toNat_natCast]
  exact Ev.now _
def unitOk (n e : Nat) : Bool := decide (spec_l01Unit.f 400 (n : Int) (e : Int) = some ((n : Int), (pw (n : Int)).getD e []))
theorem unit_all : ∀ n : Nat, n < 17 → 1 ≤ n → ∀ e : Nat, e < n → unitOk n e = true := by decide +kernel
theorem unit01 (n e : Int) (h0 : 1 ≤ n) (h1 : n ≤ 16) (he : 0 ≤ e ∧ e < n) : Ev (fun k => spec_l01Unit.f k n e) (n, (pw n).getD e.toNat []) := by
  have := of_decide_eq_true (unit_all n.toNat (by omega) (by omega) e.toNat (by omega))
  rw [Int.toNat_of_nonneg (by omega), Int.toNat_of_nonneg (by omega)] at this
  exact Ev.of (spec_l01Unit.mono n e) this
theorem at03 (p n c : Int) (hp : pr p = true) (hn : 1 ≤ n ∧ n ≤ 16) (hc : 0 ≤ c ∧ c ≤ 15) (y : Nat) (hy : 1 ≤ y) (hy2 : (y : Int) < p) : Ev (fun k => spec_l03At.f k p n c (y : Int)) (n, (pw n).getD ((ex p n c).getD y 0).toNat []) := by
  have hx := ex_len p n c hp
  obtain ⟨_, e2, _, _⟩ := ex_get p n c hp hn.1 y hy hy2
  have hb : (ex p n c).getD y 0 < n := by
    rw [gE _ _ (by omega)]
    exact (ex_bd p n c hn.1 _ (List.getElem_mem _)).2
  unfold spec_l03At.f
  refine Ev.bind (exponent p n c hp hn hc y hy hy2) ?_
  simp only [if_neg (show ¬ (ex p n c).getD y 0 < 0 by omega)]
  exact Ev.bind (unit01 n _ hn.1 hn.2 ⟨e2, hb⟩) (Ev.now _)
theorem red (x p : Int) (h0 : 3 ≤ p) (h1 : p ≤ 61) : Int.tmod (wrap64 ((Int.tmod x p) + p)) p = x % p := by
  have := around x p (by omega) (by omega)
  unfold impl_around.f at this
  rw [if_neg (by omega)] at this
  exact Option.some.inj this
def vl (p n c x : Int) : List Int := if x % p = 0 then List.replicate (phn n) 0 else (pw n).getD ((ex p n c).getD (x % p).toNat 0).toNat []
theorem at_gen (p n c x : Int) (hp : pr p = true) (hn : 1 ≤ n ∧ n ≤ 16) (hc : 0 ≤ c ∧ c ≤ 15) : Ev (fun k => spec_l03At.f k p n c x) (n, vl p n c x) := by
  have hb := pr_bd hp
  have hm0 := Int.emod_nonneg x (show p ≠ 0 by omega)
  have hm1 := Int.emod_lt_of_pos x (show 0 < p by omega)
  by_cases h : x % p = 0
  · have ht : Int.tmod x p = 0 := Int.tmod_eq_zero_of_dvd (Int.dvd_of_emod_eq_zero h)
    unfold spec_l03At.f vl
    rw [if_pos h]
    refine Ev.bind (a := -1) ?_ ?_
    · unfold spec_l03Exponent.f
      simp only [if_neg (show ¬ p = 0 by omega), if_pos ht]
      exact Ev.now _
    · simp only [show (-1 : Int) < 0 by decide, if_true]
      exact Ev.bind (zero01 n hn.1 hn.2) (Ev.now _)
  · obtain ⟨y, hy⟩ : ∃ y : Nat, x % p = y := ⟨(x % p).toNat, by omega⟩
    have key := at03 p n c hp hn hc y (by omega) (by omega)
    have ht : ¬ Int.tmod x p = 0 := fun e => h (Int.emod_eq_zero_of_dvd (Int.dvd_of_tmod_eq_zero e))
    have hty : ¬ Int.tmod (y : Int) p = 0 := by rw [Int.tmod_eq_emod_of_nonneg (by omega), Int.emod_eq_of_lt (by omega) (by omega)]; omega
    unfold vl
    rw [if_neg h, hy, Int.toNat_natCast]
    refine Ev.congr (fun k => ?_) key
    unfold spec_l03At.f spec_l03Exponent.f spec_l03Index.f
    rw [red x p hb.1 hb.2, red (y : Int) p hb.1 hb.2, hy, Int.emod_eq_of_lt (show 0 ≤ (y : Int) by omega) (by omega), if_neg ht, if_neg hty]
def out (p n c x : Int) : Int × List Int × Int := if okC p n c then (if (decide (-1000000 ≤ x) && decide (x ≤ 1000000)) = true then (n, vl p n c x, 0) else (0, [], 2)) else (0, [], 1)
theorem spec_out (p n c x : Int) : Ev (fun k => spec_CharacterAt.f k p n c x) (out p n c x) := by
  unfold spec_CharacterAt.f out
  refine Ev.bind (l03Is p n c) ?_
  cases h : okC p n c with
  | false => simp only [Bool.false_eq_true, if_false]; exact Ev.now _
  | true =>
    obtain ⟨hp, hn, _, hc0, hc1⟩ := okC_iff.mp h
    simp only [if_true]
    refine ev_bind_const (l01In _ _ _) ?_
    cases hx : decide (-1000000 ≤ x) && decide (x ≤ 1000000) with
    | false => simp only [Bool.false_eq_true, if_false]; exact Ev.now _
    | true =>
      simp only [if_true]
      exact Ev.bind (at_gen p n c x hp hn ⟨hc0, by omega⟩) (Ev.now _)
def oneOk (n e : Nat) : Bool := decide (cnt (n : Int) ((List.replicate n 0).set e 1) = (pw (n : Int)).getD e [])
theorem one_all : ∀ n : Nat, n < 17 → 1 ≤ n → (∀ e : Nat, e < n → oneOk n e = true) ∧ cnt (n : Int) (List.replicate n 0) = List.replicate (phn (n : Int)) 0 := by decide +kernel
theorem impl_out (p n c x : Int) (h0 : -9223372036854775808 ≤ p) (h1 : p ≤ 9223372036854775807) : Ev (fun k => impl_CharacterAt.f k p n c x) (out p n c x) := by
  unfold impl_CharacterAt.f out
  refine Ev.bind (isCharacter p n c h0 h1) ?_
  cases h : okC p n c with
  | false => simp only [Bool.false_eq_true, if_false]; exact Ev.now _
  | true =>
    obtain ⟨hp, hn, _, hc0, hc1⟩ := okC_iff.mp h
    have hb := pr_bd hp
    simp only [if_true]
    refine ev_bind_const (within_ _ _ _) ?_
    cases hx : decide (-1000000 ≤ x) && decide (x ≤ 1000000) with
    | false => simp only [Bool.false_eq_true, if_false]; exact Ev.now _
    | true =>
      simp only [if_true, if_pos (show 0 ≤ n by omega), if_pos (show n.toNat ≤ 35184372088832 by omega), Option.bind_some]
      have hl := ex_len p n c hp
      have hm0 := Int.emod_nonneg x (show p ≠ 0 by omega)
      have hm1 := Int.emod_lt_of_pos x (show 0 < p by omega)
      refine Ev.bind (exponents p n c hp hn ⟨hc0, by omega⟩) (ev_bind_const (around x p (by omega) (by omega)) ?_)
      simp only [if_pos hm0, if_pos (show x % p < ((ex p n c).length : Int) by omega)]
      obtain ⟨o1, o2⟩ := one_all n.toNat (by omega) (by omega)
      rw [Int.toNat_of_nonneg (by omega)] at o2
      obtain ⟨y, hy⟩ : ∃ y : Nat, x % p = y := ⟨(x % p).toNat, by omega⟩
      have er : rd (ex p n c) (x % p) = (ex p n c).getD y 0 := by rw [hy]; simp [rd]
      by_cases hz : x % p = 0
      · have e0 : (ex p n c).getD y 0 = -1 := by rw [show y = 0 by omega]; rfl
        simp only [er, e0, if_neg (show ¬ (-1 : Int) ≥ 0 by decide)]
        refine Ev.bind (counted n (List.replicate n.toNat 0) hn.1 hn.2 (by simp; omega)) ?_
        rw [o2]
        unfold vl
        rw [if_pos hz]
        exact Ev.now _
      · obtain ⟨_, e2, _, _⟩ := ex_get p n c hp hn.1 y (by omega) (by omega)
        have hbd : (ex p n c).getD y 0 < n := by
          rw [gE _ _ (by omega)]
          exact (ex_bd p n c hn.1 _ (List.getElem_mem _)).2
        simp only [er, if_pos (show (ex p n c).getD y 0 ≥ 0 from e2), if_pos e2, List.length_replicate, if_pos (show (ex p n c).getD y 0 < ((n.toNat : Nat) : Int) by omega)]
        refine Ev.bind (counted n ((List.replicate n.toNat 0).set ((ex p n c).getD y 0).toNat 1) hn.1 hn.2 (by simp; omega)) ?_
        have o3 := o1 ((ex p n c).getD y 0).toNat (by omega)
        unfold oneOk at o3
        have o4 := of_decide_eq_true o3
        rw [Int.toNat_of_nonneg (show 0 ≤ n by omega)] at o4
        rw [o4]
        unfold vl
        rw [if_neg hz, hy, Int.toNat_natCast]
        exact Ev.now _
theorem out_len (p n c x : Int) : (out p n c x).2.1.length ≤ 1048576 := by
  unfold out
  cases h : okC p n c with
  | false => simp
  | true =>
    obtain ⟨hp, hn, _, hc0, hc1⟩ := okC_iff.mp h
    have hb := pr_bd hp
    have hph := phn_bd n hn.1 hn.2
    simp only [if_true]
    split
    · show (vl p n c x).length ≤ 1048576
      unfold vl
      split
      · simp; omega
      · rename_i hz
        have hm0 := Int.emod_nonneg x (show p ≠ 0 by omega)
        have hm1 := Int.emod_lt_of_pos x (show 0 < p by omega)
        obtain ⟨_, e2, _, _⟩ := ex_get p n c hp hn.1 (x % p).toNat (by omega) (by omega)
        have hl := ex_len p n c hp
        have hbd : (ex p n c).getD (x % p).toNat 0 < n := by
          rw [gE _ _ (by omega)]
          exact (ex_bd p n c hn.1 _ (List.getElem_mem _)).2
        have := (pw_row n hn.1 hn.2 _ (pw_get n _ hn.1 hn.2 ⟨e2, hbd⟩))
        omega
    · simp
theorem FnExactCharacterAt : laws_FnExactCharacterAt.Pure := by
  intro p n c x hp _ _ _
  apply Ev.rounds
  have hp2 := wf64 hp
  obtain ⟨⟨m, l, e⟩, ho⟩ : ∃ o, o = out p n c x := ⟨_, rfl⟩
  have hs := spec_out p n c x
  have hi := impl_out p n c x hp2.1 hp2.2
  have hl := out_len p n c x
  rw [← ho] at hs hi hl
  unfold laws_FnExactCharacterAt.f laws_toCharacter.f
  simp only [Option.bind_some]
  refine Ev.bind hs (Ev.bind hi (Ev.bind (eqCyclo _ _ _ _ hl) ?_))
  simp only [and_self, decide_true, if_true, bne_self_eq_false]
  refine Ev.step (fun k => by simp only [laws_FnExactCharacterAt.j0, Bool.false_eq_true, if_false, laws_toCharacter.f, Option.bind_some] <;> rfl) ?_
  refine Ev.bind (markCyclo m l hl) (Ev.bind (heldCyclo m l.length hl) ?_)
  simp only [if_neg (show ¬ (1 + (l.length : Int) < 0) by omega), if_true]
  refine Ev.bind hi (Ev.bind (eqCyclo _ _ _ _ hl) ?_)
  simp only [and_self, decide_true, if_true, bne_self_eq_false]
  refine Ev.step (fun k => by simp only [laws_FnExactCharacterAt.j1, Bool.false_eq_true, if_false] <;> rfl) ?_
  refine Ev.bind (heldCyclo m l.length hl) ?_
  simp only [if_neg (show ¬ (1 + (l.length : Int) < 0) by omega), if_true]
  exact Ev.now _
end Go.Proofs.Ytghlmdjedpnglaa.Pure
