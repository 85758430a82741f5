/- The program's SizeOf returns what the reference's returns, for all arguments; no condition. -/
import Derived.Test.YthljmbobccaalaaPFnExactSizeOfx14
import Derived.OpenShut
import Derived.Test.YthljmbobccaalaaFlt
namespace Go.Proofs.Ythljmbobccaalaa.Pure
open Go.RowKit Go.Proofs.Ythljmbobccaalaa.PFnExactSizeOf Go.Proofs.YthljmbobccaalaaW.PrintWords Go.Proofs.YthljmbobccaalaaW.PrintLast Go.Proofs.YthljmbobccaalaaW.PrintMore
set_option linter.unusedVariables false
set_option linter.unusedSimpArgs false
theorem w64 {x : Int} (h0 : -9223372036854775808 ≤ x) (h1 : x ≤ 9223372036854775807) : wrap64 x = x := by unfold wrap64; omega
theorem ev_bind_const {α β : Type} {o : Option α} {a : α} {f : Nat → α → Option β} {r : β} (h : o = some a) (k : Ev (fun n => f n a) r) : Ev (fun n => o.bind (f n)) r := by
  subst h; exact k
theorem toInts_l0 (l : List Int) (hl : l.length ≤ 1048576) : ∀ (d : Nat) (ys : List Int) (i : Nat), d + i = l.length → ys.length = l.length → ys.take i = l.take i → Ev (fun k => laws_toInt64S.l0 k l ys (i : Int)) l := by
  intro d
  induction d with
  | zero =>
    intro ys i hd hy ht
    have : i = l.length := by omega
    subst this
    refine Ev.step (f := fun _ => some l) (fun k => ?_) (Ev.now _)
    simp only [laws_toInt64S.l0]
    rw [if_neg (by omega)]
    rw [List.take_of_length_le (by omega), List.take_of_length_le (by omega)] at ht
    rw [ht]
  | succ d ih =>
    intro ys i hd hy ht
    refine Ev.step (f := fun k => laws_toInt64S.l0 k l (ys.set i (rd l (i : Int))) ((i + 1 : Nat) : Int)) (fun k => ?_) (ih _ _ (by omega) (by simp [hy]) ?_)
    · simp only [laws_toInt64S.l0]
      rw [if_pos (by omega), if_pos (by omega), if_pos (by omega), w64 (by omega) (by omega)]
      rfl
    · have hi : i < l.length := by omega
      rw [List.take_succ_eq_append_getElem (by simpa [hy] using hi), List.take_succ_eq_append_getElem hi, List.take_set_of_le (Nat.le_refl _), ht]
      simp [rd, hi]
theorem toInts (l : List Int) (hl : l.length ≤ 1048576) : Ev (fun k => laws_toInt64S.f k l) l := by
  have h := toInts_l0 l hl l.length (List.replicate l.length 0) 0 (by omega) (by simp) (by simp)
  refine Ev.congr (fun k => ?_) h
  unfold laws_toInt64S.f
  rw [if_pos (by omega), if_pos (by omega)]
  simp
theorem toCyclo (n : Int) (l : List Int) (hl : l.length ≤ 1048576) : Ev (fun k => laws_toCyclo.f k n l) (n, l) :=
  Ev.bind (toInts l hl) (Ev.now _)
theorem eqInts_l0 (l m : List Int) (hl : l.length ≤ 1048576) (hm : m.length = l.length) : ∀ (d i : Nat), d + i = l.length → Ev (fun k => laws_eqInt64S.l0 k l m (i : Int)) (decide (l.drop i = m.drop i)) := by
  intro d
  induction d with
  | zero =>
    intro i hd
    refine Ev.step (f := fun _ => some (decide (l.drop i = m.drop i))) (fun k => ?_) (Ev.now _)
    simp only [laws_eqInt64S.l0]
    rw [if_neg (by omega), List.drop_of_length_le (by omega), List.drop_of_length_le (by omega)]
    simp
  | succ d ih =>
    intro i hd
    have hi : i < l.length := by omega
    have hi2 : i < m.length := by omega
    have e1 : rd l (i : Int) = l[i] := by simp [rd, hi]
    have e2 : rd m (i : Int) = m[i] := by simp [rd, hi2]
    by_cases he : l[i] = m[i]
    · refine Ev.step (f := fun k => laws_eqInt64S.l0 k l m ((i + 1 : Nat) : Int)) (fun k => ?_) ?_
      · simp only [laws_eqInt64S.l0]
        rw [if_pos (by omega), if_pos (by omega), if_pos (by omega), e1, e2, if_pos he, w64 (by omega) (by omega)]
        rfl
      · have e : decide (l.drop i = m.drop i) = decide (l.drop (i + 1) = m.drop (i + 1)) := by
          rw [List.drop_eq_getElem_cons hi, List.drop_eq_getElem_cons hi2]
          simp only [List.cons.injEq, he, true_and]
        rw [e]
        exact ih (i + 1) (by omega)
    · refine Ev.step (f := fun _ => some false) (fun k => ?_) ?_
      · simp only [laws_eqInt64S.l0]
        rw [if_pos (by omega), if_pos (by omega), if_pos (by omega), e1, e2, if_neg he]
      · have e : decide (l.drop i = m.drop i) = false := by
          rw [List.drop_eq_getElem_cons hi, List.drop_eq_getElem_cons hi2]
          simp only [List.cons.injEq, he, false_and, decide_false]
        rw [e]
        exact Ev.now _
theorem eqInts (l m : List Int) (hl : l.length ≤ 1048576) : Ev (fun k => laws_eqInt64S.f k l m) (decide (l = m)) := by
  by_cases h : m.length = l.length
  · have := eqInts_l0 l m hl h l.length 0 (by omega)
    refine Ev.congr (fun k => ?_) (by simpa using this)
    unfold laws_eqInt64S.f
    rw [if_pos (by omega)]
  · have hne : l ≠ m := fun e => h (by rw [e])
    rw [decide_eq_false hne]
    refine Ev.congr (fun k => ?_) (Ev.now _)
    unfold laws_eqInt64S.f
    rw [if_neg (by omega)]
theorem eqCyclo (n n' : Int) (l l' : List Int) (hl : l.length ≤ 1048576) : Ev (fun k => laws_eqCyclo.f k n l n' l') (decide (n = n' ∧ l = l')) := by
  unfold laws_eqCyclo.f
  by_cases h : n = n'
  · simp only [if_pos h]
    refine Ev.bind (eqInts l l' hl) ?_
    by_cases h2 : l = l' <;> simp [h, h2] <;> exact Ev.now _
  · simp only [if_neg h]
    simp [h]
    exact Ev.now _
def phi (n : Int) : Int := [0, 1, 1, 2, 2, 4, 2, 6, 4, 6, 4, 10, 4, 12, 6, 8, 8].getD n.toNat 0
theorem orders {P : Int → Prop} (h : ∀ m : Nat, m < 17 → 1 ≤ m → P m) (n : Int) (h0 : 1 ≤ n) (h1 : n ≤ 16) : P n := by
  have := h n.toNat (by omega) (by omega)
  rwa [Int.toNat_of_nonneg (by omega)] at this
theorem phi_spec (n : Int) (h0 : 1 ≤ n) (h1 : n ≤ 16) : Ev (fun k => spec_l01Phi.f k n) (phi n) := by
  have key : ∀ m : Nat, m < 17 → 1 ≤ m → spec_l01Phi.f 60 (m : Int) = some (phi m) := by decide +kernel
  exact Ev.of (spec_l01Phi.mono n) (orders (P := fun n => spec_l01Phi.f 60 n = some (phi n)) key n h0 h1)
theorem phi_impl (n : Int) (h0 : 1 ≤ n) (h1 : n ≤ 16) : Ev (fun k => impl_totient.f k n) (phi n) := by
  have key : ∀ m : Nat, m < 17 → 1 ≤ m → impl_totient.f 60 (m : Int) = some (phi m) := by decide +kernel
  exact Ev.of (impl_totient.mono n) (orders (P := fun n => impl_totient.f 60 n = some (phi n)) key n h0 h1)
theorem l01In (a b c : Int) : spec_l01In.f a b c = some (decide (b ≤ a) && decide (a ≤ c)) := by
  unfold spec_l01In.f
  by_cases h : a ≥ b
  · rw [if_pos h]; simp [h]
  · rw [if_neg h]; simp [h]
theorem within_ (a b c : Int) : impl_within.f a b c = some (decide (b ≤ a) && decide (a ≤ c)) := by
  unfold impl_within.f
  by_cases h : b ≤ a
  · rw [if_pos h]; simp [h]
  · rw [if_neg h]; simp [h]
def inP (m : Int) (x : Int) : Bool := decide (-m ≤ x) && decide (x ≤ m)
theorem fits_l0 (n : Int) (l : List Int) (hl : l.length ≤ 1048576) : ∀ (d i : Nat), d + i = l.length → Ev (fun k => spec_l01Fits.l0 k (i : Int) n l) ((l.drop i).all (inP 1000000000)) := by
  intro d
  induction d with
  | zero =>
    intro i hd
    refine Ev.step (f := fun _ => some ((l.drop i).all (inP 1000000000))) (fun k => ?_) (Ev.now _)
    simp only [spec_l01Fits.l0]
    rw [if_neg (by omega), List.drop_of_length_le (by omega)]
    rfl
  | succ d ih =>
    intro i hd
    have hi : i < l.length := by omega
    have e1 : rd l (i : Int) = l[i] := by simp [rd, hi]
    rw [List.drop_eq_getElem_cons hi, List.all_cons]
    cases hp : inP 1000000000 l[i] with
    | true =>
      refine Ev.step (f := fun k => spec_l01Fits.l0 k ((i + 1 : Nat) : Int) n l) (fun k => ?_) (by simpa using ih (i + 1) (by omega))
      simp only [spec_l01Fits.l0]
      rw [if_pos (by omega), if_pos (by omega), e1, l01In, Option.bind_some, if_pos (by simpa [inP] using hp), w64 (by omega) (by omega)]
      rfl
    | false =>
      refine Ev.step (f := fun _ => some false) (fun k => ?_) (by simpa using Ev.now _)
      simp only [spec_l01Fits.l0]
      rw [if_pos (by omega), if_pos (by omega), e1, l01In, Option.bind_some, if_neg (by simp [inP] at hp ⊢; omega)]
theorem fits01 (n : Int) (l : List Int) (hl : l.length ≤ 1048576) : Ev (fun k => spec_l01Fits.f k n l) (l.all (inP 1000000000)) := by
  have := fits_l0 n l hl l.length 0 (by omega)
  unfold spec_l01Fits.f
  simpa using this
theorem areSmall (l : List Int) (m : Int) (h0 : 0 ≤ m) (h1 : m ≤ 9223372036854775807) : impl_areSmall.f l m = some (l.all (inP m)) := by
  unfold impl_areSmall.f
  rw [w64 (by omega) (by omega)]
  rfl
def isC (n : Int) (l : List Int) : Bool := decide (1 ≤ n) && decide (n ≤ 16) && decide ((l.length : Int) = phi n) && l.all (inP 1000000000)
theorem l01Is (n : Int) (l : List Int) (hl : l.length ≤ 1048576) : Ev (fun k => spec_l01Is.f k n l) (isC n l) := by
  unfold spec_l01Is.f
  refine ev_bind_const (l01In _ _ _) ?_
  by_cases h : 1 ≤ n ∧ n ≤ 16
  · rw [show (decide (1 ≤ n) && decide (n ≤ 16)) = true by simp [h]]
    simp only [if_true]
    refine Ev.bind (phi_spec n h.1 h.2) ?_
    by_cases h2 : (l.length : Int) = phi n
    · simp only [if_pos h2]
      refine Ev.bind (fits01 n l hl) ?_
      have : isC n l = l.all (inP 1000000000) := by simp [isC, h, h2]
      rw [this]
      exact Ev.now _
    · simp only [if_neg h2]
      have : isC n l = false := by simp [isC, h, h2]
      rw [this]
      exact Ev.now _
  · have e : (decide (1 ≤ n) && decide (n ≤ 16)) = false := by simp; omega
    rw [e]
    have : isC n l = false := by simp [isC, e]
    rw [this]
    exact Ev.now _
theorem isCyclo (n : Int) (l : List Int) : Ev (fun k => impl_IsCyclo.f k n l) (isC n l) := by
  unfold impl_IsCyclo.f impl_isOrder.f
  refine ev_bind_const (a := decide (1 ≤ n) && decide (n ≤ 16)) (by rw [within_]; rfl) ?_
  by_cases h : 1 ≤ n ∧ n ≤ 16
  · rw [show (decide (1 ≤ n) && decide (n ≤ 16)) = true by simp [h]]
    simp only [if_true]
    refine Ev.bind (phi_impl n h.1 h.2) ?_
    by_cases h2 : (l.length : Int) = phi n
    · simp only [if_pos h2]
      have : isC n l = l.all (inP 1000000000) := by simp [isC, h, h2]
      rw [this, areSmall _ _ (by omega) (by omega)]
      exact Ev.now _
    · simp only [if_neg h2]
      have : isC n l = false := by simp [isC, h, h2]
      rw [this]
      exact Ev.now _
  · have e : (decide (1 ≤ n) && decide (n ≤ 16)) = false := by simp; omega
    rw [e]
    have : isC n l = false := by simp [isC, e]
    rw [this]
    exact Ev.now _
theorem inP_iff {m x : Int} : inP m x = true ↔ -m ≤ x ∧ x ≤ m := by simp [inP]
theorem mul_bd {a b A B : Int} (ha : -A ≤ a ∧ a ≤ A) (hb : -B ≤ b ∧ b ≤ B) : -(A * B) ≤ a * b ∧ a * b ≤ A * B := by
  have h : (a * b).natAbs ≤ A.toNat * B.toNat := by rw [Int.natAbs_mul]; exact Nat.mul_le_mul (by omega) (by omega)
  have h2 : ((A.toNat * B.toNat : Nat) : Int) = A * B := by rw [Int.natCast_mul, Int.toNat_of_nonneg (by omega), Int.toNat_of_nonneg (by omega)]
  omega
def cyc (n : Int) : List Int := [[], [-1, 1], [1, 1], [1, 1, 1], [1, 0, 1], [1, 1, 1, 1, 1], [1, -1, 1], [1, 1, 1, 1, 1, 1, 1], [1, 0, 0, 0, 1], [1, 0, 0, 1, 0, 0, 1], [1, -1, 1, -1, 1], [1, 1, 1, 1, 1, 1, 1, 1, 1, 1, 1], [1, 0, -1, 0, 1], [1, 1, 1, 1, 1, 1, 1, 1, 1, 1, 1, 1, 1], [1, -1, 1, -1, 1, -1, 1], [1, -1, 0, 1, -1, 1, 0, -1, 1], [1, 0, 0, 0, 0, 0, 0, 0, 1]].getD n.toNat []
theorem cyc_spec (n : Int) (h0 : 1 ≤ n) (h1 : n ≤ 16) : Ev (fun k => spec_l01Cyclotomic.f k n) (cyc n) := by
  have key : ∀ m : Nat, m < 17 → 1 ≤ m → spec_l01Cyclotomic.f 400 (m : Int) = some (cyc m) := by decide +kernel
  exact Ev.of (spec_l01Cyclotomic.mono n) (orders (P := fun n => spec_l01Cyclotomic.f 400 n = some (cyc n)) key n h0 h1)
def hv (cs : List Int) (r q : Int) : Int := cs.foldr (fun c out => (out * r + c) % q) 0
theorem tmod_emod (c q : Int) (hq : 0 < q) : (Int.tmod c q) % q = c % q := by
  rw [Int.tmod_eq_emod]
  split <;> simp
  rw [Int.sub_emod]
  simp [Int.natAbs_of_nonneg (Int.le_of_lt hq)]
theorem around (a m : Int) (hm : 0 < m) (hm2 : m ≤ 1000000000000) : impl_around.f a m = some (a % m) := by
  unfold impl_around.f
  have h1 := Int.tmod_lt_of_pos a hm
  have h2 := Int.lt_tmod_of_pos a hm
  rw [if_neg (by omega), w64 (by omega) (by omega), Int.tmod_eq_emod_of_nonneg (by omega), Int.add_emod_right, tmod_emod _ _ hm]
theorem w_mod (x : Int) : wrap64 x % 18446744073709551616 = x % 18446744073709551616 := by unfold wrap64; omega
def inW (x : Int) : Prop := -9223372036854775808 ≤ x ∧ x ≤ 9223372036854775807
theorem w_in (x : Int) : inW (wrap64 x) := by unfold inW wrap64; omega
theorem in_eq {a b : Int} (ha : inW a) (hb : inW b) (h : a % 18446744073709551616 = b % 18446744073709551616) : a = b := by unfold inW at ha hb; omega
theorem in_w {a : Int} (ha : inW a) : wrap64 a = a := w64 ha.1 ha.2
def dot : List Int → List Int → Int
  | x :: xs, y :: ys => x * y + dot xs ys
  | _, _ => 0
theorem dot_nil (xs : List Int) : dot xs [] = 0 := by cases xs <;> rfl
theorem dot_set : ∀ (xs ys : List Int) (e : Nat) (v : Int), e < xs.length → dot (xs.set e v) ys = dot xs ys + (v - xs.getD e 0) * ys.getD e 0
  | [], _, e, v, h => by simp at h
  | x :: xs, [], e, v, _ => by rw [dot_nil, dot_nil]; simp
  | x :: xs, y :: ys, 0, v, _ => by
    simp only [List.set_cons_zero, dot, List.getD_cons_zero, Int.sub_mul]
    omega
  | x :: xs, y :: ys, e + 1, v, h => by
    simp only [List.set_cons_succ, dot, List.getD_cons_succ]
    rw [dot_set xs ys e v (by simpa using h)]
    omega
theorem dot_zeros (n : Nat) (ys : List Int) : dot (List.replicate n 0) ys = 0 := by
  induction n generalizing ys with
  | zero => cases ys <;> rfl
  | succ n ih => cases ys with
    | nil => exact dot_nil _
    | cons y ys => rw [List.replicate_succ, dot, ih]; omega
theorem gE {α : Type} (l : List α) (d : α) {i : Nat} (h : i < l.length) : l.getD i d = l[i] := by rw [List.getD_eq_getElem?_getD, List.getElem?_eq_getElem h, Option.getD_some]
def axpy (x : Int) (out row : List Int) : List Int := List.zipWith (fun o r => wrap64 (o + wrap64 (x * r))) out row
theorem axpy_len (x : Int) (out row : List Int) (h : row.length = out.length) : (axpy x out row).length = out.length := by simp [axpy, h]
theorem axpy_get (x : Int) (out row : List Int) (h : row.length = out.length) (m : Nat) (hm : m < out.length) : (axpy x out row).getD m 0 = wrap64 (out.getD m 0 + wrap64 (x * row.getD m 0)) := by
  have h2 : m < (axpy x out row).length := by rw [axpy_len x out row h]; exact hm
  rw [gE _ _ h2, gE _ _ hm, gE _ _ (show m < row.length by omega)]
  simp [axpy]
theorem axpy_in (x : Int) (out row : List Int) : ∀ o ∈ axpy x out row, inW o := by
  intro o ho
  simp only [axpy, List.mem_iff_getElem] at ho
  obtain ⟨i, hi, rfl⟩ := ho
  rw [List.getElem_zipWith]
  exact w_in _
theorem axpy_mod (o x r : Int) : wrap64 (o + wrap64 (x * r)) % 18446744073709551616 = (o + x * r) % 18446744073709551616 := by
  generalize x * r = t
  rw [w_mod]
  have := w_mod t
  omega
theorem tk_set (Z l : List Int) (i : Nat) (h : Z.length = l.length) (hi : i < l.length) : (Z.take i ++ l.drop i).set i (Z.getD i 0) = Z.take (i + 1) ++ l.drop (i + 1) := by
  have e1 : (Z.take i).length = i := by rw [List.length_take]; omega
  rw [List.set_append_right _ _ (by omega), e1, Nat.sub_self, List.drop_eq_getElem_cons hi, List.set_cons_zero, List.take_succ_eq_append_getElem (by omega), List.append_assoc, gE _ _ (by omega)]
  rfl
theorem tk_rd (Z l : List Int) (i : Nat) (h : Z.length = l.length) (hi : i < l.length) : rd (Z.take i ++ l.drop i) (i : Int) = l.getD i 0 := by
  have e1 : (Z.take i).length = i := by rw [List.length_take]; omega
  rw [rd, Int.toNat_natCast, List.getD_eq_getElem?_getD, List.getElem?_append_right (by omega), e1, Nat.sub_self, List.getElem?_drop, Nat.add_zero, ← List.getD_eq_getElem?_getD]
theorem tk_len (Z l : List Int) (i : Nat) (h : Z.length = l.length) (hi : i ≤ l.length) : (Z.take i ++ l.drop i).length = l.length := by
  rw [List.length_append, List.length_take, List.length_drop]; omega
theorem tk_end (Z l : List Int) (h : Z.length = l.length) : Z.take l.length ++ l.drop l.length = Z := by
  rw [List.drop_length, List.append_nil, ← h, List.take_length]
theorem own01 (l : List Int) (hl : l.length ≤ 1000) : spec_l01Own.f l = some l := by
  unfold spec_l01Own.f
  simp only [Option.bind_some, List.nil_append, List.length_nil, Nat.zero_add]
  rw [if_pos (by omega)]
def pw (n : Int) : List (List Int) := ([[], [[1]], [[1], [-1]], [[1, 0], [0, 1], [-1, -1]], [[1, 0], [0, 1], [-1, 0], [0, -1]], [[1, 0, 0, 0], [0, 1, 0, 0], [0, 0, 1, 0], [0, 0, 0, 1], [-1, -1, -1, -1]], [[1, 0], [0, 1], [-1, 1], [-1, 0], [0, -1], [1, -1]], [[1, 0, 0, 0, 0, 0], [0, 1, 0, 0, 0, 0], [0, 0, 1, 0, 0, 0], [0, 0, 0, 1, 0, 0], [0, 0, 0, 0, 1, 0], [0, 0, 0, 0, 0, 1], [-1, -1, -1, -1, -1, -1]], [[1, 0, 0, 0], [0, 1, 0, 0], [0, 0, 1, 0], [0, 0, 0, 1], [-1, 0, 0, 0], [0, -1, 0, 0], [0, 0, -1, 0], [0, 0, 0, -1]], [[1, 0, 0, 0, 0, 0], [0, 1, 0, 0, 0, 0], [0, 0, 1, 0, 0, 0], [0, 0, 0, 1, 0, 0], [0, 0, 0, 0, 1, 0], [0, 0, 0, 0, 0, 1], [-1, 0, 0, -1, 0, 0], [0, -1, 0, 0, -1, 0], [0, 0, -1, 0, 0, -1]], [[1, 0, 0, 0], [0, 1, 0, 0], [0, 0, 1, 0], [0, 0, 0, 1], [-1, 1, -1, 1], [-1, 0, 0, 0], [0, -1, 0, 0], [0, 0, -1, 0], [0, 0, 0, -1], [1, -1, 1, -1]], [[1, 0, 0, 0, 0, 0, 0, 0, 0, 0], [0, 1, 0, 0, 0, 0, 0, 0, 0, 0], [0, 0, 1, 0, 0, 0, 0, 0, 0, 0], [0, 0, 0, 1, 0, 0, 0, 0, 0, 0], [0, 0, 0, 0, 1, 0, 0, 0, 0, 0], [0, 0, 0, 0, 0, 1, 0, 0, 0, 0], [0, 0, 0, 0, 0, 0, 1, 0, 0, 0], [0, 0, 0, 0, 0, 0, 0, 1, 0, 0], [0, 0, 0, 0, 0, 0, 0, 0, 1, 0], [0, 0, 0, 0, 0, 0, 0, 0, 0, 1], [-1, -1, -1, -1, -1, -1, -1, -1, -1, -1]], [[1, 0, 0, 0], [0, 1, 0, 0], [0, 0, 1, 0], [0, 0, 0, 1], [-1, 0, 1, 0], [0, -1, 0, 1], [-1, 0, 0, 0], [0, -1, 0, 0], [0, 0, -1, 0], [0, 0, 0, -1], [1, 0, -1, 0], [0, 1, 0, -1]], [[1, 0, 0, 0, 0, 0, 0, 0, 0, 0, 0, 0], [0, 1, 0, 0, 0, 0, 0, 0, 0, 0, 0, 0], [0, 0, 1, 0, 0, 0, 0, 0, 0, 0, 0, 0], [0, 0, 0, 1, 0, 0, 0, 0, 0, 0, 0, 0], [0, 0, 0, 0, 1, 0, 0, 0, 0, 0, 0, 0], [0, 0, 0, 0, 0, 1, 0, 0, 0, 0, 0, 0], [0, 0, 0, 0, 0, 0, 1, 0, 0, 0, 0, 0], [0, 0, 0, 0, 0, 0, 0, 1, 0, 0, 0, 0], [0, 0, 0, 0, 0, 0, 0, 0, 1, 0, 0, 0], [0, 0, 0, 0, 0, 0, 0, 0, 0, 1, 0, 0], [0, 0, 0, 0, 0, 0, 0, 0, 0, 0, 1, 0], [0, 0, 0, 0, 0, 0, 0, 0, 0, 0, 0, 1], [-1, -1, -1, -1, -1, -1, -1, -1, -1, -1, -1, -1]], [[1, 0, 0, 0, 0, 0], [0, 1, 0, 0, 0, 0], [0, 0, 1, 0, 0, 0], [0, 0, 0, 1, 0, 0], [0, 0, 0, 0, 1, 0], [0, 0, 0, 0, 0, 1], [-1, 1, -1, 1, -1, 1], [-1, 0, 0, 0, 0, 0], [0, -1, 0, 0, 0, 0], [0, 0, -1, 0, 0, 0], [0, 0, 0, -1, 0, 0], [0, 0, 0, 0, -1, 0], [0, 0, 0, 0, 0, -1], [1, -1, 1, -1, 1, -1]], [[1, 0, 0, 0, 0, 0, 0, 0], [0, 1, 0, 0, 0, 0, 0, 0], [0, 0, 1, 0, 0, 0, 0, 0], [0, 0, 0, 1, 0, 0, 0, 0], [0, 0, 0, 0, 1, 0, 0, 0], [0, 0, 0, 0, 0, 1, 0, 0], [0, 0, 0, 0, 0, 0, 1, 0], [0, 0, 0, 0, 0, 0, 0, 1], [-1, 1, 0, -1, 1, -1, 0, 1], [-1, 0, 1, -1, 0, 0, -1, 1], [-1, 0, 0, 0, 0, -1, 0, 0], [0, -1, 0, 0, 0, 0, -1, 0], [0, 0, -1, 0, 0, 0, 0, -1], [1, -1, 0, 0, -1, 1, 0, -1], [1, 0, -1, 1, -1, 0, 1, -1]], [[1, 0, 0, 0, 0, 0, 0, 0], [0, 1, 0, 0, 0, 0, 0, 0], [0, 0, 1, 0, 0, 0, 0, 0], [0, 0, 0, 1, 0, 0, 0, 0], [0, 0, 0, 0, 1, 0, 0, 0], [0, 0, 0, 0, 0, 1, 0, 0], [0, 0, 0, 0, 0, 0, 1, 0], [0, 0, 0, 0, 0, 0, 0, 1], [-1, 0, 0, 0, 0, 0, 0, 0], [0, -1, 0, 0, 0, 0, 0, 0], [0, 0, -1, 0, 0, 0, 0, 0], [0, 0, 0, -1, 0, 0, 0, 0], [0, 0, 0, 0, -1, 0, 0, 0], [0, 0, 0, 0, 0, -1, 0, 0], [0, 0, 0, 0, 0, 0, -1, 0], [0, 0, 0, 0, 0, 0, 0, -1]]] : List (List (List Int))).getD n.toNat []
def phn (n : Int) : Nat := (phi n).toNat
theorem pw_all1 : ∀ m : Nat, m < 17 → 1 ≤ m → impl_powers.f 400 (m : Int) = some (pw (m : Int)) := by decide +kernel
theorem pw_all2 : ∀ m : Nat, m < 17 → 1 ≤ m → (pw (m : Int)).length = m := by decide +kernel
theorem pw_all3 : ∀ m : Nat, m < 17 → 1 ≤ m → ∀ r ∈ pw (m : Int), r.length = phn (m : Int) := by decide +kernel
theorem pw_all4 : ∀ m : Nat, m < 17 → 1 ≤ m → ∀ r ∈ pw (m : Int), ∀ c ∈ r, -1 ≤ c ∧ c ≤ 1 := by decide +kernel
theorem pw_impl (n : Int) (h0 : 1 ≤ n) (h1 : n ≤ 16) : Ev (fun k => impl_powers.f k n) (pw n) :=
  Ev.of (impl_powers.mono n) (orders (P := fun n => impl_powers.f 400 n = some (pw n)) pw_all1 n h0 h1)
theorem pw_len (n : Int) (h0 : 1 ≤ n) (h1 : n ≤ 16) : ((pw n).length : Int) = n :=
  orders (P := fun n => ((pw n).length : Int) = n) (fun m a b => by rw [pw_all2 m a b]) n h0 h1
theorem pw_row (n : Int) (h0 : 1 ≤ n) (h1 : n ≤ 16) : ∀ r ∈ pw n, r.length = phn n :=
  orders (P := fun n => ∀ r ∈ pw n, r.length = phn n) pw_all3 n h0 h1
theorem phn_bd (n : Int) (h0 : 1 ≤ n) (h1 : n ≤ 16) : 1 ≤ phn n ∧ phn n ≤ 12 :=
  orders (P := fun n => 1 ≤ phn n ∧ phn n ≤ 12) (by decide) n h0 h1
theorem rd_L1_pw (pws : List (List Int)) (i : Nat) : rd_L1 pws (i : Int) = pws.getD i [] := by simp [rd_L1]
def cmb : List Int → List Int → List (List Int) → List Int
  | out, x :: xs, r :: rs => cmb (axpy x out r) xs rs
  | out, _, _ => out
def cl (n : Int) (m : Nat) : List Int := (pw n).map fun r => r.getD m 0
theorem cmb_spec : ∀ (xs : List Int) (rs : List (List Int)) (out : List Int), (∀ r ∈ rs, r.length = out.length) → (∀ o ∈ out, inW o) →
    (cmb out xs rs).length = out.length ∧ (∀ o ∈ cmb out xs rs, inW o) ∧ ∀ m, m < out.length → (cmb out xs rs).getD m 0 % 18446744073709551616 = (out.getD m 0 + dot xs (rs.map fun r => r.getD m 0)) % 18446744073709551616
  | [], rs, out, _, ho => ⟨by simp [cmb], by simpa [cmb] using ho, fun m _ => by simp [cmb, dot]⟩
  | x :: xs, [], out, _, ho => ⟨by simp [cmb], by simpa [cmb] using ho, fun m _ => by simp [cmb, dot]⟩
  | x :: xs, r :: rs, out, hr, ho => by
    have h1 : r.length = out.length := hr r (by simp)
    have hl := axpy_len x out r h1
    obtain ⟨a, b, c⟩ := cmb_spec xs rs (axpy x out r) (fun q hq => by rw [hl]; exact hr q (by simp [hq])) (axpy_in x out r)
    refine ⟨by rw [cmb, a, hl], by rw [cmb]; exact b, fun m hm => ?_⟩
    rw [cmb, c m (by rw [hl]; exact hm), axpy_get x out r h1 m hm, List.map_cons, dot]
    have := axpy_mod (out.getD m 0) x (r.getD m 0)
    omega
/-- The sum of powers of z, of each so many. -/
def cnt (n : Int) (many : List Int) : List Int := cmb (List.replicate (phn n) 0) many (pw n)
theorem cnt_spec (n : Int) (many : List Int) (h0 : 1 ≤ n) (h1 : n ≤ 16) : (cnt n many).length = phn n ∧ (∀ o ∈ cnt n many, inW o) ∧ ∀ m, m < phn n → (cnt n many).getD m 0 % 18446744073709551616 = dot many (cl n m) % 18446744073709551616 := by
  obtain ⟨a, b, c⟩ := cmb_spec many (pw n) (List.replicate (phn n) 0) (fun r hr => by simpa using pw_row n h0 h1 r hr) (fun o ho => by rw [List.eq_of_mem_replicate ho]; unfold inW; omega)
  rw [List.length_replicate] at a c
  refine ⟨a, b, fun m hm => ?_⟩
  have := c m hm
  rw [gE (List.replicate (phn n) 0) 0 (by rw [List.length_replicate]; exact hm), List.getElem_replicate, Int.zero_add] at this
  exact this
theorem lists_eq {l l' : List Int} (h : l.length = l'.length) (a : ∀ o ∈ l, inW o) (b : ∀ o ∈ l', inW o) (c : ∀ m, m < l.length → l.getD m 0 % 18446744073709551616 = l'.getD m 0 % 18446744073709551616) : l = l' := by
  refine List.ext_getElem h fun i hi hi' => ?_
  have := c i hi
  rw [gE _ _ hi, gE _ _ hi'] at this
  exact in_eq (a _ (List.getElem_mem hi)) (b _ (List.getElem_mem hi')) this
def acc : List Int → List Int → List Int → List Int
  | many, t :: ts, e :: es => acc (if e ≥ 0 then many.set e.toNat (wrap64 (rd many e + t)) else many) ts es
  | many, _, _ => many
theorem pw_get (n e : Int) (h0 : 1 ≤ n) (h1 : n ≤ 16) (he : 0 ≤ e ∧ e < n) : (pw n).getD e.toNat [] ∈ pw n := by
  have := pw_len n h0 h1
  rw [gE _ _ (by omega)]
  exact List.getElem_mem _
theorem cl_get (n e : Int) (m : Nat) (h0 : 1 ≤ n) (h1 : n ≤ 16) (he : 0 ≤ e ∧ e < n) : (cl n m).getD e.toNat 0 = ((pw n).getD e.toNat []).getD m 0 := by
  have h2 := pw_len n h0 h1
  have h3 : e.toNat < (pw n).length := by omega
  rw [gE (cl n m) 0 (by rw [cl, List.length_map]; exact h3), gE (pw n) [] h3]
  simp only [cl, List.getElem_map]
theorem zero01 (n : Int) (h0 : 1 ≤ n) (h1 : n ≤ 16) : Ev (fun k => spec_l01Zero.f k n) (n, List.replicate (phn n) 0) := by
  have := phn_bd n h0 h1
  unfold spec_l01Zero.f
  refine Ev.bind (phi_spec n h0 h1) ?_
  have e : phi n = (phn n : Int) := by unfold phn at this ⊢; omega
  rw [e, if_pos (by omega), if_pos (by omega), Int.toNat_natCast]
  exact Ev.now _
theorem dot_zero : ∀ (xs ys : List Int), (∀ j, xs.getD j 0 * ys.getD j 0 = 0) → dot xs ys = 0
  | [], _, _ => by simp [dot]
  | _ :: _, [], _ => by simp [dot]
  | x :: xs, y :: ys, h => by
    rw [dot, dot_zero xs ys (fun j => by simpa using h (j + 1))]
    have := h 0
    simp only [List.getD_cons_zero] at this
    omega
theorem dot_cons_drop (xs ys : List Int) (i o : Nat) (hi : i < xs.length) (ho : o < ys.length) : dot (xs.drop i) (ys.drop o) = xs.getD i 0 * ys.getD o 0 + dot (xs.drop (i + 1)) (ys.drop (o + 1)) := by
  rw [List.drop_eq_getElem_cons hi, List.drop_eq_getElem_cons ho, dot, gE _ _ hi, gE _ _ ho]
theorem cyc_len : ∀ n : Nat, n < 17 → 1 ≤ n → (cyc (n : Int)).length = phn (n : Int) + 1 ∧ phn (n : Int) ≤ n ∧ rd (cyc (n : Int)) (phn (n : Int) : Int) = 1 := by decide +kernel
def cycOk (n k m : Nat) : Bool := decide (dot (cyc (n : Int)) ((cl (n : Int) m).drop (k - phn (n : Int))) = 0)
theorem cyc_rel : ∀ n : Nat, n < 17 → 1 ≤ n → ∀ k : Nat, k < n → phn (n : Int) ≤ k → ∀ m : Nat, m < phn (n : Int) → cycOk n k m = true := by decide +kernel
def unitsOk (n j m : Nat) : Bool := decide ((cl (n : Int) m).getD j 0 = if j = m then 1 else 0)
theorem cl_unit : ∀ n : Nat, n < 17 → 1 ≤ n → ∀ j : Nat, j < phn (n : Int) → ∀ m : Nat, m < phn (n : Int) → unitsOk n j m = true := by decide +kernel
theorem set_get (xs : List Int) (q : Nat) (v : Int) (j : Nat) (hq : q < xs.length) : (xs.set q v).getD j 0 = if j = q then v else xs.getD j 0 := by
  rw [List.getD_eq_getElem?_getD, List.getElem?_set, List.getD_eq_getElem?_getD]
  by_cases h : q = j
  · subst h
    simp [hq]
  · rw [if_neg h, if_neg (fun e => h e.symm)]
theorem set_in (xs : List Int) (q : Nat) (v : Int) (hv : inW v) (h : ∀ o ∈ xs, inW o) : ∀ o ∈ xs.set q v, inW o := by
  intro o ho
  rcases List.mem_or_eq_of_mem_set ho with h' | rfl
  · exact h o h'
  · exact hv
theorem get_in (xs : List Int) (h : ∀ o ∈ xs, inW o) (j : Nat) : inW (xs.getD j 0) := by
  rcases Nat.lt_or_ge j xs.length with hj | hj
  · rw [gE _ _ hj]; exact h _ (List.getElem_mem hj)
  · rw [List.getD_eq_getElem?_getD, List.getElem?_eq_none hj]; show inW 0; unfold inW; omega
theorem red_l1 (N : Nat) (hN0 : 1 ≤ N) (hN : N < 17) (C : Nat → Int) (k : Nat) (hk0 : phn (N : Int) ≤ k) (hk : k < N) (lead : Int) (hlead : inW lead) (r : Int × List Int)
    (H : ∀ rest : List Int, rest.length = N → (∀ o ∈ rest, inW o) → (∀ j, k ≤ j → rest.getD j 0 = 0) → (∀ m, m < phn (N : Int) → dot rest (cl (N : Int) m) % 18446744073709551616 = C m % 18446744073709551616) →
      Ev (fun f => spec_l01Reduce.l0 f (N : Int) (cyc (N : Int)) rest (phn (N : Int) : Int) ((k : Int) - 1)) r) :
    ∀ (d i : Nat) (rest : List Int), d + i = phn (N : Int) + 1 → rest.length = N → (∀ o ∈ rest, inW o) → (∀ j, k < j → rest.getD j 0 = 0) → (i ≤ phn (N : Int) → rest.getD k 0 = lead) → (i = phn (N : Int) + 1 → rest.getD k 0 = 0) →
      (∀ m, m < phn (N : Int) → (dot rest (cl (N : Int) m) - lead * dot ((cyc (N : Int)).drop i) ((cl (N : Int) m).drop (k - phn (N : Int) + i))) % 18446744073709551616 = C m % 18446744073709551616) →
      Ev (fun f => spec_l01Reduce.l1 f (N : Int) (cyc (N : Int)) rest (phn (N : Int) : Int) (k : Int) lead (i : Int)) r := by
  obtain ⟨hc1, hc2, hc3⟩ := cyc_len N hN hN0
  have hpl := pw_all2 N hN hN0
  have hcl : ∀ m, (cl (N : Int) m).length = N := fun m => by rw [cl, List.length_map]; exact hpl
  intro d
  induction d with
  | zero =>
    intro i rest hi hl hw hz _ h0 hd
    have e : i = phn (N : Int) + 1 := by omega
    subst e
    refine Ev.step (fun f => ?_) (H rest hl hw (fun j hj => ?_) (fun m hm => ?_))
    · simp only [spec_l01Reduce.l1]
      rw [if_neg (by omega), w64 (x := (k : Int) - 1) (by omega) (by omega)]
    · rcases Nat.lt_or_ge k j with h | h
      · exact hz j h
      · have : j = k := by omega
        subst this
        exact h0 rfl
    · have := hd m hm
      rw [List.drop_eq_nil_of_le (show (cyc (N : Int)).length ≤ phn (N : Int) + 1 by omega)] at this
      simp only [dot, Int.mul_zero, Int.sub_zero] at this
      exact this
  | succ d ih =>
    intro i rest hi hl hw hz h1 _ hd
    have hq : k - phn (N : Int) + i < rest.length := by omega
    have e1 : wrap64 (wrap64 ((k : Int) - (phn (N : Int) : Int)) + (i : Int)) = ((k - phn (N : Int) + i : Nat) : Int) := by
      rw [w64 (x := (k : Int) - (phn (N : Int) : Int)) (by omega) (by omega), w64 (by omega) (by omega)]
      omega
    refine Ev.step (f := fun f => spec_l01Reduce.l1 f (N : Int) (cyc (N : Int)) (rest.set (k - phn (N : Int) + i) (wrap64 (rest.getD (k - phn (N : Int) + i) 0 - wrap64 (lead * (cyc (N : Int)).getD i 0)))) (phn (N : Int) : Int) (k : Int) lead ((i + 1 : Nat) : Int)) (fun f => ?_) ?_
    · simp only [spec_l01Reduce.l1, e1]
      rw [if_pos (by omega), if_pos (by omega), if_pos (by omega), if_pos (by omega), if_pos (by omega), w64 (x := (i : Int) + 1) (by omega) (by omega)]
      simp only [rd, Int.toNat_natCast]
      rfl
    · refine ih (i + 1) _ (by omega) (by rw [List.length_set]; exact hl) (set_in _ _ _ (w_in _) hw) (fun j hj => ?_) (fun hi2 => ?_) (fun hi2 => ?_) (fun m hm => ?_)
      · rw [set_get _ _ _ _ hq, if_neg (by omega)]
        exact hz j hj
      · rw [set_get _ _ _ _ hq, if_neg (by omega)]
        exact h1 (by omega)
      · have hi3 : i = phn (N : Int) := by omega
        have hq2 : k - phn (N : Int) + i = k := by omega
        have hc4 : (cyc (N : Int)).getD i 0 = 1 := by rw [hi3]; simpa [rd] using hc3
        rw [set_get _ _ _ _ hq, if_pos hq2.symm, hq2, h1 (by omega), hc4, Int.mul_one, in_w hlead, Int.sub_self]
        exact w64 (by omega) (by omega)
      · have h3 := hd m hm
        rw [dot_cons_drop _ _ _ _ (by omega) (by rw [hcl]; omega), Int.mul_add] at h3
        rw [dot_set _ _ _ _ hq]
        have q1 : (wrap64 (rest.getD (k - phn (N : Int) + i) 0 - wrap64 (lead * (cyc (N : Int)).getD i 0)) - rest.getD (k - phn (N : Int) + i) 0) % 18446744073709551616 = (-(lead * (cyc (N : Int)).getD i 0)) % 18446744073709551616 := by
          have a1 := w_mod (lead * (cyc (N : Int)).getD i 0)
          have a2 := w_mod (rest.getD (k - phn (N : Int) + i) 0 - wrap64 (lead * (cyc (N : Int)).getD i 0))
          omega
        have q2 : (wrap64 (rest.getD (k - phn (N : Int) + i) 0 - wrap64 (lead * (cyc (N : Int)).getD i 0)) - rest.getD (k - phn (N : Int) + i) 0) * (cl (N : Int) m).getD (k - phn (N : Int) + i) 0 % 18446744073709551616 = (-(lead * ((cyc (N : Int)).getD i 0 * (cl (N : Int) m).getD (k - phn (N : Int) + i) 0))) % 18446744073709551616 := by
          rw [Int.mul_emod, q1, ← Int.mul_emod, Int.neg_mul, Int.mul_assoc]
        rw [show k - phn (N : Int) + (i + 1) = k - phn (N : Int) + i + 1 by omega]
        generalize (wrap64 (rest.getD (k - phn (N : Int) + i) 0 - wrap64 (lead * (cyc (N : Int)).getD i 0)) - rest.getD (k - phn (N : Int) + i) 0) * (cl (N : Int) m).getD (k - phn (N : Int) + i) 0 = A at *
        generalize lead * ((cyc (N : Int)).getD i 0 * (cl (N : Int) m).getD (k - phn (N : Int) + i) 0) = B at *
        generalize lead * dot ((cyc (N : Int)).drop (i + 1)) ((cl (N : Int) m).drop (k - phn (N : Int) + i + 1)) = D at *
        omega
theorem red_l2 (n : Int) (rest : List Int) (P : Nat) (hP : P ≤ 100) (hr : P ≤ rest.length) : ∀ (d i : Nat), d + i = P → Ev (fun f => spec_l01Reduce.l2 f rest (P : Int) (i : Int) n (rest.take i ++ (List.replicate P 0).drop i)) (n, rest.take P) := by
  intro d
  induction d with
  | zero =>
    intro i hi
    have e : i = P := by omega
    subst e
    refine Ev.step (f := fun _ => some (n, rest.take i)) (fun k => ?_) (Ev.now _)
    simp only [spec_l01Reduce.l2]
    rw [if_neg (by omega), List.drop_eq_nil_of_le (by simp), List.append_nil]
  | succ d ih =>
    intro i hi
    refine Ev.step (fun f => ?_) (ih (i + 1) (by omega))
    have e1 : (rest.take i).length = i := by rw [List.length_take]; omega
    have e2 : ((rest.take i ++ (List.replicate P 0).drop i).length : Int) = P := by rw [List.length_append, e1, List.length_drop, List.length_replicate]; omega
    simp only [spec_l01Reduce.l2]
    rw [if_pos (by omega), if_pos (by omega), if_pos (by omega), e2, if_pos (by omega), w64 (x := (i : Int) + 1) (by omega) (by omega), rd, Int.toNat_natCast, gE _ _ (show i < rest.length by omega),
      List.set_append_right _ _ (by omega), e1, Nat.sub_self, List.drop_eq_getElem_cons (show i < (List.replicate P (0 : Int)).length by rw [List.length_replicate]; omega), List.set_cons_zero, List.take_succ_eq_append_getElem (show i < rest.length by omega), List.append_assoc]
    rfl
theorem red_l0 (N : Nat) (hN0 : 1 ≤ N) (hN : N < 17) (row : List Int) : ∀ (d : Nat) (k : Int) (rest : List Int), (d : Int) + phn (N : Int) = k + 1 → k < N → rest.length = N → (∀ o ∈ rest, inW o) → (∀ j : Nat, k < j → rest.getD j 0 = 0) →
    (∀ m, m < phn (N : Int) → dot rest (cl (N : Int) m) % 18446744073709551616 = dot row (cl (N : Int) m) % 18446744073709551616) →
    Ev (fun f => spec_l01Reduce.l0 f (N : Int) (cyc (N : Int)) rest (phn (N : Int) : Int) k) ((N : Int), cnt (N : Int) row) := by
  obtain ⟨hc1, hc2, hc3⟩ := cyc_len N hN hN0
  have hpl := pw_all2 N hN hN0
  have hcl : ∀ m, (cl (N : Int) m).length = N := fun m => by rw [cl, List.length_map]; exact hpl
  have hb := phn_bd (N : Int) (by omega) (by omega)
  intro d
  induction d with
  | zero =>
    intro k rest hd hk hl hw hz hdot
    obtain ⟨c1, c2, c3⟩ := cnt_spec (N : Int) row (by omega) (by omega)
    have e : cnt (N : Int) row = rest.take (phn (N : Int)) := by
      refine lists_eq (by rw [c1, List.length_take]; omega) c2 (fun o ho => hw o (List.mem_of_mem_take ho)) (fun m hm => ?_)
      have hm2 : m < phn (N : Int) := by omega
      rw [c3 m hm2, ← hdot m hm2]
      have hu : (cl (N : Int) m).getD m 0 = 1 := by simpa using of_decide_eq_true (cl_unit N hN hN0 m hm2 m hm2)
      have hs := dot_set rest (cl (N : Int) m) m 0 (by omega)
      rw [dot_zero (rest.set m 0) (cl (N : Int) m) (fun j => by
        rw [set_get _ _ _ _ (by omega)]
        by_cases hj : j = m
        · rw [if_pos hj, Int.zero_mul]
        · rw [if_neg hj]
          rcases Nat.lt_or_ge j (phn (N : Int)) with h | h
          · rw [show (cl (N : Int) m).getD j 0 = 0 by simpa [hj] using of_decide_eq_true (cl_unit N hN hN0 j h m hm2), Int.mul_zero]
          · rw [hz j (by omega), Int.zero_mul]), hu] at hs
      have e3 : (rest.take (phn (N : Int))).getD m 0 = rest.getD m 0 := by
        rw [gE _ _ (by rw [List.length_take]; omega), gE _ _ (by omega), List.getElem_take]
      rw [e3]
      congr 1
      omega
    refine Ev.step (f := fun f => ((spec_l01Zero.f f (N : Int)).bind fun bt => (spec_l01Reduce.l2 f rest (phn (N : Int) : Int) 0 bt.1 bt.2))) (fun f => ?_) ?_
    · simp only [spec_l01Reduce.l0]
      rw [if_neg (by omega)]
    · refine Ev.bind (zero01 (N : Int) (by omega) (by omega)) ?_
      rw [e]
      simpa using red_l2 (N : Int) rest (phn (N : Int)) (by omega) (by omega) (phn (N : Int)) 0 (by omega)
  | succ d ih =>
    intro k rest hd hk hl hw hz hdot
    obtain ⟨K, rfl⟩ : ∃ K : Nat, k = K := ⟨k.toNat, by omega⟩
    refine Ev.step (f := fun f => spec_l01Reduce.l1 f (N : Int) (cyc (N : Int)) rest (phn (N : Int) : Int) (K : Int) (rest.getD K 0) 0) (fun f => ?_) ?_
    · simp only [spec_l01Reduce.l0]
      rw [if_pos (by omega), if_pos (by omega), if_pos (by omega), rd, Int.toNat_natCast]
    · refine red_l1 N hN0 hN (fun m => dot row (cl (N : Int) m)) K (by omega) (by omega) _ (get_in rest hw K) _ (fun rest' a b c e => ih ((K : Int) - 1) rest' (by omega) (by omega) a b (fun j hj => c j (by omega)) e) (phn (N : Int) + 1) 0 rest (by omega) hl hw (fun j hj => hz j (by omega)) (fun _ => rfl) (fun h => by omega) (fun m hm => ?_)
      have := of_decide_eq_true (cyc_rel N hN hN0 K (by omega) (by omega) m hm)
      rw [List.drop_zero, Nat.add_zero, this, Int.mul_zero, Int.sub_zero]
      exact hdot m hm
theorem reduce (n : Int) (row : List Int) (h0 : 1 ≤ n) (h1 : n ≤ 16) (hl : (row.length : Int) = n) (hw : ∀ o ∈ row, inW o) : Ev (fun f => spec_l01Reduce.f f n row) (n, cnt n row) := by
  obtain ⟨N, rfl⟩ : ∃ N : Nat, n = N := ⟨n.toNat, by omega⟩
  have hN0 : 1 ≤ N := by omega
  have hN : N < 17 := by omega
  obtain ⟨hc1, hc2, hc3⟩ := cyc_len N hN hN0
  have hb := phn_bd (N : Int) (by omega) (by omega)
  unfold spec_l01Reduce.f
  refine Ev.bind (cyc_spec (N : Int) h0 h1) (ev_bind_const (own01 row (by omega)) ?_)
  rw [w64 (x := ((cyc (N : Int)).length : Int) - 1) (by omega) (by omega), w64 (x := (row.length : Int) - 1) (by omega) (by omega), show ((cyc (N : Int)).length : Int) - 1 = (phn (N : Int) : Int) by omega]
  refine red_l0 N hN0 hN row (N - phn (N : Int)) _ row (by omega) (by omega) (by omega) hw (fun j hj => ?_) (fun m _ => rfl)
  rw [List.getD_eq_getElem?_getD, List.getElem?_eq_none (by omega)]
  rfl
def cl2 (N : Nat) (m : Nat) : List Int := cl (N : Int) m ++ cl (N : Int) m
theorem cl2_len (N : Nat) (hN : N < 17) (hN0 : 1 ≤ N) (m : Nat) : (cl2 N m).length = 2 * N := by
  have := pw_all2 N hN hN0
  rw [cl2, List.length_append, cl, List.length_map]
  omega
def cycOk2 (n k m : Nat) : Bool := decide (dot (cyc (n : Int)) ((cl2 n m).drop (k - phn (n : Int))) = 0)
theorem cyc_rel2 : ∀ n : Nat, n < 17 → 1 ≤ n → ∀ k : Nat, k < 2 * n → phn (n : Int) ≤ k → ∀ m : Nat, m < phn (n : Int) → cycOk2 n k m = true := by decide +kernel
def unitsOk2 (n j m : Nat) : Bool := decide ((cl2 n m).getD j 0 = if j = m then 1 else 0)
theorem cl2_unit : ∀ n : Nat, n < 17 → 1 ≤ n → ∀ j : Nat, j < phn (n : Int) → ∀ m : Nat, m < phn (n : Int) → unitsOk2 n j m = true := by decide +kernel
theorem rec_l1 (N : Nat) (hN0 : 1 ≤ N) (hN : N < 17) (L : Nat) (hL : L ≤ 2 * N) (C : Nat → Int) (k : Nat) (hk0 : phn (N : Int) ≤ k) (hk : k < L) (lead : Int) (hlead : inW lead) (r : Int × List Int)
    (H : ∀ rest : List Int, rest.length = L → (∀ o ∈ rest, inW o) → (∀ j, k ≤ j → rest.getD j 0 = 0) → (∀ m, m < phn (N : Int) → dot rest (cl2 N m) % 18446744073709551616 = C m % 18446744073709551616) →
      Ev (fun f => spec_l01Reduce.l0 f (N : Int) (cyc (N : Int)) rest (phn (N : Int) : Int) ((k : Int) - 1)) r) :
    ∀ (d i : Nat) (rest : List Int), d + i = phn (N : Int) + 1 → rest.length = L → (∀ o ∈ rest, inW o) → (∀ j, k < j → rest.getD j 0 = 0) → (i ≤ phn (N : Int) → rest.getD k 0 = lead) → (i = phn (N : Int) + 1 → rest.getD k 0 = 0) →
      (∀ m, m < phn (N : Int) → (dot rest (cl2 N m) - lead * dot ((cyc (N : Int)).drop i) ((cl2 N m).drop (k - phn (N : Int) + i))) % 18446744073709551616 = C m % 18446744073709551616) →
      Ev (fun f => spec_l01Reduce.l1 f (N : Int) (cyc (N : Int)) rest (phn (N : Int) : Int) (k : Int) lead (i : Int)) r := by
  obtain ⟨hc1, hc2, hc3⟩ := cyc_len N hN hN0
  have hcl : ∀ m, (cl2 N m).length = 2 * N := cl2_len N hN hN0
  intro d
  induction d with
  | zero =>
    intro i rest hi hl hw hz _ h0 hd
    have e : i = phn (N : Int) + 1 := by omega
    subst e
    refine Ev.step (fun f => ?_) (H rest hl hw (fun j hj => ?_) (fun m hm => ?_))
    · simp only [spec_l01Reduce.l1]
      rw [if_neg (by omega), w64 (x := (k : Int) - 1) (by omega) (by omega)]
    · rcases Nat.lt_or_ge k j with h | h
      · exact hz j h
      · have : j = k := by omega
        subst this
        exact h0 rfl
    · have := hd m hm
      rw [List.drop_eq_nil_of_le (show (cyc (N : Int)).length ≤ phn (N : Int) + 1 by omega)] at this
      simp only [dot, Int.mul_zero, Int.sub_zero] at this
      exact this
  | succ d ih =>
    intro i rest hi hl hw hz h1 _ hd
    have hq : k - phn (N : Int) + i < rest.length := by omega
    have e1 : wrap64 (wrap64 ((k : Int) - (phn (N : Int) : Int)) + (i : Int)) = ((k - phn (N : Int) + i : Nat) : Int) := by
      rw [w64 (x := (k : Int) - (phn (N : Int) : Int)) (by omega) (by omega), w64 (by omega) (by omega)]
      omega
    refine Ev.step (f := fun f => spec_l01Reduce.l1 f (N : Int) (cyc (N : Int)) (rest.set (k - phn (N : Int) + i) (wrap64 (rest.getD (k - phn (N : Int) + i) 0 - wrap64 (lead * (cyc (N : Int)).getD i 0)))) (phn (N : Int) : Int) (k : Int) lead ((i + 1 : Nat) : Int)) (fun f => ?_) ?_
    · simp only [spec_l01Reduce.l1, e1]
      rw [if_pos (by omega), if_pos (by omega), if_pos (by omega), if_pos (by omega), if_pos (by omega), w64 (x := (i : Int) + 1) (by omega) (by omega)]
      simp only [rd, Int.toNat_natCast]
      rfl
    · refine ih (i + 1) _ (by omega) (by rw [List.length_set]; exact hl) (set_in _ _ _ (w_in _) hw) (fun j hj => ?_) (fun hi2 => ?_) (fun hi2 => ?_) (fun m hm => ?_)
      · rw [set_get _ _ _ _ hq, if_neg (by omega)]
        exact hz j hj
      · rw [set_get _ _ _ _ hq, if_neg (by omega)]
        exact h1 (by omega)
      · have hi3 : i = phn (N : Int) := by omega
        have hq2 : k - phn (N : Int) + i = k := by omega
        have hc4 : (cyc (N : Int)).getD i 0 = 1 := by rw [hi3]; simpa [rd] using hc3
        rw [set_get _ _ _ _ hq, if_pos hq2.symm, hq2, h1 (by omega), hc4, Int.mul_one, in_w hlead, Int.sub_self]
        exact w64 (by omega) (by omega)
      · have h3 := hd m hm
        rw [dot_cons_drop _ _ _ _ (by omega) (by rw [hcl]; omega), Int.mul_add] at h3
        rw [dot_set _ _ _ _ hq]
        have q1 : (wrap64 (rest.getD (k - phn (N : Int) + i) 0 - wrap64 (lead * (cyc (N : Int)).getD i 0)) - rest.getD (k - phn (N : Int) + i) 0) % 18446744073709551616 = (-(lead * (cyc (N : Int)).getD i 0)) % 18446744073709551616 := by
          have a1 := w_mod (lead * (cyc (N : Int)).getD i 0)
          have a2 := w_mod (rest.getD (k - phn (N : Int) + i) 0 - wrap64 (lead * (cyc (N : Int)).getD i 0))
          omega
        have q2 : (wrap64 (rest.getD (k - phn (N : Int) + i) 0 - wrap64 (lead * (cyc (N : Int)).getD i 0)) - rest.getD (k - phn (N : Int) + i) 0) * (cl2 N m).getD (k - phn (N : Int) + i) 0 % 18446744073709551616 = (-(lead * ((cyc (N : Int)).getD i 0 * (cl2 N m).getD (k - phn (N : Int) + i) 0))) % 18446744073709551616 := by
          rw [Int.mul_emod, q1, ← Int.mul_emod, Int.neg_mul, Int.mul_assoc]
        rw [show k - phn (N : Int) + (i + 1) = k - phn (N : Int) + i + 1 by omega]
        generalize (wrap64 (rest.getD (k - phn (N : Int) + i) 0 - wrap64 (lead * (cyc (N : Int)).getD i 0)) - rest.getD (k - phn (N : Int) + i) 0) * (cl2 N m).getD (k - phn (N : Int) + i) 0 = A at *
        generalize lead * ((cyc (N : Int)).getD i 0 * (cl2 N m).getD (k - phn (N : Int) + i) 0) = B at *
        generalize lead * dot ((cyc (N : Int)).drop (i + 1)) ((cl2 N m).drop (k - phn (N : Int) + i + 1)) = D at *
        omega
theorem rec_l0 (N : Nat) (hN0 : 1 ≤ N) (hN : N < 17) (L : Nat) (hL : L ≤ 2 * N) (row out : List Int) (ho1 : out.length = phn (N : Int)) (ho2 : ∀ o ∈ out, inW o) (ho3 : ∀ m, m < phn (N : Int) → out.getD m 0 % 18446744073709551616 = dot row (cl2 N m) % 18446744073709551616) (hpL : phn (N : Int) ≤ L) : ∀ (d : Nat) (k : Int) (rest : List Int), (d : Int) + phn (N : Int) = k + 1 → k < L → rest.length = L → (∀ o ∈ rest, inW o) → (∀ j : Nat, k < j → rest.getD j 0 = 0) →
    (∀ m, m < phn (N : Int) → dot rest (cl2 N m) % 18446744073709551616 = dot row (cl2 N m) % 18446744073709551616) →
    Ev (fun f => spec_l01Reduce.l0 f (N : Int) (cyc (N : Int)) rest (phn (N : Int) : Int) k) ((N : Int), out) := by
  obtain ⟨hc1, hc2, hc3⟩ := cyc_len N hN hN0
  have hcl : ∀ m, (cl2 N m).length = 2 * N := cl2_len N hN hN0
  have hb := phn_bd (N : Int) (by omega) (by omega)
  intro d
  induction d with
  | zero =>
    intro k rest hd hk hl hw hz hdot
    have e : out = rest.take (phn (N : Int)) := by
      refine lists_eq (by rw [ho1, List.length_take]; omega) ho2 (fun o ho => hw o (List.mem_of_mem_take ho)) (fun m hm => ?_)
      have hm2 : m < phn (N : Int) := by omega
      rw [ho3 m hm2, ← hdot m hm2]
      have hu : (cl2 N m).getD m 0 = 1 := by simpa using of_decide_eq_true (cl2_unit N hN hN0 m hm2 m hm2)
      have hs := dot_set rest (cl2 N m) m 0 (by omega)
      rw [dot_zero (rest.set m 0) (cl2 N m) (fun j => by
        rw [set_get _ _ _ _ (by omega)]
        by_cases hj : j = m
        · rw [if_pos hj, Int.zero_mul]
        · rw [if_neg hj]
          rcases Nat.lt_or_ge j (phn (N : Int)) with h | h
          · rw [show (cl2 N m).getD j 0 = 0 by simpa [hj] using of_decide_eq_true (cl2_unit N hN hN0 j h m hm2), Int.mul_zero]
          · rw [hz j (by omega), Int.zero_mul]), hu] at hs
      have e3 : (rest.take (phn (N : Int))).getD m 0 = rest.getD m 0 := by
        rw [gE _ _ (by rw [List.length_take]; omega), gE _ _ (by omega), List.getElem_take]
      rw [e3]
      congr 1
      omega
    refine Ev.step (f := fun f => ((spec_l01Zero.f f (N : Int)).bind fun bt => (spec_l01Reduce.l2 f rest (phn (N : Int) : Int) 0 bt.1 bt.2))) (fun f => ?_) ?_
    · simp only [spec_l01Reduce.l0]
      rw [if_neg (by omega)]
    · refine Ev.bind (zero01 (N : Int) (by omega) (by omega)) ?_
      rw [e]
      simpa using red_l2 (N : Int) rest (phn (N : Int)) (by omega) (by omega) (phn (N : Int)) 0 (by omega)
  | succ d ih =>
    intro k rest hd hk hl hw hz hdot
    obtain ⟨K, rfl⟩ : ∃ K : Nat, k = K := ⟨k.toNat, by omega⟩
    refine Ev.step (f := fun f => spec_l01Reduce.l1 f (N : Int) (cyc (N : Int)) rest (phn (N : Int) : Int) (K : Int) (rest.getD K 0) 0) (fun f => ?_) ?_
    · simp only [spec_l01Reduce.l0]
      rw [if_pos (by omega), if_pos (by omega), if_pos (by omega), rd, Int.toNat_natCast]
    · refine rec_l1 N hN0 hN L hL (fun m => dot row (cl2 N m)) K (by omega) (by omega) _ (get_in rest hw K) _ (fun rest' a b c e => ih ((K : Int) - 1) rest' (by omega) (by omega) a b (fun j hj => c j (by omega)) e) (phn (N : Int) + 1) 0 rest (by omega) hl hw (fun j hj => hz j (by omega)) (fun _ => rfl) (fun h => by omega) (fun m hm => ?_)
      have := of_decide_eq_true (cyc_rel2 N hN hN0 K (by omega) (by omega) m hm)
      rw [List.drop_zero, Nat.add_zero, this, Int.mul_zero, Int.sub_zero]
      exact hdot m hm
theorem reduce2 (n : Int) (row out : List Int) (h0 : 1 ≤ n) (h1 : n ≤ 16) (hl : phn n ≤ row.length ∧ (row.length : Int) ≤ 2 * n) (hw : ∀ o ∈ row, inW o) (ho1 : out.length = phn n) (ho2 : ∀ o ∈ out, inW o) (ho3 : ∀ m, m < phn n → out.getD m 0 % 18446744073709551616 = dot row (cl2 n.toNat m) % 18446744073709551616) : Ev (fun f => spec_l01Reduce.f f n row) (n, out) := by
  obtain ⟨N, rfl⟩ : ∃ N : Nat, n = N := ⟨n.toNat, by omega⟩
  have hN0 : 1 ≤ N := by omega
  have hN : N < 17 := by omega
  obtain ⟨hc1, hc2, hc3⟩ := cyc_len N hN hN0
  have hb := phn_bd (N : Int) (by omega) (by omega)
  rw [Int.toNat_natCast] at ho3
  unfold spec_l01Reduce.f
  refine Ev.bind (cyc_spec (N : Int) h0 h1) (ev_bind_const (own01 row (by omega)) ?_)
  rw [w64 (x := ((cyc (N : Int)).length : Int) - 1) (by omega) (by omega), w64 (x := (row.length : Int) - 1) (by omega) (by omega), show ((cyc (N : Int)).length : Int) - 1 = (phn (N : Int) : Int) by omega]
  refine rec_l0 N hN0 hN row.length (by omega) row out ho1 ho2 ho3 (by omega) (row.length - phn (N : Int)) _ row (by omega) (by omega) rfl hw (fun j hj => ?_) (fun m _ => rfl)
  rw [List.getD_eq_getElem?_getD, List.getElem?_eq_none (by omega)]
  rfl
def cvr (x : Int) : List Int → Nat → List Int → List Int
  | [], _, acc => acc
  | y :: ys, p, acc => cvr x ys (p + 1) (acc.set p (wrap64 (acc.getD p 0 + wrap64 (x * y))))
def cv (ys : List Int) : List Int → Nat → List Int → List Int
  | [], _, acc => acc
  | x :: xs, p, acc => cv ys xs (p + 1) (cvr x ys p acc)
theorem cvr_len (x : Int) : ∀ (ys : List Int) (p : Nat) (acc : List Int), (cvr x ys p acc).length = acc.length
  | [], _, _ => rfl
  | y :: ys, p, acc => by rw [cvr, cvr_len x ys, List.length_set]
theorem cvr_in (x : Int) : ∀ (ys : List Int) (p : Nat) (acc : List Int), (∀ o ∈ acc, inW o) → ∀ o ∈ cvr x ys p acc, inW o
  | [], _, _, h => h
  | y :: ys, p, acc, h => cvr_in x ys _ _ (set_in _ _ _ (w_in _) h)
theorem cv_len (ys : List Int) : ∀ (xs : List Int) (p : Nat) (acc : List Int), (cv ys xs p acc).length = acc.length
  | [], _, _ => rfl
  | x :: xs, p, acc => by rw [cv, cv_len ys xs, cvr_len]
theorem cv_in (ys : List Int) : ∀ (xs : List Int) (p : Nat) (acc : List Int), (∀ o ∈ acc, inW o) → ∀ o ∈ cv ys xs p acc, inW o
  | [], _, _, h => h
  | x :: xs, p, acc, h => cv_in ys xs _ _ (cvr_in x ys _ _ h)
theorem prod_l1 (n : Int) (xs ys : List Int) (L : Nat) (hL : L ≤ 1000) (i : Nat) (hi : i < xs.length) (hy : i + ys.length ≤ L) (r : Int × List Int) : ∀ (d j : Nat) (acc : List Int), d + j = ys.length → acc.length = L →
    Ev (fun k => spec_l01Product.l0 k ys (cvr (xs.getD i 0) (ys.drop j) (i + j) acc) ((i + 1 : Nat) : Int) n xs) r → Ev (fun k => spec_l01Product.l1 k ys acc (i : Int) (j : Int) n xs) r := by
  intro d
  induction d with
  | zero =>
    intro j acc hj hl H
    rw [List.drop_eq_nil_of_le (by omega), cvr] at H
    refine Ev.step (fun k => ?_) H
    simp only [spec_l01Product.l1]
    rw [if_neg (by omega), w64 (x := (i : Int) + 1) (by omega) (by omega)]
    rfl
  | succ d ih =>
    intro j acc hj hl H
    have hj2 : j < ys.length := by omega
    rw [List.drop_eq_getElem_cons hj2, cvr] at H
    refine Ev.step (fun k => ?_) (ih (j + 1) (acc.set (i + j) (wrap64 (acc.getD (i + j) 0 + wrap64 (xs.getD i 0 * ys.getD j 0)))) (by omega) (by rw [List.length_set]; exact hl) (by rw [gE ys 0 hj2]; exact H))
    have e1 : wrap64 ((i : Int) + (j : Int)) = ((i + j : Nat) : Int) := by rw [w64 (by omega) (by omega)]; omega
    simp only [spec_l01Product.l1, e1]
    rw [if_pos (by omega), if_pos (by omega), if_pos (by omega), if_pos (by omega), if_pos (by omega), if_pos (by omega), w64 (x := (j : Int) + 1) (by omega) (by omega)]
    simp only [rd, Int.toNat_natCast]
    rfl
theorem prod_l0 (n : Int) (xs ys : List Int) (L : Nat) (hL : L ≤ 1000) (hy : xs.length + ys.length = L + 1) (r : Int × List Int) : ∀ (d i : Nat) (acc : List Int), d + i = xs.length → acc.length = L →
    Ev (fun k => spec_l01Reduce.f k n (cv ys (xs.drop i) i acc)) r → Ev (fun k => spec_l01Product.l0 k ys acc (i : Int) n xs) r := by
  intro d
  induction d with
  | zero =>
    intro i acc hi hl H
    rw [List.drop_eq_nil_of_le (by omega), cv] at H
    refine Ev.step (f := fun k => (spec_l01Reduce.f k n acc).bind fun b => some (b.1, b.2)) (fun k => ?_) (Ev.bind H (Ev.now _))
    simp only [spec_l01Product.l0]
    rw [if_neg (by omega)]
  | succ d ih =>
    intro i acc hi hl H
    have hi2 : i < xs.length := by omega
    rw [List.drop_eq_getElem_cons hi2, cv] at H
    refine Ev.step (f := fun k => spec_l01Product.l1 k ys acc (i : Int) 0 n xs) (fun k => ?_) ?_
    · simp only [spec_l01Product.l0]
      rw [if_pos (by omega)]
    · refine prod_l1 n xs ys L hL i hi2 (by omega) r ys.length 0 acc (by omega) hl ?_
      rw [List.drop_zero, Nat.add_zero, gE xs 0 hi2]
      exact ih (i + 1) _ (by omega) (by rw [cvr_len]; exact hl) H
theorem product01 (n : Int) (xs ys out : List Int) (h0 : 1 ≤ n) (h1 : n ≤ 16) (hx : xs.length = phn n) (hy : ys.length = phn n) (ho1 : out.length = phn n) (ho2 : ∀ o ∈ out, inW o)
    (ho3 : ∀ m, m < phn n → out.getD m 0 % 18446744073709551616 = dot (cv ys xs 0 (List.replicate (2 * phn n - 1) 0)) (cl2 n.toNat m) % 18446744073709551616) : Ev (fun k => spec_l01Product.f k n xs ys) (n, out) := by
  have hb := phn_bd n h0 h1
  have hc2 := (cyc_len n.toNat (by omega) (by omega)).2.1
  rw [Int.toNat_of_nonneg (by omega)] at hc2
  have e : wrap64 (wrap64 ((xs.length : Int) + (ys.length : Int)) - 1) = ((2 * phn n - 1 : Nat) : Int) := by
    rw [w64 (x := (xs.length : Int) + (ys.length : Int)) (by omega) (by omega), w64 (by omega) (by omega)]
    omega
  unfold spec_l01Product.f
  rw [e]
  simp only [if_pos (show 0 ≤ ((2 * phn n - 1 : Nat) : Int) by omega), Int.toNat_natCast, if_pos (show 2 * phn n - 1 ≤ 35184372088832 by omega)]
  refine prod_l0 n xs ys (2 * phn n - 1) (by omega) (by omega) _ xs.length 0 _ (by omega) (by simp) ?_
  rw [List.drop_zero]
  exact reduce2 n _ out h0 h1 (by rw [cv_len, List.length_replicate]; omega) (cv_in _ _ _ _ (fun o ho => by rw [List.eq_of_mem_replicate ho]; unfold inW; omega)) ho1 ho2 ho3
theorem in01 (a b c : Int) : spec_l01In.f a b c = some (decide (b ≤ a) && decide (a ≤ c)) := by
  unfold spec_l01In.f
  by_cases h : a ≥ b
  · rw [if_pos h, decide_eq_true (show b ≤ a by omega), Bool.true_and]
  · rw [if_neg h, decide_eq_false (show ¬ b ≤ a by omega), Bool.false_and]
def exS (c ys : List Int) : List Int → Nat → Int
  | [], _ => 0
  | x :: xs, i => x * dot ys (c.drop i) + exS c ys xs (i + 1)
def xT (n : Int) (a b : List Int) (m : Nat) : Int := exS (cl2 n.toNat m) b a 0
/-- The exact product's parts. -/
def xL (n : Int) (a b : List Int) : List Int := (List.range (phn n)).map fun m => xT n a b m
theorem xL_len (n : Int) (a b : List Int) : (xL n a b).length = phn n := by simp [xL]
theorem xL_get (n : Int) (a b : List Int) (m : Nat) (h : m < phn n) : (xL n a b).getD m 0 = xT n a b m := by
  rw [gE _ _ (by rw [xL_len]; exact h)]; simp [xL]
theorem dot_drop (y : Int) (ys c : List Int) (p : Nat) : dot (y :: ys) (c.drop p) = y * c.getD p 0 + dot ys (c.drop (p + 1)) := by
  rcases Nat.lt_or_ge p c.length with h | h
  · rw [List.drop_eq_getElem_cons h, dot, gE _ _ h]
  · rw [List.drop_eq_nil_of_le h, List.drop_eq_nil_of_le (show c.length ≤ p + 1 by omega), dot_nil, dot_nil, List.getD_eq_getElem?_getD, List.getElem?_eq_none h]
    simp
theorem dot_cvr (x : Int) (c : List Int) : ∀ (ys : List Int) (p : Nat) (acc : List Int), p + ys.length ≤ acc.length →
    dot (cvr x ys p acc) c % 18446744073709551616 = (dot acc c + x * dot ys (c.drop p)) % 18446744073709551616
  | [], p, acc, _ => by simp [cvr, dot]
  | y :: ys, p, acc, h => by
    simp only [List.length_cons] at h
    rw [cvr, dot_cvr x c ys (p + 1) _ (by rw [List.length_set]; omega), dot_set _ _ _ _ (by omega), dot_drop, Int.mul_add]
    have q1 : (wrap64 (acc.getD p 0 + wrap64 (x * y)) - acc.getD p 0) % 18446744073709551616 = (x * y) % 18446744073709551616 := by
      have := axpy_mod (acc.getD p 0) x y
      omega
    have q2 : (wrap64 (acc.getD p 0 + wrap64 (x * y)) - acc.getD p 0) * c.getD p 0 % 18446744073709551616 = x * (y * c.getD p 0) % 18446744073709551616 := by
      rw [Int.mul_emod, q1, ← Int.mul_emod, Int.mul_assoc]
    generalize (wrap64 (acc.getD p 0 + wrap64 (x * y)) - acc.getD p 0) * c.getD p 0 = u at *
    generalize x * (y * c.getD p 0) = v at *
    generalize x * dot ys (c.drop (p + 1)) = z at *
    omega
theorem dot_cv (ys c : List Int) : ∀ (xs : List Int) (p : Nat) (acc : List Int), p + xs.length + ys.length ≤ acc.length + 1 →
    dot (cv ys xs p acc) c % 18446744073709551616 = (dot acc c + exS c ys xs p) % 18446744073709551616
  | [], p, acc, _ => by simp [cv, exS]
  | x :: xs, p, acc, h => by
    simp only [List.length_cons] at h
    have h1 := dot_cvr x c ys p acc (by omega)
    rw [cv, dot_cv ys c xs (p + 1) _ (by rw [cvr_len]; omega), exS]
    omega
theorem cl2_get (n : Int) (h0 : 1 ≤ n) (h1 : n ≤ 16) (q m : Nat) (hq : (q : Int) < 2 * n) : (cl2 n.toNat m).getD q 0 = ((pw n).getD ((q : Int) % n).toNat []).getD m 0 := by
  obtain ⟨N, rfl⟩ : ∃ N : Nat, n = N := ⟨n.toNat, by omega⟩
  have hl := pw_all2 N (by omega) (by omega)
  rw [Int.toNat_natCast, cl2]
  have e : ((q : Int) % (N : Int)).toNat = q % N := by rw [← Int.natCast_emod]; rfl
  rw [e]
  have hc : (cl (N : Int) m).length = N := by rw [cl, List.length_map, hl]
  rcases Nat.lt_or_ge q N with h | h
  · rw [Nat.mod_eq_of_lt h, gE _ _ (by rw [List.length_append]; omega), List.getElem_append_left (by omega), gE _ _ (show q < (pw (N : Int)).length by omega)]
    simp [cl]
  · have e2 : q % N = q - N := by rw [Nat.mod_eq_sub_mod h, Nat.mod_eq_of_lt (by omega)]
    rw [e2, gE _ _ (by rw [List.length_append]; omega), List.getElem_append_right (by omega), gE _ _ (show q - N < (pw (N : Int)).length by omega)]
    simp [cl, hl]
theorem row_small (n : Int) (h0 : 1 ≤ n) (h1 : n ≤ 16) (e : Nat) (m : Nat) : -1 ≤ ((pw n).getD e []).getD m 0 ∧ ((pw n).getD e []).getD m 0 ≤ 1 := by
  have h4 := pw_all4 n.toNat (by omega) (by omega)
  rw [Int.toNat_of_nonneg (by omega)] at h4
  rcases Nat.lt_or_ge e (pw n).length with h | h
  · rw [gE _ _ h]
    rcases Nat.lt_or_ge m (pw n)[e].length with h2 | h2
    · rw [gE _ _ h2]; exact h4 _ (List.getElem_mem h) _ (List.getElem_mem h2)
    · rw [List.getD_eq_getElem?_getD, List.getElem?_eq_none h2]; simp
  · rw [List.getD_eq_getElem?_getD (l := pw n), List.getElem?_eq_none h]; simp
theorem cl2_small (n : Int) (h0 : 1 ≤ n) (h1 : n ≤ 16) (m q : Nat) : -1 ≤ (cl2 n.toNat m).getD q 0 ∧ (cl2 n.toNat m).getD q 0 ≤ 1 := by
  rcases Int.lt_or_le (q : Int) (2 * n) with h | h
  · rw [cl2_get n h0 h1 q m h]; exact row_small n h0 h1 _ _
  · have hl := cl2_len n.toNat (by omega) (by omega) m
    rw [List.getD_eq_getElem?_getD, List.getElem?_eq_none (by omega)]; simp
def ent (s : Int × Nat) (t : Nat) (X : Int) : Prop := s.1 = wrap64 X ∧ Go.Proofs.Ythljmbobccaalaa.Flt.NearT t s.2 X
theorem near_mono {t u z : Nat} {X : Int} (h : Go.Proofs.Ythljmbobccaalaa.Flt.NearT t z X) (hu : t ≤ u) : Go.Proofs.Ythljmbobccaalaa.Flt.NearT u z X := by
  obtain ⟨v, hv, v1, v2, x1, x2⟩ := h
  have hU := Go.Proofs.Ythljmbobccaalaa.Flt.U_pos
  have tU : (t : Int) * Go.Proofs.Ythljmbobccaalaa.Flt.U ≤ (u : Int) * Go.Proofs.Ythljmbobccaalaa.Flt.U := Int.mul_le_mul_of_nonneg_right (by omega) (Int.le_of_lt hU)
  exact ⟨v, hv, by omega, by omega, by omega, by omega⟩
theorem ent_mono {s : Int × Nat} {t u : Nat} {X : Int} (h : ent s t X) (hu : t ≤ u) : ent s u X := ⟨h.1, near_mono h.2 hu⟩
theorem hf_of_eq (a : Int) : hf_of a = Go.Proofs.Ythljmbobccaalaa.Flt.ofInt a := rfl
theorem ent_step {s : Int × Nat} {t : Nat} {X a b : Int} (h : ent s t X) (ht : t < 32768) (ha : -4294967296000 ≤ a ∧ a ≤ 4294967296000) (hb : -4294967296000 ≤ b ∧ b ≤ 4294967296000) (q : -36893488147419103232 ≤ a * b ∧ a * b ≤ 36893488147419103232) :
    ∃ s', hf_step s a b = some s' ∧ ent s' (t + 1) (X + a * b) := by
  obtain ⟨p, z', h1, h2, h3⟩ := Go.Proofs.Ythljmbobccaalaa.Flt.near_add h.2 ht ha hb q
  refine ⟨_, by rw [hf_step, hf_of_eq, hf_of_eq, h1, Option.bind_some, h2, Option.map_some], ?_, h3⟩
  show wrap64 (s.1 + wrap64 (a * b)) = wrap64 (X + a * b)
  rw [h.1]
  unfold wrap64
  generalize a * b = c
  omega
theorem x3 (x y : Int) (R : List Int) (hR : ∀ c ∈ R, -1 ≤ c ∧ c ≤ 1) (T : Nat → Int) (t : Nat) (ht : t < 32768) (hx : -4294967296000 ≤ x ∧ x ≤ 4294967296000) (hy : -4294967296000 ≤ y ∧ y ≤ 4294967296000) (q : -36893488147419103232 ≤ x * y ∧ x * y ≤ 36893488147419103232) :
    ∀ (d m : Nat) (S : List (Int × Nat)), d + m = R.length → S.length = R.length → (∀ j, j < R.length → ent (S.getD j (0, 0)) (if j < m then t + 1 else t) (T j + (if j < m then R.getD j 0 * (x * y) else 0))) →
      ∃ S', hf_l3 x y (R.drop m) m S = some S' ∧ S'.length = R.length ∧ ∀ j, j < R.length → ent (S'.getD j (0, 0)) (t + 1) (T j + R.getD j 0 * (x * y)) := by
  intro d
  induction d with
  | zero =>
    intro m S hm hl hS
    rw [List.drop_eq_nil_of_le (by omega)]
    refine ⟨S, rfl, hl, fun j hj => ?_⟩
    have := hS j hj
    rwa [if_pos (by omega), if_pos (by omega)] at this
  | succ d ih =>
    intro m S hm hl hS
    have hm2 : m < R.length := by omega
    have hc := hR _ (List.getElem_mem hm2)
    rw [List.drop_eq_getElem_cons hm2, hf_l3]
    have h0 := hS m hm2
    rw [if_neg (Nat.lt_irrefl m), if_neg (Nat.lt_irrefl m), Int.add_zero] at h0
    have next : ∀ s' : Int × Nat, ent s' (t + 1) (T m + R.getD m 0 * (x * y)) → ∀ j, j < R.length → ent ((S.set m s').getD j (0, 0)) (if j < m + 1 then t + 1 else t) (T j + (if j < m + 1 then R.getD j 0 * (x * y) else 0)) := by
      intro s' hs' j hj
      by_cases e : j = m
      · subst e
        rw [if_pos (by omega), if_pos (by omega), gE _ _ (by rw [List.length_set]; omega), List.getElem_set_self]
        exact hs'
      · have := hS j hj
        have e2 : (S.set m s').getD j (0, 0) = S.getD j (0, 0) := by
          rw [gE _ _ (by rw [List.length_set]; omega), gE _ _ (by omega), List.getElem_set_ne (by omega)]
        rw [e2]
        by_cases c : j < m
        · rw [if_pos c, if_pos c] at this; rwa [if_pos (by omega), if_pos (by omega)]
        · rw [if_neg c, if_neg c] at this; rwa [if_neg (by omega), if_neg (by omega)]
    by_cases hz : R[m] = 0
    · rw [if_pos hz, Option.bind_some]
      refine ih (m + 1) S (by omega) hl (fun j hj => ?_)
      have := next (S.getD m (0, 0)) (by rw [gE R 0 hm2, hz, Int.zero_mul, Int.add_zero]; exact ent_mono h0 (by omega)) j hj
      rwa [show S.set m (S.getD m (0, 0)) = S by rw [gE _ _ (by omega)]; exact List.set_getElem_self _] at this
    · rw [if_neg hz, if_pos (by omega)]
      have hcase : R[m] = 1 ∨ R[m] = -1 := by omega
      have ew : wrap64 (R[m] * x) = R[m] * x := by rcases hcase with e | e <;> rw [e] <;> exact w64 (by omega) (by omega)
      have eab : R[m] * x * y = R.getD m 0 * (x * y) := by rw [gE R 0 hm2, Int.mul_assoc]
      obtain ⟨s', h1, h2⟩ := ent_step (a := R[m] * x) (b := y) h0 ht (by rcases hcase with e | e <;> rw [e] <;> omega) hy (by rw [Int.mul_assoc]; generalize x * y = z at *; rcases hcase with e | e <;> rw [e] <;> omega)
      rw [eab] at h2
      rw [ew, h1, Option.map_some, Option.bind_some]
      exact ih (m + 1) _ (by omega) (by rw [List.length_set]; exact hl) (next s' h2)
def big1 (x : Int) : Prop := -4294967296000 ≤ x ∧ x ≤ 4294967296000
def big2 (x y : Int) : Prop := -36893488147419103232 ≤ x * y ∧ x * y ≤ 36893488147419103232
theorem x2 (n : Int) (h0 : 1 ≤ n) (h1 : n ≤ 16) (x : Int) (hx : big1 x) (i : Nat) : ∀ (ys : List Int) (k t : Nat) (S : List (Int × Nat)) (T : Nat → Int), ((i + k + ys.length : Nat) : Int) ≤ 2 * n → (∀ y ∈ ys, big1 y ∧ big2 x y) → t + ys.length ≤ 32768 →
    S.length = phn n → (∀ j, j < phn n → ent (S.getD j (0, 0)) t (T j)) →
    ∃ S', hf_l2 n (pw n) x i ys k S = some S' ∧ S'.length = phn n ∧ ∀ j, j < phn n → ent (S'.getD j (0, 0)) (t + ys.length) (T j + x * dot ys ((cl2 n.toNat j).drop (i + k)))
  | [], k, t, S, T, _, _, _, hl, hS => ⟨S, rfl, hl, fun j hj => by
      have := hS j hj
      simpa [dot] using this⟩
  | y :: ys, k, t, S, T, hk, hy, ht, hl, hS => by
    simp only [List.length_cons] at hk ht
    have hpl := pw_len n h0 h1
    have hy0 := hy y (by simp)
    have hm : ∀ j, dot (y :: ys) ((cl2 n.toNat j).drop (i + k)) = y * ((pw n).getD (((i + k : Nat) : Int) % n).toNat []).getD j 0 + dot ys ((cl2 n.toNat j).drop (i + (k + 1))) := by
      intro j
      rw [dot_drop, cl2_get n h0 h1 (i + k) j (by omega), Nat.add_assoc]
    have step : ∃ S1, (if x = 0 ∨ y = 0 then some S else if n = 0 then none else if 0 ≤ Int.tmod (wrap64 ((i : Int) + k)) n ∧ Int.tmod (wrap64 ((i : Int) + k)) n < ((pw n).length : Int) then hf_l3 x y (rd_L1 (pw n) (Int.tmod (wrap64 ((i : Int) + k)) n)) 0 S else none) = some S1 ∧ S1.length = phn n ∧
        ∀ j, j < phn n → ent (S1.getD j (0, 0)) (t + 1) (T j + x * (y * ((pw n).getD (((i + k : Nat) : Int) % n).toNat []).getD j 0)) := by
      by_cases c : x = 0 ∨ y = 0
      · rw [if_pos c]
        refine ⟨S, rfl, hl, fun j hj => ?_⟩
        have e : x * (y * ((pw n).getD (((i + k : Nat) : Int) % n).toNat []).getD j 0) = 0 := by
          rcases c with c | c <;> rw [c] <;> simp
        rw [e, Int.add_zero]
        exact ent_mono (hS j hj) (by omega)
      · have e1 : Int.tmod (wrap64 ((i : Int) + (k : Int))) n = ((i + k : Nat) : Int) % n := by
          rw [w64 (by omega) (by omega), Int.tmod_eq_emod_of_nonneg (by omega)]; rfl
        have m0 := Int.emod_nonneg ((i + k : Nat) : Int) (show n ≠ 0 by omega)
        have m1 := Int.emod_lt_of_pos ((i + k : Nat) : Int) (show 0 < n by omega)
        rw [if_neg c, if_neg (by omega), e1, if_pos ⟨m0, by omega⟩]
        have eR : rd_L1 (pw n) (((i + k : Nat) : Int) % n) = (pw n).getD (((i + k : Nat) : Int) % n).toNat [] := by
          have := rd_L1_pw (pw n) (((i + k : Nat) : Int) % n).toNat
          rwa [Int.toNat_of_nonneg m0] at this
        have hlen : ((pw n).getD (((i + k : Nat) : Int) % n).toNat []).length = phn n := by
          have hq : (((i + k : Nat) : Int) % n).toNat < (pw n).length := by omega
          rw [gE _ _ hq]
          exact pw_row n h0 h1 _ (List.getElem_mem hq)
        have hsm : ∀ c ∈ (pw n).getD (((i + k : Nat) : Int) % n).toNat [], -1 ≤ c ∧ c ≤ 1 := by
          intro c hc
          obtain ⟨j, hj, rfl⟩ := List.getElem_of_mem hc
          have := row_small n h0 h1 (((i + k : Nat) : Int) % n).toNat j
          rwa [gE ((pw n).getD (((i + k : Nat) : Int) % n).toNat []) 0 hj] at this
        rw [eR]
        obtain ⟨S1, a1, a2, a3⟩ := x3 x y _ hsm T t (by omega) hx hy0.1 hy0.2 (phn n) 0 S (by omega) (by omega) (fun j hj => by
          simp only [Nat.not_lt_zero, if_false, Int.add_zero]
          exact hS j (by omega))
        rw [List.drop_zero] at a1
        refine ⟨S1, a1, by omega, fun j hj => ?_⟩
        have := a3 j (by omega)
        rwa [show ((pw n).getD (((i + k : Nat) : Int) % n).toNat []).getD j 0 * (x * y) = x * (y * ((pw n).getD (((i + k : Nat) : Int) % n).toNat []).getD j 0) by
          generalize ((pw n).getD (((i + k : Nat) : Int) % n).toNat []).getD j 0 = z
          rw [Int.mul_comm z (x * y), Int.mul_assoc]] at this
    obtain ⟨S1, b1, b2, b3⟩ := step
    obtain ⟨S2, c1, c2, c3⟩ := x2 n h0 h1 x hx i ys (k + 1) (t + 1) S1 (fun j => T j + x * (y * ((pw n).getD (((i + k : Nat) : Int) % n).toNat []).getD j 0)) (by omega) (fun z hz => hy z (by simp [hz])) (by omega) b2 b3
    refine ⟨S2, by rw [hf_l2, b1, Option.bind_some, c1], c2, fun j hj => ?_⟩
    have := c3 j hj
    rw [hm j, Int.mul_add, ← Int.add_assoc, List.length_cons, show t + (ys.length + 1) = t + 1 + ys.length by omega]
    exact this
theorem x1 (n : Int) (h0 : 1 ≤ n) (h1 : n ≤ 16) (ys : List Int) (hy : ys.length = phn n) : ∀ (xs : List Int) (i t : Nat) (S : List (Int × Nat)) (T : Nat → Int), i + xs.length = phn n → (∀ x ∈ xs, big1 x ∧ ∀ y ∈ ys, big1 y ∧ big2 x y) → t + xs.length * 12 ≤ 32768 →
    S.length = phn n → (∀ j, j < phn n → ent (S.getD j (0, 0)) t (T j)) →
    ∃ S', hf_l1 n (pw n) ys xs i S = some S' ∧ S'.length = phn n ∧ ∀ j, j < phn n → ent (S'.getD j (0, 0)) 32768 (T j + exS (cl2 n.toNat j) ys xs i)
  | [], i, t, S, T, _, _, ht, hl, hS => ⟨S, rfl, hl, fun j hj => by
      have := ent_mono (hS j hj) (show t ≤ 32768 by omega)
      simpa [exS] using this⟩
  | x :: xs, i, t, S, T, hi, hx, ht, hl, hS => by
    simp only [List.length_cons] at hi ht
    have hb := phn_bd n h0 h1
    have hN := (cyc_len n.toNat (by omega) (by omega)).2.1
    rw [Int.toNat_of_nonneg (by omega)] at hN
    obtain ⟨hx0, hxy⟩ := hx x (by simp)
    obtain ⟨S1, a1, a2, a3⟩ := x2 n h0 h1 x hx0 i ys 0 t S T (by omega) hxy (by omega) hl hS
    obtain ⟨S2, c1, c2, c3⟩ := x1 n h0 h1 ys hy xs (i + 1) (t + ys.length) S1 (fun j => T j + x * dot ys ((cl2 n.toNat j).drop (i + 0))) (by omega) (fun z hz => hx z (by simp [hz])) (by omega) a2 a3
    refine ⟨S2, by rw [hf_l1, a1, Option.bind_some, c1], c2, fun j hj => ?_⟩
    have := c3 j hj
    rw [exS, ← Int.add_assoc]
    exact this
theorem hf_ok_eq {s : Int × Nat} {t : Nat} {X : Int} (h : ent s t X) (ht : t ≤ 32768) : hf_ok s.1 s.2 = inP 1000000000 X := by
  have hc : (4876203697187506176 : Nat) = Go.Proofs.Ythljmbobccaalaa.Flt.c18 := by decide +kernel
  have hn : (14099575734042281984 : Nat) = Go.Proofs.Ythljmbobccaalaa.Flt.n18 := by decide +kernel
  unfold hf_ok
  rw [hc, hn]
  by_cases c : -1000000000 ≤ s.1 ∧ s.1 ≤ 1000000000
  · have := Go.Proofs.Ythljmbobccaalaa.Flt.near_test h.2 ht (low := s.1) (by rw [h.1]; exact ⟨(wrap64 X - X) / 18446744073709551616, by unfold wrap64; omega⟩) c
    rw [decide_eq_true c.1, decide_eq_true c.2, Bool.and_self, Bool.true_and]
    have e : FloatKind.f64.format = Ieee.double := rfl
    rw [e, this, inP]
    simp
  · have e1 : (decide (-1000000000 ≤ s.1) && decide (s.1 ≤ 1000000000)) = false := by simp; omega
    rw [e1, Bool.false_and]
    have e2 : ¬ (-1000000000 ≤ X ∧ X ≤ 1000000000) := by
      intro hX
      have := h.1
      rw [w64 (by omega) (by omega)] at this
      omega
    rw [eq_comm, Bool.eq_false_iff]
    intro h3
    rw [inP_iff] at h3
    omega
theorem all_map_eq {α : Type} (l : List α) (f : α → Bool) (g : Int → Bool) (m : List Int) (hl : l.length = m.length) (d : α) (h : ∀ j, j < l.length → f (l.getD j d) = g (m.getD j 0)) : l.all f = m.all g := by
  induction l generalizing m with
  | nil => match m, hl with | [], _ => rfl
  | cons a l ih =>
    match m, hl with
    | b :: m, hl =>
      rw [List.all_cons, List.all_cons, ih m (by simpa using hl) (fun j hj => by have := h (j + 1) (by simp; omega); simpa using this), show f a = g b from by have := h 0 (by simp); simpa using this]
/-- What the program's product of parts is. -/
theorem ftimes_spec (n : Int) (a b : List Int) (h0 : 1 ≤ n) (h1 : n ≤ 16) (ha : a.length = phn n) (hb : b.length = phn n) (hs : ∀ x ∈ a, big1 x ∧ ∀ y ∈ b, big1 y ∧ big2 x y) :
    ∃ l, impl_field_times.f n (phn n : Int) (pw n) a b = some (l, (xL n a b).all (inP 1000000000), n, (phn n : Int)) ∧ l.length = phn n ∧ ((xL n a b).all (inP 1000000000) = true → l = xL n a b) := by
  have hp := phn_bd n h0 h1
  obtain ⟨S, s1, s2, s3⟩ := x1 n h0 h1 b hb a 0 0 (List.replicate (phn n) (0, 0)) (fun _ => 0) (by omega) hs (by omega) (by simp) (fun j hj => by
    rw [gE _ _ (by simpa using hj), List.getElem_replicate]
    exact ⟨(w64 (by omega) (by omega)).symm, Go.Proofs.Ythljmbobccaalaa.Flt.near_zero⟩)
  have key : ∀ j, j < phn n → ent (S.getD j (0, 0)) 32768 (xT n a b j) := fun j hj => by
    have := s3 j hj
    rwa [Int.zero_add] at this
  have hall : (S.all fun s => hf_ok s.1 s.2) = (xL n a b).all (inP 1000000000) :=
    all_map_eq S _ _ _ (by rw [xL_len]; exact s2) (0, 0) (fun j hj => by rw [xL_get _ _ _ _ (by omega)]; exact hf_ok_eq (key j (by omega)) (by omega))
  refine ⟨S.map (·.1), ?_, by rw [List.length_map]; exact s2, fun hok => ?_⟩
  · unfold impl_field_times.f
    rw [if_pos (by omega), Int.toNat_natCast, s1, Option.map_some, hall]
  · refine List.ext_getElem (by rw [List.length_map, xL_len]; exact s2) (fun j h2 h3 => ?_)
    have hj : j < phn n := by rwa [xL_len] at h3
    have h4 := (key j hj).1
    rw [gE _ _ (by omega)] at h4
    rw [List.getElem_map, h4, ← gE (xL n a b) 0 h3, xL_get n a b j hj]
    have h5 := List.all_eq_true.mp hok _ (List.getElem_mem h3)
    rw [← gE (xL n a b) 0 h3, xL_get n a b j hj, inP_iff] at h5
    exact w64 (by omega) (by omega)
theorem xmul_bd {x y A B : Int} (hx : -A ≤ x ∧ x ≤ A) (hy : -B ≤ y ∧ y ≤ B) : -(A * B) ≤ x * y ∧ x * y ≤ A * B := by
  have h : (x * y).natAbs ≤ A.toNat * B.toNat := by rw [Int.natAbs_mul]; exact Nat.mul_le_mul (by omega) (by omega)
  have e : ((A.toNat * B.toNat : Nat) : Int) = A * B := by rw [Int.natCast_mul, Int.toNat_of_nonneg (by omega), Int.toNat_of_nonneg (by omega)]
  rw [← e]
  omega
theorem dot_bd (x K : Int) (hK : 0 ≤ K) : ∀ (ys c : List Int), (∀ y ∈ ys, -K ≤ x * y ∧ x * y ≤ K) → (∀ q, -1 ≤ c.getD q 0 ∧ c.getD q 0 ≤ 1) → -(ys.length * K) ≤ x * dot ys c ∧ x * dot ys c ≤ ys.length * K
  | [], c, _, _ => by simp [dot]
  | y :: ys, [], h, hc => by
    rw [dot_nil, Int.mul_zero, List.length_cons]
    have : 0 ≤ ((ys.length + 1 : Nat) : Int) * K := Int.mul_nonneg (by omega) hK
    omega
  | y :: ys, z :: c, h, hc => by
    have h1 := dot_bd x K hK ys c (fun q hq => h q (by simp [hq])) (fun q => by have := hc (q + 1); simpa using this)
    have h2 := h y (by simp)
    have h3 : -1 ≤ z ∧ z ≤ 1 := by have := hc 0; simpa using this
    have h4 : -K ≤ x * (y * z) ∧ x * (y * z) ≤ K := by
      have hz : z = -1 ∨ z = 0 ∨ z = 1 := by omega
      rw [← Int.mul_assoc]
      generalize x * y = w at *
      rcases hz with e | e | e <;> rw [e] <;> omega
    have e : ((y :: ys).length : Int) * K = ys.length * K + K := by rw [List.length_cons]; push_cast; rw [Int.add_mul, Int.one_mul]
    rw [e, dot, Int.mul_add]
    omega
theorem exS_bd (K : Int) (hK : 0 ≤ K) (c ys : List Int) (hc : ∀ q, -1 ≤ c.getD q 0 ∧ c.getD q 0 ≤ 1) : ∀ (xs : List Int) (i : Nat), (∀ x ∈ xs, ∀ y ∈ ys, -K ≤ x * y ∧ x * y ≤ K) → -(xs.length * (ys.length * K)) ≤ exS c ys xs i ∧ exS c ys xs i ≤ xs.length * (ys.length * K)
  | [], i, _ => by simp [exS]
  | x :: xs, i, h => by
    have h1 := exS_bd K hK c ys hc xs (i + 1) (fun q hq => h q (by simp [hq]))
    have h2 := dot_bd x K hK ys (c.drop i) (fun y hy => h x (by simp) y hy) (fun q => by
      have := hc (i + q)
      rwa [List.getD_eq_getElem?_getD, List.getElem?_drop, ← List.getD_eq_getElem?_getD])
    have e : ((x :: xs).length : Int) * (ys.length * K) = xs.length * (ys.length * K) + ys.length * K := by rw [List.length_cons]; push_cast; rw [Int.add_mul, Int.one_mul]
    rw [e, exS]
    omega
theorem xT_bd (n : Int) (h0 : 1 ≤ n) (h1 : n ≤ 16) (a b : List Int) (ha : a.length = phn n) (hb : b.length = phn n) (K : Int) (hK : 0 ≤ K) (h : ∀ x ∈ a, ∀ y ∈ b, -K ≤ x * y ∧ x * y ≤ K) (m : Nat) : -(144 * K) ≤ xT n a b m ∧ xT n a b m ≤ 144 * K := by
  have hp := phn_bd n h0 h1
  have h2 := exS_bd K hK (cl2 n.toNat m) b (cl2_small n h0 h1 m) a 0 h
  rw [ha, hb] at h2
  have h3 : (phn n : Int) * ((phn n : Int) * K) ≤ 144 * K := by
    rw [← Int.mul_assoc]
    refine Int.mul_le_mul_of_nonneg_right ?_ hK
    have : phn n * phn n ≤ 12 * 12 := Nat.mul_le_mul hp.2 hp.2
    have e : ((phn n * phn n : Nat) : Int) = (phn n : Int) * (phn n : Int) := Int.natCast_mul _ _
    omega
  unfold xT
  omega
def los (ys : List Int) : List Int := ys.map fun y => Int.tmod y 100000
def his (ys : List Int) : List Int := ys.map fun y => Int.tdiv y 100000
theorem dot_split : ∀ (ys c : List Int), dot ys c = 100000 * dot (his ys) c + dot (los ys) c
  | [], c => by simp [his, los, dot]
  | y :: ys, [] => by simp [dot_nil]
  | y :: ys, z :: c => by
    have h := dot_split ys c
    have e : y = 100000 * Int.tdiv y 100000 + Int.tmod y 100000 := (Int.mul_tdiv_add_tmod y 100000).symm
    simp only [his, los, List.map_cons, dot] at h ⊢
    rw [h]
    have e2 : y * z = 100000 * (Int.tdiv y 100000 * z) + Int.tmod y 100000 * z := by
      conv => lhs; rw [e]
      rw [Int.add_mul, Int.mul_assoc]
    omega
theorem exS_split (c ys : List Int) : ∀ (xs : List Int) (i : Nat), exS c ys xs i = 100000 * exS c (his ys) xs i + exS c (los ys) xs i
  | [], i => by simp [exS]
  | x :: xs, i => by
    have h := exS_split c ys xs (i + 1)
    simp only [exS]
    rw [h, dot_split ys, Int.mul_add]
    have e : x * (100000 * dot (his ys) (c.drop i)) = 100000 * (x * dot (his ys) (c.drop i)) := by rw [← Int.mul_assoc, Int.mul_comm x 100000, Int.mul_assoc]
    omega
theorem product_ex (n : Int) (xs ys : List Int) (h0 : 1 ≤ n) (h1 : n ≤ 16) (hx : xs.length = phn n) (hy : ys.length = phn n) (hw : ∀ m, m < phn n → inW (xT n xs ys m)) : Ev (fun k => spec_l01Product.f k n xs ys) (n, xL n xs ys) := by
  have hb := phn_bd n h0 h1
  refine product01 n xs ys (xL n xs ys) h0 h1 hx hy (xL_len _ _ _) (fun o ho => ?_) (fun m hm => ?_)
  · obtain ⟨j, hj, rfl⟩ := List.getElem_of_mem ho
    rw [xL_len] at hj
    have := hw j hj
    rwa [← xL_get n xs ys j hj, gE _ _ (by rw [xL_len]; exact hj)] at this
  · rw [xL_get n xs ys m hm, dot_cv ys _ xs 0 _ (by rw [List.length_replicate]; omega), dot_zeros, Int.zero_add, xT]
theorem his_len (ys : List Int) : (his ys).length = ys.length := by simp [his]
theorem los_len (ys : List Int) : (los ys).length = ys.length := by simp [los]
theorem tmodB (y : Int) : -99999 ≤ Int.tmod y 100000 ∧ Int.tmod y 100000 ≤ 99999 := by
  have h1 := Int.tmod_lt_of_pos y (show (0 : Int) < 100000 by decide)
  have h2 := Int.lt_tmod_of_pos y (show (0 : Int) < 100000 by decide)
  omega
theorem tdiv_bd {y : Int} (h : -17179869184 ≤ y ∧ y ≤ 17179869184) : -171799 ≤ Int.tdiv y 100000 ∧ Int.tdiv y 100000 ≤ 171799 := by
  have h1 := tmodB y
  have h2 := Int.mul_tdiv_add_tmod y 100000
  omega
def big0 (x : Int) : Prop := -17179869184 ≤ x ∧ x ≤ 17179869184
theorem timesG_l1 (n n1 n2 : Int) (Z G E : List Int) (P : Nat) (hP : P ≤ 1000) (hZ : Z.length = P) (hG : G.length = P) (hE : E.length = P) (he : ∀ j, j < P → inP 10000000000000 (G.getD j 0) = true → E.getD j 0 = wrap64 (wrap64 (G.getD j 0 * 100000) + Z.getD j 0)) :
    ∀ (d i : Nat), d + i = P → ∃ o, Ev (fun k => spec_l01Times.l1 k (i : Int) n1 Z n2 G n (E.take i ++ (List.replicate P 0).drop i)) (n, o, (G.drop i).all (inP 10000000000000) && E.all (inP 1000000000)) ∧ o.length = P ∧ (((G.drop i).all (inP 10000000000000) && E.all (inP 1000000000)) = true → o = E) := by
  intro d
  induction d with
  | zero =>
    intro i hi
    have e : i = P := by omega
    subst e
    have e2 : E.take i ++ (List.replicate i 0).drop i = E := by rw [List.drop_eq_nil_of_le (by simp), List.append_nil, List.take_of_length_le (by omega)]
    refine ⟨E, ?_, hE, fun _ => rfl⟩
    rw [List.drop_eq_nil_of_le (show G.length ≤ i by omega), List.all_nil, Bool.true_and]
    refine Ev.step (f := fun k => (spec_l01Fits.f k n E).bind fun t => some (n, E, t)) (fun k => ?_) (Ev.bind (fits01 n E (by omega)) (Ev.now _))
    simp only [spec_l01Times.l1]
    rw [e2, if_neg (by omega)]
  | succ d ih =>
    intro i hi
    have hz : E.length = (List.replicate P (0 : Int)).length := by rw [List.length_replicate]; exact hE
    have hi2 : i < G.length := by omega
    have e1 := tk_len E (List.replicate P 0) i hz (by rw [List.length_replicate]; omega)
    have e2 := tk_set E (List.replicate P 0) i hz (by rw [List.length_replicate]; omega)
    rw [List.length_replicate] at e1
    have e3 : rd G (i : Int) = G[i] := by rw [rd, Int.toNat_natCast, gE _ _ hi2]
    have e4 : rd Z (i : Int) = Z.getD i 0 := by rw [rd, Int.toNat_natCast]
    have eI : (decide ((-10000000000000 : Int) ≤ G[i]) && decide (G[i] ≤ 10000000000000)) = inP 10000000000000 G[i] := rfl
    rw [List.drop_eq_getElem_cons hi2, List.all_cons]
    cases hc : inP 10000000000000 G[i] with
    | false =>
      refine ⟨E.take i ++ (List.replicate P 0).drop i, ?_, e1, fun h => by simp at h⟩
      refine Ev.step (f := fun _ => some (n, E.take i ++ (List.replicate P 0).drop i, false)) (fun k => ?_) (by simp only [Bool.false_and]; exact Ev.now _)
      simp only [spec_l01Times.l1]
      rw [e1, e3, if_pos (by omega), if_pos (by omega), if_pos (by omega), in01, eI, hc, Option.bind_some, if_neg (by simp)]
    | true =>
      obtain ⟨o, a1, a2, a3⟩ := ih (i + 1) (by omega)
      refine ⟨o, ?_, a2, by simpa using a3⟩
      rw [Bool.true_and]
      refine Ev.step (fun k => ?_) a1
      have hE2 := he i (by omega) (by rw [gE _ _ hi2]; exact hc)
      simp only [spec_l01Times.l1]
      rw [e1, e3, if_pos (by omega), if_pos (by omega), if_pos (by omega), in01, eI, hc, Option.bind_some, if_pos rfl, if_pos (by omega), w64 (x := (i : Int) + 1) (by omega) (by omega), e4, ← gE G 0 hi2, ← hE2, Int.toNat_natCast, e2]
      rfl
theorem timesG_l0 (n n' : Int) (xs ys : List Int) (hl : ys.length ≤ 1000) (h : ∀ c ∈ ys, big0 c) (r : Int × List Int × Bool)
    (H : Ev (fun k => ((spec_l01Product.f k n xs (los ys)).bind fun bt197 => ((spec_l01Product.f k n xs (his ys)).bind fun bt201 => ((spec_l01Zero.f k n).bind fun bt207 => (spec_l01Times.l1 k 0 bt197.1 bt197.2 bt201.1 bt201.2 bt207.1 bt207.2))))) r) :
    ∀ (d i : Nat), d + i = ys.length → Ev (fun k => spec_l01Times.l0 k ((los ys).take i) ((his ys).take i) (i : Int) n xs n' ys) r := by
  intro d
  induction d with
  | zero =>
    intro i hi
    have e : i = ys.length := by omega
    subst e
    refine Ev.step (fun k => ?_) H
    simp only [spec_l01Times.l0]
    rw [if_neg (by omega), List.take_of_length_le (by rw [los_len]; omega), List.take_of_length_le (by rw [his_len]; omega)]
  | succ d ih =>
    intro i hi
    have hi2 : i < ys.length := by omega
    have hb := tdiv_bd (h _ (List.getElem_mem hi2))
    refine Ev.step (fun k => ?_) (ih (i + 1) (by omega))
    simp only [spec_l01Times.l0]
    rw [if_pos (by omega), if_pos (by omega), if_pos (by rw [List.length_take, los_len]; omega), if_pos (by rw [List.length_take, his_len]; omega), rd, Int.toNat_natCast, gE _ _ hi2, w64 (x := Int.tdiv ys[i] 100000) (by omega) (by omega), w64 (x := (i : Int) + 1) (by omega) (by omega),
      List.take_succ_eq_append_getElem (show i < (los ys).length by rw [los_len]; exact hi2), List.take_succ_eq_append_getElem (show i < (his ys).length by rw [his_len]; exact hi2)]
    simp only [los, his, List.getElem_map]
    rfl
/-- What the reference's product is: it is exact. -/
theorem rtimes_spec (n n' : Int) (a b : List Int) (h0 : 1 ≤ n) (h1 : n ≤ 16) (ha : a.length = phn n) (hb : b.length = phn n) (sa : ∀ x ∈ a, big0 x) (sb : ∀ y ∈ b, big0 y) :
    ∃ l, Ev (fun k => spec_l01Times.f k n a n' b) (n, l, (xL n a b).all (inP 1000000000)) ∧ l.length = phn n ∧ ((xL n a b).all (inP 1000000000) = true → l = xL n a b) := by
  have hp := phn_bd n h0 h1
  have lo : ∀ m, m < phn n → -247390116249600000 ≤ xT n a (los b) m ∧ xT n a (los b) m ≤ 247390116249600000 := by
    intro m hm
    have := xT_bd n h0 h1 a (los b) ha (by rw [los_len]; exact hb) 1717986918400000 (by omega) (fun x hx y hy => by
      simp only [los, List.mem_map] at hy
      obtain ⟨z, _, rfl⟩ := hy
      have := xmul_bd (A := 17179869184) (B := 99999) (sa x hx) (tmodB z)
      omega) m
    omega
  have hi : ∀ m, m < phn n → -425045011000000000 ≤ xT n a (his b) m ∧ xT n a (his b) m ≤ 425045011000000000 := by
    intro m hm
    have := xT_bd n h0 h1 a (his b) ha (by rw [his_len]; exact hb) 2951484346000000 (by omega) (fun x hx y hy => by
      simp only [his, List.mem_map] at hy
      obtain ⟨z, hz, rfl⟩ := hy
      have := xmul_bd (A := 17179869184) (B := 171799) (sa x hx) (tdiv_bd (sb z hz))
      omega) m
    omega
  have sp : ∀ m, xT n a b m = 100000 * xT n a (his b) m + xT n a (los b) m := fun m => exS_split _ b a 0
  have he : ∀ j, j < phn n → inP 10000000000000 ((xL n a (his b)).getD j 0) = true → (xL n a b).getD j 0 = wrap64 (wrap64 ((xL n a (his b)).getD j 0 * 100000) + (xL n a (los b)).getD j 0) := by
    intro j hj hc
    rw [xL_get _ _ _ _ hj] at hc ⊢
    rw [xL_get _ _ _ _ hj, xL_get _ _ _ _ hj, sp j]
    rw [inP_iff] at hc
    have := lo j hj
    rw [w64 (x := xT n a (his b) j * 100000) (by omega) (by omega), w64 (by omega) (by omega)]
    omega
  obtain ⟨l, q1, q2, q3⟩ := timesG_l1 n n n (xL n a (los b)) (xL n a (his b)) (xL n a b) (phn n) (by omega) (xL_len _ _ _) (xL_len _ _ _) (xL_len _ _ _) he (phn n) 0 (by omega)
  have eb : ((xL n a (his b)).all (inP 10000000000000) && (xL n a b).all (inP 1000000000)) = (xL n a b).all (inP 1000000000) := by
    cases c : (xL n a b).all (inP 1000000000) with
    | false => rw [Bool.and_false]
    | true =>
      rw [Bool.and_true, List.all_eq_true]
      intro g hg
      obtain ⟨j, hj, rfl⟩ := List.getElem_of_mem hg
      rw [xL_len] at hj
      have h2 := List.all_eq_true.mp c _ (List.getElem_mem (show j < (xL n a b).length by rw [xL_len]; exact hj))
      rw [← gE _ 0, xL_get _ _ _ _ hj, inP_iff] at h2
      rw [← gE _ 0, xL_get _ _ _ _ hj, inP_iff]
      have := lo j hj
      have := sp j
      omega
  simp only [List.drop_zero, eb] at q1 q3
  refine ⟨l, ?_, q2, q3⟩
  unfold spec_l01Times.f
  have key := timesG_l0 n n' a b (by omega) sb (n, l, (xL n a b).all (inP 1000000000)) ?_ b.length 0 (by omega)
  · simpa using key
  · refine Ev.bind (product_ex n a (los b) h0 h1 ha (by rw [los_len]; exact hb) (fun m hm => by have := lo m hm; unfold inW; omega)) (Ev.bind (product_ex n a (his b) h0 h1 ha (by rw [his_len]; exact hb) (fun m hm => by have := hi m hm; unfold inW; omega)) (Ev.bind (zero01 n h0 h1) ?_))
    simpa using q1
def rowsA (n a : Int) (P : Nat) : List (List Int) := (List.range P).map fun (i : Nat) => (pw n).getD ((a * (i : Int)) % n).toNat []
def im (n a : Int) (l : List Int) : List Int := cmb (List.replicate (phn n) 0) l (rowsA n a l.length)
def ims (n a : Int) (m : Nat) : List Int → Nat → Int
  | [], _ => 0
  | x :: xs, i => x * ((pw n).getD ((a * (i : Int)) % n).toNat []).getD m 0 + ims n a m xs (i + 1)
def gl (n a : Int) : List Int → Nat → List Int → List Int
  | [], _, many => many
  | x :: xs, i, many => gl n a xs (i + 1) (many.set ((a * (i : Int)) % n).toNat (wrap64 (many.getD ((a * (i : Int)) % n).toNat 0 + x)))
theorem gl_len (n a : Int) : ∀ (l : List Int) (i : Nat) (many : List Int), (gl n a l i many).length = many.length
  | [], _, _ => rfl
  | x :: xs, i, many => by rw [gl, gl_len, List.length_set]
theorem gl_in (n a : Int) : ∀ (l : List Int) (i : Nat) (many : List Int), (∀ o ∈ many, inW o) → ∀ o ∈ gl n a l i many, inW o
  | [], _, _, h => h
  | x :: xs, i, many, h => gl_in n a xs _ _ (set_in _ _ _ (w_in _) h)
theorem gl_dot (n a : Int) (h0 : 1 ≤ n) (h1 : n ≤ 16) (m : Nat) : ∀ (l : List Int) (i : Nat) (many : List Int), (many.length : Int) = n → dot (gl n a l i many) (cl n m) % 18446744073709551616 = (dot many (cl n m) + ims n a m l i) % 18446744073709551616
  | [], i, many, _ => by simp [gl, ims]
  | x :: xs, i, many, hm => by
    have b0 := Int.emod_nonneg (a * (i : Int)) (show n ≠ 0 by omega)
    have b1 := Int.emod_lt_of_pos (a * (i : Int)) (show 0 < n by omega)
    rw [gl, gl_dot n a h0 h1 m xs (i + 1) _ (by rw [List.length_set]; exact hm), dot_set _ _ _ _ (by omega), cl_get n _ m h0 h1 ⟨b0, b1⟩, ims]
    have q1 : (wrap64 (many.getD ((a * (i : Int)) % n).toNat 0 + x) - many.getD ((a * (i : Int)) % n).toNat 0) % 18446744073709551616 = x % 18446744073709551616 := by
      have := w_mod (many.getD ((a * (i : Int)) % n).toNat 0 + x)
      omega
    have q2 : (wrap64 (many.getD ((a * (i : Int)) % n).toNat 0 + x) - many.getD ((a * (i : Int)) % n).toNat 0) * ((pw n).getD ((a * (i : Int)) % n).toNat []).getD m 0 % 18446744073709551616 = x * ((pw n).getD ((a * (i : Int)) % n).toNat []).getD m 0 % 18446744073709551616 := by
      rw [Int.mul_emod, q1, ← Int.mul_emod]
    generalize (wrap64 (many.getD ((a * (i : Int)) % n).toNat 0 + x) - many.getD ((a * (i : Int)) % n).toNat 0) * ((pw n).getD ((a * (i : Int)) % n).toNat []).getD m 0 = u at *
    generalize x * ((pw n).getD ((a * (i : Int)) % n).toNat []).getD m 0 = v at *
    omega
theorem dot_rows (n a : Int) (m : Nat) : ∀ (l : List Int) (i P : Nat), i + l.length = P → dot l (((rowsA n a P).drop i).map fun r => r.getD m 0) = ims n a m l i
  | [], i, P, _ => by simp [dot, ims]
  | x :: xs, i, P, h => by
    simp only [List.length_cons] at h
    have hi : i < (rowsA n a P).length := by simp [rowsA]; omega
    rw [List.drop_eq_getElem_cons hi, List.map_cons, dot, ims, dot_rows n a m xs (i + 1) P (by omega)]
    simp [rowsA]
theorem rowsA_row (n a : Int) (P : Nat) (h0 : 1 ≤ n) (h1 : n ≤ 16) : ∀ r ∈ rowsA n a P, r.length = phn n := by
  intro r hr
  simp only [rowsA, List.mem_map] at hr
  obtain ⟨i, _, rfl⟩ := hr
  exact pw_row n h0 h1 _ (pw_get n _ h0 h1 ⟨Int.emod_nonneg _ (by omega), Int.emod_lt_of_pos _ (by omega)⟩)
theorem zeros_in (P : Nat) : ∀ o ∈ List.replicate P (0 : Int), inW o := fun o ho => by rw [List.eq_of_mem_replicate ho]; unfold inW; omega
theorem im_spec (n a : Int) (l : List Int) (h0 : 1 ≤ n) (h1 : n ≤ 16) : (im n a l).length = phn n ∧ (∀ o ∈ im n a l, inW o) ∧ ∀ m, m < phn n → (im n a l).getD m 0 % 18446744073709551616 = ims n a m l 0 % 18446744073709551616 := by
  obtain ⟨c1, c2, c3⟩ := cmb_spec l (rowsA n a l.length) (List.replicate (phn n) 0) (fun r hr => by rw [List.length_replicate]; exact rowsA_row n a _ h0 h1 r hr) (zeros_in _)
  rw [List.length_replicate] at c1 c3
  refine ⟨c1, c2, fun m hm => ?_⟩
  have := c3 m hm
  rw [gE (List.replicate (phn n) (0 : Int)) 0 (by rw [List.length_replicate]; exact hm), List.getElem_replicate, Int.zero_add] at this
  rw [im, this]
  have h := dot_rows n a m l 0 l.length (by omega)
  rw [List.drop_zero] at h
  rw [h]
theorem im_cnt (n a : Int) (l : List Int) (h0 : 1 ≤ n) (h1 : n ≤ 16) : cnt n (gl n a l 0 (List.replicate n.toNat 0)) = im n a l := by
  obtain ⟨a1, a2, a3⟩ := im_spec n a l h0 h1
  obtain ⟨b1, b2, b3⟩ := cnt_spec n (gl n a l 0 (List.replicate n.toNat 0)) h0 h1
  refine lists_eq (by omega) b2 a2 (fun m hm => ?_)
  rw [b3 m (by omega), a3 m (by omega), gl_dot n a h0 h1 m l 0 _ (by rw [List.length_replicate]; omega), dot_zeros, Int.zero_add]
theorem ims_bd (n a : Int) (h0 : 1 ≤ n) (h1 : n ≤ 16) (m : Nat) (K : Int) (hK : 0 ≤ K) : ∀ (l : List Int) (i : Nat), (∀ x ∈ l, -K ≤ x ∧ x ≤ K) → -(l.length * K) ≤ ims n a m l i ∧ ims n a m l i ≤ l.length * K
  | [], i, _ => by simp [ims]
  | x :: xs, i, h => by
    have h2 := ims_bd n a h0 h1 m K hK xs (i + 1) (fun y hy => h y (by simp [hy]))
    have h3 := h x (by simp)
    have h4 := row_small n h0 h1 ((a * (i : Int)) % n).toNat m
    have e : ((x :: xs).length : Int) * K = xs.length * K + K := by rw [List.length_cons]; push_cast; rw [Int.add_mul, Int.one_mul]
    rw [e, ims]
    generalize ((pw n).getD ((a * (i : Int)) % n).toNat []).getD m 0 = z at *
    have hz : z = -1 ∨ z = 0 ∨ z = 1 := by omega
    rcases hz with e | e | e <;> rw [e] <;> omega
theorem im_get (n a : Int) (l : List Int) (h0 : 1 ≤ n) (h1 : n ≤ 16) (hl : l.length = phn n) (K : Int) (hK : 0 ≤ K ∧ K ≤ 100000000000000) (h : ∀ x ∈ l, -K ≤ x ∧ x ≤ K) (m : Nat) (hm : m < phn n) :
    (im n a l).getD m 0 = ims n a m l 0 ∧ -(12 * K) ≤ (im n a l).getD m 0 ∧ (im n a l).getD m 0 ≤ 12 * K := by
  obtain ⟨a1, a2, a3⟩ := im_spec n a l h0 h1
  have hb := ims_bd n a h0 h1 m K hK.1 l 0 h
  have hp := phn_bd n h0 h1
  have h3 : (l.length : Int) * K ≤ 12 * K := Int.mul_le_mul_of_nonneg_right (by omega) hK.1
  have e := in_eq (get_in _ a2 m) (show inW (ims n a m l 0) by unfold inW; omega) (a3 m hm)
  exact ⟨e, by omega, by omega⟩
theorem im_big (n a : Int) (l : List Int) (h0 : 1 ≤ n) (h1 : n ≤ 16) (hl : l.length = phn n) (h : ∀ x ∈ l, -1000000000 ≤ x ∧ x ≤ 1000000000) : ∀ o ∈ im n a l, big0 o := by
  intro o ho
  obtain ⟨j, hj, rfl⟩ := List.getElem_of_mem ho
  have a1 := (im_spec n a l h0 h1).1
  have := (im_get n a l h0 h1 hl 1000000000 (by omega) h j (by omega)).2
  rw [gE _ _ hj] at this
  unfold big0
  omega
theorem with2_l1 (x2 x : Int) (out row list : List Int) (x18 x19 n ph : Int) (pws : List (List Int)) (h : row.length = out.length) (hl : out.length ≤ 1000) (r : List Int × Int × Int)
    (H : Ev (fun k => impl_field_with.l0 k x2 (axpy x out row) list x18 (wrap64 (x19 + 1)) n ph pws) r) :
    ∀ (d i : Nat), d + i = row.length → Ev (fun k => impl_field_with.l1 k x2 ((axpy x out row).take i ++ out.drop i) x list x18 x19 row (row.length : Int) (i : Int) n ph pws) r := by
  intro d
  induction d with
  | zero =>
    intro i hi
    have e : i = out.length := by omega
    subst e
    refine Ev.step (fun k => ?_) H
    simp only [impl_field_with.l1]
    rw [if_neg (by omega), tk_end _ _ (axpy_len x out row h)]
  | succ d ih =>
    intro i hi
    refine Ev.step (fun k => ?_) (ih (i + 1) (by omega))
    simp only [impl_field_with.l1]
    rw [if_pos (by omega), if_pos (by omega), if_pos (by omega), tk_len _ _ _ (axpy_len x out row h) (by omega), if_pos (by omega), w64 (x := (i : Int) + 1) (by omega) (by omega), tk_rd _ _ _ (axpy_len x out row h) (by omega), Int.toNat_natCast]
    rw [show wrap64 (out.getD i 0 + wrap64 (x * rd row (i : Int))) = (axpy x out row).getD i 0 by rw [axpy_get x out row h i (by omega), rd, Int.toNat_natCast], tk_set _ _ _ (axpy_len x out row h) (by omega)]
    rfl
theorem with2_l0 (n ph a : Int) (list : List Int) (h0 : 1 ≤ n) (h1 : n ≤ 16) (ha : -100 ≤ a ∧ a ≤ 100) (hl : list.length ≤ 100) :
    ∀ (d i : Nat) (out : List Int), d + i = list.length → out.length = phn n → Ev (fun k => impl_field_with.l0 k a out list (list.length : Int) (i : Int) n ph (pw n)) (cmb out (list.drop i) ((rowsA n a list.length).drop i), n, ph) := by
  have hph := phn_bd n h0 h1
  have hpl := pw_len n h0 h1
  intro d
  induction d with
  | zero =>
    intro i out hi ho
    have e : i = list.length := by omega
    subst e
    refine Ev.step (f := fun _ => some (out, n, ph)) (fun k => ?_) ?_
    · simp only [impl_field_with.l0]
      rw [if_neg (by omega)]
    · rw [List.drop_length, cmb]
      exact Ev.now _
      all_goals simp
  | succ d ih =>
    intro i out hi ho
    have hi2 : i < list.length := by omega
    have hi3 : i < (rowsA n a list.length).length := by simp [rowsA]; omega
    have hb0 := Int.emod_nonneg (a * (i : Int)) (show n ≠ 0 by omega)
    have hb1 := Int.emod_lt_of_pos (a * (i : Int)) (show 0 < n by omega)
    have hai : -10000 ≤ a * (i : Int) ∧ a * (i : Int) ≤ 10000 := by
      have := mul_bd (a := a) (b := (i : Int)) (A := 100) (B := 100) (by omega) (by omega)
      omega
    have hrow : (rowsA n a list.length)[i] = (pw n).getD ((a * (i : Int)) % n).toNat [] := by simp [rowsA]
    have hlen : ((pw n).getD ((a * (i : Int)) % n).toNat []).length = phn n := pw_row n h0 h1 _ (pw_get n _ h0 h1 ⟨hb0, hb1⟩)
    have har : impl_around.f (wrap64 (a * (i : Int))) n = some ((a * (i : Int)) % n) := by rw [w64 (by omega) (by omega), around _ _ (by omega) (by omega)]
    have erd : rd_L1 (pw n) ((a * (i : Int)) % n) = (pw n).getD ((a * (i : Int)) % n).toNat [] := by
      have := rd_L1_pw (pw n) ((a * (i : Int)) % n).toNat
      rwa [Int.toNat_of_nonneg hb0] at this
    refine Ev.step (f := fun k => impl_field_with.l1 k a out list[i] list (list.length : Int) (i : Int) ((pw n).getD ((a * (i : Int)) % n).toNat []) (((pw n).getD ((a * (i : Int)) % n).toNat []).length : Int) 0 n ph (pw n)) (fun k => ?_) ?_
    · simp only [impl_field_with.l0]
      rw [if_pos (by omega), if_pos (by omega), if_pos (by omega), har, Option.bind_some, if_pos (by omega), if_pos (by omega), erd, rd, Int.toNat_natCast, gE _ _ hi2]
    · have H := ih (i + 1) (axpy list[i] out ((pw n).getD ((a * (i : Int)) % n).toNat [])) (by omega) (by rw [axpy_len _ _ _ (by omega), ho])
      have := with2_l1 a list[i] out ((pw n).getD ((a * (i : Int)) % n).toNat []) list (list.length : Int) (i : Int) n ph (pw n) (by omega) (by omega) (cmb out (list.drop i) ((rowsA n a list.length).drop i), n, ph) (by
        rw [w64 (x := (i : Int) + 1) (by omega) (by omega), List.drop_eq_getElem_cons hi2, List.drop_eq_getElem_cons hi3, cmb, hrow]
        exact H) ((pw n).getD ((a * (i : Int)) % n).toNat []).length 0 (by omega)
      simpa using this
theorem image (n a : Int) (l : List Int) (h0 : 1 ≤ n) (h1 : n ≤ 16) (ha : -100 ≤ a ∧ a ≤ 100) (hl : l.length = phn n) : Ev (fun k => impl_field_image.f k n (phn n : Int) (pw n) l a) (im n a l, n, (phn n : Int)) := by
  have hp := phn_bd n h0 h1
  unfold impl_field_image.f
  refine Ev.bind (a := (im n a l, n, (phn n : Int))) ?_ (Ev.now _)
  unfold impl_field_with.f
  simp only [Int.toNat_natCast, if_pos (show 0 ≤ (phn n : Int) by omega), if_pos (show phn n ≤ 35184372088832 by omega)]
  have := with2_l0 n (phn n : Int) a l h0 h1 ha (by omega) l.length 0 (List.replicate (phn n) 0) (by omega) (by simp)
  simpa [im] using this
theorem galois_l0 (n n' a : Int) (l : List Int) (h0 : 1 ≤ n) (h1 : n ≤ 16) (ha : -100 ≤ a ∧ a ≤ 100) (hl : l.length ≤ 100) (r : Int × List Int) :
    ∀ (d i : Nat) (many : List Int), d + i = l.length → (many.length : Int) = n → Ev (fun k => (spec_l01Reduce.f k n (gl n a (l.drop i) i many)).bind fun bt => some (bt.1, bt.2)) r → Ev (fun k => spec_l01Galois.l0 k a n many (i : Int) n' l) r := by
  intro d
  induction d with
  | zero =>
    intro i many hi hm H
    rw [List.drop_eq_nil_of_le (by omega), gl] at H
    refine Ev.step (fun k => ?_) H
    simp only [spec_l01Galois.l0]
    rw [if_neg (by omega)]
  | succ d ih =>
    intro i many hi hm H
    have hi2 : i < l.length := by omega
    have hb0 := Int.emod_nonneg (a * (i : Int)) (show n ≠ 0 by omega)
    have hb1 := Int.emod_lt_of_pos (a * (i : Int)) (show 0 < n by omega)
    have hai : -10000 ≤ a * (i : Int) ∧ a * (i : Int) ≤ 10000 := by
      have := mul_bd (a := a) (b := (i : Int)) (A := 100) (B := 100) (by omega) (by omega)
      omega
    have e : Int.tmod (wrap64 (Int.tmod (wrap64 ((i : Int) * a)) n + n)) n = (a * (i : Int)) % n := by
      have t1 := Int.tmod_lt_of_pos (a * (i : Int)) (show 0 < n by omega)
      have t2 := Int.lt_tmod_of_pos (a * (i : Int)) (show 0 < n by omega)
      rw [Int.mul_comm, w64 (x := a * (i : Int)) (by omega) (by omega), w64 (by omega) (by omega), Int.tmod_eq_emod_of_nonneg (by omega), Int.add_emod_right]
      rw [Int.tmod_eq_emod]
      split
      · show (a * (i : Int) % n - 0) % n = _
        rw [Int.sub_zero, Int.emod_emod]
      · rw [show ((n.natAbs : Nat) : Int) = n by omega, Int.sub_emod_right, Int.emod_emod]
    rw [List.drop_eq_getElem_cons hi2, gl] at H
    refine Ev.step (fun k => ?_) (ih (i + 1) _ (by omega) (by rw [List.length_set]; exact hm) H)
    simp only [spec_l01Galois.l0, e]
    rw [if_pos (by omega), if_neg (by omega), if_pos hb0, if_pos (by omega), if_pos (by omega), w64 (x := (i : Int) + 1) (by omega) (by omega), rd, rd, Int.toNat_natCast, gE l _ hi2]
    rfl
theorem galois (n a : Int) (l : List Int) (h0 : 1 ≤ n) (h1 : n ≤ 16) (ha : -100 ≤ a ∧ a ≤ 100) (hl : l.length = phn n) : Ev (fun k => spec_l01Galois.f k n l a) (n, im n a l) := by
  have hp := phn_bd n h0 h1
  unfold spec_l01Galois.f
  simp only [if_pos (show 0 ≤ n by omega), if_pos (show n.toNat ≤ 35184372088832 by omega)]
  refine galois_l0 n n a l h0 h1 ha (by omega) (n, im n a l) l.length 0 (List.replicate n.toNat 0) (by omega) (by rw [List.length_replicate]; omega) ?_
  rw [List.drop_zero, ← im_cnt n a l h0 h1]
  refine Ev.bind (reduce n _ h0 h1 (by rw [gl_len, List.length_replicate]; omega) (gl_in n a l 0 _ (zeros_in _))) (Ev.now _)
def unL (n : Nat) : Nat → Nat → List Int
  | 0, _ => []
  | d + 1, a => if Nat.gcd a n = 1 then (a : Int) :: unL n d (a + 1) else unL n d (a + 1)
def un (n : Int) : List Int := unL n.toNat n.toNat 1
theorem un_bd (n : Nat) : ∀ (d a : Nat), ∀ x ∈ unL n d a, (a : Int) ≤ x ∧ x < a + d
  | 0, a, x, h => by cases h
  | d + 1, a, x, h => by
    rw [unL] at h
    split at h
    · rcases List.mem_cons.mp h with rfl | h
      · omega
      · have := un_bd n d (a + 1) x h; omega
    · have := un_bd n d (a + 1) x h; omega
theorem unL_len (n : Nat) : ∀ (d a : Nat), (unL n d a).length ≤ d
  | 0, a => by simp [unL]
  | d + 1, a => by
    have := unL_len n d (a + 1)
    rw [unL]
    split
    · rw [List.length_cons]; omega
    · omega
theorem units_all : ∀ n : Nat, n < 17 → 1 ≤ n → impl_unitsOf.f 400 (n : Int) = some (un (n : Int)) := by decide +kernel
theorem gcd_all : ∀ n : Nat, n < 17 → 1 ≤ n → ∀ a : Nat, a < 17 → 1 ≤ a → spec_l01Gcd.f 60 (a : Int) (n : Int) = some (Nat.gcd a n : Int) := by decide +kernel
theorem units (n : Int) (h0 : 1 ≤ n) (h1 : n ≤ 16) : Ev (fun k => impl_unitsOf.f k n) (un n) :=
  Ev.of (impl_unitsOf.mono n) (orders (P := fun n => impl_unitsOf.f 400 n = some (un n)) units_all n h0 h1)
theorem gcd01 (n a : Nat) (h0 : 1 ≤ n) (h1 : n ≤ 16) (a0 : 1 ≤ a) (a1 : a ≤ 16) : Ev (fun k => spec_l01Gcd.f k (a : Int) (n : Int)) (Nat.gcd a n : Int) :=
  Ev.of (spec_l01Gcd.mono _ _) (gcd_all n (by omega) h0 a (by omega) a0)
theorem un_small (n : Int) (h0 : 1 ≤ n) (h1 : n ≤ 16) : ∀ a ∈ un n, -100 ≤ a ∧ a ≤ 100 := fun a ha => by have := un_bd n.toNat n.toNat 1 a ha; omega
theorem images_l0 (n : Int) (l us : List Int) (h0 : 1 ≤ n) (h1 : n ≤ 16) (hl : l.length = phn n) (hu : ∀ a ∈ us, -100 ≤ a ∧ a ≤ 100) (hul : us.length ≤ 100) :
    ∀ (d i : Nat) (acc : List (List Int)), d + i = us.length → acc.length = i → Ev (fun k => impl_field_images.l0 k l acc us (us.length : Int) (i : Int) n (phn n : Int) (pw n)) (acc ++ (us.drop i).map fun a => im n a l, n, (phn n : Int)) := by
  intro d
  induction d with
  | zero =>
    intro i acc hi ha
    refine Ev.step (f := fun _ => some (acc, n, (phn n : Int))) (fun k => ?_) ?_
    · simp only [impl_field_images.l0]
      rw [if_neg (by omega)]
    · rw [List.drop_eq_nil_of_le (by omega), List.map_nil, List.append_nil]
      exact Ev.now _
  | succ d ih =>
    intro i acc hi ha
    have hi2 : i < us.length := by omega
    refine Ev.step (f := fun k => ((impl_field_image.f k n (phn n : Int) (pw n) l us[i]).bind fun bt => (if acc.length < 5864062014805 then (impl_field_images.l0 k l (acc ++ [bt.1]) us (us.length : Int) ((i + 1 : Nat) : Int) bt.2.1 bt.2.2 (pw n)) else none))) (fun k => ?_) ?_
    · simp only [impl_field_images.l0]
      rw [if_pos (by omega), if_pos (by omega), if_pos (by omega), rd, Int.toNat_natCast, gE _ _ hi2, w64 (x := (i : Int) + 1) (by omega) (by omega)]
      rfl
    · refine Ev.bind (image n us[i] l h0 h1 (hu _ (List.getElem_mem hi2)) hl) ?_
      simp only [if_pos (show acc.length < 5864062014805 by omega)]
      have := ih (i + 1) (acc ++ [im n us[i] l]) (by omega) (by simp [ha])
      rw [List.drop_eq_getElem_cons hi2, List.map_cons]
      simpa using this
theorem images (n : Int) (l : List Int) (h0 : 1 ≤ n) (h1 : n ≤ 16) (hl : l.length = phn n) : Ev (fun k => impl_field_images.f k n (phn n : Int) (pw n) l) ((un n).map fun a => im n a l, n, (phn n : Int)) := by
  unfold impl_field_images.f
  refine Ev.bind (units n h0 h1) ?_
  have hu := unL_len n.toNat n.toNat 1
  have := images_l0 n l (un n) h0 h1 hl (un_small n h0 h1) (by unfold un; omega) (un n).length 0 [] (by omega) rfl
  simpa using this
theorem images2_l0 (N : Nat) (l : List Int) (h0 : 1 ≤ N) (h1 : N ≤ 16) (hl : l.length = phn (N : Int)) :
    ∀ (d a : Nat) (acc : List S26) (nums : List Int), d + a = N + 1 → 1 ≤ a → acc.length ≤ a → nums.length ≤ a → Ev (fun k => spec_l02Images.l0 k acc nums (a : Int) (N : Int) l) (acc ++ (unL N d a).map fun b => ⟨(N : Int), im (N : Int) b l⟩, nums ++ unL N d a) := by
  intro d
  induction d with
  | zero =>
    intro a acc nums ha a0 hx hy
    refine Ev.step (f := fun _ => some (acc, nums)) (fun k => ?_) ?_
    · simp only [spec_l02Images.l0]
      rw [if_neg (by omega)]
    · simp only [unL, List.map_nil, List.append_nil]
      exact Ev.now _
  | succ d ih =>
    intro a acc nums ha a0 hx hy
    by_cases hg : Nat.gcd a N = 1
    · rw [unL, if_pos hg]
      refine Ev.step (f := fun k => ((spec_l01Gcd.f k (a : Int) (N : Int)).bind fun t => (if t = 1 then ((spec_l01Galois.f k (N : Int) l (a : Int)).bind fun bt => (if acc.length < 4398046511104 then (if nums.length < 17592186044416 then (spec_l02Images.l0 k (acc ++ [⟨bt.1, bt.2⟩]) (nums ++ [(a : Int)]) ((a + 1 : Nat) : Int) (N : Int) l) else none) else none)) else (spec_l02Images.l0 k acc nums ((a + 1 : Nat) : Int) (N : Int) l)))) (fun k => ?_) ?_
      · simp only [spec_l02Images.l0]
        rw [if_pos (by omega), w64 (x := (a : Int) + 1) (by omega) (by omega)]
        rfl
      · refine Ev.bind (gcd01 N a h0 h1 a0 (by omega)) ?_
        simp only [hg, Int.natCast_one, if_true]
        refine Ev.bind (galois (N : Int) (a : Int) l (by omega) (by omega) (by omega) hl) ?_
        simp only [if_pos (show acc.length < 4398046511104 by omega), if_pos (show nums.length < 17592186044416 by omega)]
        have := ih (a + 1) (acc ++ [⟨(N : Int), im (N : Int) (a : Int) l⟩]) (nums ++ [(a : Int)]) (by omega) (by omega) (by simp; omega) (by simp; omega)
        simpa using this
    · rw [unL, if_neg hg]
      refine Ev.step (f := fun k => ((spec_l01Gcd.f k (a : Int) (N : Int)).bind fun t => (if t = 1 then ((spec_l01Galois.f k (N : Int) l (a : Int)).bind fun bt => (if acc.length < 4398046511104 then (if nums.length < 17592186044416 then (spec_l02Images.l0 k (acc ++ [⟨bt.1, bt.2⟩]) (nums ++ [(a : Int)]) ((a + 1 : Nat) : Int) (N : Int) l) else none) else none)) else (spec_l02Images.l0 k acc nums ((a + 1 : Nat) : Int) (N : Int) l)))) (fun k => ?_) ?_
      · simp only [spec_l02Images.l0]
        rw [if_pos (by omega), w64 (x := (a : Int) + 1) (by omega) (by omega)]
        rfl
      · refine Ev.bind (gcd01 N a h0 h1 a0 (by omega)) ?_
        simp only [if_neg (show ¬ ((Nat.gcd a N : Int) = 1) by omega)]
        exact ih (a + 1) acc nums (by omega) (by omega) (by omega) (by omega)
theorem images2 (n : Int) (l : List Int) (h0 : 1 ≤ n) (h1 : n ≤ 16) (hl : l.length = phn n) : Ev (fun k => spec_l02Images.f k n l) ((un n).map fun b => ⟨n, im n b l⟩, un n) := by
  obtain ⟨N, rfl⟩ : ∃ N : Nat, n = N := ⟨n.toNat, by omega⟩
  unfold spec_l02Images.f un
  have := images2_l0 N l (by omega) (by omega) hl N 1 [] [] (by omega) (by omega) (by simp) (by simp)
  simpa using this
theorem smalls2 {a b : List Int} (ha : ∀ x ∈ a, -1000000000 ≤ x ∧ x ≤ 1000000000) (hb : ∀ y ∈ b, big0 y) : ∀ x ∈ a, big1 x ∧ ∀ y ∈ b, big1 y ∧ big2 x y := by
  intro x hx
  have h1 := ha x hx
  refine ⟨by unfold big1; omega, fun y hy => ?_⟩
  have h2 := hb y hy
  unfold big0 at h2
  have := xmul_bd h1 h2
  exact ⟨by unfold big1; omega, by unfold big2; omega⟩
theorem rdC (xs : List S26) (i : Nat) (h : i < xs.length) : rd_T26 xs (i : Int) = xs[i] := by simp [rd_T26, h]
/-- The images as rows. -/
def imsL (n : Int) (l : List Int) : List (List Int) := (un n).map fun a => im n a l
theorem isC_form {n : Int} {l : List Int} (h : isC n l = true) : 1 ≤ n ∧ n ≤ 16 ∧ l.length = phn n ∧ ∀ x ∈ l, -1000000000 ≤ x ∧ x ≤ 1000000000 := by
  simp only [isC, Bool.and_eq_true, decide_eq_true_eq, List.all_eq_true] at h
  obtain ⟨⟨⟨h0, h1⟩, h2⟩, h3⟩ := h
  have hp := phn_bd n h0 h1
  refine ⟨h0, h1, by unfold phn at *; omega, fun x hx => inP_iff.mp (h3 x hx)⟩
theorem fieldOf_spec (n : Int) (h0 : 1 ≤ n) (h1 : n ≤ 16) : Ev (fun k => impl_fieldOf.f k n) (n, (phn n : Int), pw n) := by
  have hp := pw_len n h0 h1
  have hrow := pw_row n h0 h1
  unfold impl_fieldOf.f
  refine Ev.bind (pw_impl n h0 h1) ?_
  rw [if_pos (by omega), show ((rd_L1 (pw n) 0).length : Int) = (phn n : Int) by
    have : 0 < (pw n).length := by omega
    rw [show (0 : Int) = ((0 : Nat) : Int) from rfl, rd_L1_pw, gE _ _ this, hrow _ (List.getElem_mem this)]]
  exact Ev.now _
def trs : Int → List (List Int) → Int
  | s, [] => s
  | s, x :: l => trs (wrap64 (s + rd x 0)) l
theorem rdL1 (xs : List (List Int)) (i : Nat) (h : i < xs.length) : rd_L1 xs (i : Int) = xs[i] := by simp [rd_L1, h]
theorem trace_l0 (n ph : Int) (pws rows : List (List Int)) (hl : rows.length ≤ 100) (hr : ∀ r ∈ rows, 0 < r.length) : ∀ (d i : Nat) (s : Int), d + i = rows.length → Ev (fun k => impl_field_trace.l0 k s rows (rows.length : Int) (i : Int) n ph pws) (trs s (rows.drop i), n, ph) := by
  intro d
  induction d with
  | zero =>
    intro i s hi
    rw [List.drop_eq_nil_of_le (by omega)]
    refine Ev.step (f := fun _ => some (s, n, ph)) (fun k => ?_) (Ev.now _)
    simp only [impl_field_trace.l0]
    rw [if_neg (by omega)]
  | succ d ih =>
    intro i s hi
    have hi2 : i < rows.length := by omega
    have hp := hr _ (List.getElem_mem hi2)
    rw [List.drop_eq_getElem_cons hi2, trs]
    refine Ev.step (fun k => ?_) (ih (i + 1) _ (by omega))
    simp only [impl_field_trace.l0, rdL1 _ _ hi2]
    rw [if_pos (by omega), if_pos (by omega), if_pos (by omega), if_pos (by omega), w64 (x := (i : Int) + 1) (by omega) (by omega)]
    rfl
theorem trace2_l0 (recs : List S26) (hl : recs.length ≤ 100) (hr : ∀ c ∈ recs, 0 < c.f1.length) : ∀ (d i : Nat) (s : Int), d + i = recs.length → Ev (fun k => spec_l02Trace.l0 k recs s (i : Int)) (trs s ((recs.drop i).map (·.f1))) := by
  intro d
  induction d with
  | zero =>
    intro i s hi
    rw [List.drop_eq_nil_of_le (by omega)]
    refine Ev.step (f := fun _ => some s) (fun k => ?_) (Ev.now _)
    simp only [spec_l02Trace.l0]
    rw [if_neg (by omega)]
  | succ d ih =>
    intro i s hi
    have hi2 : i < recs.length := by omega
    have hp := hr _ (List.getElem_mem hi2)
    rw [List.drop_eq_getElem_cons hi2, List.map_cons, trs]
    refine Ev.step (fun k => ?_) (ih (i + 1) _ (by omega))
    simp only [spec_l02Trace.l0, rdC _ _ hi2]
    rw [if_pos (by omega), if_pos (by omega), if_pos (by omega), w64 (x := (i : Int) + 1) (by omega) (by omega)]
    rfl
theorem trace_impl (n : Int) (l : List Int) (h0 : 1 ≤ n) (h1 : n ≤ 16) (hl : l.length = phn n) : Ev (fun k => impl_field_trace.f k n (phn n : Int) (pw n) l) (trs 0 (imsL n l), n, (phn n : Int)) := by
  have hp := phn_bd n h0 h1
  have hu := unL_len n.toNat n.toNat 1
  unfold impl_field_trace.f
  refine Ev.bind (images n l h0 h1 hl) ?_
  have := trace_l0 n (phn n : Int) (pw n) (imsL n l) (by simp only [imsL, List.length_map, un]; omega) (fun r hr => by
    simp only [imsL, List.mem_map] at hr
    obtain ⟨a, _, rfl⟩ := hr
    rw [(im_spec n a l h0 h1).1]; omega) (imsL n l).length 0 0 (by omega)
  simpa [imsL] using this
theorem trace_spec (n : Int) (l : List Int) (h0 : 1 ≤ n) (h1 : n ≤ 16) (hl : l.length = phn n) : Ev (fun k => spec_l02Trace.f k n l) (trs 0 (imsL n l)) := by
  have hp := phn_bd n h0 h1
  have hu := unL_len n.toNat n.toNat 1
  unfold spec_l02Trace.f
  refine Ev.bind (images2 n l h0 h1 hl) ?_
  have := trace2_l0 ((un n).map fun b => (⟨n, im n b l⟩ : S26)) (by rw [List.length_map]; unfold un; omega) (fun c hc => by
    simp only [List.mem_map] at hc
    obtain ⟨a, _, rfl⟩ := hc
    show 0 < (im n a l).length
    rw [(im_spec n a l h0 h1).1]; omega) (un n).length 0 0 (by rw [List.length_map]; omega)
  rw [List.drop_zero, List.map_map] at this
  exact this
def sizeOut (n : Int) (l : List Int) : Int × Int := if isC n l then (if (xL n l (im n (-1) l)).all (inP 1000000000) then (trs 0 (imsL n (xL n l (im n (-1) l))), 0) else (0, 3)) else (0, 1)
theorem same_out (n : Int) (l : List Int) (hl : l.length ≤ 1048576) : ∃ o : Int × Int, Ev (fun k => spec_SizeOf.f k n l) o ∧ Ev (fun k => impl_SizeOf.f k n l) o := by
  refine ⟨sizeOut n l, ?_, ?_⟩
  · unfold spec_SizeOf.f sizeOut
    refine Ev.bind (l01Is n l hl) ?_
    cases h : isC n l with
    | false => simp only [Bool.false_eq_true, if_false]; exact Ev.now _
    | true =>
      obtain ⟨h0, h1, hp, hs⟩ := isC_form h
      simp only [if_true]
      refine Ev.bind (a := (n, im n (-1) l)) ?_ ?_
      · unfold spec_l01Bar.f
        exact Ev.bind (galois n (-1) l h0 h1 (by omega) hp) (Ev.now _)
      · obtain ⟨o, e1, e2, e3⟩ := rtimes_spec n n l (im n (-1) l) h0 h1 hp (im_spec n (-1) l h0 h1).1 (fun x hx => by have := hs x hx; unfold big0; omega) (im_big n (-1) l h0 h1 hp hs)
        refine Ev.bind e1 ?_
        cases c : (xL n l (im n (-1) l)).all (inP 1000000000) with
        | false => simp only [Bool.false_eq_true, if_false]; exact Ev.now _
        | true =>
          simp only [if_true]
          rw [e3 c]
          exact Ev.bind (trace_spec n _ h0 h1 (xL_len _ _ _)) (Ev.now _)
  · unfold impl_SizeOf.f sizeOut
    refine Ev.bind (isCyclo n l) ?_
    cases h : isC n l with
    | false => simp only [Bool.false_eq_true, if_false]; exact Ev.now _
    | true =>
      obtain ⟨h0, h1, hp, hs⟩ := isC_form h
      simp only [if_true]
      refine Ev.bind (fieldOf_spec n h0 h1) (Ev.bind (image n (-1) l h0 h1 (by omega) hp) ?_)
      obtain ⟨o, e1, e2, e3⟩ := ftimes_spec n l (im n (-1) l) h0 h1 hp (im_spec n (-1) l h0 h1).1 (smalls2 hs (im_big n (-1) l h0 h1 hp hs))
      refine ev_bind_const e1 ?_
      cases c : (xL n l (im n (-1) l)).all (inP 1000000000) with
      | false => simp only [Bool.false_eq_true, if_false]; exact Ev.now _
      | true =>
        simp only [if_true]
        rw [e3 c]
        exact Ev.bind (trace_impl n _ h0 h1 (xL_len _ _ _)) (Ev.now _)
theorem FnExactSizeOf : laws_FnExactSizeOf.Pure := by
  intro n l _ hm _
  apply Ev.rounds
  have hm2 : l.length ≤ 9223372036854775807 := by simpa [maxLen] using hm
  unfold laws_FnExactSizeOf.f laws_szCyclo.f laws_szInt64S.f
  rw [w64 (x := (1048576 : Int) - (l.length : Int)) (by omega) (by omega)]
  by_cases h1 : (1048576 : Int) - (l.length : Int) < 0
  · simp only [if_pos h1, Option.bind_some]
    exact Ev.now _
  simp only [if_neg h1, Option.bind_some]
  have hl : l.length ≤ 1048576 := by omega
  obtain ⟨⟨r, c⟩, hs, hi⟩ := same_out n l hl
  have a1 := toCyclo n l hl
  refine Ev.bind a1 (Ev.bind hs (Ev.bind a1 (Ev.bind hi ?_)))
  simp only [if_true, bne_self_eq_false]
  refine Ev.step (fun k => by simp only [laws_FnExactSizeOf.j0, Bool.false_eq_true, if_false] <;> rfl) ?_
  refine Ev.bind a1 (Ev.bind (eqCyclo _ _ _ _ hl) ?_)
  simp only [and_self, decide_true, if_true]
  exact Ev.now _
end Go.Proofs.Ythljmbobccaalaa.Pure
