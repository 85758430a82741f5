/- The program's MoveRoot returns what the reference's returns, for all arguments; no condition. -/
import Derived.Test.YtkjeadgfoedhbaaPFnExactMoveRootx8
import Derived.OpenShut
namespace Go.Proofs.Ytkjeadgfoedhbaa.Pure
open Go.RowKit Go.Proofs.Ytkjeadgfoedhbaa.PFnExactMoveRoot Go.Proofs.YtkjeadgfoedhbaaW.PrintWords Go.Proofs.YtkjeadgfoedhbaaW.PrintLast Go.Proofs.YtkjeadgfoedhbaaW.PrintMore
set_option linter.unusedVariables false
set_option linter.unusedSimpArgs false
theorem w64 {x : Int} (h0 : -9223372036854775808 ≤ x) (h1 : x ≤ 9223372036854775807) : wrap64 x = x := by unfold wrap64; omega
theorem wf64 {x : Int} (h : (Lit.int .i64 x).wf = true) : -9223372036854775808 ≤ x ∧ x ≤ 9223372036854775807 := bounds_i64 h
theorem rd_mem {l : List Int} {i : Int} (h0 : 0 ≤ i) (h1 : i < l.length) : rd l i ∈ l := by
  unfold rd
  rw [List.getD_eq_getElem?_getD, List.getElem?_eq_getElem (by omega)]
  exact List.getElem_mem (by omega)
theorem ev_bind_const {α β : Type} {o : Option α} {a : α} {f : Nat → α → Option β} {r : β} (h : o = some a) (k : Ev (fun n => f n a) r) : Ev (fun n => o.bind (f n)) r := by
  subst h; exact k
theorem toInts_l0 (l : List Int) (hl : l.length ≤ 1048576) : ∀ (d : Nat) (ys : List Int) (i : Nat), d + i = l.length → ys.length = l.length → ys.take i = l.take i → Ev (fun k => laws_toInt64S.l0 k l ys (i : Int)) l := by
  intro d
  induction d with
  | zero =>
    intro ys i hd hy ht
    have : i = l.length := by omega
    subst this
    refine Ev.step (f := fun _ => some l) (fun k => ?_) (Ev.now _)
    simp only [laws_toInt64S.l0]
    rw [if_neg (by omega)]
    rw [List.take_of_length_le (by omega), List.take_of_length_le (by omega)] at ht
    rw [ht]
  | succ d ih =>
    intro ys i hd hy ht
    refine Ev.step (f := fun k => laws_toInt64S.l0 k l (ys.set i (rd l (i : Int))) ((i + 1 : Nat) : Int)) (fun k => ?_) (ih _ _ (by omega) (by simp [hy]) ?_)
    · simp only [laws_toInt64S.l0]
      rw [if_pos (by omega), if_pos (by omega), if_pos (by omega), w64 (by omega) (by omega)]
      rfl
    · have hi : i < l.length := by omega
      rw [List.take_succ_eq_append_getElem (by simpa [hy] using hi), List.take_succ_eq_append_getElem hi, List.take_set_of_le (Nat.le_refl _), ht]
      simp [rd, hi]
theorem toInts (l : List Int) (hl : l.length ≤ 1048576) : Ev (fun k => laws_toInt64S.f k l) l := by
  have h := toInts_l0 l hl l.length (List.replicate l.length 0) 0 (by omega) (by simp) (by simp)
  refine Ev.congr (fun k => ?_) h
  unfold laws_toInt64S.f
  rw [if_pos (by omega), if_pos (by omega)]
  simp
theorem eqInts_l0 (l m : List Int) (hl : l.length ≤ 1048576) (hm : m.length = l.length) : ∀ (d i : Nat), d + i = l.length → Ev (fun k => laws_eqInt64S.l0 k l m (i : Int)) (decide (l.drop i = m.drop i)) := by
  intro d
  induction d with
  | zero =>
    intro i hd
    refine Ev.step (f := fun _ => some (decide (l.drop i = m.drop i))) (fun k => ?_) (Ev.now _)
    simp only [laws_eqInt64S.l0]
    rw [if_neg (by omega), List.drop_of_length_le (by omega), List.drop_of_length_le (by omega)]
    simp
  | succ d ih =>
    intro i hd
    have hi : i < l.length := by omega
    have hi2 : i < m.length := by omega
    have e1 : rd l (i : Int) = l[i] := by simp [rd, hi]
    have e2 : rd m (i : Int) = m[i] := by simp [rd, hi2]
    by_cases he : l[i] = m[i]
    · refine Ev.step (f := fun k => laws_eqInt64S.l0 k l m ((i + 1 : Nat) : Int)) (fun k => ?_) ?_
      · simp only [laws_eqInt64S.l0]
        rw [if_pos (by omega), if_pos (by omega), if_pos (by omega), e1, e2, if_pos he, w64 (by omega) (by omega)]
        rfl
      · have e : decide (l.drop i = m.drop i) = decide (l.drop (i + 1) = m.drop (i + 1)) := by
          rw [List.drop_eq_getElem_cons hi, List.drop_eq_getElem_cons hi2]
          simp only [List.cons.injEq, he, true_and]
        rw [e]
        exact ih (i + 1) (by omega)
    · refine Ev.step (f := fun _ => some false) (fun k => ?_) ?_
      · simp only [laws_eqInt64S.l0]
        rw [if_pos (by omega), if_pos (by omega), if_pos (by omega), e1, e2, if_neg he]
      · have e : decide (l.drop i = m.drop i) = false := by
          rw [List.drop_eq_getElem_cons hi, List.drop_eq_getElem_cons hi2]
          simp only [List.cons.injEq, he, false_and, decide_false]
        rw [e]
        exact Ev.now _
theorem eqInts (l m : List Int) (hl : l.length ≤ 1048576) : Ev (fun k => laws_eqInt64S.f k l m) (decide (l = m)) := by
  by_cases h : m.length = l.length
  · have := eqInts_l0 l m hl h l.length 0 (by omega)
    refine Ev.congr (fun k => ?_) (by simpa using this)
    unfold laws_eqInt64S.f
    rw [if_pos (by omega)]
  · have hne : l ≠ m := fun e => h (by rw [e])
    rw [decide_eq_false hne]
    refine Ev.congr (fun k => ?_) (Ev.now _)
    unfold laws_eqInt64S.f
    rw [if_neg (by omega)]
def phi (n : Int) : Int := [0, 1, 1, 2, 2, 4, 2, 6, 4, 6, 4, 10, 4, 12, 6, 8, 8].getD n.toNat 0
theorem orders {P : Int → Prop} (h : ∀ m : Nat, m < 17 → 1 ≤ m → P m) (n : Int) (h0 : 1 ≤ n) (h1 : n ≤ 16) : P n := by
  have := h n.toNat (by omega) (by omega)
  rwa [Int.toNat_of_nonneg (by omega)] at this
theorem phi_spec (n : Int) (h0 : 1 ≤ n) (h1 : n ≤ 16) : Ev (fun k => spec_l01Phi.f k n) (phi n) := by
  have key : ∀ m : Nat, m < 17 → 1 ≤ m → spec_l01Phi.f 60 (m : Int) = some (phi m) := by decide +kernel
  exact Ev.of (spec_l01Phi.mono n) (orders (P := fun n => spec_l01Phi.f 60 n = some (phi n)) key n h0 h1)
theorem phi_impl (n : Int) (h0 : 1 ≤ n) (h1 : n ≤ 16) : Ev (fun k => impl_totient.f k n) (phi n) := by
  have key : ∀ m : Nat, m < 17 → 1 ≤ m → impl_totient.f 60 (m : Int) = some (phi m) := by decide +kernel
  exact Ev.of (impl_totient.mono n) (orders (P := fun n => impl_totient.f 60 n = some (phi n)) key n h0 h1)
theorem l01In (a b c : Int) : spec_l01In.f a b c = some (decide (b ≤ a) && decide (a ≤ c)) := by
  unfold spec_l01In.f
  by_cases h : a ≥ b
  · rw [if_pos h]; simp [h]
  · rw [if_neg h]; simp [h]
theorem within_ (a b c : Int) : impl_within.f a b c = some (decide (b ≤ a) && decide (a ≤ c)) := by
  unfold impl_within.f
  by_cases h : b ≤ a
  · rw [if_pos h]; simp [h]
  · rw [if_neg h]; simp [h]
def inP (m : Int) (x : Int) : Bool := decide (-m ≤ x) && decide (x ≤ m)
theorem areSmall (l : List Int) (m : Int) (h0 : 0 ≤ m) (h1 : m ≤ 9223372036854775807) : impl_areSmall.f l m = some (l.all (inP m)) := by
  unfold impl_areSmall.f
  rw [w64 (by omega) (by omega)]
  rfl
def upTo (a : Int) (n : Nat) : List Int := (List.range n).map fun (j : Nat) => a + (j : Int)
def prs : List Int := [3, 5, 7, 11, 13, 17, 19, 23, 29, 31, 37, 41, 43, 47, 53, 59, 61]
def pr (l : Int) : Bool := prs.contains l
theorem pr_iff {l : Int} : pr l = true ↔ l ∈ prs := by unfold pr; exact List.contains_iff_mem
theorem pr_bd {l : Int} (h : pr l = true) : 3 ≤ l ∧ l ≤ 61 := by
  rw [pr_iff] at h
  simp only [prs, List.mem_cons, List.not_mem_nil, or_false] at h
  omega
theorem upto61 {P : Int → Prop} (h : ∀ m : Nat, m < 62 → P m) (n : Int) (h0 : 0 ≤ n) (h1 : n ≤ 61) : P n := by
  have := h n.toNat (by omega)
  rwa [Int.toNat_of_nonneg (by omega)] at this
theorem isPrime_big (p : Int) (h0 : 61 < p) (h1 : p ≤ 9223372036854775807) : ∀ (n : Nat) (d : Int), 2 ≤ d → d ≤ p → (p - d).toNat = n → Ev (fun k => impl_isPrime.l0 k p d) false := by
  intro n
  induction n with
  | zero =>
    intro d hd hp hn
    have : d = p := by omega
    subst this
    refine Ev.step (f := fun _ => some false) (fun k => ?_) (Ev.now _)
    simp only [impl_isPrime.l0]
    by_cases c : wrap64 (d * d) ≤ d
    · rw [if_pos c, if_neg (by omega), if_pos (Int.tmod_self)]
    · rw [if_neg c, within_, Option.bind_some]
      simp
      omega
  | succ n ih =>
    intro d hd hp hn
    by_cases c : wrap64 (d * d) ≤ p
    · by_cases c2 : Int.tmod p d = 0
      · refine Ev.step (f := fun _ => some false) (fun k => ?_) (Ev.now _)
        simp only [impl_isPrime.l0]
        rw [if_pos c, if_neg (by omega), if_pos c2]
      · refine Ev.step (fun k => ?_) (ih (d + 1) (by omega) (by omega) (by omega))
        simp only [impl_isPrime.l0]
        rw [if_pos c, if_neg (by omega), if_neg c2, w64 (by omega) (by omega)]
    · refine Ev.step (f := fun _ => some false) (fun k => ?_) (Ev.now _)
      simp only [impl_isPrime.l0]
      rw [if_neg c, within_, Option.bind_some]
      simp
      omega
theorem isPrime (p : Int) (h0 : -9223372036854775808 ≤ p) (h1 : p ≤ 9223372036854775807) : Ev (fun k => impl_isPrime.f k p) (pr p) := by
  by_cases c : 61 < p
  · have e : pr p = false := by
      cases h : pr p with
      | false => rfl
      | true => have := pr_bd h; omega
    rw [e]
    exact isPrime_big p c h1 _ 2 (by omega) (by omega) rfl
  · by_cases c2 : 0 ≤ p
    · have key : ∀ m : Nat, m < 62 → impl_isPrime.f 20 (m : Int) = some (pr m) := by decide +kernel
      exact Ev.of (impl_isPrime.mono p) (upto61 (P := fun p => impl_isPrime.f 20 p = some (pr p)) key p c2 (by omega))
    · have e : pr p = false := by
        cases h : pr p with
        | false => rfl
        | true => have := pr_bd h; omega
      rw [e]
      refine Ev.step (f := fun _ => some false) (fun k => ?_) (Ev.now _)
      simp only [impl_isPrime.f, impl_isPrime.l0]
      rw [if_neg (by rw [w64 (x := 2 * 2) (by omega) (by omega)]; omega), within_, Option.bind_some]
      simp
      omega
theorem l03Prime (p : Int) : Ev (fun k => spec_l03Prime.f k p) (pr p) := by
  by_cases c : 3 ≤ p ∧ p ≤ 61
  · have key : ∀ m : Nat, m < 62 → spec_l03Prime.f 20 (m : Int) = some (pr m) := by decide +kernel
    exact Ev.of (spec_l03Prime.mono p) (upto61 (P := fun p => spec_l03Prime.f 20 p = some (pr p)) key p (by omega) c.2)
  · have e : pr p = false := by
      cases h : pr p with
      | false => rfl
      | true => have := pr_bd h; omega
    rw [e]
    unfold spec_l03Prime.f
    refine ev_bind_const (l01In _ _ _) ?_
    rw [show (decide (3 ≤ p) && decide (p ≤ 61)) = false by simp; omega]
    exact Ev.now _
def ix (p : Int) : List Int := if p = 3 then [-1, 0, 1] else if p = 5 then [-1, 0, 1, 3, 2] else if p = 7 then [-1, 0, 2, 1, 4, 5, 3] else if p = 11 then [-1, 0, 1, 8, 2, 4, 9, 7, 3, 6, 5] else if p = 13 then [-1, 0, 1, 4, 2, 9, 5, 11, 3, 8, 10, 7, 6] else if p = 17 then [-1, 0, 14, 1, 12, 5, 15, 11, 10, 2, 3, 7, 13, 4, 9, 6, 8] else if p = 19 then [-1, 0, 1, 13, 2, 16, 14, 6, 3, 8, 17, 12, 15, 5, 7, 11, 4, 10, 9] else if p = 23 then [-1, 0, 2, 16, 4, 1, 18, 19, 6, 10, 3, 9, 20, 14, 21, 17, 8, 7, 12, 15, 5, 13, 11] else if p = 29 then [-1, 0, 1, 5, 2, 22, 6, 12, 3, 10, 23, 25, 7, 18, 13, 27, 4, 21, 11, 9, 24, 17, 26, 20, 8, 16, 19, 15, 14] else if p = 31 then [-1, 0, 24, 1, 18, 20, 25, 28, 12, 2, 14, 23, 19, 11, 22, 21, 6, 7, 26, 4, 8, 29, 17, 27, 13, 10, 5, 3, 16, 9, 15] else if p = 37 then [-1, 0, 1, 26, 2, 23, 27, 32, 3, 16, 24, 30, 28, 11, 33, 13, 4, 7, 17, 35, 25, 22, 31, 15, 29, 10, 12, 6, 34, 21, 14, 9, 5, 20, 8, 19, 18] else if p = 41 then [-1, 0, 26, 15, 12, 22, 1, 39, 38, 30, 8, 3, 27, 31, 25, 37, 24, 33, 16, 9, 34, 14, 29, 36, 13, 4, 17, 5, 11, 7, 23, 28, 10, 18, 19, 21, 2, 32, 35, 6, 20] else if p = 43 then [-1, 0, 27, 1, 12, 25, 28, 35, 39, 2, 10, 30, 13, 32, 20, 26, 24, 38, 29, 19, 37, 36, 15, 16, 40, 8, 17, 3, 5, 41, 11, 34, 9, 31, 23, 18, 14, 7, 4, 33, 22, 6, 21] else if p = 47 then [-1, 0, 18, 20, 36, 1, 38, 32, 8, 40, 19, 7, 10, 11, 4, 21, 26, 16, 12, 45, 37, 6, 25, 5, 28, 2, 29, 14, 22, 35, 39, 3, 44, 27, 34, 33, 30, 42, 17, 31, 9, 15, 24, 13, 43, 41, 23] else if p = 53 then [-1, 0, 1, 17, 2, 47, 18, 14, 3, 34, 48, 6, 19, 24, 15, 12, 4, 10, 35, 37, 49, 31, 7, 39, 20, 42, 25, 51, 16, 46, 13, 33, 5, 23, 11, 9, 36, 30, 38, 41, 50, 45, 32, 22, 8, 29, 40, 44, 21, 28, 43, 27, 26] else if p = 59 then [-1, 0, 1, 50, 2, 6, 51, 18, 3, 42, 7, 25, 52, 45, 19, 56, 4, 40, 43, 38, 8, 10, 26, 15, 53, 12, 46, 34, 20, 28, 57, 49, 5, 17, 41, 24, 44, 55, 39, 37, 9, 14, 11, 33, 27, 48, 16, 23, 54, 36, 13, 32, 47, 22, 35, 31, 21, 30, 29] else if p = 61 then [-1, 0, 1, 6, 2, 22, 7, 49, 3, 12, 23, 15, 8, 40, 50, 28, 4, 47, 13, 26, 24, 55, 16, 57, 9, 44, 41, 18, 51, 35, 29, 59, 5, 21, 48, 11, 14, 39, 27, 46, 25, 54, 56, 43, 17, 34, 58, 20, 10, 38, 45, 53, 42, 33, 19, 37, 52, 32, 36, 31, 30] else []
def ex (p n c : Int) : List Int := -1 :: ((ix p).drop 1).map fun i => i * c % n
theorem nMark_len : ∀ (l : List Int) (a : Int), (nMark l a).2.length = l.length
  | [], _ => rfl
  | _ :: l, a => by simp [nMark, nMark_len l]
theorem nMark_fst : ∀ (l : List Int) (a : Int), 0 ≤ a → a + l.length ≤ 9223372036854775807 → (nMark l a).1 = a + l.length
  | [], a, _, _ => by simp [nMark]
  | _ :: l, a, h0, h1 => by
    simp only [List.length_cons] at h1
    simp only [nMark]
    rw [w64 (x := a + 1) (by omega) (by omega), nMark_fst l (a + 1) (by omega) (by omega)]
    simp only [List.length_cons]
    omega
theorem nHeld_l0 : ∀ (rest done : List Int) (a : Int), done.length + rest.length ≤ 1048576 → Ev (fun k => laws_heldInt64S.l0 k (done ++ (nMark rest a).2) a (done.length : Int)) (nMark rest a).1
  | [], done, a, h => by
    refine Ev.step (f := fun _ => some a) (fun k => ?_) (Ev.now _)
    simp only [laws_heldInt64S.l0, nMark, List.append_nil]
    rw [if_neg (by omega)]
  | x :: rest, done, a, h => by
    simp only [List.length_cons] at h
    have ih := nHeld_l0 rest (done ++ [a]) (wrap64 (a + 1)) (by simp; omega)
    refine Ev.step (f := fun k => laws_heldInt64S.l0 k ((done ++ [a]) ++ (nMark rest (wrap64 (a + 1))).2) (wrap64 (a + 1)) ((done ++ [a]).length : Int)) (fun k => ?_) ?_
    · simp only [laws_heldInt64S.l0, nMark]
      have hl := nMark_len rest (wrap64 (a + 1))
      have c1 : (done.length : Int) < ((done ++ a :: (nMark rest (wrap64 (a + 1))).2).length : Int) := by rw [List.length_append, List.length_cons]; omega
      have c2 : rd (done ++ a :: (nMark rest (wrap64 (a + 1))).2) (done.length : Int) = a := by simp [rd]
      simp only [if_pos c1, if_pos c2, if_pos (show (0 : Int) ≤ (done.length : Int) by omega), w64 (x := (done.length : Int) + 1) (by omega) (by omega)]
      simp
    · simpa [nMark] using ih
theorem nHeld (l : List Int) (a : Int) (h : l.length ≤ 1048576) : Ev (fun k => laws_heldInt64S.f k (nMark l a).2 a) (nMark l a).1 := by
  have := nHeld_l0 l [] a (by simpa using h)
  unfold laws_heldInt64S.f
  simpa using this
def tot (l : List (List Int)) : Nat := (l.map List.length).sum
theorem tot_cons (r : List Int) (l : List (List Int)) : tot (r :: l) = r.length + tot l := by simp [tot]
theorem tot_mem : ∀ (l : List (List Int)) (r : List Int), r ∈ l → r.length ≤ tot l
  | [], r, h => by cases h
  | x :: l, r, h => by
    rw [tot_cons]
    rcases List.mem_cons.mp h with rfl | h
    · omega
    · have := tot_mem l r h
      omega
theorem drop_rd {l : List (List Int)} {i : Nat} (hi : i < l.length) : l.drop i = rd_L1 l (i : Int) :: l.drop (i + 1) := by
  rw [List.drop_eq_getElem_cons hi]
  congr 1
  simp [rd_L1, hi]
theorem drop_rdI {l : List Int} {i : Nat} (hi : i < l.length) : l.drop i = rd l (i : Int) :: l.drop (i + 1) := by
  rw [List.drop_eq_getElem_cons hi]
  congr 1
  simp [rd, hi]
theorem rdL_mem {l : List (List Int)} {i : Nat} (hi : i < l.length) : rd_L1 l (i : Int) ∈ l := by
  have : rd_L1 l (i : Int) = l[i] := by simp [rd_L1, hi]
  rw [this]
  exact List.getElem_mem hi
theorem szG_l0 (l : List (List Int)) (hr : ∀ r ∈ l, r.length ≤ 9223372036854775807) (hl : l.length ≤ 1048576) : ∀ (d i : Nat) (left : Int), d + i = l.length → 0 ≤ left → left ≤ 1048576 → ∃ t, Ev (fun k => laws_szInt64SS.l0 k l left (i : Int)) t ∧ (¬ t < 0 → (tot (l.drop i) : Int) ≤ left)
  | 0, i, left, hd, h0, h1 => by
    refine ⟨left, Ev.step (f := fun _ => some left) (fun k => ?_) (Ev.now _), fun _ => ?_⟩
    · simp only [laws_szInt64SS.l0]
      rw [if_neg (by omega)]
    · rw [List.drop_of_length_le (by omega)]
      simp [tot]
      omega
  | d + 1, i, left, hd, h0, h1 => by
    have hi : i < l.length := by omega
    have hm := hr _ (rdL_mem hi)
    have e0 := drop_rd hi
    generalize rd_L1 l (i : Int) = r at *
    by_cases c : left - (r.length : Int) < 0
    · refine ⟨-1, Ev.step (f := fun _ => some (-1)) (fun k => ?_) (Ev.now _), fun h => absurd (by decide) h⟩
      simp only [laws_szInt64SS.l0]
      have er : rd_L1 l (i : Int) = r := by
        have := drop_rd hi
        rw [e0] at this
        injection this with h _
        exact h.symm
      rw [if_pos (by omega), if_pos (by omega), er]
      unfold laws_szInt64S.f
      rw [w64 (x := left - (r.length : Int)) (by omega) (by omega), if_pos c, Option.bind_some, if_pos (by decide)]
    · obtain ⟨t, H, hh⟩ := szG_l0 l hr hl d (i + 1) (left - r.length) (by omega) (by omega) (by omega)
      refine ⟨t, Ev.step (fun k => ?_) H, fun ht => ?_⟩
      · simp only [laws_szInt64SS.l0]
        have er : rd_L1 l (i : Int) = r := by
          have := drop_rd hi
          rw [e0] at this
          injection this with h _
          exact h.symm
        rw [if_pos (by omega), if_pos (by omega), er]
        unfold laws_szInt64S.f
        rw [w64 (x := left - (r.length : Int)) (by omega) (by omega), if_neg c, Option.bind_some, if_neg c, w64 (x := (i : Int) + 1) (by omega) (by omega)]
        rfl
      · have := hh ht
        rw [e0, tot_cons]
        omega
theorem szG (p n : Int) (l : List (List Int)) (left : Int) (h0 : 0 ≤ left) (h1 : left ≤ 1048576) (hl : l.length ≤ 9223372036854775807) (hr : ∀ r ∈ l, r.length ≤ 9223372036854775807) : ∃ t, Ev (fun k => laws_szGauss.f k p n l left) t ∧ (¬ t < 0 → l.length ≤ 1048576 ∧ tot l ≤ 1048576) := by
  unfold laws_szGauss.f laws_szInt64SS.f
  by_cases c : left - (l.length : Int) < 0
  · refine ⟨-1, ?_, fun h => absurd (by decide) h⟩
    rw [w64 (x := left - (l.length : Int)) (by omega) (by omega)]
    simp only [if_pos c, Option.bind_some, if_pos (show (-1 : Int) < 0 by decide)]
    exact Ev.now _
  · obtain ⟨t, H, hh⟩ := szG_l0 l hr (by omega) l.length 0 (left - l.length) (by omega) (by omega) (by omega)
    by_cases ct : t < 0
    · refine ⟨-1, ?_, fun h => absurd (by decide) h⟩
      rw [w64 (x := left - (l.length : Int)) (by omega) (by omega)]
      simp only [if_neg c]
      refine Ev.bind (by simpa using H) ?_
      simp only [if_pos ct]
      exact Ev.now _
    · refine ⟨t, ?_, fun _ => ?_⟩
      · rw [w64 (x := left - (l.length : Int)) (by omega) (by omega)]
        simp only [if_neg c]
        refine Ev.bind (by simpa using H) ?_
        simp only [if_neg ct]
        exact Ev.now _
      · have := hh ct
        simp only [List.drop_zero] at this
        omega
theorem toRows_l0 (l : List (List Int)) (hl : l.length ≤ 1048576) (hr : ∀ r ∈ l, r.length ≤ 1048576) : ∀ (d : Nat) (ys : List (List Int)) (i : Nat), d + i = l.length → ys.length = l.length → ys.take i = l.take i → Ev (fun k => laws_toInt64SS.l0 k l ys (i : Int)) l := by
  intro d
  induction d with
  | zero =>
    intro ys i hd hy ht
    have : i = l.length := by omega
    subst this
    refine Ev.step (f := fun _ => some l) (fun k => ?_) (Ev.now _)
    simp only [laws_toInt64SS.l0]
    rw [if_neg (by omega)]
    rw [List.take_of_length_le (by omega), List.take_of_length_le (by omega)] at ht
    rw [ht]
  | succ d ih =>
    intro ys i hd hy ht
    have hi : i < l.length := by omega
    refine Ev.step (f := fun k => (laws_toInt64S.f k (rd_L1 l (i : Int))).bind fun t134 => laws_toInt64SS.l0 k l (ys.set i t134) ((i + 1 : Nat) : Int)) (fun k => ?_) (Ev.bind (toInts _ (hr _ (rdL_mem hi))) (ih (ys.set i (rd_L1 l (i : Int))) (i + 1) (by omega) (by simp [hy]) ?_))
    · simp only [laws_toInt64SS.l0]
      rw [if_pos (by omega), if_pos (by omega)]
      simp only [if_pos (show (i : Int) < (ys.length : Int) by omega), w64 (x := (i : Int) + 1) (by omega) (by omega)]
      rfl
    · rw [List.take_succ_eq_append_getElem (by simpa [hy] using hi), List.take_succ_eq_append_getElem hi, List.take_set_of_le (Nat.le_refl _), ht]
      simp [rd_L1, hi]
theorem toGauss (p n : Int) (l : List (List Int)) (hl : l.length ≤ 1048576) (hr : ∀ r ∈ l, r.length ≤ 1048576) : Ev (fun k => laws_toGauss.f k p n l) (p, n, l) := by
  have h := toRows_l0 l hl hr l.length (List.replicate l.length []) 0 (by omega) (by simp) (by simp)
  unfold laws_toGauss.f
  refine Ev.bind (a := l) ?_ (Ev.now _)
  refine Ev.congr (fun k => ?_) h
  unfold laws_toInt64SS.f
  rw [if_pos (by omega), if_pos (by omega)]
  simp
theorem eqRows_l0 (l : List (List Int)) (hl : l.length ≤ 1048576) (hr : ∀ r ∈ l, r.length ≤ 1048576) : ∀ (d i : Nat), d + i = l.length → Ev (fun k => laws_eqInt64SS.l0 k l l (i : Int)) true
  | 0, i, hd => by
    refine Ev.step (f := fun _ => some true) (fun k => ?_) (Ev.now _)
    simp only [laws_eqInt64SS.l0]
    rw [if_neg (by omega)]
  | d + 1, i, hd => by
    have hi : i < l.length := by omega
    have e := eqInts (rd_L1 l (i : Int)) (rd_L1 l (i : Int)) (hr _ (rdL_mem hi))
    rw [decide_eq_true rfl] at e
    refine Ev.step (f := fun k => (laws_eqInt64S.f k (rd_L1 l (i : Int)) (rd_L1 l (i : Int))).bind fun t105 => if t105 = true then laws_eqInt64SS.l0 k l l ((i + 1 : Nat) : Int) else some false) (fun k => ?_) (Ev.bind e ?_)
    · simp only [laws_eqInt64SS.l0]
      rw [if_pos (by omega), if_pos (by omega), if_pos (by omega), w64 (x := (i : Int) + 1) (by omega) (by omega)]
      rfl
    · simp only [if_true]
      exact eqRows_l0 l hl hr d (i + 1) (by omega)
theorem eqGauss (p n : Int) (l : List (List Int)) (hl : l.length ≤ 1048576) (hr : ∀ r ∈ l, r.length ≤ 1048576) : Ev (fun k => laws_eqGauss.f k p n l p n l) true := by
  unfold laws_eqGauss.f laws_eqInt64SS.f
  simp only [if_true]
  refine Ev.bind (by simpa using eqRows_l0 l hl hr l.length 0 (by omega)) ?_
  simp only [if_true]
  exact Ev.now _
theorem nMarkS_fst : ∀ (l : List (List Int)) (a : Int), 0 ≤ a → a + tot l ≤ 1000000000000 → (nMarkS l a).1 = a + tot l
  | [], a, _, _ => by simp [nMarkS, tot]
  | x :: l, a, h0, h1 => by
    rw [tot_cons] at h1 ⊢
    simp only [nMarkS]
    rw [nMark_fst x a h0 (by omega), nMarkS_fst l (a + x.length) (by omega) (by omega)]
    omega
theorem markGB (p n : Int) (l : List (List Int)) (hl : l.length ≤ 1048576) (hr : ∀ r ∈ l, r.length ≤ 1048576) : laws_markG_B.f p n l 1 = some (nMarkS l 1).1 := by
  unfold laws_markG_B.f
  rw [if_pos]
  refine ⟨by omega, List.all_eq_true.mpr fun x h => ?_⟩
  have := hr x h
  simp
  omega
def gRow (s : Int) (r : List Int) : Bool := decide ((r.length : Int) = s) && r.all (inP 1000000000)
def gOk (s : Int) (l : List (List Int)) : Bool := l.all (gRow s) && (rd_L1 l 0).all (inP 0)
def isG (p n : Int) (l : List (List Int)) : Bool := pr p && ((decide (1 ≤ n) && decide (n ≤ 16)) && (decide ((l.length : Int) = p) && gOk (phi n) l))
def chk (i : Int) (x : Int) : Bool := inP 1000000000 x && (decide (i ≠ 0) || decide (x = 0))
def rowsOk (s : Int) : Int → List (List Int) → Bool
  | _, [] => true
  | i, r :: rs => (decide ((r.length : Int) = s) && r.all (chk i)) && rowsOk s (i + 1) rs
theorem inP0 (x : Int) : inP 0 x = decide (x = 0) := by
  unfold inP
  by_cases c : x = 0
  · subst c; rfl
  · rw [decide_eq_false c]
    by_cases g : 0 ≤ x
    · rw [decide_eq_false (show ¬ x ≤ 0 by omega), Bool.and_false]
    · rw [decide_eq_false (show ¬ -0 ≤ x by omega), Bool.false_and]
theorem spG_l1 {s i p n : Int} {l : List (List Int)} (hi : 0 ≤ i ∧ i < l.length) (hl : l.length ≤ 1048576) (hs : ((rd_L1 l i).length : Int) = s) (hs2 : s ≤ 1000) (X : Bool) : ∀ (d j : Nat), d + j = (rd_L1 l i).length → (((rd_L1 l i).drop j).all (chk i) = true → Ev (fun k => spec_l05Is.l0 k s (i + 1) p n l) X) → (((rd_L1 l i).drop j).all (chk i) = false → X = false) → Ev (fun k => spec_l05Is.l1 k s i (j : Int) p n l) X
  | 0, j, hd, h1, h2 => by
    have := h1 (by rw [List.drop_of_length_le (by omega)]; rfl)
    refine Ev.step (fun k => ?_) this
    simp only [spec_l05Is.l1]
    rw [if_neg (by omega), w64 (x := i + 1) (by omega) (by omega)]
  | d + 1, j, hd, h1, h2 => by
    have hj : j < (rd_L1 l i).length := by omega
    rw [drop_rdI hj, List.all_cons] at h1 h2
    have hw : wrap64 ((j : Int) + 1) = ((j + 1 : Nat) : Int) := by rw [w64 (by omega) (by omega)]; rfl
    have hin : (decide (-1000000000 ≤ rd (rd_L1 l i) (j : Int)) && decide (rd (rd_L1 l i) (j : Int) ≤ 1000000000)) = inP 1000000000 (rd (rd_L1 l i) (j : Int)) := rfl
    cases c : chk i (rd (rd_L1 l i) (j : Int)) with
    | true =>
      rw [c, Bool.true_and] at h1 h2
      have ih := spG_l1 hi hl hs hs2 X d (j + 1) (by omega) h1 h2
      unfold chk at c
      rw [Bool.and_eq_true] at c
      refine Ev.step (fun k => ?_) ih
      simp only [spec_l05Is.l1]
      rw [if_pos (by omega), if_pos hi.1, if_pos hi.2, if_pos (by omega), if_pos (by omega), l01In, hin, c.1, Option.bind_some, if_pos rfl, hw]
      by_cases g : i = 0
      · subst g
        have c2 : rd (rd_L1 l 0) (j : Int) = 0 := by simpa using c.2
        rw [if_pos rfl, if_pos (by omega), if_pos (by omega), if_pos c2]
      · rw [if_neg g]
    | false =>
      rw [c, Bool.false_and] at h2
      have hX := h2 rfl
      subst hX
      refine Ev.step (f := fun _ => some false) (fun k => ?_) (Ev.now _)
      simp only [spec_l05Is.l1]
      rw [if_pos (by omega), if_pos hi.1, if_pos hi.2, if_pos (by omega), if_pos (by omega), l01In, hin, Option.bind_some]
      unfold chk at c
      cases c3 : inP 1000000000 (rd (rd_L1 l i) (j : Int)) with
      | false => rw [if_neg (by decide)]
      | true =>
        rw [c3, Bool.true_and, Bool.or_eq_false_iff] at c
        have g : i = 0 := by simpa using c.1
        subst g
        have c2 : ¬ rd (rd_L1 l 0) (j : Int) = 0 := by simpa using c.2
        rw [if_pos rfl, if_pos rfl, if_pos (by omega), if_pos (by omega), if_neg c2]
theorem spG_l0 {s p n : Int} {l : List (List Int)} (hl : l.length ≤ 1048576) (hs2 : s ≤ 1000) : ∀ (d i : Nat), d + i = l.length → Ev (fun k => spec_l05Is.l0 k s (i : Int) p n l) (rowsOk s (i : Int) (l.drop i))
  | 0, i, hd => by
    rw [List.drop_of_length_le (by omega)]
    refine Ev.step (f := fun _ => some true) (fun k => ?_) (Ev.now _)
    simp only [spec_l05Is.l0]
    rw [if_neg (by omega)]
  | d + 1, i, hd => by
    have hi : i < l.length := by omega
    have ih := spG_l0 (p := p) (n := n) hl hs2 d (i + 1) (by omega)
    rw [drop_rd hi]
    simp only [rowsOk]
    by_cases c : ((rd_L1 l (i : Int)).length : Int) = s
    · rw [decide_eq_true c, Bool.true_and]
      refine Ev.step (f := fun k => spec_l05Is.l1 k s (i : Int) 0 p n l) (fun k => ?_) (spG_l1 (s := s) (i := (i : Int)) (by omega) hl c hs2 _ (rd_L1 l (i : Int)).length 0 (by omega) (fun h => ?_) (fun h => ?_))
      · simp only [spec_l05Is.l0]
        rw [if_pos (by omega), if_pos (by omega), if_pos c]
      · rw [List.drop_zero] at h
        rw [h, Bool.true_and]
        exact ih
      · rw [List.drop_zero] at h
        rw [h, Bool.false_and]
    · rw [decide_eq_false c, Bool.false_and, Bool.false_and]
      refine Ev.step (f := fun _ => some false) (fun k => ?_) (Ev.now _)
      simp only [spec_l05Is.l0]
      rw [if_pos (by omega), if_pos (by omega), if_neg c]
theorem rowsOk_pos (s : Int) : ∀ (l : List (List Int)) (i : Int), 1 ≤ i → rowsOk s i l = l.all (gRow s)
  | [], i, _ => rfl
  | r :: l, i, hi => by
    simp only [rowsOk, List.all_cons]
    rw [rowsOk_pos s l (i + 1) (by omega)]
    congr 1
    unfold gRow
    congr 2
    funext x
    unfold chk
    rw [decide_eq_true (show i ≠ 0 by omega), Bool.true_or, Bool.and_true]
theorem rowsOk_zero (s : Int) (l : List (List Int)) (h : l ≠ []) : rowsOk s 0 l = gOk s l := by
  cases l with
  | nil => exact absurd rfl h
  | cons r l =>
    unfold gOk
    simp only [rowsOk, List.all_cons]
    rw [rowsOk_pos s l (0 + 1) (by omega), show rd_L1 (r :: l) 0 = r from rfl]
    have e : r.all (chk 0) = (r.all (inP 1000000000) && r.all (inP 0)) := by
      rw [Bool.eq_iff_iff, Bool.and_eq_true, List.all_eq_true, List.all_eq_true, List.all_eq_true]
      constructor
      · intro h
        refine ⟨fun x hx => ?_, fun x hx => ?_⟩
        · have := h x hx
          unfold chk at this
          exact (Bool.and_eq_true _ _ ▸ this).1
        · have := h x hx
          unfold chk at this
          rw [Bool.and_eq_true] at this
          rw [inP0]
          simpa using this.2
      · rintro ⟨h1, h2⟩ x hx
        have := h2 x hx
        rw [inP0] at this
        unfold chk
        rw [h1 x hx, this]
        simp
    rw [e]
    unfold gRow
    cases decide ((r.length : Int) = s) <;> cases r.all (inP 1000000000) <;> cases r.all (inP 0) <;> cases l.all (fun r => decide ((r.length : Int) = s) && r.all (inP 1000000000)) <;> rfl
theorem imG_l0 {s p n : Int} {l : List (List Int)} (hl : l.length ≤ 1048576) (h0 : 0 < l.length) : ∀ (d i : Nat), d + i = l.length → Ev (fun k => impl_IsGauss.l0 k s l (l.length : Int) (i : Int) p n l) ((l.drop i).all (gRow s) && (rd_L1 l 0).all (inP 0))
  | 0, i, hd => by
    rw [List.drop_of_length_le (by omega)]
    refine Ev.step (f := fun _ => some ((rd_L1 l 0).all (inP 0))) (fun k => ?_) (by simpa using Ev.now _)
    simp only [impl_IsGauss.l0]
    rw [if_neg (by omega), if_pos (by omega)]
    unfold impl_isZero.f
    rw [areSmall _ 0 (by omega) (by omega), Option.bind_some, Option.bind_some]
  | d + 1, i, hd => by
    have hi : i < l.length := by omega
    have ih := imG_l0 (s := s) (p := p) (n := n) hl h0 d (i + 1) (by omega)
    rw [drop_rd hi, List.all_cons]
    unfold gRow at ih ⊢
    by_cases c : ((rd_L1 l (i : Int)).length : Int) = s
    · rw [decide_eq_true c, Bool.true_and]
      cases g : (rd_L1 l (i : Int)).all (inP 1000000000) with
      | true =>
        rw [Bool.true_and]
        refine Ev.step (fun k => ?_) ih
        simp only [impl_IsGauss.l0]
        rw [if_pos (by omega), if_pos (by omega), if_pos (by omega), if_pos c, areSmall _ 1000000000 (by omega) (by omega), g, Option.bind_some, if_pos rfl, w64 (x := (i : Int) + 1) (by omega) (by omega)]
        rfl
      | false =>
        rw [Bool.false_and, Bool.false_and]
        refine Ev.step (f := fun _ => some false) (fun k => ?_) (Ev.now _)
        simp only [impl_IsGauss.l0]
        rw [if_pos (by omega), if_pos (by omega), if_pos (by omega), if_pos c, areSmall _ 1000000000 (by omega) (by omega), g, Option.bind_some, if_neg (by decide)]
    · rw [decide_eq_false c, Bool.false_and, Bool.false_and, Bool.false_and]
      refine Ev.step (f := fun _ => some false) (fun k => ?_) (Ev.now _)
      simp only [impl_IsGauss.l0]
      rw [if_pos (by omega), if_pos (by omega), if_pos (by omega), if_neg c]
theorem phi_le (n : Int) (h0 : 1 ≤ n) (h1 : n ≤ 16) : 1 ≤ phi n ∧ phi n ≤ 12 := orders (P := fun n => 1 ≤ phi n ∧ phi n ≤ 12) (by decide) n h0 h1
theorem spIsG (p n : Int) (l : List (List Int)) (hl : l.length ≤ 1048576) : Ev (fun k => spec_l05Is.f k p n l) (isG p n l) := by
  unfold spec_l05Is.f isG
  refine Ev.bind (l03Prime p) ?_
  have no : ∀ r, r = false → Ev (fun k => spec_l05Is.j0 k true p n l) r := by
    rintro _ rfl
    exact Ev.step (f := fun _ => some false) (fun k => by simp only [spec_l05Is.j0, if_true]) (Ev.now _)
  cases hp : pr p with
  | false =>
    simp only [Bool.false_eq_true, if_false, Bool.false_and]
    exact no _ rfl
  | true =>
    have hb := pr_bd hp
    simp only [if_true, Bool.true_and]
    refine ev_bind_const (l01In _ _ _) ?_
    cases hn : (decide (1 ≤ n) && decide (n ≤ 16)) with
    | false =>
      simp only [Bool.false_eq_true, if_false, Bool.false_and]
      exact no _ rfl
    | true =>
      simp only [Bool.and_eq_true, decide_eq_true_eq] at hn
      simp only [if_true, Bool.true_and]
      by_cases c : (l.length : Int) = p
      · rw [decide_eq_true c, Bool.true_and, show ((l.length : Int) != p) = false from bne_eq_false_iff_eq.mpr c]
        have hph := phi_le n hn.1 hn.2
        refine Ev.step (f := fun k => (spec_l01Phi.f k n).bind fun t149 => spec_l05Is.l0 k t149 0 p n l) (fun k => by simp only [spec_l05Is.j0, Bool.false_eq_true, if_false]) (Ev.bind (phi_spec n hn.1 hn.2) ?_)
        have := spG_l0 (s := phi n) (p := p) (n := n) hl (by omega) l.length 0 (by omega)
        rw [List.drop_zero, Int.natCast_zero, rowsOk_zero _ _ (by intro h; rw [h] at c; simp at c; omega)] at this
        exact this
      · rw [decide_eq_false c, Bool.false_and, show ((l.length : Int) != p) = true from bne_iff_ne.mpr c]
        exact no _ rfl
theorem imIsG (p n : Int) (l : List (List Int)) (hl : l.length ≤ 1048576) (hp0 : -9223372036854775808 ≤ p ∧ p ≤ 9223372036854775807) : Ev (fun k => impl_IsGauss.f k p n l) (isG p n l) := by
  unfold impl_IsGauss.f isG
  refine Ev.bind (isPrime p hp0.1 hp0.2) ?_
  have no : ∀ r, r = false → Ev (fun k => impl_IsGauss.j0 k true p n l) r := by
    rintro _ rfl
    exact Ev.step (f := fun _ => some false) (fun k => by simp only [impl_IsGauss.j0, if_true]) (Ev.now _)
  cases hp : pr p with
  | false =>
    simp only [Bool.false_eq_true, if_false, Bool.false_and]
    exact no _ rfl
  | true =>
    have hb := pr_bd hp
    simp only [if_true, Bool.true_and]
    unfold impl_isOrder.f
    rw [within_, Option.bind_some]
    refine ev_bind_const rfl ?_
    cases hn : (decide (1 ≤ n) && decide (n ≤ 16)) with
    | false =>
      simp only [Bool.false_eq_true, if_false, Bool.false_and]
      exact no _ rfl
    | true =>
      simp only [Bool.and_eq_true, decide_eq_true_eq] at hn
      simp only [if_true, Bool.true_and]
      by_cases c : (l.length : Int) = p
      · rw [decide_eq_true c, Bool.true_and, show ((l.length : Int) != p) = false from bne_eq_false_iff_eq.mpr c]
        refine Ev.step (f := fun k => (impl_totient.f k n).bind fun t193 => impl_IsGauss.l0 k t193 l (l.length : Int) 0 p n l) (fun k => by simp only [impl_IsGauss.j0, Bool.false_eq_true, if_false]) (Ev.bind (phi_impl n hn.1 hn.2) ?_)
        have := imG_l0 (s := phi n) (p := p) (n := n) hl (by omega) l.length 0 (by omega)
        rw [List.drop_zero] at this
        exact this
      · rw [decide_eq_false c, Bool.false_and, show ((l.length : Int) != p) = true from bne_iff_ne.mpr c]
        exact no _ rfl
theorem isG_form {p n : Int} {l : List (List Int)} (h : isG p n l = true) : pr p = true ∧ (1 ≤ n ∧ n ≤ 16) ∧ (l.length : Int) = p ∧ (∀ r ∈ l, (r.length : Int) = phi n ∧ ∀ x ∈ r, -1000000000 ≤ x ∧ x ≤ 1000000000) ∧ ∀ x ∈ rd_L1 l 0, x = 0 := by
  unfold isG gOk at h
  simp only [Bool.and_eq_true, decide_eq_true_eq] at h
  obtain ⟨h1, h2, h3, h4, h5⟩ := h
  refine ⟨h1, h2, h3, fun r hr => ?_, fun x hx => ?_⟩
  · have := List.all_eq_true.mp h4 r hr
    unfold gRow at this
    simp only [Bool.and_eq_true, decide_eq_true_eq] at this
    refine ⟨this.1, fun x hx => ?_⟩
    have h6 := List.all_eq_true.mp this.2 x hx
    unfold inP at h6
    simpa using h6
  · have := List.all_eq_true.mp h5 x hx
    rw [inP0] at this
    simpa using this
def gl (n a : Int) : List Int → Nat → List Int → List Int
  | [], _, many => many
  | x :: xs, i, many => gl n a xs (i + 1) (many.set ((a * (i : Int)) % n).toNat (wrap64 (many.getD ((a * (i : Int)) % n).toNat 0 + x)))
def mvS (p a : Int) : List (List Int) → Int → List (List Int) → List (List Int)
  | [], _, Y => Y
  | r :: rs, i, Y => mvS p a rs (i + 1) (Y.set ((i * a) % p).toNat r)
theorem mvS_len (p a : Int) : ∀ (rs : List (List Int)) (i : Int) (Y : List (List Int)), (mvS p a rs i Y).length = Y.length
  | [], _, _ => rfl
  | r :: rs, i, Y => by
    simp only [mvS]
    rw [mvS_len p a rs (i + 1)]
    simp
theorem mvS_agree (p a : Int) : ∀ (rs : List (List Int)) (i : Int) (Y Z : List (List Int)) (j : Nat), Y.length = Z.length → (Y[j]? = Z[j]? ∨ ∃ k : Nat, k < rs.length ∧ (((i + k) * a) % p).toNat = j) → (mvS p a rs i Y)[j]? = (mvS p a rs i Z)[j]?
  | [], i, Y, Z, j, hl, h => by
    rcases h with h | ⟨k, hk, _⟩
    · exact h
    · exact absurd hk (by simp)
  | r :: rs, i, Y, Z, j, hl, h => by
    simp only [mvS]
    refine mvS_agree p a rs (i + 1) _ _ j (by simp [hl]) ?_
    by_cases c : ((i * a) % p).toNat = j
    · left
      subst c
      rw [List.getElem?_set, List.getElem?_set, hl, if_pos rfl, if_pos rfl]
    · rcases h with h | ⟨k, hk, he⟩
      · left
        rw [List.getElem?_set_ne c, List.getElem?_set_ne c]
        exact h
      · cases k with
        | zero => exact absurd (by simpa using he) c
        | succ k =>
          right
          refine ⟨k, by simpa using hk, ?_⟩
          rw [← he]
          congr 3
          omega
theorem mvS_get (p a : Int) : ∀ (rs : List (List Int)) (i : Int) (Y : List (List Int)) (j : Nat) (x : List Int), (mvS p a rs i Y)[j]? = some x → Y[j]? = some x ∨ ∃ k : Nat, rs[k]? = some x ∧ (((i + k) * a) % p).toNat = j
  | [], i, Y, j, x, h => .inl h
  | r :: rs, i, Y, j, x, h => by
    simp only [mvS] at h
    rcases mvS_get p a rs (i + 1) _ j x h with h | ⟨k, hk, he⟩
    · by_cases c : ((i * a) % p).toNat = j
      · right
        subst c
        rw [List.getElem?_set] at h
        simp only [if_true] at h
        split at h
        · exact ⟨0, by simpa using h, by simp⟩
        · cases h
      · left
        rwa [List.getElem?_set_ne c] at h
    · right
      refine ⟨k + 1, by simpa using hk, ?_⟩
      rw [← he]
      congr 3
      omega
def hitB (p a : Int) : Bool := ((List.range p.toNat).all fun j => (List.range p.toNat).any fun k => (((k : Int) * a) % p).toNat == j) && (List.range p.toNat).all fun k => !((((k : Int) * a) % p).toNat == 0) || k == 0
theorem mvHitB : (prs.all fun p => (upTo 1 (p - 1).toNat).all (hitB p)) = true := by decide +kernel
theorem mvHit (p : Int) (hp : p ∈ prs) (a : Int) (ha : a ∈ upTo 1 (p - 1).toNat) : (∀ j ∈ List.range p.toNat, ∃ k ∈ List.range p.toNat, (((k : Int) * a) % p).toNat = j) ∧ ∀ k ∈ List.range p.toNat, (((k : Int) * a) % p).toNat = 0 → k = 0 := by
  have h := List.all_eq_true.mp (List.all_eq_true.mp mvHitB p hp) a ha
  unfold hitB at h
  rw [Bool.and_eq_true, List.all_eq_true, List.all_eq_true] at h
  refine ⟨fun j hj => ?_, fun k hk h0 => ?_⟩
  · obtain ⟨k, hk, he⟩ := List.any_eq_true.mp (h.1 j hj)
    exact ⟨k, hk, by simpa using he⟩
  · have := h.2 k hk
    rw [h0] at this
    simpa using this
theorem mvMod {i a p : Int} (hp : 0 < p) (hi : 0 ≤ i ∧ i ≤ 100) (ha : 0 ≤ a ∧ a ≤ 100) : Int.tmod (wrap64 (i * a)) p = (i * a) % p ∧ 0 ≤ (i * a) % p ∧ (i * a) % p < p := by
  have h0 : 0 ≤ i * a := Int.mul_nonneg hi.1 ha.1
  have h1 : i * a ≤ 100 * 100 := Int.mul_le_mul hi.2 ha.2 (by omega) (by omega)
  rw [w64 (by omega) (by omega), Int.tmod_eq_emod_of_nonneg h0]
  exact ⟨rfl, Int.emod_nonneg _ (by omega), Int.emod_lt_of_pos _ hp⟩
theorem imM {p n a : Int} {l : List (List Int)} (hp : 0 < p) (hp2 : p ≤ 61) (ha : 0 ≤ a ∧ a ≤ 100) (hl : (l.length : Int) = p) (hr : ∀ r ∈ l, r.length ≤ 1000) : ∀ (d i : Nat) (Y : List (List Int)), d + i = l.length → (Y.length : Int) = p → Ev (fun k => impl_MoveRoot.l0 k a l (l.length : Int) (i : Int) p n l p n Y) (p, n, mvS p a (l.drop i) (i : Int) Y, 0)
  | 0, i, Y, hd, hy => by
    rw [List.drop_of_length_le (by omega)]
    refine Ev.step (f := fun _ => some (p, n, Y, 0)) (fun k => ?_) (Ev.now _)
    simp only [impl_MoveRoot.l0]
    rw [if_neg (by omega)]
  | d + 1, i, Y, hd, hy => by
    have hi : i < l.length := by omega
    have hm := hr _ (rdL_mem hi)
    have ht := mvMod (i := (i : Int)) (a := a) hp (by omega) ha
    have ih := imM (n := n) hp hp2 ha hl hr d (i + 1) (Y.set (((i : Int) * a) % p).toNat (rd_L1 l (i : Int))) (by omega) (by simp [hy])
    rw [drop_rd hi]
    refine Ev.step (fun k => ?_) ih
    simp only [impl_MoveRoot.l0]
    rw [if_pos (by omega), if_pos (by omega), if_pos (by omega), if_neg (by omega)]
    unfold slices_Clone_int64_int64.f
    rw [if_pos (by omega), Option.bind_some, ht.1, if_pos (by omega), if_pos (by omega), w64 (x := (i : Int) + 1) (by omega) (by omega)]
    rfl
theorem spN_l1 {p n : Int} {L out : List (List Int)} {i : Nat} (hi : i < L.length) (hl : L.length ≤ 1000) (hs : ∀ r ∈ L, r.length = (rd_L1 L 0).length ∧ ∀ x ∈ r, -1000000000 ≤ x ∧ x ≤ 1000000000) (h0 : ∀ x ∈ rd_L1 L 0, x = 0) (hlen : (rd_L1 L 0).length ≤ 1000) (ho : out.length ≤ 1000) (X : Int × Int × List (List Int)) (H : Ev (fun k => spec_l05Normal.l0 k L ((i + 1 : Nat) : Int) p n (out ++ [rd_L1 L (i : Int)])) X) : ∀ (d j : Nat), d + j = (rd_L1 L (i : Int)).length → Ev (fun k => spec_l05Normal.l1 k L (i : Int) ((rd_L1 L (i : Int)).take j) (j : Int) p n out) X
  | 0, j, hd => by
    rw [List.take_of_length_le (by omega)]
    refine Ev.step (fun k => ?_) H
    simp only [spec_l05Normal.l1]
    rw [if_pos (by omega), if_pos (by omega), if_neg (by omega), if_pos (by omega), w64 (x := (i : Int) + 1) (by omega) (by omega)]
    rfl
  | d + 1, j, hd => by
    have hr := hs _ (rdL_mem hi)
    have hj : j < (rd_L1 L (i : Int)).length := by omega
    have hj0 : j < (rd_L1 L 0).length := by omega
    have e0 : rd (rd_L1 L 0) (j : Int) = 0 := h0 _ (rd_mem (by omega) (by omega))
    have ex := hr.2 _ (rd_mem (i := (j : Int)) (by omega) (by omega))
    have ih := spN_l1 hi hl hs h0 hlen ho X H d (j + 1) (by omega)
    have et : (rd_L1 L (i : Int)).take (j + 1) = (rd_L1 L (i : Int)).take j ++ [rd (rd_L1 L (i : Int)) (j : Int)] := by
      rw [List.take_succ_eq_append_getElem hj]
      simp [rd, hj]
    rw [et] at ih
    refine Ev.step (fun k => ?_) ih
    simp only [spec_l05Normal.l1]
    rw [if_pos (by omega), if_pos (by omega), if_pos (by omega), if_pos (by omega), if_pos (by omega), if_pos (by omega), if_pos (by rw [List.length_take]; omega), e0, Int.sub_zero, w64 (x := rd (rd_L1 L (i : Int)) (j : Int)) (by omega) (by omega), w64 (x := (j : Int) + 1) (by omega) (by omega)]
    rfl
theorem spN_l0 {p n : Int} {L : List (List Int)} (hl : L.length ≤ 1000) (hs : ∀ r ∈ L, r.length = (rd_L1 L 0).length ∧ ∀ x ∈ r, -1000000000 ≤ x ∧ x ≤ 1000000000) (h0 : ∀ x ∈ rd_L1 L 0, x = 0) (hlen : (rd_L1 L 0).length ≤ 1000) : ∀ (d i : Nat), d + i = L.length → Ev (fun k => spec_l05Normal.l0 k L (i : Int) p n (L.take i)) (p, n, L)
  | 0, i, hd => by
    rw [List.take_of_length_le (by omega)]
    refine Ev.step (f := fun _ => some (p, n, L)) (fun k => ?_) (Ev.now _)
    simp only [spec_l05Normal.l0]
    rw [if_neg (by omega)]
  | d + 1, i, hd => by
    have hi : i < L.length := by omega
    have ih := spN_l0 (p := p) (n := n) hl hs h0 hlen d (i + 1) (by omega)
    have et : L.take (i + 1) = L.take i ++ [rd_L1 L (i : Int)] := by
      rw [List.take_succ_eq_append_getElem hi]
      simp [rd_L1, hi]
    rw [et] at ih
    refine Ev.step (f := fun k => spec_l05Normal.l1 k L (i : Int) [] 0 p n (L.take i)) (fun k => ?_) (by simpa using spN_l1 hi hl hs h0 hlen (by rw [List.length_take]; omega) _ ih (rd_L1 L (i : Int)).length 0 (by omega))
    simp only [spec_l05Normal.l0]
    rw [if_pos (by omega)]
theorem spM {p n a : Int} {l : List (List Int)} (hp : 0 < p) (hp2 : p ≤ 61) (ha : 0 ≤ a ∧ a ≤ 100) (hl : (l.length : Int) = p) (hr : ∀ r ∈ l, r.length ≤ 1000) (X : Int × Int × List (List Int)) : ∀ (d i : Nat) (Y : List (List Int)), d + i = l.length → (Y.length : Int) = p → Ev (fun k => spec_l05Normal.f k p n (mvS p a (l.drop i) (i : Int) Y)) X → Ev (fun k => spec_MoveRoot.l0 k a Y (i : Int) p n l) (X.1, X.2.1, X.2.2, 0)
  | 0, i, Y, hd, hy, H => by
    rw [List.drop_of_length_le (by omega)] at H
    refine Ev.step (f := fun k => (spec_l05Normal.f k p n Y).bind fun bt => some (bt.1, bt.2.1, bt.2.2, 0)) (fun k => ?_) (Ev.bind H (Ev.now _))
    simp only [spec_MoveRoot.l0]
    rw [if_neg (by omega)]
  | d + 1, i, Y, hd, hy, H => by
    have hi : i < l.length := by omega
    have hm := hr _ (rdL_mem hi)
    have ht := mvMod (i := (i : Int)) (a := a) hp (by omega) ha
    rw [drop_rd hi] at H
    have ih := spM (n := n) hp hp2 ha hl hr X d (i + 1) (Y.set (((i : Int) * a) % p).toNat (rd_L1 l (i : Int))) (by omega) (by simp [hy]) H
    refine Ev.step (fun k => ?_) ih
    simp only [spec_MoveRoot.l0]
    rw [if_pos (by omega), if_neg (by omega), if_pos (by omega), if_pos (by omega)]
    unfold spec_l01Own.f
    rw [Option.bind_some, if_pos (by simp; omega), Option.bind_some, List.nil_append, ht.1, if_pos (by omega), if_pos (by omega), w64 (x := (i : Int) + 1) (by omega) (by omega)]
    rfl
theorem spZ {p n : Int} {s : Nat} (hp2 : p ≤ 61) (hn : 1 ≤ n ∧ n ≤ 16) (hs : phi n = s) (hs2 : s ≤ 1000) : ∀ (d i : Nat), ((d + i : Nat) : Int) = p → Ev (fun k => spec_l05Zeros.l0 k p n (List.replicate i (List.replicate s 0)) (i : Int)) (List.replicate p.toNat (List.replicate s 0))
  | 0, i, hd => by
    have : p.toNat = i := by omega
    rw [this]
    refine Ev.step (f := fun _ => some (List.replicate i (List.replicate s 0))) (fun k => ?_) (Ev.now _)
    simp only [spec_l05Zeros.l0]
    rw [if_neg (by omega)]
  | d + 1, i, hd => by
    have ih := spZ (n := n) hp2 hn hs hs2 d (i + 1) (by omega)
    rw [List.replicate_succ'] at ih
    refine Ev.step (f := fun k => (spec_l01Phi.f k n).bind fun t139 => if 0 ≤ t139 then (if (t139 : Int).toNat ≤ 35184372088832 then (if (List.replicate i (List.replicate s (0 : Int))).length < 5864062014805 then spec_l05Zeros.l0 k p n (List.replicate i (List.replicate s 0) ++ [List.replicate (t139 : Int).toNat 0]) (((i + 1 : Nat)) : Int) else none) else none) else none) (fun k => ?_) (Ev.bind (phi_spec n hn.1 hn.2) ?_)
    · simp only [spec_l05Zeros.l0]
      rw [if_pos (by omega), w64 (x := (i : Int) + 1) (by omega) (by omega)]
      rfl
    · rw [hs]
      simp only [if_pos (show (0 : Int) ≤ (s : Int) by omega), Int.toNat_natCast, if_pos (show s ≤ 35184372088832 by omega), List.length_replicate, if_pos (show i < 5864062014805 by omega)]
      exact ih
theorem same_out (p n : Int) (l : List (List Int)) (a : Int) (hl : l.length ≤ 1048576) (hp : -9223372036854775808 ≤ p ∧ p ≤ 9223372036854775807) : ∃ o : Int × Int × List (List Int) × Int, Ev (fun k => spec_MoveRoot.f k p n l a) o ∧ Ev (fun k => impl_MoveRoot.f k p n l a) o ∧ o.2.2.1.length ≤ 1000 ∧ ∀ r ∈ o.2.2.1, r.length ≤ 1000 := by
  have hsp := spIsG p n l hl
  have him := imIsG p n l hl hp
  unfold spec_MoveRoot.f impl_MoveRoot.f
  cases h : isG p n l with
  | false =>
    rw [h] at hsp him
    refine ⟨(0, 0, [], 1), Ev.bind hsp ?_, Ev.bind him ?_, by simp, by simp⟩
    · simp only [Bool.false_eq_true, if_false]
      exact Ev.now _
    · simp only [Bool.false_eq_true, if_false]
      exact Ev.now _
  | true =>
    rw [h] at hsp him
    obtain ⟨h1, h2, h3, h4, h5⟩ := isG_form h
    have hb := pr_bd h1
    have hph := phi_le n h2.1 h2.2
    obtain ⟨s, hs⟩ : ∃ s : Nat, phi n = s := ⟨(phi n).toNat, by omega⟩
    have hr : ∀ r ∈ l, r.length = s := fun r hr => by have := (h4 r hr).1; omega
    have hr2 : ∀ r ∈ l, r.length ≤ 1000 := fun r h => by have := hr r h; omega
    have w1 : wrap64 (p - 1) = p - 1 := w64 (by omega) (by omega)
    cases ha : (decide (1 ≤ a) && decide (a ≤ p - 1)) with
    | false =>
      refine ⟨(0, 0, [], 2), Ev.bind hsp ?_, Ev.bind him ?_, by simp, by simp⟩
      · simp only [if_true, w1, l01In, ha, Option.bind_some, Bool.false_eq_true, if_false]
        exact Ev.now _
      · simp only [if_true, w1, within_, ha, Option.bind_some, Bool.false_eq_true, if_false]
        exact Ev.now _
    | true =>
      have ha2 : 1 ≤ a ∧ a ≤ p - 1 := by simpa using ha
      have hz := spZ (n := n) (s := s) (p := p) (by omega) h2 hs (by omega) p.toNat 0 (by omega)
      have hi0 := imM (p := p) (n := n) (a := a) (l := l) (by omega) (by omega) (by omega) h3 hr2 l.length 0 (List.replicate p.toNat []) (by omega) (by simp; omega)
      rw [List.drop_zero] at hi0
      have hpm : p ∈ prs := by simpa [pr] using h1
      have ham : a ∈ upTo 1 (p - 1).toNat := by
        unfold upTo
        refine List.mem_map.mpr ⟨(a - 1).toNat, List.mem_range.mpr (by omega), by omega⟩
      obtain ⟨k1, k2⟩ := mvHit p hpm a ham
      have heq : mvS p a l (0 : Nat) (List.replicate p.toNat (List.replicate s 0)) = mvS p a l (0 : Nat) (List.replicate p.toNat []) := by
        apply List.ext_getElem?
        intro j
        by_cases hj : j < p.toNat
        · refine mvS_agree p a l _ _ _ j (by simp) (.inr ?_)
          obtain ⟨k, hk, he⟩ := k1 j (List.mem_range.mpr hj)
          exact ⟨k, by have := List.mem_range.mp hk; omega, by rw [← he]; congr 3; omega⟩
        · rw [List.getElem?_eq_none (by rw [mvS_len]; simp; omega), List.getElem?_eq_none (by rw [mvS_len]; simp; omega)]
      have hlenF := mvS_len p a l ((0 : Nat) : Int) (List.replicate p.toNat (List.replicate s 0))
      rw [List.length_replicate] at hlenF
      have hmem : ∀ r ∈ mvS p a l ((0 : Nat) : Int) (List.replicate p.toNat (List.replicate s 0)), r.length = s ∧ ∀ x ∈ r, -1000000000 ≤ x ∧ x ≤ 1000000000 := by
        intro r hrm
        obtain ⟨j, hj, he⟩ := List.mem_iff_getElem.mp hrm
        rcases mvS_get p a l _ _ j r (by rw [List.getElem?_eq_getElem hj, he]) with g | ⟨k, hk, _⟩
        · have hm := List.mem_of_getElem? g
          obtain ⟨_, rfl⟩ := List.mem_replicate.mp hm
          refine ⟨by simp, fun x hx => ?_⟩
          obtain ⟨_, rfl⟩ := List.mem_replicate.mp hx
          omega
        · have hm := List.mem_of_getElem? hk
          exact ⟨hr r hm, (h4 r hm).2⟩
      have hzero : ∀ x ∈ rd_L1 (mvS p a l ((0 : Nat) : Int) (List.replicate p.toNat (List.replicate s 0))) 0, x = 0 := by
        have hg : (mvS p a l ((0 : Nat) : Int) (List.replicate p.toNat (List.replicate s 0)))[0]? = some (rd_L1 (mvS p a l ((0 : Nat) : Int) (List.replicate p.toNat (List.replicate s 0))) 0) := by
          unfold rd_L1
          rw [show (0 : Int).toNat = 0 from rfl, List.getD_eq_getElem?_getD, List.getElem?_eq_getElem (by omega)]
          rfl
        rcases mvS_get p a l _ _ 0 _ hg with g | ⟨k, hk, he⟩
        · have hm := List.mem_of_getElem? g
          obtain ⟨_, e⟩ := List.mem_replicate.mp hm
          rw [e]
          intro x hx
          exact (List.mem_replicate.mp hx).2
        · have hkl : k < l.length := (List.getElem?_eq_some_iff.mp hk).1
          have hk0 := k2 k (List.mem_range.mpr (by omega)) (by rw [← he]; congr 3; omega)
          subst hk0
          have : rd_L1 (mvS p a l ((0 : Nat) : Int) (List.replicate p.toNat (List.replicate s 0))) 0 = rd_L1 l 0 := by
            rw [← Option.some.injEq, ← hk]
            unfold rd_L1
            rw [show (0 : Int).toNat = 0 from rfl, List.getD_eq_getElem?_getD, List.getElem?_eq_getElem hkl]
            rfl
          rw [this]
          exact h5
      generalize hF : mvS p a l ((0 : Nat) : Int) (List.replicate p.toNat (List.replicate s 0)) = F at *
      have h0m : rd_L1 F 0 ∈ F := rdL_mem (i := 0) (by omega)
      have h0s := (hmem _ h0m).1
      have hnorm := spN_l0 (p := p) (n := n) (L := F) (by omega) (fun r hrm => ⟨by rw [(hmem r hrm).1, h0s], (hmem r hrm).2⟩) hzero (by omega) F.length 0 (by omega)
      have hs0 := spM (p := p) (n := n) (a := a) (l := l) (by omega) (by omega) (by omega) h3 hr2 (p, n, F) l.length 0 (List.replicate p.toNat (List.replicate s 0)) (by omega) (by simp; omega) (by rw [List.drop_zero, hF]; simpa [spec_l05Normal.f] using hnorm)
      refine ⟨(p, n, F, 0), Ev.bind hsp ?_, Ev.bind him ?_, by simp only; omega, fun r hrm => ?_⟩
      · simp only [if_true, w1, l01In, ha, Option.bind_some]
        exact Ev.bind (by unfold spec_l05Zeros.f; simpa using hz) hs0
      · simp only [if_true, w1, within_, ha, Option.bind_some, if_pos (show 0 ≤ p by omega), if_pos (show p.toNat ≤ 11728124029610 by omega)]
        rw [← heq] at hi0
        exact hi0
      · have := (hmem r hrm).1
        omega
theorem heldG_l0 : ∀ (rest done : List (List Int)) (a : Int), 0 ≤ a → a + tot rest ≤ 1000000000000 → (∀ r ∈ rest, r.length ≤ 1048576) → done.length + rest.length ≤ 1048576 → Ev (fun k => laws_heldInt64SS.l0 k (done ++ (nMarkS rest a).2) a (done.length : Int)) (nMarkS rest a).1
  | [], done, a, _, _, _, h => by
    refine Ev.step (f := fun _ => some a) (fun k => ?_) (Ev.now _)
    simp only [laws_heldInt64SS.l0, nMarkS, List.append_nil]
    rw [if_neg (by omega)]
  | x :: rest, done, a, h0, h1, hx, h => by
    rw [tot_cons] at h1
    simp only [List.length_cons] at h
    have hx1 := hx x (by simp)
    have e2 := nMark_fst x a h0 (by omega)
    have ih := heldG_l0 rest (done ++ [(nMark x a).2]) (a + x.length) (by omega) (by omega) (fun r hr => hx r (List.mem_cons_of_mem _ hr)) (by simp; omega)
    have hh := nHeld x a hx1
    simp only [nMarkS]
    rw [e2] at hh ⊢
    refine Ev.step (f := fun k => (laws_heldInt64S.f k (nMark x a).2 a).bind fun t117 => if t117 < 0 then some (-1) else laws_heldInt64SS.l0 k (done ++ (nMark x a).2 :: (nMarkS rest (a + x.length)).2) t117 ((done ++ [(nMark x a).2]).length : Int)) (fun k => ?_) (Ev.bind hh ?_)
    · simp only [laws_heldInt64SS.l0]
      have er : rd_L1 (done ++ (nMark x a).2 :: (nMarkS rest (a + x.length)).2) (done.length : Int) = (nMark x a).2 := by simp [rd_L1]
      rw [if_pos (by rw [List.length_append, List.length_cons]; omega), if_pos (by omega), er, w64 (x := (done.length : Int) + 1) (by omega) (by omega)]
      simp
    · simp only [if_neg (show ¬ a + (x.length : Int) < 0 by omega)]
      simpa using ih
theorem heldGG (p n : Int) (l : List (List Int)) (hl : l.length ≤ 1000) (hr : ∀ r ∈ l, r.length ≤ 1000) (ht : tot l ≤ 1000000) : Ev (fun k => laws_heldGauss.f k p n (nMarkS l 1).2 1) (nMarkS l 1).1 := by
  have := heldG_l0 l [] 1 (by omega) (by omega) (fun r h => by have := hr r h; omega) (by simp; omega)
  have hf := nMarkS_fst l 1 (by omega) (by omega)
  unfold laws_heldGauss.f laws_heldInt64SS.f
  refine Ev.bind (by simpa using this) ?_
  simp only [if_neg (show ¬ (nMarkS l 1).1 < 0 by omega)]
  exact Ev.now _
theorem tot_le : ∀ (l : List (List Int)), (∀ r ∈ l, r.length ≤ 1000) → tot l ≤ 1000 * l.length
  | [], _ => by simp [tot]
  | x :: l, h => by
    rw [tot_cons]
    have h1 := h x (by simp)
    have h2 := tot_le l (fun r hr => h r (List.mem_cons_of_mem _ hr))
    simp only [List.length_cons]
    omega
theorem FnExactMoveRoot : laws_FnExactMoveRoot.Pure := by
  intro p n l a hp hn hm hw ha
  apply Ev.rounds
  have hp2 := wf64 hp
  have hm2 : l.length ≤ 9223372036854775807 := by simpa [maxLen] using hm
  have hw2 : ∀ r ∈ l, r.length ≤ 9223372036854775807 := fun r hr => by simpa [maxLen] using (hw r hr).1
  obtain ⟨t, Ht, ht⟩ := szG p n l 1048576 (by omega) (by omega) hm2 hw2
  unfold laws_FnExactMoveRoot.f
  refine Ev.bind Ht ?_
  by_cases ct : t < 0
  · simp only [if_pos ct]
    exact Ev.now _
  simp only [if_neg ct]
  obtain ⟨hl, htot⟩ := ht ct
  have hr : ∀ r ∈ l, r.length ≤ 1048576 := fun r h => by have := tot_mem l r h; omega
  have tg := toGauss p n l hl hr
  obtain ⟨⟨gp, gn, gl, c⟩, hs, hi, hgl, hgr⟩ := same_out p n l a hl hp2
  simp only at hgl hgr
  have hgt := tot_le gl hgr
  have eqg := eqGauss gp gn gl (by omega) (fun r h => by have := hgr r h; omega)
  refine Ev.bind tg (Ev.bind hs (Ev.bind tg (Ev.bind hi (Ev.bind eqg ?_))))
  simp only [if_true, bne_self_eq_false]
  refine Ev.step (fun k => by simp only [laws_FnExactMoveRoot.j0, Bool.false_eq_true, if_false] <;> rfl) ?_
  refine Ev.bind tg (Ev.bind (eqGauss p n l hl hr) ?_)
  simp only [if_true]
  refine ev_bind_const (markGB p n l hl hr) ?_
  have hf := nMarkS_fst l 1 (by omega) (by omega)
  simp only [if_neg (show ¬ (nMarkS l 1).1 < 0 by omega)]
  refine Ev.bind eqg ?_
  simp only [if_true, bne_self_eq_false]
  refine Ev.step (fun k => by simp only [laws_FnExactMoveRoot.j1, Bool.false_eq_true, if_false] <;> rfl) ?_
  have hf2 := nMarkS_fst gl 1 (by omega) (by omega)
  have hall : gl.length ≤ 2000000 ∧ gl.all (fun x => decide (x.length ≤ 2000000)) = true := ⟨by omega, List.all_eq_true.mpr fun x h => by have := hgr x h; simp; omega⟩
  refine ev_bind_const (a := (nMarkS gl 1).1) (by unfold laws_markSG_B.f; rw [if_pos hall]) (ev_bind_const (a := (nMarkS gl 1).2) (by unfold laws_markSG_A.f; rw [if_pos hall]) (Ev.bind (heldGG gp gn gl hgl hgr (by omega)) ?_))
  simp only [if_neg (show ¬ (nMarkS gl 1).1 < 0 by omega), if_true]
  refine Ev.bind tg (Ev.bind hi (Ev.bind eqg ?_))
  simp only [if_true, bne_self_eq_false]
  refine Ev.step (fun k => by simp only [laws_FnExactMoveRoot.j2, Bool.false_eq_true, if_false] <;> rfl) ?_
  refine Ev.bind (heldGG gp gn gl hgl hgr (by omega)) ?_
  simp only [if_neg (show ¬ (nMarkS gl 1).1 < 0 by omega), if_true]
  exact Ev.now _
end Go.Proofs.Ytkjeadgfoedhbaa.Pure
