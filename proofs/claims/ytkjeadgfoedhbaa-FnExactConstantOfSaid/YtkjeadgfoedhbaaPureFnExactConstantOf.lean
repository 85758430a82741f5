/- The program's ConstantOf returns what the reference's returns, for all arguments; no condition. -/
import Derived.Test.YtkjeadgfoedhbaaPFnExactConstantOfx8
import Derived.OpenShut
namespace Go.Proofs.Ytkjeadgfoedhbaa.Pure
open Go.RowKit Go.Proofs.Ytkjeadgfoedhbaa.PFnExactConstantOf Go.Proofs.YtkjeadgfoedhbaaW.PrintWords Go.Proofs.YtkjeadgfoedhbaaW.PrintLast Go.Proofs.YtkjeadgfoedhbaaW.PrintMore
set_option linter.unusedVariables false
set_option linter.unusedSimpArgs false
theorem w64 {x : Int} (h0 : -9223372036854775808 ≤ x) (h1 : x ≤ 9223372036854775807) : wrap64 x = x := by unfold wrap64; omega
theorem wf64 {x : Int} (h : (Lit.int .i64 x).wf = true) : -9223372036854775808 ≤ x ∧ x ≤ 9223372036854775807 := bounds_i64 h
theorem ev_bind_const {α β : Type} {o : Option α} {a : α} {f : Nat → α → Option β} {r : β} (h : o = some a) (k : Ev (fun n => f n a) r) : Ev (fun n => o.bind (f n)) r := by
  subst h; exact k
theorem toInts_l0 (l : List Int) (hl : l.length ≤ 1048576) : ∀ (d : Nat) (ys : List Int) (i : Nat), d + i = l.length → ys.length = l.length → ys.take i = l.take i → Ev (fun k => laws_toInt64S.l0 k l ys (i : Int)) l := by
  intro d
  induction d with
  | zero =>
    intro ys i hd hy ht
    have : i = l.length := by omega
    subst this
    refine Ev.step (f := fun _ => some l) (fun k => ?_) (Ev.now _)
    simp only [laws_toInt64S.l0]
    rw [if_neg (by omega)]
    rw [List.take_of_length_le (by omega), List.take_of_length_le (by omega)] at ht
    rw [ht]
  | succ d ih =>
    intro ys i hd hy ht
    refine Ev.step (f := fun k => laws_toInt64S.l0 k l (ys.set i (rd l (i : Int))) ((i + 1 : Nat) : Int)) (fun k => ?_) (ih _ _ (by omega) (by simp [hy]) ?_)
    · simp only [laws_toInt64S.l0]
      rw [if_pos (by omega), if_pos (by omega), if_pos (by omega), w64 (by omega) (by omega)]
      rfl
    · have hi : i < l.length := by omega
      rw [List.take_succ_eq_append_getElem (by simpa [hy] using hi), List.take_succ_eq_append_getElem hi, List.take_set_of_le (Nat.le_refl _), ht]
      simp [rd, hi]
theorem toInts (l : List Int) (hl : l.length ≤ 1048576) : Ev (fun k => laws_toInt64S.f k l) l := by
  have h := toInts_l0 l hl l.length (List.replicate l.length 0) 0 (by omega) (by simp) (by simp)
  refine Ev.congr (fun k => ?_) h
  unfold laws_toInt64S.f
  rw [if_pos (by omega), if_pos (by omega)]
  simp
theorem eqInts_l0 (l m : List Int) (hl : l.length ≤ 1048576) (hm : m.length = l.length) : ∀ (d i : Nat), d + i = l.length → Ev (fun k => laws_eqInt64S.l0 k l m (i : Int)) (decide (l.drop i = m.drop i)) := by
  intro d
  induction d with
  | zero =>
    intro i hd
    refine Ev.step (f := fun _ => some (decide (l.drop i = m.drop i))) (fun k => ?_) (Ev.now _)
    simp only [laws_eqInt64S.l0]
    rw [if_neg (by omega), List.drop_of_length_le (by omega), List.drop_of_length_le (by omega)]
    simp
  | succ d ih =>
    intro i hd
    have hi : i < l.length := by omega
    have hi2 : i < m.length := by omega
    have e1 : rd l (i : Int) = l[i] := by simp [rd, hi]
    have e2 : rd m (i : Int) = m[i] := by simp [rd, hi2]
    by_cases he : l[i] = m[i]
    · refine Ev.step (f := fun k => laws_eqInt64S.l0 k l m ((i + 1 : Nat) : Int)) (fun k => ?_) ?_
      · simp only [laws_eqInt64S.l0]
        rw [if_pos (by omega), if_pos (by omega), if_pos (by omega), e1, e2, if_pos he, w64 (by omega) (by omega)]
        rfl
      · have e : decide (l.drop i = m.drop i) = decide (l.drop (i + 1) = m.drop (i + 1)) := by
          rw [List.drop_eq_getElem_cons hi, List.drop_eq_getElem_cons hi2]
          simp only [List.cons.injEq, he, true_and]
        rw [e]
        exact ih (i + 1) (by omega)
    · refine Ev.step (f := fun _ => some false) (fun k => ?_) ?_
      · simp only [laws_eqInt64S.l0]
        rw [if_pos (by omega), if_pos (by omega), if_pos (by omega), e1, e2, if_neg he]
      · have e : decide (l.drop i = m.drop i) = false := by
          rw [List.drop_eq_getElem_cons hi, List.drop_eq_getElem_cons hi2]
          simp only [List.cons.injEq, he, false_and, decide_false]
        rw [e]
        exact Ev.now _
theorem eqInts (l m : List Int) (hl : l.length ≤ 1048576) : Ev (fun k => laws_eqInt64S.f k l m) (decide (l = m)) := by
  by_cases h : m.length = l.length
  · have := eqInts_l0 l m hl h l.length 0 (by omega)
    refine Ev.congr (fun k => ?_) (by simpa using this)
    unfold laws_eqInt64S.f
    rw [if_pos (by omega)]
  · have hne : l ≠ m := fun e => h (by rw [e])
    rw [decide_eq_false hne]
    refine Ev.congr (fun k => ?_) (Ev.now _)
    unfold laws_eqInt64S.f
    rw [if_neg (by omega)]
theorem eqCyclo (n n' : Int) (l l' : List Int) (hl : l.length ≤ 1048576) : Ev (fun k => laws_eqCyclo.f k n l n' l') (decide (n = n' ∧ l = l')) := by
  unfold laws_eqCyclo.f
  by_cases h : n = n'
  · simp only [if_pos h]
    refine Ev.bind (eqInts l l' hl) ?_
    by_cases h2 : l = l' <;> simp [h, h2] <;> exact Ev.now _
  · simp only [if_neg h]
    simp [h]
    exact Ev.now _
def phi (n : Int) : Int := [0, 1, 1, 2, 2, 4, 2, 6, 4, 6, 4, 10, 4, 12, 6, 8, 8].getD n.toNat 0
theorem orders {P : Int → Prop} (h : ∀ m : Nat, m < 17 → 1 ≤ m → P m) (n : Int) (h0 : 1 ≤ n) (h1 : n ≤ 16) : P n := by
  have := h n.toNat (by omega) (by omega)
  rwa [Int.toNat_of_nonneg (by omega)] at this
theorem phi_spec (n : Int) (h0 : 1 ≤ n) (h1 : n ≤ 16) : Ev (fun k => spec_l01Phi.f k n) (phi n) := by
  have key : ∀ m : Nat, m < 17 → 1 ≤ m → spec_l01Phi.f 60 (m : Int) = some (phi m) := by decide +kernel
  exact Ev.of (spec_l01Phi.mono n) (orders (P := fun n => spec_l01Phi.f 60 n = some (phi n)) key n h0 h1)
theorem phi_impl (n : Int) (h0 : 1 ≤ n) (h1 : n ≤ 16) : Ev (fun k => impl_totient.f k n) (phi n) := by
  have key : ∀ m : Nat, m < 17 → 1 ≤ m → impl_totient.f 60 (m : Int) = some (phi m) := by decide +kernel
  exact Ev.of (impl_totient.mono n) (orders (P := fun n => impl_totient.f 60 n = some (phi n)) key n h0 h1)
theorem l01In (a b c : Int) : spec_l01In.f a b c = some (decide (b ≤ a) && decide (a ≤ c)) := by
  unfold spec_l01In.f
  by_cases h : a ≥ b
  · rw [if_pos h]; simp [h]
  · rw [if_neg h]; simp [h]
theorem within_ (a b c : Int) : impl_within.f a b c = some (decide (b ≤ a) && decide (a ≤ c)) := by
  unfold impl_within.f
  by_cases h : b ≤ a
  · rw [if_pos h]; simp [h]
  · rw [if_neg h]; simp [h]
def inP (m : Int) (x : Int) : Bool := decide (-m ≤ x) && decide (x ≤ m)
theorem areSmall (l : List Int) (m : Int) (h0 : 0 ≤ m) (h1 : m ≤ 9223372036854775807) : impl_areSmall.f l m = some (l.all (inP m)) := by
  unfold impl_areSmall.f
  rw [w64 (by omega) (by omega)]
  rfl
def upTo (a : Int) (n : Nat) : List Int := (List.range n).map fun (j : Nat) => a + (j : Int)
theorem upTo_len (a : Int) (n : Nat) : (upTo a n).length = n := by simp [upTo]
theorem upTo_get (a : Int) (n i : Nat) (hi : i < n) : (upTo a n)[i]'(by rw [upTo_len]; exact hi) = a + (i : Int) := by simp [upTo]
theorem upTo_snoc (a : Int) (n : Nat) : upTo a (n + 1) = upTo a n ++ [a + (n : Int)] := by
  unfold upTo
  rw [List.range_succ, List.map_append]
  rfl
theorem markInts_l0 : ∀ (d i : Nat) (ys : List Int), d + i = ys.length → ys.length ≤ 1048576 → ys.take i = upTo 1 i → Ev (fun k => laws_markInt64S.l0 k ys (1 + (i : Int)) (i : Int)) (1 + (ys.length : Int), upTo 1 ys.length) := by
  intro d
  induction d with
  | zero =>
    intro i ys hd hl ht
    obtain rfl : i = ys.length := by omega
    refine Ev.step (fun k => by simp only [laws_markInt64S.l0]; rw [if_neg (by omega)] <;> rfl) ?_
    rw [List.take_length] at ht
    rw [← ht]
    exact Ev.now _
  | succ d ih =>
    intro i ys hd hl ht
    have hi : i < ys.length := by omega
    have := ih (i + 1) (ys.set i (1 + (i : Int))) (by simp; omega) (by simpa using hl) (by
      rw [List.take_succ_eq_append_getElem (by simpa using hi), List.take_set_of_le (Nat.le_refl _), ht, upTo_snoc]
      simp)
    refine Ev.step (fun k => ?_) (by simpa using this)
    simp only [laws_markInt64S.l0]
    rw [if_pos (by omega), if_pos (by omega), w64 (x := 1 + (i : Int) + 1) (by omega) (by omega), w64 (x := (i : Int) + 1) (by omega) (by omega), show 1 + (i : Int) + 1 = 1 + ((i : Int) + 1) by omega]
    rfl
theorem markInts (l : List Int) (hl : l.length ≤ 1048576) : Ev (fun k => laws_markInt64S.f k l 1) (1 + (l.length : Int), upTo 1 l.length) := by
  have := markInts_l0 l.length 0 l (by omega) hl (by simp [upTo])
  unfold laws_markInt64S.f
  simpa using this
theorem heldInts_l0 (n : Nat) (hn : n ≤ 1048576) : ∀ (d i : Nat), d + i = n → Ev (fun k => laws_heldInt64S.l0 k (upTo 1 n) (1 + (i : Int)) (i : Int)) (1 + (n : Int)) := by
  intro d
  induction d with
  | zero =>
    intro i hd
    obtain rfl : i = n := by omega
    exact Ev.step (fun k => by simp only [laws_heldInt64S.l0]; rw [if_neg (by rw [upTo_len]; omega)] <;> rfl) (Ev.now _)
  | succ d ih =>
    intro i hd
    have hi : i < (upTo 1 n).length := by rw [upTo_len]; omega
    have e1 : rd (upTo 1 n) (i : Int) = 1 + (i : Int) := by
      have := upTo_get 1 n i (by omega)
      simp only [rd, Int.toNat_natCast, List.getD_eq_getElem?_getD, List.getElem?_eq_getElem hi, Option.getD_some, this]
    refine Ev.step (fun k => ?_) (ih (i + 1) (by omega))
    simp only [laws_heldInt64S.l0]
    rw [if_pos (by omega), if_pos (by omega), if_pos e1, w64 (x := 1 + (i : Int) + 1) (by omega) (by omega), w64 (x := (i : Int) + 1) (by omega) (by omega), show 1 + (i : Int) + 1 = 1 + ((i : Int) + 1) by omega]
    rfl
theorem heldInts (n : Nat) (hn : n ≤ 1048576) : Ev (fun k => laws_heldInt64S.f k (upTo 1 n) 1) (1 + (n : Int)) := by
  have := heldInts_l0 n hn n 0 (by omega)
  unfold laws_heldInt64S.f
  simpa using this
theorem markCyclo (n : Int) (l : List Int) (hl : l.length ≤ 1048576) : Ev (fun k => laws_markCyclo.f k n l 1) (1 + (l.length : Int), upTo 1 l.length) := Ev.bind (markInts l hl) (Ev.now _)
theorem heldCyclo (m : Int) (n : Nat) (hn : n ≤ 1048576) : Ev (fun k => laws_heldCyclo.f k m (upTo 1 n) 1) (1 + (n : Int)) := by
  unfold laws_heldCyclo.f
  refine Ev.bind (heldInts n hn) ?_
  simp only [if_neg (show ¬ (1 + (n : Int) < 0) by omega)]
  exact Ev.now _
def prs : List Int := [3, 5, 7, 11, 13, 17, 19, 23, 29, 31, 37, 41, 43, 47, 53, 59, 61]
def pr (l : Int) : Bool := prs.contains l
theorem pr_iff {l : Int} : pr l = true ↔ l ∈ prs := by unfold pr; exact List.contains_iff_mem
theorem pr_bd {l : Int} (h : pr l = true) : 3 ≤ l ∧ l ≤ 61 := by
  rw [pr_iff] at h
  simp only [prs, List.mem_cons, List.not_mem_nil, or_false] at h
  omega
theorem upto61 {P : Int → Prop} (h : ∀ m : Nat, m < 62 → P m) (n : Int) (h0 : 0 ≤ n) (h1 : n ≤ 61) : P n := by
  have := h n.toNat (by omega)
  rwa [Int.toNat_of_nonneg (by omega)] at this
theorem isPrime_big (p : Int) (h0 : 61 < p) (h1 : p ≤ 9223372036854775807) : ∀ (n : Nat) (d : Int), 2 ≤ d → d ≤ p → (p - d).toNat = n → Ev (fun k => impl_isPrime.l0 k p d) false := by
  intro n
  induction n with
  | zero =>
    intro d hd hp hn
    have : d = p := by omega
    subst this
    refine Ev.step (f := fun _ => some false) (fun k => ?_) (Ev.now _)
    simp only [impl_isPrime.l0]
    by_cases c : wrap64 (d * d) ≤ d
    · rw [if_pos c, if_neg (by omega), if_pos (Int.tmod_self)]
    · rw [if_neg c, within_, Option.bind_some]
      simp
      omega
  | succ n ih =>
    intro d hd hp hn
    by_cases c : wrap64 (d * d) ≤ p
    · by_cases c2 : Int.tmod p d = 0
      · refine Ev.step (f := fun _ => some false) (fun k => ?_) (Ev.now _)
        simp only [impl_isPrime.l0]
        rw [if_pos c, if_neg (by omega), if_pos c2]
      · refine Ev.step (fun k => ?_) (ih (d + 1) (by omega) (by omega) (by omega))
        simp only [impl_isPrime.l0]
        rw [if_pos c, if_neg (by omega), if_neg c2, w64 (by omega) (by omega)]
    · refine Ev.step (f := fun _ => some false) (fun k => ?_) (Ev.now _)
      simp only [impl_isPrime.l0]
      rw [if_neg c, within_, Option.bind_some]
      simp
      omega
theorem isPrime (p : Int) (h0 : -9223372036854775808 ≤ p) (h1 : p ≤ 9223372036854775807) : Ev (fun k => impl_isPrime.f k p) (pr p) := by
  by_cases c : 61 < p
  · have e : pr p = false := by
      cases h : pr p with
      | false => rfl
      | true => have := pr_bd h; omega
    rw [e]
    exact isPrime_big p c h1 _ 2 (by omega) (by omega) rfl
  · by_cases c2 : 0 ≤ p
    · have key : ∀ m : Nat, m < 62 → impl_isPrime.f 20 (m : Int) = some (pr m) := by decide +kernel
      exact Ev.of (impl_isPrime.mono p) (upto61 (P := fun p => impl_isPrime.f 20 p = some (pr p)) key p c2 (by omega))
    · have e : pr p = false := by
        cases h : pr p with
        | false => rfl
        | true => have := pr_bd h; omega
      rw [e]
      refine Ev.step (f := fun _ => some false) (fun k => ?_) (Ev.now _)
      simp only [impl_isPrime.f, impl_isPrime.l0]
      rw [if_neg (by rw [w64 (x := 2 * 2) (by omega) (by omega)]; omega), within_, Option.bind_some]
      simp
      omega
theorem l03Prime (p : Int) : Ev (fun k => spec_l03Prime.f k p) (pr p) := by
  by_cases c : 3 ≤ p ∧ p ≤ 61
  · have key : ∀ m : Nat, m < 62 → spec_l03Prime.f 20 (m : Int) = some (pr m) := by decide +kernel
    exact Ev.of (spec_l03Prime.mono p) (upto61 (P := fun p => spec_l03Prime.f 20 p = some (pr p)) key p (by omega) c.2)
  · have e : pr p = false := by
      cases h : pr p with
      | false => rfl
      | true => have := pr_bd h; omega
    rw [e]
    unfold spec_l03Prime.f
    refine ev_bind_const (l01In _ _ _) ?_
    rw [show (decide (3 ≤ p) && decide (p ≤ 61)) = false by simp; omega]
    exact Ev.now _
def acc : List Int → List Int → List Int → List Int
  | many, t :: ts, e :: es => acc (if e ≥ 0 then many.set e.toNat (wrap64 (rd many e + t)) else many) ts es
  | many, _, _ => many
theorem nMark_fst : ∀ (l : List Int) (a : Int), 0 ≤ a → a + l.length ≤ 9223372036854775807 → (nMark l a).1 = a + l.length
  | [], a, _, _ => by simp [nMark]
  | _ :: l, a, h0, h1 => by
    simp only [List.length_cons] at h1
    simp only [nMark]
    rw [w64 (x := a + 1) (by omega) (by omega), nMark_fst l (a + 1) (by omega) (by omega)]
    simp only [List.length_cons]
    omega
def tot (l : List (List Int)) : Nat := (l.map List.length).sum
theorem tot_cons (r : List Int) (l : List (List Int)) : tot (r :: l) = r.length + tot l := by simp [tot]
theorem tot_mem : ∀ (l : List (List Int)) (r : List Int), r ∈ l → r.length ≤ tot l
  | [], r, h => by cases h
  | x :: l, r, h => by
    rw [tot_cons]
    rcases List.mem_cons.mp h with rfl | h
    · omega
    · have := tot_mem l r h
      omega
theorem drop_rd {l : List (List Int)} {i : Nat} (hi : i < l.length) : l.drop i = rd_L1 l (i : Int) :: l.drop (i + 1) := by
  rw [List.drop_eq_getElem_cons hi]
  congr 1
  simp [rd_L1, hi]
theorem drop_rdI {l : List Int} {i : Nat} (hi : i < l.length) : l.drop i = rd l (i : Int) :: l.drop (i + 1) := by
  rw [List.drop_eq_getElem_cons hi]
  congr 1
  simp [rd, hi]
theorem rdL_mem {l : List (List Int)} {i : Nat} (hi : i < l.length) : rd_L1 l (i : Int) ∈ l := by
  have : rd_L1 l (i : Int) = l[i] := by simp [rd_L1, hi]
  rw [this]
  exact List.getElem_mem hi
theorem szG_l0 (l : List (List Int)) (hr : ∀ r ∈ l, r.length ≤ 9223372036854775807) (hl : l.length ≤ 1048576) : ∀ (d i : Nat) (left : Int), d + i = l.length → 0 ≤ left → left ≤ 1048576 → ∃ t, Ev (fun k => laws_szInt64SS.l0 k l left (i : Int)) t ∧ (¬ t < 0 → (tot (l.drop i) : Int) ≤ left)
  | 0, i, left, hd, h0, h1 => by
    refine ⟨left, Ev.step (f := fun _ => some left) (fun k => ?_) (Ev.now _), fun _ => ?_⟩
    · simp only [laws_szInt64SS.l0]
      rw [if_neg (by omega)]
    · rw [List.drop_of_length_le (by omega)]
      simp [tot]
      omega
  | d + 1, i, left, hd, h0, h1 => by
    have hi : i < l.length := by omega
    have hm := hr _ (rdL_mem hi)
    have e0 := drop_rd hi
    generalize rd_L1 l (i : Int) = r at *
    by_cases c : left - (r.length : Int) < 0
    · refine ⟨-1, Ev.step (f := fun _ => some (-1)) (fun k => ?_) (Ev.now _), fun h => absurd (by decide) h⟩
      simp only [laws_szInt64SS.l0]
      have er : rd_L1 l (i : Int) = r := by
        have := drop_rd hi
        rw [e0] at this
        injection this with h _
        exact h.symm
      rw [if_pos (by omega), if_pos (by omega), er]
      unfold laws_szInt64S.f
      rw [w64 (x := left - (r.length : Int)) (by omega) (by omega), if_pos c, Option.bind_some, if_pos (by decide)]
    · obtain ⟨t, H, hh⟩ := szG_l0 l hr hl d (i + 1) (left - r.length) (by omega) (by omega) (by omega)
      refine ⟨t, Ev.step (fun k => ?_) H, fun ht => ?_⟩
      · simp only [laws_szInt64SS.l0]
        have er : rd_L1 l (i : Int) = r := by
          have := drop_rd hi
          rw [e0] at this
          injection this with h _
          exact h.symm
        rw [if_pos (by omega), if_pos (by omega), er]
        unfold laws_szInt64S.f
        rw [w64 (x := left - (r.length : Int)) (by omega) (by omega), if_neg c, Option.bind_some, if_neg c, w64 (x := (i : Int) + 1) (by omega) (by omega)]
        rfl
      · have := hh ht
        rw [e0, tot_cons]
        omega
theorem szG (p n : Int) (l : List (List Int)) (left : Int) (h0 : 0 ≤ left) (h1 : left ≤ 1048576) (hl : l.length ≤ 9223372036854775807) (hr : ∀ r ∈ l, r.length ≤ 9223372036854775807) : ∃ t, Ev (fun k => laws_szGauss.f k p n l left) t ∧ (¬ t < 0 → l.length ≤ 1048576 ∧ tot l ≤ 1048576) := by
  unfold laws_szGauss.f laws_szInt64SS.f
  by_cases c : left - (l.length : Int) < 0
  · refine ⟨-1, ?_, fun h => absurd (by decide) h⟩
    rw [w64 (x := left - (l.length : Int)) (by omega) (by omega)]
    simp only [if_pos c, Option.bind_some, if_pos (show (-1 : Int) < 0 by decide)]
    exact Ev.now _
  · obtain ⟨t, H, hh⟩ := szG_l0 l hr (by omega) l.length 0 (left - l.length) (by omega) (by omega) (by omega)
    by_cases ct : t < 0
    · refine ⟨-1, ?_, fun h => absurd (by decide) h⟩
      rw [w64 (x := left - (l.length : Int)) (by omega) (by omega)]
      simp only [if_neg c]
      refine Ev.bind (by simpa using H) ?_
      simp only [if_pos ct]
      exact Ev.now _
    · refine ⟨t, ?_, fun _ => ?_⟩
      · rw [w64 (x := left - (l.length : Int)) (by omega) (by omega)]
        simp only [if_neg c]
        refine Ev.bind (by simpa using H) ?_
        simp only [if_neg ct]
        exact Ev.now _
      · have := hh ct
        simp only [List.drop_zero] at this
        omega
theorem toRows_l0 (l : List (List Int)) (hl : l.length ≤ 1048576) (hr : ∀ r ∈ l, r.length ≤ 1048576) : ∀ (d : Nat) (ys : List (List Int)) (i : Nat), d + i = l.length → ys.length = l.length → ys.take i = l.take i → Ev (fun k => laws_toInt64SS.l0 k l ys (i : Int)) l := by
  intro d
  induction d with
  | zero =>
    intro ys i hd hy ht
    have : i = l.length := by omega
    subst this
    refine Ev.step (f := fun _ => some l) (fun k => ?_) (Ev.now _)
    simp only [laws_toInt64SS.l0]
    rw [if_neg (by omega)]
    rw [List.take_of_length_le (by omega), List.take_of_length_le (by omega)] at ht
    rw [ht]
  | succ d ih =>
    intro ys i hd hy ht
    have hi : i < l.length := by omega
    refine Ev.step (f := fun k => (laws_toInt64S.f k (rd_L1 l (i : Int))).bind fun t134 => laws_toInt64SS.l0 k l (ys.set i t134) ((i + 1 : Nat) : Int)) (fun k => ?_) (Ev.bind (toInts _ (hr _ (rdL_mem hi))) (ih (ys.set i (rd_L1 l (i : Int))) (i + 1) (by omega) (by simp [hy]) ?_))
    · simp only [laws_toInt64SS.l0]
      rw [if_pos (by omega), if_pos (by omega)]
      simp only [if_pos (show (i : Int) < (ys.length : Int) by omega), w64 (x := (i : Int) + 1) (by omega) (by omega)]
      rfl
    · rw [List.take_succ_eq_append_getElem (by simpa [hy] using hi), List.take_succ_eq_append_getElem hi, List.take_set_of_le (Nat.le_refl _), ht]
      simp [rd_L1, hi]
theorem toGauss (p n : Int) (l : List (List Int)) (hl : l.length ≤ 1048576) (hr : ∀ r ∈ l, r.length ≤ 1048576) : Ev (fun k => laws_toGauss.f k p n l) (p, n, l) := by
  have h := toRows_l0 l hl hr l.length (List.replicate l.length []) 0 (by omega) (by simp) (by simp)
  unfold laws_toGauss.f
  refine Ev.bind (a := l) ?_ (Ev.now _)
  refine Ev.congr (fun k => ?_) h
  unfold laws_toInt64SS.f
  rw [if_pos (by omega), if_pos (by omega)]
  simp
theorem eqRows_l0 (l : List (List Int)) (hl : l.length ≤ 1048576) (hr : ∀ r ∈ l, r.length ≤ 1048576) : ∀ (d i : Nat), d + i = l.length → Ev (fun k => laws_eqInt64SS.l0 k l l (i : Int)) true
  | 0, i, hd => by
    refine Ev.step (f := fun _ => some true) (fun k => ?_) (Ev.now _)
    simp only [laws_eqInt64SS.l0]
    rw [if_neg (by omega)]
  | d + 1, i, hd => by
    have hi : i < l.length := by omega
    have e := eqInts (rd_L1 l (i : Int)) (rd_L1 l (i : Int)) (hr _ (rdL_mem hi))
    rw [decide_eq_true rfl] at e
    refine Ev.step (f := fun k => (laws_eqInt64S.f k (rd_L1 l (i : Int)) (rd_L1 l (i : Int))).bind fun t105 => if t105 = true then laws_eqInt64SS.l0 k l l ((i + 1 : Nat) : Int) else some false) (fun k => ?_) (Ev.bind e ?_)
    · simp only [laws_eqInt64SS.l0]
      rw [if_pos (by omega), if_pos (by omega), if_pos (by omega), w64 (x := (i : Int) + 1) (by omega) (by omega)]
      rfl
    · simp only [if_true]
      exact eqRows_l0 l hl hr d (i + 1) (by omega)
theorem eqGauss (p n : Int) (l : List (List Int)) (hl : l.length ≤ 1048576) (hr : ∀ r ∈ l, r.length ≤ 1048576) : Ev (fun k => laws_eqGauss.f k p n l p n l) true := by
  unfold laws_eqGauss.f laws_eqInt64SS.f
  simp only [if_true]
  refine Ev.bind (by simpa using eqRows_l0 l hl hr l.length 0 (by omega)) ?_
  simp only [if_true]
  exact Ev.now _
theorem nMarkS_fst : ∀ (l : List (List Int)) (a : Int), 0 ≤ a → a + tot l ≤ 1000000000000 → (nMarkS l a).1 = a + tot l
  | [], a, _, _ => by simp [nMarkS, tot]
  | x :: l, a, h0, h1 => by
    rw [tot_cons] at h1 ⊢
    simp only [nMarkS]
    rw [nMark_fst x a h0 (by omega), nMarkS_fst l (a + x.length) (by omega) (by omega)]
    omega
theorem markGB (p n : Int) (l : List (List Int)) (hl : l.length ≤ 1048576) (hr : ∀ r ∈ l, r.length ≤ 1048576) : laws_markG_B.f p n l 1 = some (nMarkS l 1).1 := by
  unfold laws_markG_B.f
  rw [if_pos]
  refine ⟨by omega, List.all_eq_true.mpr fun x h => ?_⟩
  have := hr x h
  simp
  omega
def gRow (s : Int) (r : List Int) : Bool := decide ((r.length : Int) = s) && r.all (inP 1000000000)
def gOk (s : Int) (l : List (List Int)) : Bool := l.all (gRow s) && (rd_L1 l 0).all (inP 0)
def isG (p n : Int) (l : List (List Int)) : Bool := pr p && ((decide (1 ≤ n) && decide (n ≤ 16)) && (decide ((l.length : Int) = p) && gOk (phi n) l))
def chk (i : Int) (x : Int) : Bool := inP 1000000000 x && (decide (i ≠ 0) || decide (x = 0))
def rowsOk (s : Int) : Int → List (List Int) → Bool
  | _, [] => true
  | i, r :: rs => (decide ((r.length : Int) = s) && r.all (chk i)) && rowsOk s (i + 1) rs
theorem inP0 (x : Int) : inP 0 x = decide (x = 0) := by
  unfold inP
  by_cases c : x = 0
  · subst c; rfl
  · rw [decide_eq_false c]
    by_cases g : 0 ≤ x
    · rw [decide_eq_false (show ¬ x ≤ 0 by omega), Bool.and_false]
    · rw [decide_eq_false (show ¬ -0 ≤ x by omega), Bool.false_and]
theorem spG_l1 {s i p n : Int} {l : List (List Int)} (hi : 0 ≤ i ∧ i < l.length) (hl : l.length ≤ 1048576) (hs : ((rd_L1 l i).length : Int) = s) (hs2 : s ≤ 1000) (X : Bool) : ∀ (d j : Nat), d + j = (rd_L1 l i).length → (((rd_L1 l i).drop j).all (chk i) = true → Ev (fun k => spec_l05Is.l0 k s (i + 1) p n l) X) → (((rd_L1 l i).drop j).all (chk i) = false → X = false) → Ev (fun k => spec_l05Is.l1 k s i (j : Int) p n l) X
  | 0, j, hd, h1, h2 => by
    have := h1 (by rw [List.drop_of_length_le (by omega)]; rfl)
    refine Ev.step (fun k => ?_) this
    simp only [spec_l05Is.l1]
    rw [if_neg (by omega), w64 (x := i + 1) (by omega) (by omega)]
  | d + 1, j, hd, h1, h2 => by
    have hj : j < (rd_L1 l i).length := by omega
    rw [drop_rdI hj, List.all_cons] at h1 h2
    have hw : wrap64 ((j : Int) + 1) = ((j + 1 : Nat) : Int) := by rw [w64 (by omega) (by omega)]; rfl
    have hin : (decide (-1000000000 ≤ rd (rd_L1 l i) (j : Int)) && decide (rd (rd_L1 l i) (j : Int) ≤ 1000000000)) = inP 1000000000 (rd (rd_L1 l i) (j : Int)) := rfl
    cases c : chk i (rd (rd_L1 l i) (j : Int)) with
    | true =>
      rw [c, Bool.true_and] at h1 h2
      have ih := spG_l1 hi hl hs hs2 X d (j + 1) (by omega) h1 h2
      unfold chk at c
      rw [Bool.and_eq_true] at c
      refine Ev.step (fun k => ?_) ih
      simp only [spec_l05Is.l1]
      rw [if_pos (by omega), if_pos hi.1, if_pos hi.2, if_pos (by omega), if_pos (by omega), l01In, hin, c.1, Option.bind_some, if_pos rfl, hw]
      by_cases g : i = 0
      · subst g
        have c2 : rd (rd_L1 l 0) (j : Int) = 0 := by simpa using c.2
        rw [if_pos rfl, if_pos (by omega), if_pos (by omega), if_pos c2]
      · rw [if_neg g]
    | false =>
      rw [c, Bool.false_and] at h2
      have hX := h2 rfl
      subst hX
      refine Ev.step (f := fun _ => some false) (fun k => ?_) (Ev.now _)
      simp only [spec_l05Is.l1]
      rw [if_pos (by omega), if_pos hi.1, if_pos hi.2, if_pos (by omega), if_pos (by omega), l01In, hin, Option.bind_some]
      unfold chk at c
      cases c3 : inP 1000000000 (rd (rd_L1 l i) (j : Int)) with
      | false => rw [if_neg (by decide)]
      | true =>
        rw [c3, Bool.true_and, Bool.or_eq_false_iff] at c
        have g : i = 0 := by simpa using c.1
        subst g
        have c2 : ¬ rd (rd_L1 l 0) (j : Int) = 0 := by simpa using c.2
        rw [if_pos rfl, if_pos rfl, if_pos (by omega), if_pos (by omega), if_neg c2]
theorem spG_l0 {s p n : Int} {l : List (List Int)} (hl : l.length ≤ 1048576) (hs2 : s ≤ 1000) : ∀ (d i : Nat), d + i = l.length → Ev (fun k => spec_l05Is.l0 k s (i : Int) p n l) (rowsOk s (i : Int) (l.drop i))
  | 0, i, hd => by
    rw [List.drop_of_length_le (by omega)]
    refine Ev.step (f := fun _ => some true) (fun k => ?_) (Ev.now _)
    simp only [spec_l05Is.l0]
    rw [if_neg (by omega)]
  | d + 1, i, hd => by
    have hi : i < l.length := by omega
    have ih := spG_l0 (p := p) (n := n) hl hs2 d (i + 1) (by omega)
    rw [drop_rd hi]
    simp only [rowsOk]
    by_cases c : ((rd_L1 l (i : Int)).length : Int) = s
    · rw [decide_eq_true c, Bool.true_and]
      refine Ev.step (f := fun k => spec_l05Is.l1 k s (i : Int) 0 p n l) (fun k => ?_) (spG_l1 (s := s) (i := (i : Int)) (by omega) hl c hs2 _ (rd_L1 l (i : Int)).length 0 (by omega) (fun h => ?_) (fun h => ?_))
      · simp only [spec_l05Is.l0]
        rw [if_pos (by omega), if_pos (by omega), if_pos c]
      · rw [List.drop_zero] at h
        rw [h, Bool.true_and]
        exact ih
      · rw [List.drop_zero] at h
        rw [h, Bool.false_and]
    · rw [decide_eq_false c, Bool.false_and, Bool.false_and]
      refine Ev.step (f := fun _ => some false) (fun k => ?_) (Ev.now _)
      simp only [spec_l05Is.l0]
      rw [if_pos (by omega), if_pos (by omega), if_neg c]
theorem rowsOk_pos (s : Int) : ∀ (l : List (List Int)) (i : Int), 1 ≤ i → rowsOk s i l = l.all (gRow s)
  | [], i, _ => rfl
  | r :: l, i, hi => by
    simp only [rowsOk, List.all_cons]
    rw [rowsOk_pos s l (i + 1) (by omega)]
    congr 1
    unfold gRow
    congr 2
    funext x
    unfold chk
    rw [decide_eq_true (show i ≠ 0 by omega), Bool.true_or, Bool.and_true]
theorem rowsOk_zero (s : Int) (l : List (List Int)) (h : l ≠ []) : rowsOk s 0 l = gOk s l := by
  cases l with
  | nil => exact absurd rfl h
  | cons r l =>
    unfold gOk
    simp only [rowsOk, List.all_cons]
    rw [rowsOk_pos s l (0 + 1) (by omega), show rd_L1 (r :: l) 0 = r from rfl]
    have e : r.all (chk 0) = (r.all (inP 1000000000) && r.all (inP 0)) := by
      rw [Bool.eq_iff_iff, Bool.and_eq_true, List.all_eq_true, List.all_eq_true, List.all_eq_true]
      constructor
      · intro h
        refine ⟨fun x hx => ?_, fun x hx => ?_⟩
        · have := h x hx
          unfold chk at this
          exact (Bool.and_eq_true _ _ ▸ this).1
        · have := h x hx
          unfold chk at this
          rw [Bool.and_eq_true] at this
          rw [inP0]
          simpa using this.2
      · rintro ⟨h1, h2⟩ x hx
        have := h2 x hx
        rw [inP0] at this
        unfold chk
        rw [h1 x hx, this]
        simp
    rw [e]
    unfold gRow
    cases decide ((r.length : Int) = s) <;> cases r.all (inP 1000000000) <;> cases r.all (inP 0) <;> cases l.all (fun r => decide ((r.length : Int) = s) && r.all (inP 1000000000)) <;> rfl
theorem imG_l0 {s p n : Int} {l : List (List Int)} (hl : l.length ≤ 1048576) (h0 : 0 < l.length) : ∀ (d i : Nat), d + i = l.length → Ev (fun k => impl_IsGauss.l0 k s l (l.length : Int) (i : Int) p n l) ((l.drop i).all (gRow s) && (rd_L1 l 0).all (inP 0))
  | 0, i, hd => by
    rw [List.drop_of_length_le (by omega)]
    refine Ev.step (f := fun _ => some ((rd_L1 l 0).all (inP 0))) (fun k => ?_) (by simpa using Ev.now _)
    simp only [impl_IsGauss.l0]
    rw [if_neg (by omega), if_pos (by omega)]
    unfold impl_isZero.f
    rw [areSmall _ 0 (by omega) (by omega), Option.bind_some, Option.bind_some]
  | d + 1, i, hd => by
    have hi : i < l.length := by omega
    have ih := imG_l0 (s := s) (p := p) (n := n) hl h0 d (i + 1) (by omega)
    rw [drop_rd hi, List.all_cons]
    unfold gRow at ih ⊢
    by_cases c : ((rd_L1 l (i : Int)).length : Int) = s
    · rw [decide_eq_true c, Bool.true_and]
      cases g : (rd_L1 l (i : Int)).all (inP 1000000000) with
      | true =>
        rw [Bool.true_and]
        refine Ev.step (fun k => ?_) ih
        simp only [impl_IsGauss.l0]
        rw [if_pos (by omega), if_pos (by omega), if_pos (by omega), if_pos c, areSmall _ 1000000000 (by omega) (by omega), g, Option.bind_some, if_pos rfl, w64 (x := (i : Int) + 1) (by omega) (by omega)]
        rfl
      | false =>
        rw [Bool.false_and, Bool.false_and]
        refine Ev.step (f := fun _ => some false) (fun k => ?_) (Ev.now _)
        simp only [impl_IsGauss.l0]
        rw [if_pos (by omega), if_pos (by omega), if_pos (by omega), if_pos c, areSmall _ 1000000000 (by omega) (by omega), g, Option.bind_some, if_neg (by decide)]
    · rw [decide_eq_false c, Bool.false_and, Bool.false_and, Bool.false_and]
      refine Ev.step (f := fun _ => some false) (fun k => ?_) (Ev.now _)
      simp only [impl_IsGauss.l0]
      rw [if_pos (by omega), if_pos (by omega), if_pos (by omega), if_neg c]
theorem phi_le (n : Int) (h0 : 1 ≤ n) (h1 : n ≤ 16) : 1 ≤ phi n ∧ phi n ≤ 12 := orders (P := fun n => 1 ≤ phi n ∧ phi n ≤ 12) (by decide) n h0 h1
theorem spIsG (p n : Int) (l : List (List Int)) (hl : l.length ≤ 1048576) : Ev (fun k => spec_l05Is.f k p n l) (isG p n l) := by
  unfold spec_l05Is.f isG
  refine Ev.bind (l03Prime p) ?_
  have no : ∀ r, r = false → Ev (fun k => spec_l05Is.j0 k true p n l) r := by
    rintro _ rfl
    exact Ev.step (f := fun _ => some false) (fun k => by simp only [spec_l05Is.j0, if_true]) (Ev.now _)
  cases hp : pr p with
  | false =>
    simp only [Bool.false_eq_true, if_false, Bool.false_and]
    exact no _ rfl
  | true =>
    have hb := pr_bd hp
    simp only [if_true, Bool.true_and]
    refine ev_bind_const (l01In _ _ _) ?_
    cases hn : (decide (1 ≤ n) && decide (n ≤ 16)) with
    | false =>
      simp only [Bool.false_eq_true, if_false, Bool.false_and]
      exact no _ rfl
    | true =>
      simp only [Bool.and_eq_true, decide_eq_true_eq] at hn
      simp only [if_true, Bool.true_and]
      by_cases c : (l.length : Int) = p
      · rw [decide_eq_true c, Bool.true_and, show ((l.length : Int) != p) = false from bne_eq_false_iff_eq.mpr c]
        have hph := phi_le n hn.1 hn.2
        refine Ev.step (f := fun k => (spec_l01Phi.f k n).bind fun t149 => spec_l05Is.l0 k t149 0 p n l) (fun k => by simp only [spec_l05Is.j0, Bool.false_eq_true, if_false]) (Ev.bind (phi_spec n hn.1 hn.2) ?_)
        have := spG_l0 (s := phi n) (p := p) (n := n) hl (by omega) l.length 0 (by omega)
        rw [List.drop_zero, Int.natCast_zero, rowsOk_zero _ _ (by intro h; rw [h] at c; simp at c; omega)] at this
        exact this
      · rw [decide_eq_false c, Bool.false_and, show ((l.length : Int) != p) = true from bne_iff_ne.mpr c]
        exact no _ rfl
theorem imIsG (p n : Int) (l : List (List Int)) (hl : l.length ≤ 1048576) (hp0 : -9223372036854775808 ≤ p ∧ p ≤ 9223372036854775807) : Ev (fun k => impl_IsGauss.f k p n l) (isG p n l) := by
  unfold impl_IsGauss.f isG
  refine Ev.bind (isPrime p hp0.1 hp0.2) ?_
  have no : ∀ r, r = false → Ev (fun k => impl_IsGauss.j0 k true p n l) r := by
    rintro _ rfl
    exact Ev.step (f := fun _ => some false) (fun k => by simp only [impl_IsGauss.j0, if_true]) (Ev.now _)
  cases hp : pr p with
  | false =>
    simp only [Bool.false_eq_true, if_false, Bool.false_and]
    exact no _ rfl
  | true =>
    have hb := pr_bd hp
    simp only [if_true, Bool.true_and]
    unfold impl_isOrder.f
    rw [within_, Option.bind_some]
    refine ev_bind_const rfl ?_
    cases hn : (decide (1 ≤ n) && decide (n ≤ 16)) with
    | false =>
      simp only [Bool.false_eq_true, if_false, Bool.false_and]
      exact no _ rfl
    | true =>
      simp only [Bool.and_eq_true, decide_eq_true_eq] at hn
      simp only [if_true, Bool.true_and]
      by_cases c : (l.length : Int) = p
      · rw [decide_eq_true c, Bool.true_and, show ((l.length : Int) != p) = false from bne_eq_false_iff_eq.mpr c]
        refine Ev.step (f := fun k => (impl_totient.f k n).bind fun t193 => impl_IsGauss.l0 k t193 l (l.length : Int) 0 p n l) (fun k => by simp only [impl_IsGauss.j0, Bool.false_eq_true, if_false]) (Ev.bind (phi_impl n hn.1 hn.2) ?_)
        have := imG_l0 (s := phi n) (p := p) (n := n) hl (by omega) l.length 0 (by omega)
        rw [List.drop_zero] at this
        exact this
      · rw [decide_eq_false c, Bool.false_and, show ((l.length : Int) != p) = true from bne_iff_ne.mpr c]
        exact no _ rfl
theorem isG_form {p n : Int} {l : List (List Int)} (h : isG p n l = true) : pr p = true ∧ (1 ≤ n ∧ n ≤ 16) ∧ (l.length : Int) = p ∧ (∀ r ∈ l, (r.length : Int) = phi n ∧ ∀ x ∈ r, -1000000000 ≤ x ∧ x ≤ 1000000000) ∧ ∀ x ∈ rd_L1 l 0, x = 0 := by
  unfold isG gOk at h
  simp only [Bool.and_eq_true, decide_eq_true_eq] at h
  obtain ⟨h1, h2, h3, h4, h5⟩ := h
  refine ⟨h1, h2, h3, fun r hr => ?_, fun x hx => ?_⟩
  · have := List.all_eq_true.mp h4 r hr
    unfold gRow at this
    simp only [Bool.and_eq_true, decide_eq_true_eq] at this
    refine ⟨this.1, fun x hx => ?_⟩
    have h6 := List.all_eq_true.mp this.2 x hx
    unfold inP at h6
    simpa using h6
  · have := List.all_eq_true.mp h5 x hx
    rw [inP0] at this
    simpa using this
theorem eqSl_l0 (l m : List Int) (hl : l.length ≤ 1048576) (hm : m.length = l.length) : ∀ (d i : Nat), d + i = l.length → Ev (fun k => slices_Equal_int64_int64.l0 k l m (l.length : Int) (i : Int)) (decide (l.drop i = m.drop i))
  | 0, i, hd => by
    refine Ev.step (f := fun _ => some (decide (l.drop i = m.drop i))) (fun k => ?_) (Ev.now _)
    simp only [slices_Equal_int64_int64.l0]
    rw [if_neg (by omega), List.drop_of_length_le (by omega), List.drop_of_length_le (by omega)]
    simp
  | d + 1, i, hd => by
    have hi : i < l.length := by omega
    have hi2 : i < m.length := by omega
    rw [drop_rdI hi, drop_rdI hi2]
    by_cases he : rd l (i : Int) = rd m (i : Int)
    · refine Ev.step (f := fun k => slices_Equal_int64_int64.l0 k l m (l.length : Int) ((i + 1 : Nat) : Int)) (fun k => ?_) ?_
      · simp only [slices_Equal_int64_int64.l0]
        rw [if_pos (by omega), if_pos (by omega), if_pos (by omega), if_pos (by omega), if_pos he, w64 (x := (i : Int) + 1) (by omega) (by omega)]
        rfl
      · rw [he]
        simp only [List.cons.injEq, true_and]
        exact eqSl_l0 l m hl hm d (i + 1) (by omega)
    · refine Ev.step (f := fun _ => some false) (fun k => ?_) ?_
      · simp only [slices_Equal_int64_int64.l0]
        rw [if_pos (by omega), if_pos (by omega), if_pos (by omega), if_pos (by omega), if_neg he]
      · simp only [List.cons.injEq, he, false_and, decide_false]
        exact Ev.now _
theorem eqSl (l m : List Int) (hl : l.length ≤ 1048576) (hm : m.length = l.length) : Ev (fun k => slices_Equal_int64_int64.f k l m) (decide (l = m)) := by
  have := eqSl_l0 l m hl hm l.length 0 (by omega)
  refine Ev.congr (fun k => ?_) (by simpa using this)
  unfold slices_Equal_int64_int64.f
  rw [if_pos (by omega)]
def coSame (l : List (List Int)) : Bool := (l.drop 1).all fun r => decide (r = rd_L1 l 1)
def coNeg (r : List Int) : List Int := r.map fun x => wrap64 (-x)
def coOut (n : Int) (l : List (List Int)) : Int × List Int × Int := if coSame l then (n, coNeg (rd_L1 l 1), 0) else (0, [], 4)
theorem imC_l1 {p n : Int} {l : List (List Int)} {s : Nat} (hs : s ≤ 1000) (hl : l.length ≤ 1000) (h1 : 1 < l.length) (hr : ∀ r ∈ l, r.length = s) (acc : List Int) : ∀ (d i : Nat), d + i = (l.drop 1).length → Ev (fun k => impl_constant.l1 k (l.drop 1) ((l.drop 1).length : Int) (i : Int) p n l n acc) (if (((l.drop 1).drop i).all fun r => decide (r = rd_L1 l 1)) then (n, acc, 0) else (0, [], 4))
  | 0, i, hd => by
    have e0 : (l.drop 1).drop i = [] := List.drop_of_length_le (by omega)
    rw [e0]
    refine Ev.step (f := fun _ => some (n, acc, 0)) (fun k => ?_) (by simpa using Ev.now (n, acc, (0 : Int)))
    simp only [impl_constant.l1]
    rw [if_neg (by omega)]
  | d + 1, i, hd => by
    have hi : i < (l.drop 1).length := by omega
    have hlen : (l.drop 1).length = l.length - 1 := by simp
    have hm : rd_L1 (l.drop 1) (i : Int) ∈ l := List.mem_of_mem_drop (rdL_mem hi)
    have hm1 : rd_L1 l 1 ∈ l := rdL_mem (i := 1) h1
    have he := eqSl (rd_L1 (l.drop 1) (i : Int)) (rd_L1 l 1) (by rw [hr _ hm]; omega) (by rw [hr _ hm, hr _ hm1])
    have ih := imC_l1 (p := p) (n := n) hs hl h1 hr acc d (i + 1) (by omega)
    rw [drop_rd hi, List.all_cons]
    refine Ev.step (f := fun k => (slices_Equal_int64_int64.f k (rd_L1 (l.drop 1) (i : Int)) (rd_L1 l 1)).bind fun t214 => if t214 = true then impl_constant.l1 k (l.drop 1) ((l.drop 1).length : Int) ((i + 1 : Nat) : Int) p n l n acc else some (0, [], 4)) (fun k => ?_) (Ev.bind he ?_)
    · simp only [impl_constant.l1]
      rw [if_pos (by omega), if_pos (by omega), if_pos (by omega), if_pos (by omega), w64 (x := (i : Int) + 1) (by omega) (by omega)]
      rfl
    · cases decide (rd_L1 (l.drop 1) (i : Int) = rd_L1 l 1) with
      | true => simpa using ih
      | false => simpa using Ev.now ((0 : Int), ([] : List Int), (4 : Int))
theorem imC_l0 {p n : Int} {l : List (List Int)} {s : Nat} (hs : s ≤ 1000) (hl : l.length ≤ 1000) (h1 : 1 < l.length) (hr : ∀ r ∈ l, r.length = s) : ∀ (d i : Nat) (acc : List Int), d + i = (rd_L1 l 1).length → acc.length = i → acc ++ coNeg ((rd_L1 l 1).drop i) = coNeg (rd_L1 l 1) → Ev (fun k => impl_constant.l0 k (rd_L1 l 1) ((rd_L1 l 1).length : Int) (i : Int) p n l n acc) (coOut n l)
  | 0, i, acc, hd, ha, he => by
    have hlen : (l.drop 1).length = l.length - 1 := by simp
    rw [List.drop_of_length_le (by omega)] at he
    simp only [coNeg, List.map_nil, List.append_nil] at he
    have := imC_l1 (p := p) (n := n) hs hl h1 hr acc (l.drop 1).length 0 (by omega)
    rw [List.drop_zero] at this
    refine Ev.step (fun k => ?_) (show Ev (fun k => impl_constant.l1 k (l.drop 1) ((l.drop 1).length : Int) 0 p n l n acc) (coOut n l) from ?_)
    · simp only [impl_constant.l0]
      rw [if_neg (by omega), if_pos (by omega), Option.bind_some]
    · unfold coOut coSame coNeg
      rw [← he]
      exact this
  | d + 1, i, acc, hd, ha, he => by
    have hm1 : rd_L1 l 1 ∈ l := rdL_mem (i := 1) h1
    have hb := hr _ hm1
    have hi : i < (rd_L1 l 1).length := by omega
    rw [drop_rdI hi] at he
    have ih := imC_l0 (p := p) (n := n) hs hl h1 hr d (i + 1) (acc ++ [wrap64 (-(rd (rd_L1 l 1) (i : Int)))]) (by omega) (by simp; omega) (by rw [← he]; simp [coNeg])
    refine Ev.step (fun k => ?_) ih
    simp only [impl_constant.l0]
    rw [if_pos (by omega), if_pos (by omega), if_pos (by omega), if_pos (by omega), w64 (x := (i : Int) + 1) (by omega) (by omega)]
    rfl
theorem spC_l2 {p n : Int} {l : List (List Int)} {s : Nat} (hs : s ≤ 1000) (hl : l.length ≤ 1000) (h1 : 1 < l.length) (hr1 : (rd_L1 l 1).length = s) : ∀ (d i : Nat) (out : List Int), d + i = s → out.length = s → out.take i = (coNeg (rd_L1 l 1)).take i → Ev (fun k => spec_l05Of.l2 k (i : Int) p n l n out) (n, coNeg (rd_L1 l 1), true)
  | 0, i, out, hd, ho, ht => by
    have e : out = coNeg (rd_L1 l 1) := by
      rw [List.take_of_length_le (by omega), List.take_of_length_le (by simp [coNeg]; omega)] at ht
      exact ht
    refine Ev.step (f := fun _ => some (n, coNeg (rd_L1 l 1), true)) (fun k => ?_) (Ev.now _)
    simp only [spec_l05Of.l2]
    rw [if_neg (by omega), e]
  | d + 1, i, out, hd, ho, ht => by
    have hi : i < (rd_L1 l 1).length := by omega
    have hi2 : i < (coNeg (rd_L1 l 1)).length := by simp [coNeg]; omega
    refine Ev.step (fun k => ?_) (spC_l2 (p := p) (n := n) hs hl h1 hr1 d (i + 1) (out.set i (wrap64 (-(rd (rd_L1 l 1) (i : Int))))) (by omega) (by simp [ho]) ?_)
    · simp only [spec_l05Of.l2]
      rw [if_pos (by omega), if_pos (by omega), if_pos (by omega), if_pos (by omega), w64 (x := (i : Int) + 1) (by omega) (by omega)]
      rfl
    · rw [List.take_succ_eq_append_getElem (by simp; omega), List.take_succ_eq_append_getElem hi2, List.take_set_of_le (Nat.le_refl _), ht]
      simp [rd, coNeg, hi]
theorem spC_l1 {p n i : Int} {l : List (List Int)} {s : Nat} (hs : s ≤ 1000) (hl : l.length ≤ 1000) (h1 : 1 < l.length) (hi : 0 ≤ i ∧ i < l.length) (hr : (rd_L1 l i).length = s) (hr1 : (rd_L1 l 1).length = s) (X : Int × List Int × Bool) : ∀ (d j : Nat), d + j = s → ((rd_L1 l i).drop j = (rd_L1 l 1).drop j → Ev (fun k => spec_l05Of.l0 k (i + 1) p n l n (List.replicate s 0)) X) → ((rd_L1 l i).drop j ≠ (rd_L1 l 1).drop j → X = (n, List.replicate s 0, false)) → Ev (fun k => spec_l05Of.l1 k i (j : Int) p n l n (List.replicate s 0)) X
  | 0, j, hd, g1, g2 => by
    have := g1 (by rw [List.drop_of_length_le (by omega), List.drop_of_length_le (by omega)])
    refine Ev.step (fun k => ?_) this
    simp only [spec_l05Of.l1]
    rw [if_neg (by simp; omega), w64 (x := i + 1) (by omega) (by omega)]
  | d + 1, j, hd, g1, g2 => by
    have hj : j < (rd_L1 l i).length := by omega
    have hj1 : j < (rd_L1 l 1).length := by omega
    rw [drop_rdI hj, drop_rdI hj1] at g1 g2
    have hw : wrap64 ((j : Int) + 1) = ((j + 1 : Nat) : Int) := by rw [w64 (by omega) (by omega)]; rfl
    by_cases c : rd (rd_L1 l i) (j : Int) = rd (rd_L1 l 1) (j : Int)
    · rw [c] at g1 g2
      refine Ev.step (fun k => ?_) (spC_l1 (p := p) (n := n) hs hl h1 hi hr hr1 X d (j + 1) (by omega) (fun h => g1 (by rw [h])) (fun h => g2 (fun e => h (List.cons.inj e).2)))
      simp only [spec_l05Of.l1]
      rw [if_pos (by simp; omega), if_pos hi.1, if_pos hi.2, if_pos (by omega), if_pos (by omega), if_pos (by omega), if_pos (by omega), if_pos c, hw]
    · have hX := g2 (fun e => c (List.cons.inj e).1)
      subst hX
      refine Ev.step (f := fun _ => some (n, List.replicate s 0, false)) (fun k => ?_) (Ev.now _)
      simp only [spec_l05Of.l1]
      rw [if_pos (by simp; omega), if_pos hi.1, if_pos hi.2, if_pos (by omega), if_pos (by omega), if_pos (by omega), if_pos (by omega), if_neg c]
theorem spC_l0 {p n : Int} {l : List (List Int)} {s : Nat} (hs : s ≤ 1000) (hl : l.length ≤ 1000) (h1 : 1 < l.length) (hr : ∀ r ∈ l, r.length = s) : ∀ (d i : Nat), d + i = l.length → Ev (fun k => spec_l05Of.l0 k (i : Int) p n l n (List.replicate s 0)) (if ((l.drop i).all fun r => decide (r = rd_L1 l 1)) then (n, coNeg (rd_L1 l 1), true) else (n, List.replicate s 0, false))
  | 0, i, hd => by
    have hm1 : rd_L1 l 1 ∈ l := rdL_mem (i := 1) h1
    rw [List.drop_of_length_le (by omega)]
    refine Ev.step (fun k => ?_) (by simpa using spC_l2 (p := p) (n := n) hs hl h1 (hr _ hm1) s 0 (List.replicate s 0) (by omega) (by simp) (by simp))
    simp only [spec_l05Of.l0]
    rw [if_neg (by omega)]
  | d + 1, i, hd => by
    have hi : i < l.length := by omega
    have hm1 : rd_L1 l 1 ∈ l := rdL_mem (i := 1) h1
    have ih := spC_l0 (p := p) (n := n) hs hl h1 hr d (i + 1) (by omega)
    rw [drop_rd hi, List.all_cons]
    refine Ev.step (f := fun k => spec_l05Of.l1 k (i : Int) 0 p n l n (List.replicate s 0)) (fun k => ?_) (spC_l1 (p := p) (n := n) hs hl h1 (by omega) (hr _ (rdL_mem hi)) (hr _ hm1) _ s 0 (by omega) (fun h => ?_) (fun h => ?_))
    · simp only [spec_l05Of.l0]
      rw [if_pos (by omega)]
    · rw [List.drop_zero, List.drop_zero] at h
      rw [decide_eq_true h, Bool.true_and]
      exact ih
    · rw [List.drop_zero, List.drop_zero] at h
      rw [decide_eq_false h, Bool.false_and]
      rfl
theorem same_out (p n : Int) (l : List (List Int)) (hl : l.length ≤ 1048576) (hp : -9223372036854775808 ≤ p ∧ p ≤ 9223372036854775807) : ∃ o : Int × List Int × Int, Ev (fun k => spec_ConstantOf.f k p n l) o ∧ Ev (fun k => impl_ConstantOf.f k p n l) o ∧ o.2.1.length ≤ 1000 := by
  have hsp := spIsG p n l hl
  have him := imIsG p n l hl hp
  unfold spec_ConstantOf.f impl_ConstantOf.f
  cases h : isG p n l with
  | false =>
    rw [h] at hsp him
    refine ⟨(0, [], 1), Ev.bind hsp ?_, Ev.bind him ?_, by simp⟩
    · simp only [Bool.false_eq_true, if_false]
      exact Ev.now _
    · simp only [Bool.false_eq_true, if_false]
      exact Ev.now _
  | true =>
    rw [h] at hsp him
    obtain ⟨h1, h2, h3, h4, h5⟩ := isG_form h
    have hb := pr_bd h1
    have hph := phi_le n h2.1 h2.2
    obtain ⟨s, hs⟩ : ∃ s : Nat, phi n = s := ⟨(phi n).toNat, by omega⟩
    have hr : ∀ r ∈ l, r.length = s := fun r hr => by have := (h4 r hr).1; omega
    have hm1 : rd_L1 l 1 ∈ l := rdL_mem (i := 1) (by omega)
    have hs0 := spC_l0 (p := p) (n := n) (l := l) (s := s) (by omega) (by omega) (by omega) hr (l.length - 1) 1 (by omega)
    have hi0 := imC_l0 (p := p) (n := n) (l := l) (s := s) (by omega) (by omega) (by omega) hr (rd_L1 l 1).length 0 [] (by omega) rfl (by simp)
    refine ⟨coOut n l, Ev.bind hsp ?_, Ev.bind him ?_, ?_⟩
    · simp only [if_true]
      unfold spec_l05Of.f spec_l01Zero.f
      refine Ev.bind (a := if coSame l then (n, coNeg (rd_L1 l 1), true) else (n, List.replicate s 0, false)) (Ev.bind (a := (n, List.replicate s 0)) (Ev.bind (phi_spec n h2.1 h2.2) ?_) ?_) ?_
      · rw [hs]
        simp only [if_pos (show (0 : Int) ≤ (s : Int) by omega), Int.toNat_natCast, if_pos (show s ≤ 35184372088832 by omega)]
        exact Ev.now _
      · exact hs0
      · unfold coOut
        cases coSame l with
        | true => exact Ev.now _
        | false => exact Ev.now _
    · simp only [if_true]
      refine Ev.bind (a := coOut n l) ?_ (Ev.now _)
      unfold impl_constant.f
      simp only [if_pos (show 1 < (l.length : Int) by omega)]
      exact hi0
    · unfold coOut
      split
      · simp only [coNeg, List.length_map]
        rw [hr _ hm1]
        omega
      · simp
theorem FnExactConstantOf : laws_FnExactConstantOf.Pure := by
  intro p n l hp hn hm hw
  apply Ev.rounds
  have hp2 := wf64 hp
  have hm2 : l.length ≤ 9223372036854775807 := by simpa [maxLen] using hm
  have hw2 : ∀ r ∈ l, r.length ≤ 9223372036854775807 := fun r hr => by simpa [maxLen] using (hw r hr).1
  obtain ⟨t, Ht, ht⟩ := szG p n l 1048576 (by omega) (by omega) hm2 hw2
  unfold laws_FnExactConstantOf.f
  refine Ev.bind Ht ?_
  by_cases ct : t < 0
  · simp only [if_pos ct]
    exact Ev.now _
  simp only [if_neg ct]
  obtain ⟨hl, htot⟩ := ht ct
  have hr : ∀ r ∈ l, r.length ≤ 1048576 := fun r h => by have := tot_mem l r h; omega
  have tg := toGauss p n l hl hr
  obtain ⟨⟨m, r, c⟩, hs, hi, hlr⟩ := same_out p n l hl hp2
  simp only at hlr
  refine Ev.bind tg (Ev.bind hs (Ev.bind tg (Ev.bind hi (Ev.bind (eqCyclo m m r r (by omega)) ?_))))
  simp only [and_self, decide_true, if_true, bne_self_eq_false]
  refine Ev.step (fun k => by simp only [laws_FnExactConstantOf.j0, Bool.false_eq_true, if_false] <;> rfl) ?_
  refine Ev.bind tg (Ev.bind (eqGauss p n l hl hr) ?_)
  simp only [if_true]
  refine ev_bind_const (markGB p n l hl hr) ?_
  have hf := nMarkS_fst l 1 (by omega) (by omega)
  simp only [if_neg (show ¬ (nMarkS l 1).1 < 0 by omega)]
  refine Ev.bind (eqCyclo m m r r (by omega)) ?_
  simp only [and_self, decide_true, if_true, bne_self_eq_false]
  refine Ev.step (fun k => by simp only [laws_FnExactConstantOf.j1, Bool.false_eq_true, if_false] <;> rfl) ?_
  refine Ev.bind (markCyclo m r (by omega)) (Ev.bind (heldCyclo m r.length (by omega)) ?_)
  simp only [if_neg (show ¬ (1 + (r.length : Int) < 0) by omega), if_true]
  refine Ev.bind tg (Ev.bind hi (Ev.bind (eqCyclo m m r r (by omega)) ?_))
  simp only [and_self, decide_true, if_true, bne_self_eq_false]
  refine Ev.step (fun k => by simp only [laws_FnExactConstantOf.j2, Bool.false_eq_true, if_false] <;> rfl) ?_
  refine Ev.bind (heldCyclo m r.length (by omega)) ?_
  simp only [if_neg (show ¬ (1 + (r.length : Int) < 0) by omega), if_true]
  exact Ev.now _
end Go.Proofs.Ytkjeadgfoedhbaa.Pure
