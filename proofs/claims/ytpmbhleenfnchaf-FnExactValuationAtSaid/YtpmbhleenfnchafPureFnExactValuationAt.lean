/- The program's ValuationAt returns what the reference's returns, for all arguments; no condition. -/
import Derived.Test.YtpmbhleenfnchafPFnExactValuationAtx10
import Derived.OpenShut
namespace Go.Proofs.Ytpmbhleenfnchaf.Pure
open Go.RowKit Go.Proofs.Ytpmbhleenfnchaf.PFnExactValuationAt Go.Proofs.YtpmbhleenfnchafW.PrintWords Go.Proofs.YtpmbhleenfnchafW.PrintLast Go.Proofs.YtpmbhleenfnchafW.PrintMore
set_option linter.unusedVariables false
set_option linter.unusedSimpArgs false
theorem w64 {x : Int} (h0 : -9223372036854775808 ≤ x) (h1 : x ≤ 9223372036854775807) : wrap64 x = x := by unfold wrap64; omega
theorem wf64 {x : Int} (h : (Lit.int .i64 x).wf = true) : -9223372036854775808 ≤ x ∧ x ≤ 9223372036854775807 := bounds_i64 h
theorem ev_bind_const {α β : Type} {o : Option α} {a : α} {f : Nat → α → Option β} {r : β} (h : o = some a) (k : Ev (fun n => f n a) r) : Ev (fun n => o.bind (f n)) r := by
  subst h; exact k
theorem toInts_l0 (l : List Int) (hl : l.length ≤ 1048576) : ∀ (d : Nat) (ys : List Int) (i : Nat), d + i = l.length → ys.length = l.length → ys.take i = l.take i → Ev (fun k => laws_toInt64S.l0 k l ys (i : Int)) l := by
  intro d
  induction d with
  | zero =>
    intro ys i hd hy ht
    have : i = l.length := by omega
    subst this
    refine Ev.step (f := fun _ => some l) (fun k => ?_) (Ev.now _)
    simp only [laws_toInt64S.l0]
    rw [if_neg (by omega)]
    rw [List.take_of_length_le (by omega), List.take_of_length_le (by omega)] at ht
    rw [ht]
  | succ d ih =>
    intro ys i hd hy ht
    refine Ev.step (f := fun k => laws_toInt64S.l0 k l (ys.set i (rd l (i : Int))) ((i + 1 : Nat) : Int)) (fun k => ?_) (ih _ _ (by omega) (by simp [hy]) ?_)
    · simp only [laws_toInt64S.l0]
      rw [if_pos (by omega), if_pos (by omega), if_pos (by omega), w64 (by omega) (by omega)]
      rfl
    · have hi : i < l.length := by omega
      rw [List.take_succ_eq_append_getElem (by simpa [hy] using hi), List.take_succ_eq_append_getElem hi, List.take_set_of_le (Nat.le_refl _), ht]
      simp [rd, hi]
theorem toInts (l : List Int) (hl : l.length ≤ 1048576) : Ev (fun k => laws_toInt64S.f k l) l := by
  have h := toInts_l0 l hl l.length (List.replicate l.length 0) 0 (by omega) (by simp) (by simp)
  refine Ev.congr (fun k => ?_) h
  unfold laws_toInt64S.f
  rw [if_pos (by omega), if_pos (by omega)]
  simp
theorem toCyclo (n : Int) (l : List Int) (hl : l.length ≤ 1048576) : Ev (fun k => laws_toCyclo.f k n l) (n, l) :=
  Ev.bind (toInts l hl) (Ev.now _)
theorem eqInts_l0 (l m : List Int) (hl : l.length ≤ 1048576) (hm : m.length = l.length) : ∀ (d i : Nat), d + i = l.length → Ev (fun k => laws_eqInt64S.l0 k l m (i : Int)) (decide (l.drop i = m.drop i)) := by
  intro d
  induction d with
  | zero =>
    intro i hd
    refine Ev.step (f := fun _ => some (decide (l.drop i = m.drop i))) (fun k => ?_) (Ev.now _)
    simp only [laws_eqInt64S.l0]
    rw [if_neg (by omega), List.drop_of_length_le (by omega), List.drop_of_length_le (by omega)]
    simp
  | succ d ih =>
    intro i hd
    have hi : i < l.length := by omega
    have hi2 : i < m.length := by omega
    have e1 : rd l (i : Int) = l[i] := by simp [rd, hi]
    have e2 : rd m (i : Int) = m[i] := by simp [rd, hi2]
    by_cases he : l[i] = m[i]
    · refine Ev.step (f := fun k => laws_eqInt64S.l0 k l m ((i + 1 : Nat) : Int)) (fun k => ?_) ?_
      · simp only [laws_eqInt64S.l0]
        rw [if_pos (by omega), if_pos (by omega), if_pos (by omega), e1, e2, if_pos he, w64 (by omega) (by omega)]
        rfl
      · have e : decide (l.drop i = m.drop i) = decide (l.drop (i + 1) = m.drop (i + 1)) := by
          rw [List.drop_eq_getElem_cons hi, List.drop_eq_getElem_cons hi2]
          simp only [List.cons.injEq, he, true_and]
        rw [e]
        exact ih (i + 1) (by omega)
    · refine Ev.step (f := fun _ => some false) (fun k => ?_) ?_
      · simp only [laws_eqInt64S.l0]
        rw [if_pos (by omega), if_pos (by omega), if_pos (by omega), e1, e2, if_neg he]
      · have e : decide (l.drop i = m.drop i) = false := by
          rw [List.drop_eq_getElem_cons hi, List.drop_eq_getElem_cons hi2]
          simp only [List.cons.injEq, he, false_and, decide_false]
        rw [e]
        exact Ev.now _
theorem eqInts (l m : List Int) (hl : l.length ≤ 1048576) : Ev (fun k => laws_eqInt64S.f k l m) (decide (l = m)) := by
  by_cases h : m.length = l.length
  · have := eqInts_l0 l m hl h l.length 0 (by omega)
    refine Ev.congr (fun k => ?_) (by simpa using this)
    unfold laws_eqInt64S.f
    rw [if_pos (by omega)]
  · have hne : l ≠ m := fun e => h (by rw [e])
    rw [decide_eq_false hne]
    refine Ev.congr (fun k => ?_) (Ev.now _)
    unfold laws_eqInt64S.f
    rw [if_neg (by omega)]
theorem eqCyclo (n n' : Int) (l l' : List Int) (hl : l.length ≤ 1048576) : Ev (fun k => laws_eqCyclo.f k n l n' l') (decide (n = n' ∧ l = l')) := by
  unfold laws_eqCyclo.f
  by_cases h : n = n'
  · simp only [if_pos h]
    refine Ev.bind (eqInts l l' hl) ?_
    by_cases h2 : l = l' <;> simp [h, h2] <;> exact Ev.now _
  · simp only [if_neg h]
    simp [h]
    exact Ev.now _
def phi (n : Int) : Int := [0, 1, 1, 2, 2, 4, 2, 6, 4, 6, 4, 10, 4, 12, 6, 8, 8].getD n.toNat 0
theorem orders {P : Int → Prop} (h : ∀ m : Nat, m < 17 → 1 ≤ m → P m) (n : Int) (h0 : 1 ≤ n) (h1 : n ≤ 16) : P n := by
  have := h n.toNat (by omega) (by omega)
  rwa [Int.toNat_of_nonneg (by omega)] at this
theorem phi_spec (n : Int) (h0 : 1 ≤ n) (h1 : n ≤ 16) : Ev (fun k => spec_l01Phi.f k n) (phi n) := by
  have key : ∀ m : Nat, m < 17 → 1 ≤ m → spec_l01Phi.f 60 (m : Int) = some (phi m) := by decide +kernel
  exact Ev.of (spec_l01Phi.mono n) (orders (P := fun n => spec_l01Phi.f 60 n = some (phi n)) key n h0 h1)
theorem phi_impl (n : Int) (h0 : 1 ≤ n) (h1 : n ≤ 16) : Ev (fun k => impl_totient.f k n) (phi n) := by
  have key : ∀ m : Nat, m < 17 → 1 ≤ m → impl_totient.f 60 (m : Int) = some (phi m) := by decide +kernel
  exact Ev.of (impl_totient.mono n) (orders (P := fun n => impl_totient.f 60 n = some (phi n)) key n h0 h1)
theorem l01In (a b c : Int) : spec_l01In.f a b c = some (decide (b ≤ a) && decide (a ≤ c)) := by
  unfold spec_l01In.f
  by_cases h : a ≥ b
  · rw [if_pos h]; simp [h]
  · rw [if_neg h]; simp [h]
theorem within_ (a b c : Int) : impl_within.f a b c = some (decide (b ≤ a) && decide (a ≤ c)) := by
  unfold impl_within.f
  by_cases h : b ≤ a
  · rw [if_pos h]; simp [h]
  · rw [if_neg h]; simp [h]
def inP (m : Int) (x : Int) : Bool := decide (-m ≤ x) && decide (x ≤ m)
theorem fits_l0 (n : Int) (l : List Int) (hl : l.length ≤ 1048576) : ∀ (d i : Nat), d + i = l.length → Ev (fun k => spec_l01Fits.l0 k (i : Int) n l) ((l.drop i).all (inP 1000000000)) := by
  intro d
  induction d with
  | zero =>
    intro i hd
    refine Ev.step (f := fun _ => some ((l.drop i).all (inP 1000000000))) (fun k => ?_) (Ev.now _)
    simp only [spec_l01Fits.l0]
    rw [if_neg (by omega), List.drop_of_length_le (by omega)]
    rfl
  | succ d ih =>
    intro i hd
    have hi : i < l.length := by omega
    have e1 : rd l (i : Int) = l[i] := by simp [rd, hi]
    rw [List.drop_eq_getElem_cons hi, List.all_cons]
    cases hp : inP 1000000000 l[i] with
    | true =>
      refine Ev.step (f := fun k => spec_l01Fits.l0 k ((i + 1 : Nat) : Int) n l) (fun k => ?_) (by simpa using ih (i + 1) (by omega))
      simp only [spec_l01Fits.l0]
      rw [if_pos (by omega), if_pos (by omega), e1, l01In, Option.bind_some, if_pos (by simpa [inP] using hp), w64 (by omega) (by omega)]
      rfl
    | false =>
      refine Ev.step (f := fun _ => some false) (fun k => ?_) (by simpa using Ev.now _)
      simp only [spec_l01Fits.l0]
      rw [if_pos (by omega), if_pos (by omega), e1, l01In, Option.bind_some, if_neg (by simp [inP] at hp ⊢; omega)]
theorem fits01 (n : Int) (l : List Int) (hl : l.length ≤ 1048576) : Ev (fun k => spec_l01Fits.f k n l) (l.all (inP 1000000000)) := by
  have := fits_l0 n l hl l.length 0 (by omega)
  unfold spec_l01Fits.f
  simpa using this
theorem areSmall (l : List Int) (m : Int) (h0 : 0 ≤ m) (h1 : m ≤ 9223372036854775807) : impl_areSmall.f l m = some (l.all (inP m)) := by
  unfold impl_areSmall.f
  rw [w64 (by omega) (by omega)]
  rfl
def isC (n : Int) (l : List Int) : Bool := decide (1 ≤ n) && decide (n ≤ 16) && decide ((l.length : Int) = phi n) && l.all (inP 1000000000)
theorem l01Is (n : Int) (l : List Int) (hl : l.length ≤ 1048576) : Ev (fun k => spec_l01Is.f k n l) (isC n l) := by
  unfold spec_l01Is.f
  refine ev_bind_const (l01In _ _ _) ?_
  by_cases h : 1 ≤ n ∧ n ≤ 16
  · rw [show (decide (1 ≤ n) && decide (n ≤ 16)) = true by simp [h]]
    simp only [if_true]
    refine Ev.bind (phi_spec n h.1 h.2) ?_
    by_cases h2 : (l.length : Int) = phi n
    · simp only [if_pos h2]
      refine Ev.bind (fits01 n l hl) ?_
      have : isC n l = l.all (inP 1000000000) := by simp [isC, h, h2]
      rw [this]
      exact Ev.now _
    · simp only [if_neg h2]
      have : isC n l = false := by simp [isC, h, h2]
      rw [this]
      exact Ev.now _
  · have e : (decide (1 ≤ n) && decide (n ≤ 16)) = false := by simp; omega
    rw [e]
    have : isC n l = false := by simp [isC, e]
    rw [this]
    exact Ev.now _
theorem isCyclo (n : Int) (l : List Int) : Ev (fun k => impl_IsCyclo.f k n l) (isC n l) := by
  unfold impl_IsCyclo.f impl_isOrder.f
  refine ev_bind_const (a := decide (1 ≤ n) && decide (n ≤ 16)) (by rw [within_]; rfl) ?_
  by_cases h : 1 ≤ n ∧ n ≤ 16
  · rw [show (decide (1 ≤ n) && decide (n ≤ 16)) = true by simp [h]]
    simp only [if_true]
    refine Ev.bind (phi_impl n h.1 h.2) ?_
    by_cases h2 : (l.length : Int) = phi n
    · simp only [if_pos h2]
      have : isC n l = l.all (inP 1000000000) := by simp [isC, h, h2]
      rw [this, areSmall _ _ (by omega) (by omega)]
      exact Ev.now _
    · simp only [if_neg h2]
      have : isC n l = false := by simp [isC, h, h2]
      rw [this]
      exact Ev.now _
  · have e : (decide (1 ≤ n) && decide (n ≤ 16)) = false := by simp; omega
    rw [e]
    have : isC n l = false := by simp [isC, e]
    rw [this]
    exact Ev.now _
theorem same_l0 (n n' : Int) (l m : List Int) (hl : l.length ≤ 1048576) (hm : m.length = l.length) : ∀ (d i : Nat), d + i = l.length → Ev (fun k => spec_l01Same.l0 k (i : Int) n l n' m) (decide (l.drop i = m.drop i)) := by
  intro d
  induction d with
  | zero =>
    intro i hd
    refine Ev.step (f := fun _ => some (decide (l.drop i = m.drop i))) (fun k => ?_) (Ev.now _)
    simp only [spec_l01Same.l0]
    rw [if_neg (by omega), List.drop_of_length_le (by omega), List.drop_of_length_le (by omega)]
    simp
  | succ d ih =>
    intro i hd
    have hi : i < l.length := by omega
    have hi2 : i < m.length := by omega
    have e1 : rd l (i : Int) = l[i] := by simp [rd, hi]
    have e2 : rd m (i : Int) = m[i] := by simp [rd, hi2]
    by_cases he : l[i] = m[i]
    · refine Ev.step (f := fun k => spec_l01Same.l0 k ((i + 1 : Nat) : Int) n l n' m) (fun k => ?_) ?_
      · simp only [spec_l01Same.l0]
        rw [if_pos (by omega), if_pos (by omega), if_pos (by omega), e1, e2, if_pos he, w64 (by omega) (by omega)]
        rfl
      · have e : decide (l.drop i = m.drop i) = decide (l.drop (i + 1) = m.drop (i + 1)) := by
          rw [List.drop_eq_getElem_cons hi, List.drop_eq_getElem_cons hi2]
          simp only [List.cons.injEq, he, true_and]
        rw [e]
        exact ih (i + 1) (by omega)
    · refine Ev.step (f := fun _ => some false) (fun k => ?_) ?_
      · simp only [spec_l01Same.l0]
        rw [if_pos (by omega), if_pos (by omega), if_pos (by omega), e1, e2, if_neg he]
      · have e : decide (l.drop i = m.drop i) = false := by
          rw [List.drop_eq_getElem_cons hi, List.drop_eq_getElem_cons hi2]
          simp only [List.cons.injEq, he, false_and, decide_false]
        rw [e]
        exact Ev.now _
theorem same01 (n n' : Int) (l m : List Int) (hl : l.length ≤ 1048576) : Ev (fun k => spec_l01Same.f k n l n' m) (decide (n = n' ∧ l = m)) := by
  unfold spec_l01Same.f
  by_cases hn : n = n'
  · by_cases h : m.length = l.length
    · have := same_l0 n n' l m hl h l.length 0 (by omega)
      simp only [if_pos hn]
      refine Ev.step (fun k => ?_) (show Ev (fun k => spec_l01Same.l0 k 0 n l n' m) (decide (n = n' ∧ l = m)) by simpa [hn] using this)
      simp only [spec_l01Same.j0]
      rw [if_neg (by simp [h])]
    · have e : decide (n = n' ∧ l = m) = false := by
        rw [decide_eq_false]
        rintro ⟨_, rfl⟩
        exact h rfl
      rw [e]
      simp only [if_pos hn]
      refine Ev.step (fun k => ?_) (Ev.now _)
      simp only [spec_l01Same.j0]
      rw [if_pos (by simp; omega)]
  · have e : decide (n = n' ∧ l = m) = false := by simp [hn]
    rw [e]
    simp only [if_neg hn]
    refine Ev.step (fun k => ?_) (Ev.now _)
    simp only [spec_l01Same.j0, if_true]
def upTo (a : Int) (n : Nat) : List Int := (List.range n).map fun (j : Nat) => a + (j : Int)
theorem upTo_cons (a : Int) (n : Nat) : upTo a (n + 1) = a :: upTo (a + 1) n := by
  unfold upTo
  rw [List.range_succ_eq_map, List.map_cons, List.map_map]
  congr 1
  · simp
  · apply List.map_congr_left
    intro j _
    simp only [Function.comp, Nat.succ_eq_add_one]
    omega
theorem mem_upTo {a x : Int} {n : Nat} : x ∈ upTo a n ↔ a ≤ x ∧ x < a + n := by
  simp only [upTo, List.mem_map, List.mem_range]
  constructor
  · rintro ⟨j, hj, rfl⟩; omega
  · intro h; exact ⟨(x - a).toNat, by omega, by omega⟩
def prs : List Int := [3, 5, 7, 11, 13, 17, 19, 23, 29, 31, 37, 41, 43, 47, 53, 59, 61]
def pr (l : Int) : Bool := prs.contains l
theorem pr_iff {l : Int} : pr l = true ↔ l ∈ prs := by unfold pr; exact List.contains_iff_mem
theorem pr_bd {l : Int} (h : pr l = true) : 3 ≤ l ∧ l ≤ 61 := by
  rw [pr_iff] at h
  simp only [prs, List.mem_cons, List.not_mem_nil, or_false] at h
  omega
theorem upto61 {P : Int → Prop} (h : ∀ m : Nat, m < 62 → P m) (n : Int) (h0 : 0 ≤ n) (h1 : n ≤ 61) : P n := by
  have := h n.toNat (by omega)
  rwa [Int.toNat_of_nonneg (by omega)] at this
theorem primes {P : Int → Prop} (h : ∀ l ∈ prs, P l) (l : Int) (hl : pr l = true) : P l := h l (pr_iff.mp hl)
theorem isPrime_big (p : Int) (h0 : 61 < p) (h1 : p ≤ 9223372036854775807) : ∀ (n : Nat) (d : Int), 2 ≤ d → d ≤ p → (p - d).toNat = n → Ev (fun k => impl_isPrime.l0 k p d) false := by
  intro n
  induction n with
  | zero =>
    intro d hd hp hn
    have : d = p := by omega
    subst this
    refine Ev.step (f := fun _ => some false) (fun k => ?_) (Ev.now _)
    simp only [impl_isPrime.l0]
    by_cases c : wrap64 (d * d) ≤ d
    · rw [if_pos c, if_neg (by omega), if_pos (Int.tmod_self)]
    · rw [if_neg c, within_, Option.bind_some]
      simp
      omega
  | succ n ih =>
    intro d hd hp hn
    by_cases c : wrap64 (d * d) ≤ p
    · by_cases c2 : Int.tmod p d = 0
      · refine Ev.step (f := fun _ => some false) (fun k => ?_) (Ev.now _)
        simp only [impl_isPrime.l0]
        rw [if_pos c, if_neg (by omega), if_pos c2]
      · refine Ev.step (fun k => ?_) (ih (d + 1) (by omega) (by omega) (by omega))
        simp only [impl_isPrime.l0]
        rw [if_pos c, if_neg (by omega), if_neg c2, w64 (by omega) (by omega)]
    · refine Ev.step (f := fun _ => some false) (fun k => ?_) (Ev.now _)
      simp only [impl_isPrime.l0]
      rw [if_neg c, within_, Option.bind_some]
      simp
      omega
theorem isPrime (p : Int) (h0 : -9223372036854775808 ≤ p) (h1 : p ≤ 9223372036854775807) : Ev (fun k => impl_isPrime.f k p) (pr p) := by
  by_cases c : 61 < p
  · have e : pr p = false := by
      cases h : pr p with
      | false => rfl
      | true => have := pr_bd h; omega
    rw [e]
    exact isPrime_big p c h1 _ 2 (by omega) (by omega) rfl
  · by_cases c2 : 0 ≤ p
    · have key : ∀ m : Nat, m < 62 → impl_isPrime.f 20 (m : Int) = some (pr m) := by decide +kernel
      exact Ev.of (impl_isPrime.mono p) (upto61 (P := fun p => impl_isPrime.f 20 p = some (pr p)) key p c2 (by omega))
    · have e : pr p = false := by
        cases h : pr p with
        | false => rfl
        | true => have := pr_bd h; omega
      rw [e]
      refine Ev.step (f := fun _ => some false) (fun k => ?_) (Ev.now _)
      simp only [impl_isPrime.f, impl_isPrime.l0]
      rw [if_neg (by rw [w64 (x := 2 * 2) (by omega) (by omega)]; omega), within_, Option.bind_some]
      simp
      omega
theorem l03Prime (p : Int) : Ev (fun k => spec_l03Prime.f k p) (pr p) := by
  by_cases c : 3 ≤ p ∧ p ≤ 61
  · have key : ∀ m : Nat, m < 62 → spec_l03Prime.f 20 (m : Int) = some (pr m) := by decide +kernel
    exact Ev.of (spec_l03Prime.mono p) (upto61 (P := fun p => spec_l03Prime.f 20 p = some (pr p)) key p (by omega) c.2)
  · have e : pr p = false := by
      cases h : pr p with
      | false => rfl
      | true => have := pr_bd h; omega
    rw [e]
    unfold spec_l03Prime.f
    refine ev_bind_const (l01In _ _ _) ?_
    rw [show (decide (3 ≤ p) && decide (p ≤ 61)) = false by simp; omega]
    exact Ev.now _
def cyc (n : Int) : List Int := [[], [-1, 1], [1, 1], [1, 1, 1], [1, 0, 1], [1, 1, 1, 1, 1], [1, -1, 1], [1, 1, 1, 1, 1, 1, 1], [1, 0, 0, 0, 1], [1, 0, 0, 1, 0, 0, 1], [1, -1, 1, -1, 1], [1, 1, 1, 1, 1, 1, 1, 1, 1, 1, 1], [1, 0, -1, 0, 1], [1, 1, 1, 1, 1, 1, 1, 1, 1, 1, 1, 1, 1], [1, -1, 1, -1, 1, -1, 1], [1, -1, 0, 1, -1, 1, 0, -1, 1], [1, 0, 0, 0, 0, 0, 0, 0, 1]].getD n.toNat []
theorem cyc_impl (n : Int) (h0 : 1 ≤ n) (h1 : n ≤ 16) : Ev (fun k => impl_cyclotomic.f k n) (cyc n) := by
  have key : ∀ m : Nat, m < 17 → 1 ≤ m → impl_cyclotomic.f 400 (m : Int) = some (cyc m) := by decide +kernel
  exact Ev.of (impl_cyclotomic.mono n) (orders (P := fun n => impl_cyclotomic.f 400 n = some (cyc n)) key n h0 h1)
theorem cyc_spec (n : Int) (h0 : 1 ≤ n) (h1 : n ≤ 16) : Ev (fun k => spec_l01Cyclotomic.f k n) (cyc n) := by
  have key : ∀ m : Nat, m < 17 → 1 ≤ m → spec_l01Cyclotomic.f 400 (m : Int) = some (cyc m) := by decide +kernel
  exact Ev.of (spec_l01Cyclotomic.mono n) (orders (P := fun n => spec_l01Cyclotomic.f 400 n = some (cyc n)) key n h0 h1)
theorem cyc_small (n : Int) (h0 : 1 ≤ n) (h1 : n ≤ 16) : (cyc n).length ≤ 13 ∧ ∀ c ∈ cyc n, -1000000000 ≤ c ∧ c ≤ 1000000000 :=
  orders (P := fun n => (cyc n).length ≤ 13 ∧ ∀ c ∈ cyc n, -1000000000 ≤ c ∧ c ≤ 1000000000) (by decide +kernel) n h0 h1
def hv (cs : List Int) (r q : Int) : Int := cs.foldr (fun c out => (out * r + c) % q) 0
theorem hv_bd (cs : List Int) (r q : Int) (hq : 0 < q) : 0 ≤ hv cs r q ∧ hv cs r q < q := by
  cases cs with
  | nil => exact ⟨Int.le_refl 0, hq⟩
  | cons c cs => exact ⟨Int.emod_nonneg _ (by omega), Int.emod_lt_of_pos _ hq⟩
theorem hv_step (cs : List Int) (i : Nat) (hi : i < cs.length) (r q : Int) : hv (cs.drop i) r q = (hv (cs.drop (i + 1)) r q * r + cs[i]) % q := by
  rw [List.drop_eq_getElem_cons hi]
  rfl
theorem tmod_bd (c q : Int) (hq : 0 < q) : -q < Int.tmod c q ∧ Int.tmod c q < q := by
  have h1 := Int.tmod_lt_of_pos c hq
  have h2 := Int.lt_tmod_of_pos c hq
  omega
theorem tmod_emod (c q : Int) (hq : 0 < q) : (Int.tmod c q) % q = c % q := by
  rw [Int.tmod_eq_emod]
  split <;> simp
  rw [Int.sub_emod]
  simp [Int.natAbs_of_nonneg (Int.le_of_lt hq)]
theorem vstep (o r c q : Int) (hq : 0 < q) (hq2 : q ≤ 1000000000) (ho : 0 ≤ o ∧ o < q) (hr : 0 ≤ r ∧ r ≤ 1000000000) :
    wrap64 (wrap64 (o * r) + Int.tmod c q) = o * r + Int.tmod c q ∧ Int.tmod (wrap64 (Int.tmod (o * r + Int.tmod c q) q + q)) q = (o * r + c) % q ∧ Int.tmod (wrap64 (o * r + Int.tmod c q + q)) q = (o * r + c) % q := by
  have b1 := tmod_bd c q hq
  have b2 : 0 ≤ o * r ∧ o * r ≤ 1000000000 * 1000000000 := by
    refine ⟨Int.mul_nonneg ho.1 hr.1, Int.mul_le_mul (by omega) hr.2 hr.1 (by omega)⟩
  have b3 := tmod_bd (o * r + Int.tmod c q) q hq
  refine ⟨by rw [w64 (x := o * r) (by omega) (by omega), w64 (by omega) (by omega)], ?_, ?_⟩
  · rw [w64 (by omega) (by omega), Int.tmod_eq_emod_of_nonneg (by omega), Int.add_emod_right, tmod_emod _ _ hq, Int.add_emod, tmod_emod c q hq, ← Int.add_emod]
  · rw [w64 (by omega) (by omega), Int.tmod_eq_emod_of_nonneg (by omega), Int.add_emod_right, Int.add_emod, tmod_emod c q hq, ← Int.add_emod]
theorem valueAt_l0 (cs : List Int) (hl : cs.length ≤ 1000) (r q : Int) (hq : 0 < q) (hq2 : q ≤ 1000000000) (hr : 0 ≤ r ∧ r ≤ 1000000000) : ∀ (i : Nat), i ≤ cs.length → Ev (fun k => impl_valueAt.l0 k cs r q (hv (cs.drop i) r q) ((i : Int) - 1)) (hv cs r q) := by
  intro i
  induction i with
  | zero =>
    intro hi
    refine Ev.step (f := fun _ => some (hv cs r q)) (fun k => ?_) (Ev.now _)
    simp only [impl_valueAt.l0]
    rw [if_neg (by omega), List.drop_zero]
  | succ i ih =>
    intro hi
    have hlt : i < cs.length := by omega
    have e1 : rd cs (i : Int) = cs[i] := by simp [rd, hlt]
    have hv2 := vstep (hv (cs.drop (i + 1)) r q) r cs[i] q hq hq2 (hv_bd _ _ _ hq) hr
    refine Ev.step (fun k => ?_) (ih (by omega))
    simp only [impl_valueAt.l0]
    rw [show ((i + 1 : Nat) : Int) - 1 = i by omega, if_pos (by omega), if_pos (by omega), if_pos (by omega), if_neg (by omega), e1, w64 (x := (i : Int) - 1) (by omega) (by omega), hv2.1]
    simp only [impl_around.f]
    rw [if_neg (by omega), hv2.2.1, Option.bind_some, hv_step cs i hlt]
theorem valueAt (cs : List Int) (hl : cs.length ≤ 1000) (r q : Int) (hq : 0 < q) (hq2 : q ≤ 1000000000) (hr : 0 ≤ r ∧ r ≤ 1000000000) : Ev (fun k => impl_valueAt.f k cs r q) (hv cs r q) := by
  have := valueAt_l0 cs hl r q hq hq2 hr cs.length (by omega)
  rw [List.drop_of_length_le (by omega)] at this
  unfold impl_valueAt.f
  rw [w64 (by omega) (by omega)]
  exact this
theorem l07Value_l0 (cs : List Int) (hl : cs.length ≤ 1000) (r q : Int) (hq : 0 < q) (hq2 : q ≤ 1000000000) (hr : 0 ≤ r ∧ r ≤ 1000000000) : ∀ (i : Nat), i ≤ cs.length → Ev (fun k => spec_l07Value.l0 k cs r q (hv (cs.drop i) r q) ((i : Int) - 1)) (hv cs r q) := by
  intro i
  induction i with
  | zero =>
    intro hi
    refine Ev.step (f := fun _ => some (hv cs r q)) (fun k => ?_) (Ev.now _)
    simp only [spec_l07Value.l0]
    rw [if_neg (by omega), List.drop_zero]
  | succ i ih =>
    intro hi
    have hlt : i < cs.length := by omega
    have e1 : rd cs (i : Int) = cs[i] := by simp [rd, hlt]
    have hv2 := vstep (hv (cs.drop (i + 1)) r q) r cs[i] q hq hq2 (hv_bd _ _ _ hq) hr
    refine Ev.step (fun k => ?_) (ih (by omega))
    simp only [spec_l07Value.l0]
    rw [show ((i + 1 : Nat) : Int) - 1 = i by omega, if_pos (by omega), if_pos (by omega), if_pos (by omega), if_neg (by omega), e1, w64 (x := (i : Int) - 1) (by omega) (by omega), hv2.1, hv2.2.2, hv_step cs i hlt]
theorem l07Value (cs : List Int) (hl : cs.length ≤ 1000) (r q : Int) (hq : 0 < q) (hq2 : q ≤ 1000000000) (hr : 0 ≤ r ∧ r ≤ 1000000000) : Ev (fun k => spec_l07Value.f k cs r q) (hv cs r q) := by
  have := l07Value_l0 cs hl r q hq hq2 hr cs.length (by omega)
  rw [List.drop_of_length_le (by omega)] at this
  unfold spec_l07Value.f
  rw [w64 (by omega) (by omega)]
  exact this
def fully (n l : Int) : Bool := decide (n % l ≠ 0) && decide ((l - 1) % n = 0)
def okNL (n l : Int) : Bool := (decide (1 ≤ n) && decide (n ≤ 16)) && pr l && fully n l
theorem okNL_iff {n l : Int} : okNL n l = true ↔ (1 ≤ n ∧ n ≤ 16) ∧ pr l = true ∧ fully n l = true := by
  simp only [okNL, Bool.and_eq_true, decide_eq_true_eq, and_assoc]
theorem l07Fully (n l : Int) (hn : 1 ≤ n ∧ n ≤ 16) (hl : pr l = true) : spec_l07Fully.f n l = some (fully n l) := by
  have := pr_bd hl
  unfold spec_l07Fully.f
  rw [if_neg (show ¬ l = 0 by omega), Int.tmod_eq_emod_of_nonneg (show 0 ≤ n by omega)]
  by_cases h : n % l = 0
  · rw [if_pos h]
    simp [fully, h]
  · rw [if_neg h, if_neg (show ¬ n = 0 by omega), w64 (by omega) (by omega), Int.tmod_eq_emod_of_nonneg (by omega)]
    by_cases h2 : (l - 1) % n = 0 <;> simp [fully, h, h2]
theorem splits07 (n l : Int) (hn : 1 ≤ n ∧ n ≤ 16) (hl : pr l = true) : Ev (fun k => impl_splits.f k n l) (fully n l) := by
  have key : ∀ l ∈ prs, ∀ m : Nat, m < 17 → 1 ≤ m → impl_splits.f 100 (m : Int) l = some (fully m l) := by decide +kernel
  exact Ev.of (impl_splits.mono n l) (orders (P := fun n => impl_splits.f 100 n l = some (fully n l)) (key l (pr_iff.mp hl)) n hn.1 hn.2)
theorem l07Code (n l : Int) : Ev (fun k => spec_l07Code.f k n l) (if (decide (1 ≤ n) && decide (n ≤ 16)) && pr l then 0 else 2) := by
  unfold spec_l07Code.f
  refine ev_bind_const (l01In _ _ _) ?_
  cases h : (decide (1 ≤ n) && decide (n ≤ 16)) with
  | false => exact Ev.now _
  | true =>
    simp only [if_true, Bool.true_and]
    refine Ev.bind (l03Prime l) ?_
    cases pr l <;> exact Ev.now _
def roots (n l : Int) : List Int := (upTo 1 (l - 1).toNat).filter fun r => hv (cyc n) r l == 0
theorem mem_roots {n l r : Int} (hl : 1 ≤ l) : r ∈ roots n l ↔ (1 ≤ r ∧ r ≤ l - 1) ∧ hv (cyc n) r l = 0 := by
  unfold roots
  rw [List.mem_filter, mem_upTo, beq_iff_eq]
  constructor
  · rintro ⟨h1, h2⟩; exact ⟨by omega, h2⟩
  · rintro ⟨h1, h2⟩; exact ⟨by omega, h2⟩
theorem rootsFor_l0 (cs : List Int) (hc : cs.length ≤ 1000) (l : Int) (hl : 3 ≤ l ∧ l ≤ 61) : ∀ (d : Nat) (i : Int) (acc : List Int), (d : Int) + i = l → 1 ≤ i → (acc.length : Int) ≤ i → Ev (fun k => impl_rootsFor.l0 k l acc cs i) (acc ++ (upTo i d).filter (fun r => hv cs r l == 0), true) := by
  intro d
  induction d with
  | zero =>
    intro i acc hd hi ha
    refine Ev.step (fun k => by simp only [impl_rootsFor.l0]; rw [if_neg (by omega)]) ?_
    simpa [upTo] using Ev.now _
  | succ d ih =>
    intro i acc hd hi ha
    refine Ev.step (fun k => by simp only [impl_rootsFor.l0]; rw [if_pos (by omega), w64 (x := i + 1) (by omega) (by omega)]) ?_
    refine Ev.bind (valueAt cs hc i l (by omega) (by omega) (by omega)) ?_
    rw [upTo_cons, List.filter_cons]
    by_cases h : hv cs i l = 0
    · have h2 : (hv cs i l == 0) = true := by rw [h]; rfl
      simp only [if_pos h, h2, if_true]
      have := ih (i + 1) (acc ++ [i]) (by omega) (by omega) (by simp; omega)
      rw [List.append_assoc, List.singleton_append] at this
      simp only [if_pos (show acc.length < 17592186044416 by omega)]
      exact this
    · have h2 : (hv cs i l == 0) = false := by rw [beq_eq_false_iff_ne]; exact h
      simp only [if_neg h, h2, Bool.false_eq_true, if_false]
      exact ih (i + 1) acc (by omega) (by omega) (by omega)
theorem rootsFor (n l : Int) (h0 : -9223372036854775808 ≤ l) (h1 : l ≤ 9223372036854775807) : Ev (fun k => impl_rootsFor.f k n l) (if okNL n l then (roots n l, true) else ([], false)) := by
  unfold impl_rootsFor.f impl_isOrder.f
  refine ev_bind_const (a := decide (1 ≤ n) && decide (n ≤ 16)) (by rw [within_]; rfl) ?_
  have no : Ev (fun k => impl_rootsFor.j0 k n l true) (([] : List Int), false) := Ev.step (fun k => by simp only [impl_rootsFor.j0, if_true] <;> rfl) (Ev.now _)
  cases h : (decide (1 ≤ n) && decide (n ≤ 16)) with
  | false => simpa [okNL, h] using no
  | true =>
    have hn : 1 ≤ n ∧ n ≤ 16 := by simpa using h
    simp only [if_true]
    refine Ev.bind (isPrime l h0 h1) ?_
    cases hp : pr l with
    | false => simpa [okNL, h, hp] using no
    | true =>
      have hb := pr_bd hp
      simp only [if_true]
      refine Ev.bind (splits07 n l hn hp) ?_
      cases hs : fully n l with
      | false => simpa [okNL, h, hp, hs] using no
      | true =>
        have e : okNL n l = true := by simp [okNL, h, hp, hs]
        simp only [e, if_true]
        refine Ev.step (fun k => by simp only [impl_rootsFor.j0, Bool.not_true, Bool.false_eq_true, if_false]; rfl) ?_
        refine Ev.bind (cyc_impl n hn.1 hn.2) ?_
        have := rootsFor_l0 (cyc n) (by have := (cyc_small n hn.1 hn.2).1; omega) l hb (l - 1).toNat 1 [] (by omega) (by omega) (by simp)
        simpa [roots] using this
theorem indexInt_l0 (x : Int) (us : List Int) (hl : us.length ≤ 1000000) : ∀ (n i : Nat), n + i = us.length → ∃ r, Ev (fun k => slices_Index_int64_int64.l0 k us x (us.length : Int) (i : Int)) r ∧ decide (r ≥ 0) = (us.drop i).contains x := by
  intro n
  induction n with
  | zero =>
    intro i hd
    refine ⟨-1, Ev.step (fun k => by simp only [slices_Index_int64_int64.l0]; rw [if_neg (by omega)]) (Ev.now _), ?_⟩
    rw [List.drop_of_length_le (by omega)]
    rfl
  | succ n ih =>
    intro i hd
    have hi : i < us.length := by omega
    have e1 : rd us (i : Int) = us[i] := by simp [rd, hi]
    rw [List.drop_eq_getElem_cons hi, List.contains_cons]
    by_cases hp : x = us[i]
    · refine ⟨(i : Int), Ev.step (fun k => by simp only [slices_Index_int64_int64.l0]; rw [if_pos (by omega), if_pos (by omega), if_pos (by omega), e1, if_pos hp]) (Ev.now _), ?_⟩
      rw [beq_iff_eq.mpr hp]
      simp
    · obtain ⟨r, h1, h2⟩ := ih (i + 1) (by omega)
      refine ⟨r, Ev.step (fun k => ?_) h1, by rw [h2, beq_eq_false_iff_ne.mpr hp, Bool.false_or]⟩
      simp only [slices_Index_int64_int64.l0]
      rw [if_pos (by omega), if_pos (by omega), if_pos (by omega), e1, if_neg hp, w64 (by omega) (by omega)]
      rfl
theorem containsInt (x : Int) (us : List Int) (hl : us.length ≤ 1000000) : Ev (fun k => slices_Contains_int64_int64.f k us x) (us.contains x) := by
  obtain ⟨r, h1, h2⟩ := indexInt_l0 x us hl us.length 0 (by omega)
  rw [List.drop_zero] at h2
  rw [← h2]
  unfold slices_Contains_int64_int64.f slices_Index_int64_int64.f
  exact Ev.bind h1 (Ev.now _)
def okP (n l r : Int) : Bool := okNL n l && (roots n l).contains r
theorem okP_iff {n l r : Int} : okP n l r = true ↔ okNL n l = true ∧ (1 ≤ r ∧ r ≤ l - 1) ∧ hv (cyc n) r l = 0 := by
  unfold okP
  rw [Bool.and_eq_true]
  constructor
  · rintro ⟨h1, h2⟩
    have hb := pr_bd (okNL_iff.mp h1).2.1
    rw [List.contains_iff_mem, mem_roots (by omega)] at h2
    exact ⟨h1, h2⟩
  · rintro ⟨h1, h2⟩
    have hb := pr_bd (okNL_iff.mp h1).2.1
    rw [List.contains_iff_mem, mem_roots (by omega)]
    exact ⟨h1, h2⟩
theorem roots_len (n l : Int) (hl : l ≤ 61) : (roots n l).length ≤ 60 := by
  unfold roots
  refine Nat.le_trans (List.length_filter_le _ _) ?_
  simp [upTo]
  omega
theorem isPlace (n l r : Int) (h0 : -9223372036854775808 ≤ l) (h1 : l ≤ 9223372036854775807) : Ev (fun k => impl_isPlace.f k n l r) (okP n l r) := by
  unfold impl_isPlace.f
  refine Ev.bind (rootsFor n l h0 h1) ?_
  cases h : okNL n l with
  | false => simpa [okP, h] using Ev.now _
  | true =>
    have hb := pr_bd (okNL_iff.mp h).2.1
    simp only [if_true]
    refine Ev.bind (containsInt r (roots n l) (by have := roots_len n l hb.2; omega)) ?_
    simpa [okP, h] using Ev.now _
theorem l07Place (n l r : Int) : Ev (fun k => spec_l07Place.f k n l r) (okP n l r) := by
  unfold spec_l07Place.f
  refine Ev.bind (l07Code n l) ?_
  cases h : (decide (1 ≤ n) && decide (n ≤ 16)) && pr l with
  | false =>
    have e : okP n l r = false := by simp [okP, okNL, h]
    rw [e]
    exact Ev.now _
  | true =>
    rw [Bool.and_eq_true] at h
    obtain ⟨h, hp⟩ := h
    have hn : 1 ≤ n ∧ n ≤ 16 := by simpa using h
    have hb := pr_bd hp
    simp only [if_true]
    refine ev_bind_const (l07Fully n l hn hp) ?_
    cases hs : fully n l with
    | false =>
      have e : okP n l r = false := by simp [okP, okNL, h, hs]
      rw [e]
      exact Ev.now _
    | true =>
      have e0 : okNL n l = true := okNL_iff.mpr ⟨hn, hp, hs⟩
      simp only [if_true]
      rw [w64 (by omega) (by omega)]
      refine ev_bind_const (l01In _ _ _) ?_
      by_cases hr : 1 ≤ r ∧ r ≤ l - 1
      · have e1 : (decide (1 ≤ r) && decide (r ≤ l - 1)) = true := by simp; omega
        simp only [e1, if_true]
        refine Ev.bind (cyc_spec n hn.1 hn.2) ?_
        refine Ev.bind (l07Value (cyc n) (by have := (cyc_small n hn.1 hn.2).1; omega) r l (by omega) (by omega) (by omega)) ?_
        have e2 : (hv (cyc n) r l == 0) = okP n l r := by
          rw [Bool.eq_iff_iff, okP_iff, beq_iff_eq]
          exact ⟨fun h => ⟨e0, hr, h⟩, fun h => h.2.2⟩
        rw [e2]
        exact Ev.now _
      · have e1 : (decide (1 ≤ r) && decide (r ≤ l - 1)) = false := by simp; omega
        have e2 : okP n l r = false := by
          cases h : okP n l r with
          | false => rfl
          | true => exact absurd (okP_iff.mp h).2.1 hr
        simp only [e1, e2]
        exact Ev.now _
def gcode (n : Int) (x : List Int) (l r : Int) : Int := if isC n x then (if okP n l r then 0 else 2) else 1
theorem l07Given (n : Int) (x : List Int) (l r : Int) (hx : x.length ≤ 1048576) : Ev (fun k => spec_l07Given.f k n x l r) (gcode n x l r) := by
  unfold spec_l07Given.f gcode
  refine Ev.bind (l01Is n x hx) ?_
  cases isC n x with
  | false => exact Ev.now _
  | true =>
    simp only [if_true]
    refine Ev.bind (l07Place n l r) ?_
    cases okP n l r <;> exact Ev.now _
theorem placeCode (n : Int) (x : List Int) (l r : Int) (h0 : -9223372036854775808 ≤ l) (h1 : l ≤ 9223372036854775807) : Ev (fun k => impl_placeCode.f k n x l r) (gcode n x l r) := by
  unfold impl_placeCode.f gcode
  refine Ev.bind (isCyclo n x) ?_
  cases isC n x with
  | false => exact Ev.now _
  | true =>
    simp only [if_true]
    refine Ev.bind (isPlace n l r h0 h1) ?_
    cases okP n l r <;> exact Ev.now _
theorem gcode_iff {n : Int} {x : List Int} {l r : Int} : gcode n x l r = 0 ↔ isC n x = true ∧ okP n l r = true := by
  unfold gcode
  cases isC n x <;> cases okP n l r <;> simp
theorem phi_small (n : Int) (h0 : 1 ≤ n) (h1 : n ≤ 16) : 1 ≤ phi n ∧ phi n ≤ 12 := orders (P := fun n => 1 ≤ phi n ∧ phi n ≤ 12) (by decide +kernel) n h0 h1
theorem isC_len {n : Int} {x : List Int} (h : isC n x = true) : (1 ≤ n ∧ n ≤ 16) ∧ (x.length : Int) = phi n ∧ x.length ≤ 12 ∧ 1 ≤ x.length := by
  simp only [isC, Bool.and_eq_true, decide_eq_true_eq] at h
  have := phi_small n h.1.1.1 h.1.1.2
  exact ⟨h.1.1, h.1.2, by omega, by omega⟩
def mo (l : Int) : Int := [0, 0, 0, 18, 0, 12, 0, 10, 0, 0, 0, 8, 0, 8, 0, 0, 0, 7, 0, 7, 0, 0, 0, 6, 0, 0, 0, 0, 0, 6, 0, 6, 0, 0, 0, 0, 0, 5, 0, 0, 0, 5, 0, 5, 0, 0, 0, 5, 0, 0, 0, 0, 0, 5, 0, 0, 0, 0, 0, 5, 0, 5].getD l.toNat 0
theorem mostPower (l : Int) (hl : pr l = true) : Ev (fun k => impl_mostPower.f k l) (mo l) := by
  have key : ∀ l ∈ prs, impl_mostPower.f 30 l = some (mo l) := by decide +kernel
  exact Ev.of (impl_mostPower.mono l) (key l (pr_iff.mp hl))
theorem l07Most (l : Int) (hl : pr l = true) : Ev (fun k => spec_l07Most.f k l) (mo l) := by
  have key : ∀ l ∈ prs, spec_l07Most.f 30 l = some (mo l) := by decide +kernel
  exact Ev.of (spec_l07Most.mono l) (key l (pr_iff.mp hl))
def nxt (cs : List Int) (m q : Int) : Nat → Int → Option Int
  | 0, _ => none
  | j + 1, r => if hv cs r q = 0 then some r else nxt cs m q j (r + m)
def chain (cs : List Int) (l : Int) : Nat → Int → Int → Bool
  | 0, _, _ => true
  | j + 1, m, r => match nxt cs m (m * l) 62 r with
    | none => false
    | some r' => decide (r' < m * l) && decide (m * l ≤ 1000000000) && chain cs l j (m * l) r'
theorem nxt_ge (cs : List Int) (m q : Int) (hm : 0 < m) : ∀ (j : Nat) (r r' : Int), nxt cs m q j r = some r' → r ≤ r' ∧ hv cs r' q = 0 := by
  intro j
  induction j with
  | zero => intro r r' h; simp [nxt] at h
  | succ j ih =>
    intro r r' h
    simp only [nxt] at h
    by_cases c : hv cs r q = 0
    · rw [if_pos c] at h
      obtain rfl := Option.some.inj h
      exact ⟨Int.le_refl _, c⟩
    · rw [if_neg c] at h
      have := ih _ _ h
      exact ⟨by omega, this.2⟩
def lst (cs : List Int) (l : Int) : Nat → Int → Int → Int
  | 0, _, r => r
  | j + 1, m, r => match nxt cs m (m * l) 62 r with
    | none => r
    | some r' => lst cs l j (m * l) r'
theorem lft_search (cs : List Int) (hc : cs.length ≤ 1000) (l m k : Int) (hm : 0 < m) (hq : m * l ≤ 1000000000) (hq0 : 0 < m * l) (X : Int × Int) : ∀ (j : Nat) (r r' : Int), 0 ≤ r → r' ≤ 1000000000 → nxt cs m (m * l) j r = some r' →
    Ev (fun n => impl_lifted.l0 n l r' (wrap64 (k - 1)) cs (m * l)) X → Ev (fun n => impl_lifted.l1 n l r k cs m) X := by
  intro j
  induction j with
  | zero => intro r r' _ _ h; simp [nxt] at h
  | succ j ih =>
    intro r r' h0 h1 h H
    have hg := (nxt_ge cs m (m * l) hm _ _ _ h).1
    simp only [nxt] at h
    refine Ev.step (fun n => by simp only [impl_lifted.l1]; rw [w64 (x := m * l) (by omega) (by omega)]) ?_
    refine Ev.bind (valueAt cs hc r (m * l) hq0 hq (by omega)) ?_
    by_cases c : hv cs r (m * l) = 0
    · rw [if_pos c] at h
      obtain rfl := Option.some.inj h
      simp only [if_pos c]
      exact H
    · rw [if_neg c] at h
      have hg2 := (nxt_ge cs m (m * l) hm _ _ _ h).1
      simp only [if_neg c]
      rw [w64 (x := r + m) (by omega) (by omega)]
      exact ih _ _ (by omega) h1 h H
theorem l07_search (cs : List Int) (hc : cs.length ≤ 1000) (l m k : Int) (hm : 0 < m) (hq : m * l ≤ 1000000000) (hq0 : 0 < m * l) (X : Int) : ∀ (j : Nat) (r r' : Int), 0 ≤ r → r' ≤ 1000000000 → nxt cs m (m * l) j r = some r' →
    Ev (fun n => spec_l07Lift.l0 n l (wrap64 (k - 1)) cs (m * l) r') X → Ev (fun n => spec_l07Lift.l1 n l k cs m r (m * l)) X := by
  intro j
  induction j with
  | zero => intro r r' _ _ h; simp [nxt] at h
  | succ j ih =>
    intro r r' h0 h1 h H
    have hg := (nxt_ge cs m (m * l) hm _ _ _ h).1
    simp only [nxt] at h
    refine Ev.step (fun n => by simp only [spec_l07Lift.l1] <;> rfl) ?_
    refine Ev.bind (l07Value cs hc r (m * l) hq0 hq (by omega)) ?_
    by_cases c : hv cs r (m * l) = 0
    · rw [if_pos c] at h
      obtain rfl := Option.some.inj h
      simp only [if_pos c]
      exact H
    · rw [if_neg c] at h
      have hg2 := (nxt_ge cs m (m * l) hm _ _ _ h).1
      simp only [if_neg c]
      rw [w64 (x := r + m) (by omega) (by omega)]
      exact ih _ _ (by omega) h1 h H
theorem chain_cut (cs : List Int) (l : Int) : ∀ (j i : Nat) (m r : Int), chain cs l j m r = true → i ≤ j → chain cs l i m r = true := by
  intro j
  induction j with
  | zero => intro i m r h hi; obtain rfl : i = 0 := by omega
            exact h
  | succ j ih =>
    intro i m r h hi
    cases i with
    | zero => rfl
    | succ i =>
      simp only [chain] at h ⊢
      cases hn : nxt cs m (m * l) 62 r with
      | none => rw [hn] at h; cases h
      | some r' =>
        rw [hn] at h
        simp only [Bool.and_eq_true] at h ⊢
        exact ⟨h.1, ih i _ _ h.2 (by omega)⟩
theorem lft_chain (cs : List Int) (hc : cs.length ≤ 1000) (l : Int) (hl : 0 < l) : ∀ (j : Nat) (m r : Int), 0 < m → 0 ≤ r → j ≤ 100 → chain cs l j m r = true → Ev (fun n => impl_lifted.l0 n l r ((j : Int) + 1) cs m) (lst cs l j m r, m * l ^ j) := by
  intro j
  induction j with
  | zero =>
    intro m r hm hr hj h
    refine Ev.step (fun n => by simp only [impl_lifted.l0]; rw [if_neg (by omega)] <;> rfl) ?_
    simp only [lst, Int.pow_zero, Int.mul_one]
    exact Ev.now _
  | succ j ih =>
    intro m r hm hr hj h
    simp only [chain] at h
    simp only [lst]
    cases hn : nxt cs m (m * l) 62 r with
    | none => rw [hn] at h; cases h
    | some r' =>
      rw [hn] at h
      simp only [Bool.and_eq_true, decide_eq_true_eq] at h
      have hq0 := Int.mul_pos hm hl
      have hg := (nxt_ge cs m (m * l) hm _ _ _ hn).1
      have H := ih (m * l) r' hq0 (by omega) (by omega) h.2
      refine Ev.step (fun n => by simp only [impl_lifted.l0]; rw [if_pos (by omega)]) ?_
      refine lft_search cs hc l m _ hm h.1.2 hq0 _ 62 r r' hr (by omega) hn ?_
      rw [w64 (by omega) (by omega), show ((j + 1 : Nat) : Int) + 1 - 1 = (j : Int) + 1 by omega, Int.pow_succ, Int.mul_comm (l ^ j) l, ← Int.mul_assoc]
      exact H
theorem l07_chain (cs : List Int) (hc : cs.length ≤ 1000) (l : Int) (hl : 0 < l) : ∀ (j : Nat) (m r : Int), 0 < m → 0 ≤ r → j ≤ 100 → chain cs l j m r = true → Ev (fun n => spec_l07Lift.l0 n l ((j : Int) + 1) cs m r) (lst cs l j m r) := by
  intro j
  induction j with
  | zero =>
    intro m r hm hr hj h
    exact Ev.step (fun n => by simp only [spec_l07Lift.l0]; rw [if_neg (by omega)] <;> rfl) (Ev.now _)
  | succ j ih =>
    intro m r hm hr hj h
    simp only [chain] at h
    simp only [lst]
    cases hn : nxt cs m (m * l) 62 r with
    | none => rw [hn] at h; cases h
    | some r' =>
      rw [hn] at h
      simp only [Bool.and_eq_true, decide_eq_true_eq] at h
      have hq0 := Int.mul_pos hm hl
      have hg := (nxt_ge cs m (m * l) hm _ _ _ hn).1
      have H := ih (m * l) r' hq0 (by omega) (by omega) h.2
      refine Ev.step (fun n => by simp only [spec_l07Lift.l0]; rw [if_pos (by omega), w64 (x := m * l) (by omega) (by omega)]) ?_
      refine l07_search cs hc l m _ hm h.1.2 hq0 _ 62 r r' hr (by omega) hn ?_
      rw [w64 (by omega) (by omega), show ((j + 1 : Nat) : Int) + 1 - 1 = (j : Int) + 1 by omega]
      exact H
def allChains (l : Int) : Bool := (upTo 1 16).all fun n => !fully n l || (roots n l).all fun r => chain (cyc n) l ((mo l).toNat - 1) l r
theorem chains_ok (l : Int) (hl : pr l = true) : allChains l = true := by
  have key : ∀ l ∈ prs, allChains l = true := by decide +kernel
  exact key l (pr_iff.mp hl)
theorem chain_ok (n l r : Int) (h : okP n l r = true) : chain (cyc n) l ((mo l).toNat - 1) l r = true := by
  obtain ⟨h1, h2⟩ := okP_iff.mp h
  obtain ⟨hn, hp, hf⟩ := okNL_iff.mp h1
  have hb := pr_bd hp
  have := chains_ok l hp
  rw [allChains, List.all_eq_true] at this
  have h3 := this n (mem_upTo.mpr (by omega))
  rw [hf] at h3
  simp only [Bool.not_true, Bool.false_or, List.all_eq_true] at h3
  exact h3 r ((mem_roots (by omega)).mpr h2)
theorem mo_bd (l : Int) (hl : pr l = true) : 1 ≤ mo l ∧ mo l ≤ 18 := primes (P := fun l => 1 ≤ mo l ∧ mo l ≤ 18) (by decide) l hl
theorem chain_lst (cs : List Int) (l : Int) (hl : 0 < l) : ∀ (j : Nat) (m r : Int), 0 ≤ r → r < m → m ≤ 1000000000 → chain cs l j m r = true → 0 ≤ lst cs l j m r ∧ lst cs l j m r < m * l ^ j ∧ m * l ^ j ≤ 1000000000 := by
  intro j
  induction j with
  | zero => intro m r h0 h1 h2 h; simp only [lst, Int.pow_zero, Int.mul_one]; omega
  | succ j ih =>
    intro m r h0 h1 h2 h
    simp only [chain] at h
    simp only [lst]
    cases hn : nxt cs m (m * l) 62 r with
    | none => rw [hn] at h; cases h
    | some r' =>
      rw [hn] at h
      simp only [Bool.and_eq_true, decide_eq_true_eq] at h
      have hg := (nxt_ge cs m (m * l) (by omega) _ _ _ hn).1
      have := ih (m * l) r' (by omega) h.1.1 h.1.2 h.2
      rw [Int.pow_succ, Int.mul_comm (l ^ j) l, ← Int.mul_assoc]
      exact this
theorem zeroAll : ∀ (x : List Int), (x.all (inP 0) = true ↔ x = List.replicate x.length 0) := by
  intro x
  induction x with
  | nil => simp
  | cons a t ih =>
    simp only [List.all_cons, Bool.and_eq_true, ih, List.length_cons, List.replicate_succ, List.cons.injEq]
    have : inP 0 a = true ↔ a = 0 := by simp only [inP, Bool.and_eq_true, decide_eq_true_eq]; omega
    rw [this]
theorem l07Zero (n : Int) (x : List Int) (h : isC n x = true) : Ev (fun k => spec_l07Zero.f k n x) (x.all (inP 0)) := by
  have hx := isC_len h
  have hz : Ev (fun k => spec_l01Zero.f k n) (n, List.replicate (phi n).toNat 0) := by
    unfold spec_l01Zero.f
    refine Ev.bind (phi_spec n hx.1.1 hx.1.2) ?_
    simp only [if_pos (show 0 ≤ phi n by omega), if_pos (show (phi n).toNat ≤ 35184372088832 by omega)]
    exact Ev.now _
  unfold spec_l07Zero.f
  refine Ev.bind hz (Ev.bind (same01 n n x _ (by omega)) ?_)
  have : decide (n = n ∧ x = List.replicate (phi n).toNat 0) = x.all (inP 0) := by
    rw [Bool.eq_iff_iff, zeroAll]
    simp only [true_and, decide_eq_true_eq]
    rw [show (phi n).toNat = x.length by omega]
  rw [this]
  exact Ev.now _
theorem liftBoth (n l r : Int) (h : okP n l r = true) (j : Nat) (hj : (j : Int) + 1 ≤ mo l) : ∃ root : Int, (0 ≤ root ∧ root ≤ 1000000000) ∧ (0 < l * l ^ j ∧ l * l ^ j ≤ 1000000000) ∧ Ev (fun f => impl_lifted.f f n l r ((j : Int) + 1)) (root, l * l ^ j) ∧ Ev (fun f => spec_l07Lift.f f n l r ((j : Int) + 1)) root := by
  obtain ⟨h1, h2⟩ := okP_iff.mp h
  obtain ⟨hn, hp, hf⟩ := okNL_iff.mp h1
  have hb := pr_bd hp
  have hm := mo_bd l hp
  have hc := chain_cut _ _ _ j _ _ (chain_ok n l r h) (by omega)
  have hs := (cyc_small n hn.1 hn.2).1
  have hq := chain_lst (cyc n) l (by omega) j l r (by omega) (by omega) (by omega) hc
  refine ⟨lst (cyc n) l j l r, by omega, by omega, ?_, ?_⟩
  · unfold impl_lifted.f
    exact Ev.bind (cyc_impl n hn.1 hn.2) (lft_chain (cyc n) (by omega) l (by omega) j l r (by omega) (by omega) (by omega) hc)
  · unfold spec_l07Lift.f
    exact Ev.bind (cyc_spec n hn.1 hn.2) (l07_chain (cyc n) (by omega) l (by omega) j l r (by omega) (by omega) (by omega) hc)
theorem valBoth (n : Int) (x : List Int) (l r : Int) (h : okP n l r = true) (hx : x.length ≤ 1000) : ∀ (d j : Nat) (q : Int), (d : Int) + j = mo l → q * l = l * l ^ j → ∃ o : Int × Bool, Ev (fun f => spec_l07Valuation.l0 f l r q ((j : Int) + 1) n x) o ∧ Ev (fun f => impl_ValuationAt.l0 f l r (mo l) ((j : Int) + 1) n x) (if o.2 = true then (o.1, 0) else (0, 3)) := by
  have hp := (okNL_iff.mp (okP_iff.mp h).1).2.1
  have hm := mo_bd l hp
  intro d
  induction d with
  | zero =>
    intro j q hd _
    refine ⟨(0, false), ?_, ?_⟩
    · refine Ev.step (fun f => by simp only [spec_l07Valuation.l0] <;> rfl) ?_
      refine Ev.bind (l07Most l hp) ?_
      simp only [if_neg (show ¬ ((j : Int) + 1 ≤ mo l) by omega)]
      exact Ev.now _
    · exact Ev.step (fun f => by simp only [impl_ValuationAt.l0]; rw [if_neg (by omega)] <;> rfl) (Ev.now _)
  | succ d ih =>
    intro j q hd hq
    obtain ⟨root, hr, hM, H1, H2⟩ := liftBoth n l r h j (by omega)
    have V1 := valueAt x hx root (l * l ^ j) hM.1 hM.2 hr
    have V2 := l07Value x hx root (l * l ^ j) hM.1 hM.2 hr
    have hw : wrap64 (q * l) = l * l ^ j := by rw [hq]; exact w64 (by omega) (by omega)
    by_cases hv0 : hv x root (l * l ^ j) = 0
    · obtain ⟨o, I1, I2⟩ := ih (j + 1) (l * l ^ j) (by omega) (by rw [Int.pow_succ, Int.mul_assoc])
      refine ⟨o, ?_, ?_⟩
      · refine Ev.step (fun f => by simp only [spec_l07Valuation.l0] <;> rfl) ?_
        refine Ev.bind (l07Most l hp) ?_
        simp only [if_pos (show (j : Int) + 1 ≤ mo l by omega)]
        refine Ev.bind H2 ?_
        simp only [hw]
        refine Ev.bind V2 ?_
        simp only [if_pos hv0, w64 (x := (j : Int) + 1 + 1) (by omega) (by omega)]
        exact I1
      · refine Ev.step (fun f => by simp only [impl_ValuationAt.l0]; rw [if_pos (by omega)] <;> rfl) ?_
        refine Ev.bind H1 (Ev.bind V1 ?_)
        simp only [if_pos hv0, w64 (x := (j : Int) + 1 + 1) (by omega) (by omega)]
        exact I2
    · refine ⟨((j : Int), true), ?_, ?_⟩
      · refine Ev.step (fun f => by simp only [spec_l07Valuation.l0] <;> rfl) ?_
        refine Ev.bind (l07Most l hp) ?_
        simp only [if_pos (show (j : Int) + 1 ≤ mo l by omega)]
        refine Ev.bind H2 ?_
        simp only [hw]
        refine Ev.bind V2 ?_
        simp only [if_neg hv0, show (j : Int) + 1 - 1 = (j : Int) by omega, w64 (x := (j : Int)) (by omega) (by omega)]
        try simp only [if_true]
        exact Ev.now _
      · refine Ev.step (fun f => by simp only [impl_ValuationAt.l0]; rw [if_pos (by omega)] <;> rfl) ?_
        refine Ev.bind H1 (Ev.bind V1 ?_)
        simp only [if_neg hv0, show (j : Int) + 1 - 1 = (j : Int) by omega, w64 (x := (j : Int)) (by omega) (by omega)]
        try simp only [if_true]
        exact Ev.now _
theorem same_out (n : Int) (x : List Int) (l r : Int) (hx : x.length ≤ 1048576) (hb : -9223372036854775808 ≤ l ∧ l ≤ 9223372036854775807) (_ : -9223372036854775808 ≤ r ∧ r ≤ 9223372036854775807) : ∃ o : Int × Int, Ev (fun k => spec_ValuationAt.f k n x l r) o ∧ Ev (fun k => impl_ValuationAt.f k n x l r) o := by
  unfold spec_ValuationAt.f impl_ValuationAt.f
  by_cases h : gcode n x l r = 0
  · obtain ⟨h1, h2⟩ := gcode_iff.mp h
    have hp := (okNL_iff.mp (okP_iff.mp h2).1).2.1
    have hm := mo_bd l hp
    have hc := isC_len h1
    cases hz : x.all (inP 0) with
    | true =>
      refine ⟨(0, 5), Ev.bind (l07Given n x l r hx) ?_, Ev.bind (placeCode n x l r hb.1 hb.2) ?_⟩
      · simp only [if_pos h]
        refine Ev.bind (l07Zero n x h1) ?_
        simp only [hz, if_true]
        exact Ev.now _
      · simp only [if_pos h, impl_isZero.f, areSmall x 0 (by omega) (by omega), Option.bind_some, hz, if_true]
        exact Ev.now _
    | false =>
      obtain ⟨o, I1, I2⟩ := valBoth n x l r h2 (by omega) (mo l).toNat 0 1 (by omega) (by simp)
      refine ⟨if o.2 = true then (o.1, 0) else (0, 3), Ev.bind (l07Given n x l r hx) ?_, Ev.bind (placeCode n x l r hb.1 hb.2) ?_⟩
      · simp only [if_pos h]
        refine Ev.bind (l07Zero n x h1) ?_
        simp only [hz, Bool.false_eq_true, if_false]
        unfold spec_l07Valuation.f
        refine Ev.bind I1 ?_
        cases o.2
        · simp only [Bool.false_eq_true, if_false]
          exact Ev.now _
        · simp only [if_true]
          exact Ev.now _
      · simp only [if_pos h, impl_isZero.f, areSmall x 0 (by omega) (by omega), Option.bind_some, hz, Bool.false_eq_true, if_false]
        exact Ev.bind (mostPower l hp) I2
  · refine ⟨(0, gcode n x l r), ?_, ?_⟩
    · refine Ev.bind (l07Given n x l r hx) ?_
      simp only [if_neg h]
      exact Ev.now _
    · refine Ev.bind (placeCode n x l r hb.1 hb.2) ?_
      simp only [if_neg h]
      exact Ev.now _
theorem FnExactValuationAt : laws_FnExactValuationAt.Pure := by
  intro n l a1 a2 _ hm hw hl1 hl2
  apply Ev.rounds
  have hb1 := wf64 hl1
  have hb2 := wf64 hl2
  have hm2 : l.length ≤ 9223372036854775807 := by simpa [maxLen] using hm
  unfold laws_FnExactValuationAt.f laws_szCyclo.f laws_szInt64S.f
  rw [w64 (by omega) (by omega)]
  by_cases h1 : (1048576 : Int) - (l.length : Int) < 0
  · simp only [if_pos h1, Option.bind_some]
    exact Ev.now _
  simp only [if_neg h1, Option.bind_some]
  have hl : l.length ≤ 1048576 := by omega
  obtain ⟨⟨g, c⟩, hs, hi⟩ := same_out n l a1 a2 hl hb1 hb2
  have at1 := toCyclo n l hl
  refine Ev.bind at1 (Ev.bind hs (Ev.bind at1 (Ev.bind hi ?_)))
  simp only [if_true, bne_self_eq_false]
  refine Ev.step (fun k => by simp only [laws_FnExactValuationAt.j0, Bool.false_eq_true, if_false] <;> rfl) ?_
  refine Ev.bind at1 (Ev.bind (eqCyclo _ _ _ _ hl) ?_)
  simp only [and_self, decide_true, if_true]
  exact Ev.now _
end Go.Proofs.Ytpmbhleenfnchaf.Pure
