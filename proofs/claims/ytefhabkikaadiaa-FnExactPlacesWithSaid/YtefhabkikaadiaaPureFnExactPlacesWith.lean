/- The program's PlacesWith returns what the reference's returns, for all arguments; no condition. -/
import Derived.Test.YtefhabkikaadiaaPFnExactPlacesWithx10
import Derived.OpenShut
namespace Go.Proofs.Ytefhabkikaadiaa.Pure
open Go.RowKit Go.Proofs.Ytefhabkikaadiaa.PFnExactPlacesWith Go.Proofs.YtefhabkikaadiaaW.PrintWords Go.Proofs.YtefhabkikaadiaaW.PrintLast Go.Proofs.YtefhabkikaadiaaW.PrintMore
set_option linter.unusedVariables false
set_option linter.unusedSimpArgs false
theorem w64 {x : Int} (h0 : -9223372036854775808 ≤ x) (h1 : x ≤ 9223372036854775807) : wrap64 x = x := by unfold wrap64; omega
theorem wf64 {x : Int} (h : (Lit.int .i64 x).wf = true) : -9223372036854775808 ≤ x ∧ x ≤ 9223372036854775807 := bounds_i64 h
theorem ev_bind_const {α β : Type} {o : Option α} {a : α} {f : Nat → α → Option β} {r : β} (h : o = some a) (k : Ev (fun n => f n a) r) : Ev (fun n => o.bind (f n)) r := by
  subst h; exact k
theorem toInts_l0 (l : List Int) (hl : l.length ≤ 1048576) : ∀ (d : Nat) (ys : List Int) (i : Nat), d + i = l.length → ys.length = l.length → ys.take i = l.take i → Ev (fun k => laws_toInt64S.l0 k l ys (i : Int)) l := by
  intro d
  induction d with
  | zero =>
    intro ys i hd hy ht
    have : i = l.length := by omega
    subst this
    refine Ev.step (f := fun _ => some l) (fun k => ?_) (Ev.now _)
    simp only [laws_toInt64S.l0]
    rw [if_neg (by omega)]
    rw [List.take_of_length_le (by omega), List.take_of_length_le (by omega)] at ht
    rw [ht]
  | succ d ih =>
    intro ys i hd hy ht
    refine Ev.step (f := fun k => laws_toInt64S.l0 k l (ys.set i (rd l (i : Int))) ((i + 1 : Nat) : Int)) (fun k => ?_) (ih _ _ (by omega) (by simp [hy]) ?_)
    · simp only [laws_toInt64S.l0]
      rw [if_pos (by omega), if_pos (by omega), if_pos (by omega), w64 (by omega) (by omega)]
      rfl
    · have hi : i < l.length := by omega
      rw [List.take_succ_eq_append_getElem (by simpa [hy] using hi), List.take_succ_eq_append_getElem hi, List.take_set_of_le (Nat.le_refl _), ht]
      simp [rd, hi]
theorem toInts (l : List Int) (hl : l.length ≤ 1048576) : Ev (fun k => laws_toInt64S.f k l) l := by
  have h := toInts_l0 l hl l.length (List.replicate l.length 0) 0 (by omega) (by simp) (by simp)
  refine Ev.congr (fun k => ?_) h
  unfold laws_toInt64S.f
  rw [if_pos (by omega), if_pos (by omega)]
  simp
theorem toCyclo (n : Int) (l : List Int) (hl : l.length ≤ 1048576) : Ev (fun k => laws_toCyclo.f k n l) (n, l) :=
  Ev.bind (toInts l hl) (Ev.now _)
theorem eqInts_l0 (l m : List Int) (hl : l.length ≤ 1048576) (hm : m.length = l.length) : ∀ (d i : Nat), d + i = l.length → Ev (fun k => laws_eqInt64S.l0 k l m (i : Int)) (decide (l.drop i = m.drop i)) := by
  intro d
  induction d with
  | zero =>
    intro i hd
    refine Ev.step (f := fun _ => some (decide (l.drop i = m.drop i))) (fun k => ?_) (Ev.now _)
    simp only [laws_eqInt64S.l0]
    rw [if_neg (by omega), List.drop_of_length_le (by omega), List.drop_of_length_le (by omega)]
    simp
  | succ d ih =>
    intro i hd
    have hi : i < l.length := by omega
    have hi2 : i < m.length := by omega
    have e1 : rd l (i : Int) = l[i] := by simp [rd, hi]
    have e2 : rd m (i : Int) = m[i] := by simp [rd, hi2]
    by_cases he : l[i] = m[i]
    · refine Ev.step (f := fun k => laws_eqInt64S.l0 k l m ((i + 1 : Nat) : Int)) (fun k => ?_) ?_
      · simp only [laws_eqInt64S.l0]
        rw [if_pos (by omega), if_pos (by omega), if_pos (by omega), e1, e2, if_pos he, w64 (by omega) (by omega)]
        rfl
      · have e : decide (l.drop i = m.drop i) = decide (l.drop (i + 1) = m.drop (i + 1)) := by
          rw [List.drop_eq_getElem_cons hi, List.drop_eq_getElem_cons hi2]
          simp only [List.cons.injEq, he, true_and]
        rw [e]
        exact ih (i + 1) (by omega)
    · refine Ev.step (f := fun _ => some false) (fun k => ?_) ?_
      · simp only [laws_eqInt64S.l0]
        rw [if_pos (by omega), if_pos (by omega), if_pos (by omega), e1, e2, if_neg he]
      · have e : decide (l.drop i = m.drop i) = false := by
          rw [List.drop_eq_getElem_cons hi, List.drop_eq_getElem_cons hi2]
          simp only [List.cons.injEq, he, false_and, decide_false]
        rw [e]
        exact Ev.now _
theorem eqInts (l m : List Int) (hl : l.length ≤ 1048576) : Ev (fun k => laws_eqInt64S.f k l m) (decide (l = m)) := by
  by_cases h : m.length = l.length
  · have := eqInts_l0 l m hl h l.length 0 (by omega)
    refine Ev.congr (fun k => ?_) (by simpa using this)
    unfold laws_eqInt64S.f
    rw [if_pos (by omega)]
  · have hne : l ≠ m := fun e => h (by rw [e])
    rw [decide_eq_false hne]
    refine Ev.congr (fun k => ?_) (Ev.now _)
    unfold laws_eqInt64S.f
    rw [if_neg (by omega)]
theorem eqCyclo (n n' : Int) (l l' : List Int) (hl : l.length ≤ 1048576) : Ev (fun k => laws_eqCyclo.f k n l n' l') (decide (n = n' ∧ l = l')) := by
  unfold laws_eqCyclo.f
  by_cases h : n = n'
  · simp only [if_pos h]
    refine Ev.bind (eqInts l l' hl) ?_
    by_cases h2 : l = l' <;> simp [h, h2] <;> exact Ev.now _
  · simp only [if_neg h]
    simp [h]
    exact Ev.now _
def phi (n : Int) : Int := [0, 1, 1, 2, 2, 4, 2, 6, 4, 6, 4, 10, 4, 12, 6, 8, 8].getD n.toNat 0
theorem orders {P : Int → Prop} (h : ∀ m : Nat, m < 17 → 1 ≤ m → P m) (n : Int) (h0 : 1 ≤ n) (h1 : n ≤ 16) : P n := by
  have := h n.toNat (by omega) (by omega)
  rwa [Int.toNat_of_nonneg (by omega)] at this
theorem phi_spec (n : Int) (h0 : 1 ≤ n) (h1 : n ≤ 16) : Ev (fun k => spec_l01Phi.f k n) (phi n) := by
  have key : ∀ m : Nat, m < 17 → 1 ≤ m → spec_l01Phi.f 60 (m : Int) = some (phi m) := by decide +kernel
  exact Ev.of (spec_l01Phi.mono n) (orders (P := fun n => spec_l01Phi.f 60 n = some (phi n)) key n h0 h1)
theorem phi_impl (n : Int) (h0 : 1 ≤ n) (h1 : n ≤ 16) : Ev (fun k => impl_totient.f k n) (phi n) := by
  have key : ∀ m : Nat, m < 17 → 1 ≤ m → impl_totient.f 60 (m : Int) = some (phi m) := by decide +kernel
  exact Ev.of (impl_totient.mono n) (orders (P := fun n => impl_totient.f 60 n = some (phi n)) key n h0 h1)
theorem l01In (a b c : Int) : spec_l01In.f a b c = some (decide (b ≤ a) && decide (a ≤ c)) := by
  unfold spec_l01In.f
  by_cases h : a ≥ b
  · rw [if_pos h]; simp [h]
  · rw [if_neg h]; simp [h]
theorem within_ (a b c : Int) : impl_within.f a b c = some (decide (b ≤ a) && decide (a ≤ c)) := by
  unfold impl_within.f
  by_cases h : b ≤ a
  · rw [if_pos h]; simp [h]
  · rw [if_neg h]; simp [h]
def inP (m : Int) (x : Int) : Bool := decide (-m ≤ x) && decide (x ≤ m)
theorem fits_l0 (n : Int) (l : List Int) (hl : l.length ≤ 1048576) : ∀ (d i : Nat), d + i = l.length → Ev (fun k => spec_l01Fits.l0 k (i : Int) n l) ((l.drop i).all (inP 1000000000)) := by
  intro d
  induction d with
  | zero =>
    intro i hd
    refine Ev.step (f := fun _ => some ((l.drop i).all (inP 1000000000))) (fun k => ?_) (Ev.now _)
    simp only [spec_l01Fits.l0]
    rw [if_neg (by omega), List.drop_of_length_le (by omega)]
    rfl
  | succ d ih =>
    intro i hd
    have hi : i < l.length := by omega
    have e1 : rd l (i : Int) = l[i] := by simp [rd, hi]
    rw [List.drop_eq_getElem_cons hi, List.all_cons]
    cases hp : inP 1000000000 l[i] with
    | true =>
      refine Ev.step (f := fun k => spec_l01Fits.l0 k ((i + 1 : Nat) : Int) n l) (fun k => ?_) (by simpa using ih (i + 1) (by omega))
      simp only [spec_l01Fits.l0]
      rw [if_pos (by omega), if_pos (by omega), e1, l01In, Option.bind_some, if_pos (by simpa [inP] using hp), w64 (by omega) (by omega)]
      rfl
    | false =>
      refine Ev.step (f := fun _ => some false) (fun k => ?_) (by simpa using Ev.now _)
      simp only [spec_l01Fits.l0]
      rw [if_pos (by omega), if_pos (by omega), e1, l01In, Option.bind_some, if_neg (by simp [inP] at hp ⊢; omega)]
theorem fits01 (n : Int) (l : List Int) (hl : l.length ≤ 1048576) : Ev (fun k => spec_l01Fits.f k n l) (l.all (inP 1000000000)) := by
  have := fits_l0 n l hl l.length 0 (by omega)
  unfold spec_l01Fits.f
  simpa using this
theorem areSmall (l : List Int) (m : Int) (h0 : 0 ≤ m) (h1 : m ≤ 9223372036854775807) : impl_areSmall.f l m = some (l.all (inP m)) := by
  unfold impl_areSmall.f
  rw [w64 (by omega) (by omega)]
  rfl
def isC (n : Int) (l : List Int) : Bool := decide (1 ≤ n) && decide (n ≤ 16) && decide ((l.length : Int) = phi n) && l.all (inP 1000000000)
theorem l01Is (n : Int) (l : List Int) (hl : l.length ≤ 1048576) : Ev (fun k => spec_l01Is.f k n l) (isC n l) := by
  unfold spec_l01Is.f
  refine ev_bind_const (l01In _ _ _) ?_
  by_cases h : 1 ≤ n ∧ n ≤ 16
  · rw [show (decide (1 ≤ n) && decide (n ≤ 16)) = true by simp [h]]
    simp only [if_true]
    refine Ev.bind (phi_spec n h.1 h.2) ?_
    by_cases h2 : (l.length : Int) = phi n
    · simp only [if_pos h2]
      refine Ev.bind (fits01 n l hl) ?_
      have : isC n l = l.all (inP 1000000000) := by simp [isC, h, h2]
      rw [this]
      exact Ev.now _
    · simp only [if_neg h2]
      have : isC n l = false := by simp [isC, h, h2]
      rw [this]
      exact Ev.now _
  · have e : (decide (1 ≤ n) && decide (n ≤ 16)) = false := by simp; omega
    rw [e]
    have : isC n l = false := by simp [isC, e]
    rw [this]
    exact Ev.now _
theorem isCyclo (n : Int) (l : List Int) : Ev (fun k => impl_IsCyclo.f k n l) (isC n l) := by
  unfold impl_IsCyclo.f impl_isOrder.f
  refine ev_bind_const (a := decide (1 ≤ n) && decide (n ≤ 16)) (by rw [within_]; rfl) ?_
  by_cases h : 1 ≤ n ∧ n ≤ 16
  · rw [show (decide (1 ≤ n) && decide (n ≤ 16)) = true by simp [h]]
    simp only [if_true]
    refine Ev.bind (phi_impl n h.1 h.2) ?_
    by_cases h2 : (l.length : Int) = phi n
    · simp only [if_pos h2]
      have : isC n l = l.all (inP 1000000000) := by simp [isC, h, h2]
      rw [this, areSmall _ _ (by omega) (by omega)]
      exact Ev.now _
    · simp only [if_neg h2]
      have : isC n l = false := by simp [isC, h, h2]
      rw [this]
      exact Ev.now _
  · have e : (decide (1 ≤ n) && decide (n ≤ 16)) = false := by simp; omega
    rw [e]
    have : isC n l = false := by simp [isC, e]
    rw [this]
    exact Ev.now _
def upTo (a : Int) (n : Nat) : List Int := (List.range n).map fun (j : Nat) => a + (j : Int)
theorem upTo_cons (a : Int) (n : Nat) : upTo a (n + 1) = a :: upTo (a + 1) n := by
  unfold upTo
  rw [List.range_succ_eq_map, List.map_cons, List.map_map]
  congr 1
  · simp
  · apply List.map_congr_left
    intro j _
    simp only [Function.comp, Nat.succ_eq_add_one]
    omega
theorem mem_upTo {a x : Int} {n : Nat} : x ∈ upTo a n ↔ a ≤ x ∧ x < a + n := by
  simp only [upTo, List.mem_map, List.mem_range]
  constructor
  · rintro ⟨j, hj, rfl⟩; omega
  · intro h; exact ⟨(x - a).toNat, by omega, by omega⟩
theorem upTo_len (a : Int) (n : Nat) : (upTo a n).length = n := by simp [upTo]
theorem upTo_get (a : Int) (n i : Nat) (hi : i < n) : (upTo a n)[i]'(by rw [upTo_len]; exact hi) = a + (i : Int) := by simp [upTo]
theorem upTo_snoc (a : Int) (n : Nat) : upTo a (n + 1) = upTo a n ++ [a + (n : Int)] := by
  unfold upTo
  rw [List.range_succ, List.map_append]
  rfl
theorem markInts_l0 : ∀ (d i : Nat) (ys : List Int), d + i = ys.length → ys.length ≤ 1048576 → ys.take i = upTo 1 i → Ev (fun k => laws_markInt64S.l0 k ys (1 + (i : Int)) (i : Int)) (1 + (ys.length : Int), upTo 1 ys.length) := by
  intro d
  induction d with
  | zero =>
    intro i ys hd hl ht
    obtain rfl : i = ys.length := by omega
    refine Ev.step (fun k => by simp only [laws_markInt64S.l0]; rw [if_neg (by omega)] <;> rfl) ?_
    rw [List.take_length] at ht
    rw [← ht]
    exact Ev.now _
  | succ d ih =>
    intro i ys hd hl ht
    have hi : i < ys.length := by omega
    have := ih (i + 1) (ys.set i (1 + (i : Int))) (by simp; omega) (by simpa using hl) (by
      rw [List.take_succ_eq_append_getElem (by simpa using hi), List.take_set_of_le (Nat.le_refl _), ht, upTo_snoc]
      simp)
    refine Ev.step (fun k => ?_) (by simpa using this)
    simp only [laws_markInt64S.l0]
    rw [if_pos (by omega), if_pos (by omega), w64 (x := 1 + (i : Int) + 1) (by omega) (by omega), w64 (x := (i : Int) + 1) (by omega) (by omega), show 1 + (i : Int) + 1 = 1 + ((i : Int) + 1) by omega]
    rfl
theorem markInts (l : List Int) (hl : l.length ≤ 1048576) : Ev (fun k => laws_markInt64S.f k l 1) (1 + (l.length : Int), upTo 1 l.length) := by
  have := markInts_l0 l.length 0 l (by omega) hl (by simp [upTo])
  unfold laws_markInt64S.f
  simpa using this
theorem heldInts_l0 (n : Nat) (hn : n ≤ 1048576) : ∀ (d i : Nat), d + i = n → Ev (fun k => laws_heldInt64S.l0 k (upTo 1 n) (1 + (i : Int)) (i : Int)) (1 + (n : Int)) := by
  intro d
  induction d with
  | zero =>
    intro i hd
    obtain rfl : i = n := by omega
    exact Ev.step (fun k => by simp only [laws_heldInt64S.l0]; rw [if_neg (by rw [upTo_len]; omega)] <;> rfl) (Ev.now _)
  | succ d ih =>
    intro i hd
    have hi : i < (upTo 1 n).length := by rw [upTo_len]; omega
    have e1 : rd (upTo 1 n) (i : Int) = 1 + (i : Int) := by
      have := upTo_get 1 n i (by omega)
      simp only [rd, Int.toNat_natCast, List.getD_eq_getElem?_getD, List.getElem?_eq_getElem hi, Option.getD_some, this]
    refine Ev.step (fun k => ?_) (ih (i + 1) (by omega))
    simp only [laws_heldInt64S.l0]
    rw [if_pos (by omega), if_pos (by omega), if_pos e1, w64 (x := 1 + (i : Int) + 1) (by omega) (by omega), w64 (x := (i : Int) + 1) (by omega) (by omega), show 1 + (i : Int) + 1 = 1 + ((i : Int) + 1) by omega]
    rfl
theorem heldInts (n : Nat) (hn : n ≤ 1048576) : Ev (fun k => laws_heldInt64S.f k (upTo 1 n) 1) (1 + (n : Int)) := by
  have := heldInts_l0 n hn n 0 (by omega)
  unfold laws_heldInt64S.f
  simpa using this
theorem markCyclo (n : Int) (l : List Int) (hl : l.length ≤ 1048576) : Ev (fun k => laws_markCyclo.f k n l 1) (1 + (l.length : Int), upTo 1 l.length) := Ev.bind (markInts l hl) (Ev.now _)
def prs : List Int := [3, 5, 7, 11, 13, 17, 19, 23, 29, 31, 37, 41, 43, 47, 53, 59, 61]
def pr (l : Int) : Bool := prs.contains l
theorem pr_iff {l : Int} : pr l = true ↔ l ∈ prs := by unfold pr; exact List.contains_iff_mem
theorem pr_bd {l : Int} (h : pr l = true) : 3 ≤ l ∧ l ≤ 61 := by
  rw [pr_iff] at h
  simp only [prs, List.mem_cons, List.not_mem_nil, or_false] at h
  omega
theorem upto61 {P : Int → Prop} (h : ∀ m : Nat, m < 62 → P m) (n : Int) (h0 : 0 ≤ n) (h1 : n ≤ 61) : P n := by
  have := h n.toNat (by omega)
  rwa [Int.toNat_of_nonneg (by omega)] at this
theorem isPrime_big (p : Int) (h0 : 61 < p) (h1 : p ≤ 9223372036854775807) : ∀ (n : Nat) (d : Int), 2 ≤ d → d ≤ p → (p - d).toNat = n → Ev (fun k => impl_isPrime.l0 k p d) false := by
  intro n
  induction n with
  | zero =>
    intro d hd hp hn
    have : d = p := by omega
    subst this
    refine Ev.step (f := fun _ => some false) (fun k => ?_) (Ev.now _)
    simp only [impl_isPrime.l0]
    by_cases c : wrap64 (d * d) ≤ d
    · rw [if_pos c, if_neg (by omega), if_pos (Int.tmod_self)]
    · rw [if_neg c, within_, Option.bind_some]
      simp
      omega
  | succ n ih =>
    intro d hd hp hn
    by_cases c : wrap64 (d * d) ≤ p
    · by_cases c2 : Int.tmod p d = 0
      · refine Ev.step (f := fun _ => some false) (fun k => ?_) (Ev.now _)
        simp only [impl_isPrime.l0]
        rw [if_pos c, if_neg (by omega), if_pos c2]
      · refine Ev.step (fun k => ?_) (ih (d + 1) (by omega) (by omega) (by omega))
        simp only [impl_isPrime.l0]
        rw [if_pos c, if_neg (by omega), if_neg c2, w64 (by omega) (by omega)]
    · refine Ev.step (f := fun _ => some false) (fun k => ?_) (Ev.now _)
      simp only [impl_isPrime.l0]
      rw [if_neg c, within_, Option.bind_some]
      simp
      omega
theorem isPrime (p : Int) (h0 : -9223372036854775808 ≤ p) (h1 : p ≤ 9223372036854775807) : Ev (fun k => impl_isPrime.f k p) (pr p) := by
  by_cases c : 61 < p
  · have e : pr p = false := by
      cases h : pr p with
      | false => rfl
      | true => have := pr_bd h; omega
    rw [e]
    exact isPrime_big p c h1 _ 2 (by omega) (by omega) rfl
  · by_cases c2 : 0 ≤ p
    · have key : ∀ m : Nat, m < 62 → impl_isPrime.f 20 (m : Int) = some (pr m) := by decide +kernel
      exact Ev.of (impl_isPrime.mono p) (upto61 (P := fun p => impl_isPrime.f 20 p = some (pr p)) key p c2 (by omega))
    · have e : pr p = false := by
        cases h : pr p with
        | false => rfl
        | true => have := pr_bd h; omega
      rw [e]
      refine Ev.step (f := fun _ => some false) (fun k => ?_) (Ev.now _)
      simp only [impl_isPrime.f, impl_isPrime.l0]
      rw [if_neg (by rw [w64 (x := 2 * 2) (by omega) (by omega)]; omega), within_, Option.bind_some]
      simp
      omega
theorem l03Prime (p : Int) : Ev (fun k => spec_l03Prime.f k p) (pr p) := by
  by_cases c : 3 ≤ p ∧ p ≤ 61
  · have key : ∀ m : Nat, m < 62 → spec_l03Prime.f 20 (m : Int) = some (pr m) := by decide +kernel
    exact Ev.of (spec_l03Prime.mono p) (upto61 (P := fun p => spec_l03Prime.f 20 p = some (pr p)) key p (by omega) c.2)
  · have e : pr p = false := by
      cases h : pr p with
      | false => rfl
      | true => have := pr_bd h; omega
    rw [e]
    unfold spec_l03Prime.f
    refine ev_bind_const (l01In _ _ _) ?_
    rw [show (decide (3 ≤ p) && decide (p ≤ 61)) = false by simp; omega]
    exact Ev.now _
def cyc (n : Int) : List Int := [[], [-1, 1], [1, 1], [1, 1, 1], [1, 0, 1], [1, 1, 1, 1, 1], [1, -1, 1], [1, 1, 1, 1, 1, 1, 1], [1, 0, 0, 0, 1], [1, 0, 0, 1, 0, 0, 1], [1, -1, 1, -1, 1], [1, 1, 1, 1, 1, 1, 1, 1, 1, 1, 1], [1, 0, -1, 0, 1], [1, 1, 1, 1, 1, 1, 1, 1, 1, 1, 1, 1, 1], [1, -1, 1, -1, 1, -1, 1], [1, -1, 0, 1, -1, 1, 0, -1, 1], [1, 0, 0, 0, 0, 0, 0, 0, 1]].getD n.toNat []
theorem cyc_impl (n : Int) (h0 : 1 ≤ n) (h1 : n ≤ 16) : Ev (fun k => impl_cyclotomic.f k n) (cyc n) := by
  have key : ∀ m : Nat, m < 17 → 1 ≤ m → impl_cyclotomic.f 400 (m : Int) = some (cyc m) := by decide +kernel
  exact Ev.of (impl_cyclotomic.mono n) (orders (P := fun n => impl_cyclotomic.f 400 n = some (cyc n)) key n h0 h1)
theorem cyc_spec (n : Int) (h0 : 1 ≤ n) (h1 : n ≤ 16) : Ev (fun k => spec_l01Cyclotomic.f k n) (cyc n) := by
  have key : ∀ m : Nat, m < 17 → 1 ≤ m → spec_l01Cyclotomic.f 400 (m : Int) = some (cyc m) := by decide +kernel
  exact Ev.of (spec_l01Cyclotomic.mono n) (orders (P := fun n => spec_l01Cyclotomic.f 400 n = some (cyc n)) key n h0 h1)
theorem cyc_small (n : Int) (h0 : 1 ≤ n) (h1 : n ≤ 16) : (cyc n).length ≤ 13 ∧ ∀ c ∈ cyc n, -1000000000 ≤ c ∧ c ≤ 1000000000 :=
  orders (P := fun n => (cyc n).length ≤ 13 ∧ ∀ c ∈ cyc n, -1000000000 ≤ c ∧ c ≤ 1000000000) (by decide +kernel) n h0 h1
def hv (cs : List Int) (r q : Int) : Int := cs.foldr (fun c out => (out * r + c) % q) 0
theorem hv_bd (cs : List Int) (r q : Int) (hq : 0 < q) : 0 ≤ hv cs r q ∧ hv cs r q < q := by
  cases cs with
  | nil => exact ⟨Int.le_refl 0, hq⟩
  | cons c cs => exact ⟨Int.emod_nonneg _ (by omega), Int.emod_lt_of_pos _ hq⟩
theorem hv_step (cs : List Int) (i : Nat) (hi : i < cs.length) (r q : Int) : hv (cs.drop i) r q = (hv (cs.drop (i + 1)) r q * r + cs[i]) % q := by
  rw [List.drop_eq_getElem_cons hi]
  rfl
theorem tmod_bd (c q : Int) (hq : 0 < q) : -q < Int.tmod c q ∧ Int.tmod c q < q := by
  have h1 := Int.tmod_lt_of_pos c hq
  have h2 := Int.lt_tmod_of_pos c hq
  omega
theorem tmod_emod (c q : Int) (hq : 0 < q) : (Int.tmod c q) % q = c % q := by
  rw [Int.tmod_eq_emod]
  split <;> simp
  rw [Int.sub_emod]
  simp [Int.natAbs_of_nonneg (Int.le_of_lt hq)]
theorem vstep (o r c q : Int) (hq : 0 < q) (hq2 : q ≤ 1000000000) (ho : 0 ≤ o ∧ o < q) (hr : 0 ≤ r ∧ r ≤ 1000000000) :
    wrap64 (wrap64 (o * r) + Int.tmod c q) = o * r + Int.tmod c q ∧ Int.tmod (wrap64 (Int.tmod (o * r + Int.tmod c q) q + q)) q = (o * r + c) % q ∧ Int.tmod (wrap64 (o * r + Int.tmod c q + q)) q = (o * r + c) % q := by
  have b1 := tmod_bd c q hq
  have b2 : 0 ≤ o * r ∧ o * r ≤ 1000000000 * 1000000000 := by
    refine ⟨Int.mul_nonneg ho.1 hr.1, Int.mul_le_mul (by omega) hr.2 hr.1 (by omega)⟩
  have b3 := tmod_bd (o * r + Int.tmod c q) q hq
  refine ⟨by rw [w64 (x := o * r) (by omega) (by omega), w64 (by omega) (by omega)], ?_, ?_⟩
  · rw [w64 (by omega) (by omega), Int.tmod_eq_emod_of_nonneg (by omega), Int.add_emod_right, tmod_emod _ _ hq, Int.add_emod, tmod_emod c q hq, ← Int.add_emod]
  · rw [w64 (by omega) (by omega), Int.tmod_eq_emod_of_nonneg (by omega), Int.add_emod_right, Int.add_emod, tmod_emod c q hq, ← Int.add_emod]
theorem valueAt_l0 (cs : List Int) (hl : cs.length ≤ 1000) (r q : Int) (hq : 0 < q) (hq2 : q ≤ 1000000000) (hr : 0 ≤ r ∧ r ≤ 1000000000) : ∀ (i : Nat), i ≤ cs.length → Ev (fun k => impl_valueAt.l0 k cs r q (hv (cs.drop i) r q) ((i : Int) - 1)) (hv cs r q) := by
  intro i
  induction i with
  | zero =>
    intro hi
    refine Ev.step (f := fun _ => some (hv cs r q)) (fun k => ?_) (Ev.now _)
    simp only [impl_valueAt.l0]
    rw [if_neg (by omega), List.drop_zero]
  | succ i ih =>
    intro hi
    have hlt : i < cs.length := by omega
    have e1 : rd cs (i : Int) = cs[i] := by simp [rd, hlt]
    have hv2 := vstep (hv (cs.drop (i + 1)) r q) r cs[i] q hq hq2 (hv_bd _ _ _ hq) hr
    refine Ev.step (fun k => ?_) (ih (by omega))
    simp only [impl_valueAt.l0]
    rw [show ((i + 1 : Nat) : Int) - 1 = i by omega, if_pos (by omega), if_pos (by omega), if_pos (by omega), if_neg (by omega), e1, w64 (x := (i : Int) - 1) (by omega) (by omega), hv2.1]
    simp only [impl_around.f]
    rw [if_neg (by omega), hv2.2.1, Option.bind_some, hv_step cs i hlt]
theorem valueAt (cs : List Int) (hl : cs.length ≤ 1000) (r q : Int) (hq : 0 < q) (hq2 : q ≤ 1000000000) (hr : 0 ≤ r ∧ r ≤ 1000000000) : Ev (fun k => impl_valueAt.f k cs r q) (hv cs r q) := by
  have := valueAt_l0 cs hl r q hq hq2 hr cs.length (by omega)
  rw [List.drop_of_length_le (by omega)] at this
  unfold impl_valueAt.f
  rw [w64 (by omega) (by omega)]
  exact this
theorem l07Value_l0 (cs : List Int) (hl : cs.length ≤ 1000) (r q : Int) (hq : 0 < q) (hq2 : q ≤ 1000000000) (hr : 0 ≤ r ∧ r ≤ 1000000000) : ∀ (i : Nat), i ≤ cs.length → Ev (fun k => spec_l07Value.l0 k cs r q (hv (cs.drop i) r q) ((i : Int) - 1)) (hv cs r q) := by
  intro i
  induction i with
  | zero =>
    intro hi
    refine Ev.step (f := fun _ => some (hv cs r q)) (fun k => ?_) (Ev.now _)
    simp only [spec_l07Value.l0]
    rw [if_neg (by omega), List.drop_zero]
  | succ i ih =>
    intro hi
    have hlt : i < cs.length := by omega
    have e1 : rd cs (i : Int) = cs[i] := by simp [rd, hlt]
    have hv2 := vstep (hv (cs.drop (i + 1)) r q) r cs[i] q hq hq2 (hv_bd _ _ _ hq) hr
    refine Ev.step (fun k => ?_) (ih (by omega))
    simp only [spec_l07Value.l0]
    rw [show ((i + 1 : Nat) : Int) - 1 = i by omega, if_pos (by omega), if_pos (by omega), if_pos (by omega), if_neg (by omega), e1, w64 (x := (i : Int) - 1) (by omega) (by omega), hv2.1, hv2.2.2, hv_step cs i hlt]
theorem l07Value (cs : List Int) (hl : cs.length ≤ 1000) (r q : Int) (hq : 0 < q) (hq2 : q ≤ 1000000000) (hr : 0 ≤ r ∧ r ≤ 1000000000) : Ev (fun k => spec_l07Value.f k cs r q) (hv cs r q) := by
  have := l07Value_l0 cs hl r q hq hq2 hr cs.length (by omega)
  rw [List.drop_of_length_le (by omega)] at this
  unfold spec_l07Value.f
  rw [w64 (by omega) (by omega)]
  exact this
def fully (n l : Int) : Bool := decide (n % l ≠ 0) && decide ((l - 1) % n = 0)
def okNL (n l : Int) : Bool := (decide (1 ≤ n) && decide (n ≤ 16)) && pr l && fully n l
theorem okNL_iff {n l : Int} : okNL n l = true ↔ (1 ≤ n ∧ n ≤ 16) ∧ pr l = true ∧ fully n l = true := by
  simp only [okNL, Bool.and_eq_true, decide_eq_true_eq, and_assoc]
theorem l07Fully (n l : Int) (hn : 1 ≤ n ∧ n ≤ 16) (hl : pr l = true) : spec_l07Fully.f n l = some (fully n l) := by
  have := pr_bd hl
  unfold spec_l07Fully.f
  rw [if_neg (show ¬ l = 0 by omega), Int.tmod_eq_emod_of_nonneg (show 0 ≤ n by omega)]
  by_cases h : n % l = 0
  · rw [if_pos h]
    simp [fully, h]
  · rw [if_neg h, if_neg (show ¬ n = 0 by omega), w64 (by omega) (by omega), Int.tmod_eq_emod_of_nonneg (by omega)]
    by_cases h2 : (l - 1) % n = 0 <;> simp [fully, h, h2]
theorem splits07 (n l : Int) (hn : 1 ≤ n ∧ n ≤ 16) (hl : pr l = true) : Ev (fun k => impl_splits.f k n l) (fully n l) := by
  have key : ∀ l ∈ prs, ∀ m : Nat, m < 17 → 1 ≤ m → impl_splits.f 100 (m : Int) l = some (fully m l) := by decide +kernel
  exact Ev.of (impl_splits.mono n l) (orders (P := fun n => impl_splits.f 100 n l = some (fully n l)) (key l (pr_iff.mp hl)) n hn.1 hn.2)
theorem l07Code (n l : Int) : Ev (fun k => spec_l07Code.f k n l) (if (decide (1 ≤ n) && decide (n ≤ 16)) && pr l then 0 else 2) := by
  unfold spec_l07Code.f
  refine ev_bind_const (l01In _ _ _) ?_
  cases h : (decide (1 ≤ n) && decide (n ≤ 16)) with
  | false => exact Ev.now _
  | true =>
    simp only [if_true, Bool.true_and]
    refine Ev.bind (l03Prime l) ?_
    cases pr l <;> exact Ev.now _
def roots (n l : Int) : List Int := (upTo 1 (l - 1).toNat).filter fun r => hv (cyc n) r l == 0
theorem mem_roots {n l r : Int} (hl : 1 ≤ l) : r ∈ roots n l ↔ (1 ≤ r ∧ r ≤ l - 1) ∧ hv (cyc n) r l = 0 := by
  unfold roots
  rw [List.mem_filter, mem_upTo, beq_iff_eq]
  constructor
  · rintro ⟨h1, h2⟩; exact ⟨by omega, h2⟩
  · rintro ⟨h1, h2⟩; exact ⟨by omega, h2⟩
theorem rootsFor_l0 (cs : List Int) (hc : cs.length ≤ 1000) (l : Int) (hl : 3 ≤ l ∧ l ≤ 61) : ∀ (d : Nat) (i : Int) (acc : List Int), (d : Int) + i = l → 1 ≤ i → (acc.length : Int) ≤ i → Ev (fun k => impl_rootsFor.l0 k l acc cs i) (acc ++ (upTo i d).filter (fun r => hv cs r l == 0), true) := by
  intro d
  induction d with
  | zero =>
    intro i acc hd hi ha
    refine Ev.step (fun k => by simp only [impl_rootsFor.l0]; rw [if_neg (by omega)]) ?_
    simpa [upTo] using Ev.now _
  | succ d ih =>
    intro i acc hd hi ha
    refine Ev.step (fun k => by simp only [impl_rootsFor.l0]; rw [if_pos (by omega), w64 (x := i + 1) (by omega) (by omega)]) ?_
    refine Ev.bind (valueAt cs hc i l (by omega) (by omega) (by omega)) ?_
    rw [upTo_cons, List.filter_cons]
    by_cases h : hv cs i l = 0
    · have h2 : (hv cs i l == 0) = true := by rw [h]; rfl
      simp only [if_pos h, h2, if_true]
      have := ih (i + 1) (acc ++ [i]) (by omega) (by omega) (by simp; omega)
      rw [List.append_assoc, List.singleton_append] at this
      simp only [if_pos (show acc.length < 17592186044416 by omega)]
      exact this
    · have h2 : (hv cs i l == 0) = false := by rw [beq_eq_false_iff_ne]; exact h
      simp only [if_neg h, h2, Bool.false_eq_true, if_false]
      exact ih (i + 1) acc (by omega) (by omega) (by omega)
theorem rootsFor (n l : Int) (h0 : -9223372036854775808 ≤ l) (h1 : l ≤ 9223372036854775807) : Ev (fun k => impl_rootsFor.f k n l) (if okNL n l then (roots n l, true) else ([], false)) := by
  unfold impl_rootsFor.f impl_isOrder.f
  refine ev_bind_const (a := decide (1 ≤ n) && decide (n ≤ 16)) (by rw [within_]; rfl) ?_
  have no : Ev (fun k => impl_rootsFor.j0 k n l true) (([] : List Int), false) := Ev.step (fun k => by simp only [impl_rootsFor.j0, if_true] <;> rfl) (Ev.now _)
  cases h : (decide (1 ≤ n) && decide (n ≤ 16)) with
  | false => simpa [okNL, h] using no
  | true =>
    have hn : 1 ≤ n ∧ n ≤ 16 := by simpa using h
    simp only [if_true]
    refine Ev.bind (isPrime l h0 h1) ?_
    cases hp : pr l with
    | false => simpa [okNL, h, hp] using no
    | true =>
      have hb := pr_bd hp
      simp only [if_true]
      refine Ev.bind (splits07 n l hn hp) ?_
      cases hs : fully n l with
      | false => simpa [okNL, h, hp, hs] using no
      | true =>
        have e : okNL n l = true := by simp [okNL, h, hp, hs]
        simp only [e, if_true]
        refine Ev.step (fun k => by simp only [impl_rootsFor.j0, Bool.not_true, Bool.false_eq_true, if_false]; rfl) ?_
        refine Ev.bind (cyc_impl n hn.1 hn.2) ?_
        have := rootsFor_l0 (cyc n) (by have := (cyc_small n hn.1 hn.2).1; omega) l hb (l - 1).toNat 1 [] (by omega) (by omega) (by simp)
        simpa [roots] using this
theorem roots_len (n l : Int) (hl : l ≤ 61) : (roots n l).length ≤ 60 := by
  unfold roots
  refine Nat.le_trans (List.length_filter_le _ _) ?_
  simp [upTo]
  omega
theorem phi_small (n : Int) (h0 : 1 ≤ n) (h1 : n ≤ 16) : 1 ≤ phi n ∧ phi n ≤ 12 := orders (P := fun n => 1 ≤ phi n ∧ phi n ≤ 12) (by decide +kernel) n h0 h1
theorem isC_len {n : Int} {x : List Int} (h : isC n x = true) : (1 ≤ n ∧ n ≤ 16) ∧ (x.length : Int) = phi n ∧ x.length ≤ 12 ∧ 1 ≤ x.length := by
  simp only [isC, Bool.and_eq_true, decide_eq_true_eq] at h
  have := phi_small n h.1.1.1 h.1.1.2
  exact ⟨h.1.1, h.1.2, by omega, by omega⟩
def acc : List Int → List Int → List Int → List Int
  | many, t :: ts, e :: es => acc (if e ≥ 0 then many.set e.toNat (wrap64 (rd many e + t)) else many) ts es
  | many, _, _ => many
theorem l07Roots_l0 (cs : List Int) (hc : cs.length ≤ 1000) (l : Int) (hl : 3 ≤ l ∧ l ≤ 61) : ∀ (d : Nat) (i : Int) (acc : List Int), (d : Int) + i = l → 1 ≤ i → (acc.length : Int) ≤ i → Ev (fun k => spec_l07Roots.l0 k l acc cs i) (acc ++ (upTo i d).filter (fun r => hv cs r l == 0)) := by
  intro d
  induction d with
  | zero =>
    intro i acc hd hi ha
    refine Ev.step (fun k => by simp only [spec_l07Roots.l0]; rw [if_neg (by omega)]) ?_
    simpa [upTo] using Ev.now _
  | succ d ih =>
    intro i acc hd hi ha
    refine Ev.step (fun k => by simp only [spec_l07Roots.l0]; rw [if_pos (by omega), w64 (x := i + 1) (by omega) (by omega)]) ?_
    refine Ev.bind (l07Value cs hc i l (by omega) (by omega) (by omega)) ?_
    rw [upTo_cons, List.filter_cons]
    by_cases h : hv cs i l = 0
    · have h2 : (hv cs i l == 0) = true := by rw [h]; rfl
      simp only [if_pos h, h2, if_true]
      have := ih (i + 1) (acc ++ [i]) (by omega) (by omega) (by simp; omega)
      rw [List.append_assoc, List.singleton_append] at this
      simp only [if_pos (show acc.length < 17592186044416 by omega)]
      exact this
    · have h2 : (hv cs i l == 0) = false := by rw [beq_eq_false_iff_ne]; exact h
      simp only [if_neg h, h2, Bool.false_eq_true, if_false]
      exact ih (i + 1) acc (by omega) (by omega) (by omega)
theorem l07Roots (n l : Int) (hn : 1 ≤ n ∧ n ≤ 16) (hl : 3 ≤ l ∧ l ≤ 61) : Ev (fun k => spec_l07Roots.f k n l) (roots n l) := by
  unfold spec_l07Roots.f
  refine Ev.bind (cyc_spec n hn.1 hn.2) ?_
  have := l07Roots_l0 (cyc n) (by have := (cyc_small n hn.1 hn.2).1; omega) l hl (l - 1).toNat 1 [] (by omega) (by omega) (by simp)
  simpa [roots] using this
theorem roots_some (n l : Int) (h : okNL n l = true) : 0 < (roots n l).length := by
  have key : ∀ l ∈ prs, ∀ m : Nat, m < 17 → 1 ≤ m → okNL (m : Int) l = true → 0 < (roots (m : Int) l).length := by decide +kernel
  have h2 := okNL_iff.mp h
  exact orders (P := fun n => okNL n l = true → 0 < (roots n l).length) (key l (pr_iff.mp h2.2.1)) n h2.1.1 h2.1.2 h
theorem hpw_ev (x : List Int) (hx : x.length ≤ 1000) (l : Int) (hl : 3 ≤ l ∧ l ≤ 61) : ∀ rs : List Int, (∀ r ∈ rs, 0 ≤ r ∧ r ≤ 1000) → Ev (fun k => hpw_f k x l rs) (rs.filter fun r => hv x r l == 0)
  | [], _ => Ev.now _
  | r :: rs, h => by
    have hr := h r (by simp)
    unfold hpw_f
    refine Ev.bind (valueAt x hx r l (by omega) (by omega) (by omega)) (Ev.bind (hpw_ev x hx l hl rs fun s hs => h s (List.mem_cons_of_mem _ hs)) ?_)
    rw [List.filter_cons]
    by_cases c : hv x r l = 0
    · simp only [c, if_true, beq_self_eq_true]
      exact Ev.now _
    · simp only [if_neg c, show (hv x r l == 0) = false from beq_eq_false_iff_ne.mpr c, Bool.false_eq_true, if_false]
      exact Ev.now _
def out (n : Int) (x : List Int) (l : Int) : List Int × Int := if isC n x then (if okNL n l then ((roots n l).filter fun r => hv x r l == 0, 0) else ([], 2)) else ([], 1)
theorem roots_bd {n l : Int} (hl : 3 ≤ l ∧ l ≤ 61) : ∀ r ∈ roots n l, 0 ≤ r ∧ r ≤ 1000 := fun r hr => by
  have := ((mem_roots (n := n) (l := l) (r := r) (by omega)).mp hr).1
  omega
theorem impl_out (n : Int) (x : List Int) (l : Int) (h0 : -9223372036854775808 ≤ l) (h1 : l ≤ 9223372036854775807) : Ev (fun k => impl_PlacesWith.f k n x l) (out n x l) := by
  unfold impl_PlacesWith.f out
  refine Ev.bind (isCyclo n x) ?_
  cases hc : isC n x with
  | false => simp only [Bool.false_eq_true, if_false]; exact Ev.now _
  | true =>
    simp only [if_true]
    refine Ev.bind (rootsFor n l h0 h1) ?_
    cases hk : okNL n l with
    | false => simp only [Bool.false_eq_true, if_false]; exact Ev.now _
    | true =>
      have h2 := okNL_iff.mp hk
      have hb := pr_bd h2.2.1
      have hx := isC_len hc
      simp only [if_true]
      simp only [if_pos (show 0 < (roots n l).length ∧ (roots n l).length ≤ 1000000 ∧ l ≠ 0 ∧ x.length ≤ 1000000 from ⟨roots_some n l hk, by have := roots_len n l hb.2; omega, by omega, by omega⟩)]
      refine Ev.bind (hpw_ev x (by omega) l hb (roots n l) (roots_bd hb)) ?_
      exact Ev.now _
theorem spec_l0 (n : Int) (x : List Int) (hx : x.length ≤ 1000) (l : Int) (hl : 3 ≤ l ∧ l ≤ 61) (rs : List Int) (hrs : ∀ r ∈ rs, 0 ≤ r ∧ r ≤ 1000) (hrl : rs.length ≤ 1000) : ∀ (d i : Nat) (acc : List Int), d + i = rs.length → acc.length ≤ i → Ev (fun k => spec_PlacesWith.l0 k l rs acc (i : Int) n x) (acc ++ (rs.drop i).filter (fun r => hv x r l == 0), 0) := by
  intro d
  induction d with
  | zero =>
    intro i acc hd ha
    refine Ev.step (f := fun _ => some (acc, 0)) (fun k => ?_) ?_
    · simp only [spec_PlacesWith.l0]
      rw [if_neg (by omega)]
    · rw [List.drop_of_length_le (by omega), List.filter_nil, List.append_nil]
      exact Ev.now _
  | succ d ih =>
    intro i acc hd ha
    have hi : i < rs.length := by omega
    have er : rd rs (i : Int) = rs[i] := by simp [rd, hi]
    have hr := hrs rs[i] (List.getElem_mem hi)
    rw [List.drop_eq_getElem_cons hi, List.filter_cons]
    refine Ev.step (fun k => by simp only [spec_PlacesWith.l0, er]; rw [if_pos (by omega), if_pos (by omega), w64 (x := (i : Int) + 1) (by omega) (by omega)]) ?_
    refine Ev.bind (l07Value x hx rs[i] l (by omega) (by omega) (by omega)) ?_
    by_cases c : hv x rs[i] l = 0
    · simp only [c, if_true, beq_self_eq_true, if_pos (show acc.length < 17592186044416 by omega)]
      have := ih (i + 1) (acc ++ [rs[i]]) (by omega) (by simp; omega)
      rw [List.append_assoc, List.singleton_append] at this
      exact this
    · simp only [if_neg c, show (hv x rs[i] l == 0) = false from beq_eq_false_iff_ne.mpr c, Bool.false_eq_true, if_false]
      exact ih (i + 1) acc (by omega) (by omega)
theorem spec_out (n : Int) (x : List Int) (l : Int) (hx : x.length ≤ 1048576) : Ev (fun k => spec_PlacesWith.f k n x l) (out n x l) := by
  have bad : Ev (fun k => spec_PlacesWith.j0 k l true n x) (([] : List Int), 2) := Ev.step (fun k => by simp only [spec_PlacesWith.j0, if_true] <;> rfl) (Ev.now _)
  unfold spec_PlacesWith.f out
  refine Ev.bind (l01Is n x hx) ?_
  cases hc : isC n x with
  | false => simp only [Bool.false_eq_true, if_false]; exact Ev.now _
  | true =>
    have hxl := isC_len hc
    simp only [if_true]
    refine Ev.bind (l07Code n l) ?_
    cases hp : pr l with
    | false =>
      have e : okNL n l = false := by simp [okNL, hp]
      simp only [e, Bool.and_false, Bool.false_eq_true, if_false, show ¬ (2 : Int) = 0 by decide]
      exact bad
    | true =>
      have hb := pr_bd hp
      have e1 : (decide (1 ≤ n) && decide (n ≤ 16)) = true := by simp; omega
      simp only [e1, Bool.and_true, if_true]
      refine ev_bind_const (l07Fully n l hxl.1 hp) ?_
      have e2 : okNL n l = fully n l := by simp [okNL, e1, hp]
      rw [e2]
      cases hf : fully n l with
      | false => simp only [Bool.not_false, Bool.false_eq_true, if_false]; exact bad
      | true =>
        simp only [Bool.not_true, if_true]
        refine Ev.step (fun k => by simp only [spec_PlacesWith.j0, Bool.false_eq_true, if_false] <;> rfl) ?_
        refine Ev.bind (l07Roots n l hxl.1 hb) ?_
        have := spec_l0 n x (by omega) l hb (roots n l) (roots_bd hb) (by have := roots_len n l hb.2; omega) (roots n l).length 0 [] (by omega) (by simp)
        simpa using this
theorem out_len (n : Int) (x : List Int) (l : Int) (h0 : -9223372036854775808 ≤ l) (h1 : l ≤ 9223372036854775807) : (out n x l).1.length ≤ 1000 := by
  unfold out
  split
  · split
    · rename_i _ h
      have hb := pr_bd (okNL_iff.mp h).2.1
      have h1 := roots_len n l hb.2
      have h2 := List.length_filter_le (fun r => hv x r l == 0) (roots n l)
      show List.length (List.filter _ _) ≤ 1000
      omega
    · simp
  · simp
theorem FnExactPlacesWith : laws_FnExactPlacesWith.Pure := by
  intro n x q _ hm _ hq
  apply Ev.rounds
  have hq2 := wf64 hq
  have hm2 : x.length ≤ 9223372036854775807 := by simpa [maxLen] using hm
  obtain ⟨⟨l, cd⟩, ho⟩ : ∃ o, o = out n x q := ⟨_, rfl⟩
  have hi := impl_out n x q hq2.1 hq2.2
  have hl : (out n x q).1.length ≤ 1000 := out_len n x q hq2.1 hq2.2
  unfold laws_FnExactPlacesWith.f laws_szCyclo.f laws_szInt64S.f
  rw [w64 (by omega) (by omega)]
  by_cases h1 : (1048576 : Int) - (x.length : Int) < 0
  · simp only [if_pos h1, Option.bind_some]
    exact Ev.now _
  simp only [if_neg h1, Option.bind_some]
  have hx : x.length ≤ 1048576 := by omega
  have hs := spec_out n x q hx
  rw [← ho] at hs hi hl
  replace hl : l.length ≤ 1000 := hl
  have a1 := toCyclo n x hx
  have heq := eqInts l l (by omega)
  have hh := heldInts l.length (by omega)
  refine Ev.bind a1 (Ev.bind hs (Ev.bind a1 (Ev.bind hi (Ev.bind heq ?_))))
  simp only [decide_true, if_true, bne_self_eq_false]
  refine Ev.step (fun k => by simp only [laws_FnExactPlacesWith.j0, Bool.false_eq_true, if_false] <;> rfl) ?_
  refine Ev.bind a1 (Ev.bind (eqCyclo _ _ _ _ hx) ?_)
  simp only [and_self, decide_true, if_true]
  refine Ev.bind (markCyclo n x hx) ?_
  simp only [if_neg (show ¬ (1 + (x.length : Int) < 0) by omega)]
  refine Ev.bind heq ?_
  simp only [decide_true, if_true, bne_self_eq_false]
  refine Ev.step (fun k => by simp only [laws_FnExactPlacesWith.j1, Bool.false_eq_true, if_false] <;> rfl) ?_
  refine Ev.bind (markInts l (by omega)) (Ev.bind hh ?_)
  simp only [if_neg (show ¬ (1 + (l.length : Int) < 0) by omega), if_true]
  refine Ev.bind a1 (Ev.bind hi (Ev.bind heq ?_))
  simp only [decide_true, if_true, bne_self_eq_false]
  refine Ev.step (fun k => by simp only [laws_FnExactPlacesWith.j2, Bool.false_eq_true, if_false] <;> rfl) ?_
  refine Ev.bind hh ?_
  simp only [if_neg (show ¬ (1 + (l.length : Int) < 0) by omega), if_true]
  exact Ev.now _
end Go.Proofs.Ytefhabkikaadiaa.Pure
