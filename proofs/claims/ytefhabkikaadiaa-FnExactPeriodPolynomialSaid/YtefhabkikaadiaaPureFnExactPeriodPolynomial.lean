/- The program's PeriodPolynomial returns what the reference's returns, for all arguments; no condition. -/
import Derived.Test.YtefhabkikaadiaaPFnExactPeriodPolynomialx9
import Derived.OpenShut
namespace Go.Proofs.Ytefhabkikaadiaa.Pure
open Go.RowKit Go.Proofs.Ytefhabkikaadiaa.PFnExactPeriodPolynomial Go.Proofs.YtefhabkikaadiaaW.PrintWords Go.Proofs.YtefhabkikaadiaaW.PrintLast Go.Proofs.YtefhabkikaadiaaW.PrintMore
set_option linter.unusedVariables false
set_option linter.unusedSimpArgs false
theorem w64 {x : Int} (h0 : -9223372036854775808 ≤ x) (h1 : x ≤ 9223372036854775807) : wrap64 x = x := by unfold wrap64; omega
theorem wf64 {x : Int} (h : (Lit.int .i64 x).wf = true) : -9223372036854775808 ≤ x ∧ x ≤ 9223372036854775807 := bounds_i64 h
theorem ev_bind_const {α β : Type} {o : Option α} {a : α} {f : Nat → α → Option β} {r : β} (h : o = some a) (k : Ev (fun n => f n a) r) : Ev (fun n => o.bind (f n)) r := by
  subst h; exact k
theorem eqInts_l0 (l m : List Int) (hl : l.length ≤ 1048576) (hm : m.length = l.length) : ∀ (d i : Nat), d + i = l.length → Ev (fun k => laws_eqInt64S.l0 k l m (i : Int)) (decide (l.drop i = m.drop i)) := by
  intro d
  induction d with
  | zero =>
    intro i hd
    refine Ev.step (f := fun _ => some (decide (l.drop i = m.drop i))) (fun k => ?_) (Ev.now _)
    simp only [laws_eqInt64S.l0]
    rw [if_neg (by omega), List.drop_of_length_le (by omega), List.drop_of_length_le (by omega)]
    simp
  | succ d ih =>
    intro i hd
    have hi : i < l.length := by omega
    have hi2 : i < m.length := by omega
    have e1 : rd l (i : Int) = l[i] := by simp [rd, hi]
    have e2 : rd m (i : Int) = m[i] := by simp [rd, hi2]
    by_cases he : l[i] = m[i]
    · refine Ev.step (f := fun k => laws_eqInt64S.l0 k l m ((i + 1 : Nat) : Int)) (fun k => ?_) ?_
      · simp only [laws_eqInt64S.l0]
        rw [if_pos (by omega), if_pos (by omega), if_pos (by omega), e1, e2, if_pos he, w64 (by omega) (by omega)]
        rfl
      · have e : decide (l.drop i = m.drop i) = decide (l.drop (i + 1) = m.drop (i + 1)) := by
          rw [List.drop_eq_getElem_cons hi, List.drop_eq_getElem_cons hi2]
          simp only [List.cons.injEq, he, true_and]
        rw [e]
        exact ih (i + 1) (by omega)
    · refine Ev.step (f := fun _ => some false) (fun k => ?_) ?_
      · simp only [laws_eqInt64S.l0]
        rw [if_pos (by omega), if_pos (by omega), if_pos (by omega), e1, e2, if_neg he]
      · have e : decide (l.drop i = m.drop i) = false := by
          rw [List.drop_eq_getElem_cons hi, List.drop_eq_getElem_cons hi2]
          simp only [List.cons.injEq, he, false_and, decide_false]
        rw [e]
        exact Ev.now _
theorem eqInts (l m : List Int) (hl : l.length ≤ 1048576) : Ev (fun k => laws_eqInt64S.f k l m) (decide (l = m)) := by
  by_cases h : m.length = l.length
  · have := eqInts_l0 l m hl h l.length 0 (by omega)
    refine Ev.congr (fun k => ?_) (by simpa using this)
    unfold laws_eqInt64S.f
    rw [if_pos (by omega)]
  · have hne : l ≠ m := fun e => h (by rw [e])
    rw [decide_eq_false hne]
    refine Ev.congr (fun k => ?_) (Ev.now _)
    unfold laws_eqInt64S.f
    rw [if_neg (by omega)]
def phi (n : Int) : Int := [0, 1, 1, 2, 2, 4, 2, 6, 4, 6, 4, 10, 4, 12, 6, 8, 8].getD n.toNat 0
theorem l01In (a b c : Int) : spec_l01In.f a b c = some (decide (b ≤ a) && decide (a ≤ c)) := by
  unfold spec_l01In.f
  by_cases h : a ≥ b
  · rw [if_pos h]; simp [h]
  · rw [if_neg h]; simp [h]
theorem within_ (a b c : Int) : impl_within.f a b c = some (decide (b ≤ a) && decide (a ≤ c)) := by
  unfold impl_within.f
  by_cases h : b ≤ a
  · rw [if_pos h]; simp [h]
  · rw [if_neg h]; simp [h]
def upTo (a : Int) (n : Nat) : List Int := (List.range n).map fun (j : Nat) => a + (j : Int)
theorem mem_upTo {a x : Int} {n : Nat} : x ∈ upTo a n ↔ a ≤ x ∧ x < a + n := by
  simp only [upTo, List.mem_map, List.mem_range]
  constructor
  · rintro ⟨j, hj, rfl⟩; omega
  · intro h; exact ⟨(x - a).toNat, by omega, by omega⟩
theorem upTo_len (a : Int) (n : Nat) : (upTo a n).length = n := by simp [upTo]
theorem upTo_get (a : Int) (n i : Nat) (hi : i < n) : (upTo a n)[i]'(by rw [upTo_len]; exact hi) = a + (i : Int) := by simp [upTo]
theorem upTo_snoc (a : Int) (n : Nat) : upTo a (n + 1) = upTo a n ++ [a + (n : Int)] := by
  unfold upTo
  rw [List.range_succ, List.map_append]
  rfl
theorem markInts_l0 : ∀ (d i : Nat) (ys : List Int), d + i = ys.length → ys.length ≤ 1048576 → ys.take i = upTo 1 i → Ev (fun k => laws_markInt64S.l0 k ys (1 + (i : Int)) (i : Int)) (1 + (ys.length : Int), upTo 1 ys.length) := by
  intro d
  induction d with
  | zero =>
    intro i ys hd hl ht
    obtain rfl : i = ys.length := by omega
    refine Ev.step (fun k => by simp only [laws_markInt64S.l0]; rw [if_neg (by omega)] <;> rfl) ?_
    rw [List.take_length] at ht
    rw [← ht]
    exact Ev.now _
  | succ d ih =>
    intro i ys hd hl ht
    have hi : i < ys.length := by omega
    have := ih (i + 1) (ys.set i (1 + (i : Int))) (by simp; omega) (by simpa using hl) (by
      rw [List.take_succ_eq_append_getElem (by simpa using hi), List.take_set_of_le (Nat.le_refl _), ht, upTo_snoc]
      simp)
    refine Ev.step (fun k => ?_) (by simpa using this)
    simp only [laws_markInt64S.l0]
    rw [if_pos (by omega), if_pos (by omega), w64 (x := 1 + (i : Int) + 1) (by omega) (by omega), w64 (x := (i : Int) + 1) (by omega) (by omega), show 1 + (i : Int) + 1 = 1 + ((i : Int) + 1) by omega]
    rfl
theorem markInts (l : List Int) (hl : l.length ≤ 1048576) : Ev (fun k => laws_markInt64S.f k l 1) (1 + (l.length : Int), upTo 1 l.length) := by
  have := markInts_l0 l.length 0 l (by omega) hl (by simp [upTo])
  unfold laws_markInt64S.f
  simpa using this
theorem heldInts_l0 (n : Nat) (hn : n ≤ 1048576) : ∀ (d i : Nat), d + i = n → Ev (fun k => laws_heldInt64S.l0 k (upTo 1 n) (1 + (i : Int)) (i : Int)) (1 + (n : Int)) := by
  intro d
  induction d with
  | zero =>
    intro i hd
    obtain rfl : i = n := by omega
    exact Ev.step (fun k => by simp only [laws_heldInt64S.l0]; rw [if_neg (by rw [upTo_len]; omega)] <;> rfl) (Ev.now _)
  | succ d ih =>
    intro i hd
    have hi : i < (upTo 1 n).length := by rw [upTo_len]; omega
    have e1 : rd (upTo 1 n) (i : Int) = 1 + (i : Int) := by
      have := upTo_get 1 n i (by omega)
      simp only [rd, Int.toNat_natCast, List.getD_eq_getElem?_getD, List.getElem?_eq_getElem hi, Option.getD_some, this]
    refine Ev.step (fun k => ?_) (ih (i + 1) (by omega))
    simp only [laws_heldInt64S.l0]
    rw [if_pos (by omega), if_pos (by omega), if_pos e1, w64 (x := 1 + (i : Int) + 1) (by omega) (by omega), w64 (x := (i : Int) + 1) (by omega) (by omega), show 1 + (i : Int) + 1 = 1 + ((i : Int) + 1) by omega]
    rfl
theorem heldInts (n : Nat) (hn : n ≤ 1048576) : Ev (fun k => laws_heldInt64S.f k (upTo 1 n) 1) (1 + (n : Int)) := by
  have := heldInts_l0 n hn n 0 (by omega)
  unfold laws_heldInt64S.f
  simpa using this
def prs : List Int := [3, 5, 7, 11, 13, 17, 19, 23, 29, 31, 37, 41, 43, 47, 53, 59, 61]
def pr (l : Int) : Bool := prs.contains l
theorem pr_iff {l : Int} : pr l = true ↔ l ∈ prs := by unfold pr; exact List.contains_iff_mem
theorem pr_bd {l : Int} (h : pr l = true) : 3 ≤ l ∧ l ≤ 61 := by
  rw [pr_iff] at h
  simp only [prs, List.mem_cons, List.not_mem_nil, or_false] at h
  omega
theorem upto61 {P : Int → Prop} (h : ∀ m : Nat, m < 62 → P m) (n : Int) (h0 : 0 ≤ n) (h1 : n ≤ 61) : P n := by
  have := h n.toNat (by omega)
  rwa [Int.toNat_of_nonneg (by omega)] at this
theorem isPrime_big (p : Int) (h0 : 61 < p) (h1 : p ≤ 9223372036854775807) : ∀ (n : Nat) (d : Int), 2 ≤ d → d ≤ p → (p - d).toNat = n → Ev (fun k => impl_isPrime.l0 k p d) false := by
  intro n
  induction n with
  | zero =>
    intro d hd hp hn
    have : d = p := by omega
    subst this
    refine Ev.step (f := fun _ => some false) (fun k => ?_) (Ev.now _)
    simp only [impl_isPrime.l0]
    by_cases c : wrap64 (d * d) ≤ d
    · rw [if_pos c, if_neg (by omega), if_pos (Int.tmod_self)]
    · rw [if_neg c, within_, Option.bind_some]
      simp
      omega
  | succ n ih =>
    intro d hd hp hn
    by_cases c : wrap64 (d * d) ≤ p
    · by_cases c2 : Int.tmod p d = 0
      · refine Ev.step (f := fun _ => some false) (fun k => ?_) (Ev.now _)
        simp only [impl_isPrime.l0]
        rw [if_pos c, if_neg (by omega), if_pos c2]
      · refine Ev.step (fun k => ?_) (ih (d + 1) (by omega) (by omega) (by omega))
        simp only [impl_isPrime.l0]
        rw [if_pos c, if_neg (by omega), if_neg c2, w64 (by omega) (by omega)]
    · refine Ev.step (f := fun _ => some false) (fun k => ?_) (Ev.now _)
      simp only [impl_isPrime.l0]
      rw [if_neg c, within_, Option.bind_some]
      simp
      omega
theorem isPrime (p : Int) (h0 : -9223372036854775808 ≤ p) (h1 : p ≤ 9223372036854775807) : Ev (fun k => impl_isPrime.f k p) (pr p) := by
  by_cases c : 61 < p
  · have e : pr p = false := by
      cases h : pr p with
      | false => rfl
      | true => have := pr_bd h; omega
    rw [e]
    exact isPrime_big p c h1 _ 2 (by omega) (by omega) rfl
  · by_cases c2 : 0 ≤ p
    · have key : ∀ m : Nat, m < 62 → impl_isPrime.f 20 (m : Int) = some (pr m) := by decide +kernel
      exact Ev.of (impl_isPrime.mono p) (upto61 (P := fun p => impl_isPrime.f 20 p = some (pr p)) key p c2 (by omega))
    · have e : pr p = false := by
        cases h : pr p with
        | false => rfl
        | true => have := pr_bd h; omega
      rw [e]
      refine Ev.step (f := fun _ => some false) (fun k => ?_) (Ev.now _)
      simp only [impl_isPrime.f, impl_isPrime.l0]
      rw [if_neg (by rw [w64 (x := 2 * 2) (by omega) (by omega)]; omega), within_, Option.bind_some]
      simp
      omega
def hv (cs : List Int) (r q : Int) : Int := cs.foldr (fun c out => (out * r + c) % q) 0
theorem tmod_emod (c q : Int) (hq : 0 < q) : (Int.tmod c q) % q = c % q := by
  rw [Int.tmod_eq_emod]
  split <;> simp
  rw [Int.sub_emod]
  simp [Int.natAbs_of_nonneg (Int.le_of_lt hq)]
theorem around (a m : Int) (hm : 0 < m) (hm2 : m ≤ 1000000000000) : impl_around.f a m = some (a % m) := by
  unfold impl_around.f
  have h1 := Int.tmod_lt_of_pos a hm
  have h2 := Int.lt_tmod_of_pos a hm
  rw [if_neg (by omega), w64 (by omega) (by omega), Int.tmod_eq_emod_of_nonneg (by omega), Int.add_emod_right, tmod_emod _ _ hm]
def okPE (p e : Int) : Bool := pr p && (decide (1 ≤ e) && decide (e ≤ 12)) && decide ((p - 1) % e = 0)
def pes : List (Int × Int) := prs.flatMap fun p => (upTo 1 12).filterMap fun e => if okPE p e then some (p, e) else none
theorem okPE_mem {p e : Int} (h : okPE p e = true) : (p, e) ∈ pes := by
  have h' := h
  simp only [okPE, Bool.and_eq_true, decide_eq_true_eq] at h'
  refine List.mem_flatMap.mpr ⟨p, pr_iff.mp h'.1.1, List.mem_filterMap.mpr ⟨e, mem_upTo.mpr (by omega), ?_⟩⟩
  rw [if_pos h]
theorem l06Prime (p : Int) : Ev (fun k => spec_l06Prime.f k p) (pr p) := by
  by_cases c : 3 ≤ p ∧ p ≤ 61
  · have key : ∀ m : Nat, m < 62 → spec_l06Prime.f 20 (m : Int) = some (pr m) := by decide +kernel
    exact Ev.of (spec_l06Prime.mono p) (upto61 (P := fun p => spec_l06Prime.f 20 p = some (pr p)) key p (by omega) c.2)
  · have e : pr p = false := by
      cases h : pr p with
      | false => rfl
      | true => have := pr_bd h; omega
    rw [e]
    unfold spec_l06Prime.f
    refine ev_bind_const (l01In _ _ _) ?_
    rw [show (decide (3 ≤ p) && decide (p ≤ 61)) = false by simp; omega]
    exact Ev.now _
theorem l06Code_bad (p e : Int) (ls : List Int) (h : okPE p e = false) : Ev (fun k => spec_l06Code.f k p e ls) 2 := by
  have J : Ev (fun k => spec_l06Code.j0 k e ls true) 2 := Ev.step (fun k => by simp only [spec_l06Code.j0, if_true] <;> rfl) (Ev.now _)
  unfold spec_l06Code.f
  refine Ev.bind (l06Prime p) ?_
  cases hp : pr p with
  | false => simp only [Bool.false_eq_true, if_false]; exact J
  | true =>
    have hb := pr_bd hp
    simp only [if_true]
    refine ev_bind_const (l01In _ _ _) ?_
    cases he : decide (1 ≤ e) && decide (e ≤ 12) with
    | false => simp only [Bool.false_eq_true, if_false]; exact J
    | true =>
      have he' : 1 ≤ e ∧ e ≤ 12 := by simpa using he
      have hm : ¬ (p - 1) % e = 0 := by
        intro hm
        simp [okPE, hp, he, hm] at h
      simp only [if_true, if_neg (show ¬ e = 0 by omega), w64 (x := p - 1) (by omega) (by omega), Int.tmod_eq_emod_of_nonneg (show 0 ≤ p - 1 by omega)]
      rw [bne_iff_ne.mpr hm]
      exact J
theorem periodsOf_bad (p e : Int) (h0 : -9223372036854775808 ≤ p) (h1 : p ≤ 9223372036854775807) (h : okPE p e = false) : Ev (fun k => impl_periodsOf.f k p e) (0, 0, 0, [], false) := by
  have J : Ev (fun k => impl_periodsOf.j0 k p e true) (0, 0, 0, [], false) := Ev.step (fun k => by simp only [impl_periodsOf.j0, if_true] <;> rfl) (Ev.now _)
  unfold impl_periodsOf.f
  refine Ev.bind (isPrime p h0 h1) ?_
  cases hp : pr p with
  | false => simp only [Bool.false_eq_true, if_false]; exact J
  | true =>
    have hb := pr_bd hp
    simp only [if_true]
    refine ev_bind_const (within_ _ _ _) ?_
    cases he : decide (1 ≤ e) && decide (e ≤ 12) with
    | false => simp only [Bool.false_eq_true, if_false]; exact J
    | true =>
      have he' : 1 ≤ e ∧ e ≤ 12 := by simpa using he
      have hm : ¬ (p - 1) % e = 0 := by
        intro hm
        simp [okPE, hp, he, hm] at h
      simp only [if_true, if_neg (show ¬ e = 0 by omega), w64 (x := p - 1) (by omega) (by omega), Int.tmod_eq_emod_of_nonneg (show 0 ≤ p - 1 by omega)]
      rw [bne_iff_ne.mpr hm]
      exact J
theorem gE {α : Type} (l : List α) (d : α) {i : Nat} (h : i < l.length) : l.getD i d = l[i] := by rw [List.getD_eq_getElem?_getD, List.getElem?_eq_getElem h, Option.getD_some]
theorem own01 (l : List Int) (hl : l.length ≤ 1000) : spec_l01Own.f l = some l := by
  unfold spec_l01Own.f
  simp only [Option.bind_some, List.nil_append, List.length_nil, Nat.zero_add]
  rw [if_pos (by omega)]
def pw (n : Int) : List (List Int) := ([[], [[1]], [[1], [-1]], [[1, 0], [0, 1], [-1, -1]], [[1, 0], [0, 1], [-1, 0], [0, -1]], [[1, 0, 0, 0], [0, 1, 0, 0], [0, 0, 1, 0], [0, 0, 0, 1], [-1, -1, -1, -1]], [[1, 0], [0, 1], [-1, 1], [-1, 0], [0, -1], [1, -1]], [[1, 0, 0, 0, 0, 0], [0, 1, 0, 0, 0, 0], [0, 0, 1, 0, 0, 0], [0, 0, 0, 1, 0, 0], [0, 0, 0, 0, 1, 0], [0, 0, 0, 0, 0, 1], [-1, -1, -1, -1, -1, -1]], [[1, 0, 0, 0], [0, 1, 0, 0], [0, 0, 1, 0], [0, 0, 0, 1], [-1, 0, 0, 0], [0, -1, 0, 0], [0, 0, -1, 0], [0, 0, 0, -1]], [[1, 0, 0, 0, 0, 0], [0, 1, 0, 0, 0, 0], [0, 0, 1, 0, 0, 0], [0, 0, 0, 1, 0, 0], [0, 0, 0, 0, 1, 0], [0, 0, 0, 0, 0, 1], [-1, 0, 0, -1, 0, 0], [0, -1, 0, 0, -1, 0], [0, 0, -1, 0, 0, -1]], [[1, 0, 0, 0], [0, 1, 0, 0], [0, 0, 1, 0], [0, 0, 0, 1], [-1, 1, -1, 1], [-1, 0, 0, 0], [0, -1, 0, 0], [0, 0, -1, 0], [0, 0, 0, -1], [1, -1, 1, -1]], [[1, 0, 0, 0, 0, 0, 0, 0, 0, 0], [0, 1, 0, 0, 0, 0, 0, 0, 0, 0], [0, 0, 1, 0, 0, 0, 0, 0, 0, 0], [0, 0, 0, 1, 0, 0, 0, 0, 0, 0], [0, 0, 0, 0, 1, 0, 0, 0, 0, 0], [0, 0, 0, 0, 0, 1, 0, 0, 0, 0], [0, 0, 0, 0, 0, 0, 1, 0, 0, 0], [0, 0, 0, 0, 0, 0, 0, 1, 0, 0], [0, 0, 0, 0, 0, 0, 0, 0, 1, 0], [0, 0, 0, 0, 0, 0, 0, 0, 0, 1], [-1, -1, -1, -1, -1, -1, -1, -1, -1, -1]], [[1, 0, 0, 0], [0, 1, 0, 0], [0, 0, 1, 0], [0, 0, 0, 1], [-1, 0, 1, 0], [0, -1, 0, 1], [-1, 0, 0, 0], [0, -1, 0, 0], [0, 0, -1, 0], [0, 0, 0, -1], [1, 0, -1, 0], [0, 1, 0, -1]], [[1, 0, 0, 0, 0, 0, 0, 0, 0, 0, 0, 0], [0, 1, 0, 0, 0, 0, 0, 0, 0, 0, 0, 0], [0, 0, 1, 0, 0, 0, 0, 0, 0, 0, 0, 0], [0, 0, 0, 1, 0, 0, 0, 0, 0, 0, 0, 0], [0, 0, 0, 0, 1, 0, 0, 0, 0, 0, 0, 0], [0, 0, 0, 0, 0, 1, 0, 0, 0, 0, 0, 0], [0, 0, 0, 0, 0, 0, 1, 0, 0, 0, 0, 0], [0, 0, 0, 0, 0, 0, 0, 1, 0, 0, 0, 0], [0, 0, 0, 0, 0, 0, 0, 0, 1, 0, 0, 0], [0, 0, 0, 0, 0, 0, 0, 0, 0, 1, 0, 0], [0, 0, 0, 0, 0, 0, 0, 0, 0, 0, 1, 0], [0, 0, 0, 0, 0, 0, 0, 0, 0, 0, 0, 1], [-1, -1, -1, -1, -1, -1, -1, -1, -1, -1, -1, -1]], [[1, 0, 0, 0, 0, 0], [0, 1, 0, 0, 0, 0], [0, 0, 1, 0, 0, 0], [0, 0, 0, 1, 0, 0], [0, 0, 0, 0, 1, 0], [0, 0, 0, 0, 0, 1], [-1, 1, -1, 1, -1, 1], [-1, 0, 0, 0, 0, 0], [0, -1, 0, 0, 0, 0], [0, 0, -1, 0, 0, 0], [0, 0, 0, -1, 0, 0], [0, 0, 0, 0, -1, 0], [0, 0, 0, 0, 0, -1], [1, -1, 1, -1, 1, -1]], [[1, 0, 0, 0, 0, 0, 0, 0], [0, 1, 0, 0, 0, 0, 0, 0], [0, 0, 1, 0, 0, 0, 0, 0], [0, 0, 0, 1, 0, 0, 0, 0], [0, 0, 0, 0, 1, 0, 0, 0], [0, 0, 0, 0, 0, 1, 0, 0], [0, 0, 0, 0, 0, 0, 1, 0], [0, 0, 0, 0, 0, 0, 0, 1], [-1, 1, 0, -1, 1, -1, 0, 1], [-1, 0, 1, -1, 0, 0, -1, 1], [-1, 0, 0, 0, 0, -1, 0, 0], [0, -1, 0, 0, 0, 0, -1, 0], [0, 0, -1, 0, 0, 0, 0, -1], [1, -1, 0, 0, -1, 1, 0, -1], [1, 0, -1, 1, -1, 0, 1, -1]], [[1, 0, 0, 0, 0, 0, 0, 0], [0, 1, 0, 0, 0, 0, 0, 0], [0, 0, 1, 0, 0, 0, 0, 0], [0, 0, 0, 1, 0, 0, 0, 0], [0, 0, 0, 0, 1, 0, 0, 0], [0, 0, 0, 0, 0, 1, 0, 0], [0, 0, 0, 0, 0, 0, 1, 0], [0, 0, 0, 0, 0, 0, 0, 1], [-1, 0, 0, 0, 0, 0, 0, 0], [0, -1, 0, 0, 0, 0, 0, 0], [0, 0, -1, 0, 0, 0, 0, 0], [0, 0, 0, -1, 0, 0, 0, 0], [0, 0, 0, 0, -1, 0, 0, 0], [0, 0, 0, 0, 0, -1, 0, 0], [0, 0, 0, 0, 0, 0, -1, 0], [0, 0, 0, 0, 0, 0, 0, -1]]] : List (List (List Int))).getD n.toNat []
def phn (n : Int) : Nat := (phi n).toNat
def ix (p : Int) : List Int := if p = 3 then [-1, 0, 1] else if p = 5 then [-1, 0, 1, 3, 2] else if p = 7 then [-1, 0, 2, 1, 4, 5, 3] else if p = 11 then [-1, 0, 1, 8, 2, 4, 9, 7, 3, 6, 5] else if p = 13 then [-1, 0, 1, 4, 2, 9, 5, 11, 3, 8, 10, 7, 6] else if p = 17 then [-1, 0, 14, 1, 12, 5, 15, 11, 10, 2, 3, 7, 13, 4, 9, 6, 8] else if p = 19 then [-1, 0, 1, 13, 2, 16, 14, 6, 3, 8, 17, 12, 15, 5, 7, 11, 4, 10, 9] else if p = 23 then [-1, 0, 2, 16, 4, 1, 18, 19, 6, 10, 3, 9, 20, 14, 21, 17, 8, 7, 12, 15, 5, 13, 11] else if p = 29 then [-1, 0, 1, 5, 2, 22, 6, 12, 3, 10, 23, 25, 7, 18, 13, 27, 4, 21, 11, 9, 24, 17, 26, 20, 8, 16, 19, 15, 14] else if p = 31 then [-1, 0, 24, 1, 18, 20, 25, 28, 12, 2, 14, 23, 19, 11, 22, 21, 6, 7, 26, 4, 8, 29, 17, 27, 13, 10, 5, 3, 16, 9, 15] else if p = 37 then [-1, 0, 1, 26, 2, 23, 27, 32, 3, 16, 24, 30, 28, 11, 33, 13, 4, 7, 17, 35, 25, 22, 31, 15, 29, 10, 12, 6, 34, 21, 14, 9, 5, 20, 8, 19, 18] else if p = 41 then [-1, 0, 26, 15, 12, 22, 1, 39, 38, 30, 8, 3, 27, 31, 25, 37, 24, 33, 16, 9, 34, 14, 29, 36, 13, 4, 17, 5, 11, 7, 23, 28, 10, 18, 19, 21, 2, 32, 35, 6, 20] else if p = 43 then [-1, 0, 27, 1, 12, 25, 28, 35, 39, 2, 10, 30, 13, 32, 20, 26, 24, 38, 29, 19, 37, 36, 15, 16, 40, 8, 17, 3, 5, 41, 11, 34, 9, 31, 23, 18, 14, 7, 4, 33, 22, 6, 21] else if p = 47 then [-1, 0, 18, 20, 36, 1, 38, 32, 8, 40, 19, 7, 10, 11, 4, 21, 26, 16, 12, 45, 37, 6, 25, 5, 28, 2, 29, 14, 22, 35, 39, 3, 44, 27, 34, 33, 30, 42, 17, 31, 9, 15, 24, 13, 43, 41, 23] else if p = 53 then [-1, 0, 1, 17, 2, 47, 18, 14, 3, 34, 48, 6, 19, 24, 15, 12, 4, 10, 35, 37, 49, 31, 7, 39, 20, 42, 25, 51, 16, 46, 13, 33, 5, 23, 11, 9, 36, 30, 38, 41, 50, 45, 32, 22, 8, 29, 40, 44, 21, 28, 43, 27, 26] else if p = 59 then [-1, 0, 1, 50, 2, 6, 51, 18, 3, 42, 7, 25, 52, 45, 19, 56, 4, 40, 43, 38, 8, 10, 26, 15, 53, 12, 46, 34, 20, 28, 57, 49, 5, 17, 41, 24, 44, 55, 39, 37, 9, 14, 11, 33, 27, 48, 16, 23, 54, 36, 13, 32, 47, 22, 35, 31, 21, 30, 29] else if p = 61 then [-1, 0, 1, 6, 2, 22, 7, 49, 3, 12, 23, 15, 8, 40, 50, 28, 4, 47, 13, 26, 24, 55, 16, 57, 9, 44, 41, 18, 51, 35, 29, 59, 5, 21, 48, 11, 14, 39, 27, 46, 25, 54, 56, 43, 17, 34, 58, 20, 10, 38, 45, 53, 42, 33, 19, 37, 52, 32, 36, 31, 30] else []
def acc : List Int → List Int → List Int → List Int
  | many, t :: ts, e :: es => acc (if e ≥ 0 then many.set e.toNat (wrap64 (rd many e + t)) else many) ts es
  | many, _, _ => many
theorem set_get (xs : List Int) (q : Nat) (v : Int) (j : Nat) (hq : q < xs.length) : (xs.set q v).getD j 0 = if j = q then v else xs.getD j 0 := by
  rw [List.getD_eq_getElem?_getD, List.getElem?_set, List.getD_eq_getElem?_getD]
  by_cases h : q = j
  · subst h
    simp [hq]
  · rw [if_neg h, if_neg (fun e => h e.symm)]
def zz (p n : Int) : List (List Int) := List.replicate p.toNat (List.replicate n.toNat 0)
def st (p n : Int) : List (List Int) := (zz p n).set 0 ((List.replicate n.toNat 0).set 0 1)
theorem code_ok : ∀ q ∈ pes, spec_l06Code.f 40 q.1 q.2 [] = some 0 := by decide +kernel
theorem l06Code (p e : Int) : Ev (fun k => spec_l06Code.f k p e []) (if okPE p e then 0 else 2) := by
  cases h : okPE p e with
  | true => simp only [if_true]; exact Ev.of (spec_l06Code.mono _ _ _) (code_ok (p, e) (okPE_mem h))
  | false => simp only [Bool.false_eq_true, if_false]; exact l06Code_bad p e [] h
theorem okPE_bd {p e : Int} (h : okPE p e = true) : 3 ≤ p ∧ p ≤ 61 ∧ 1 ≤ e ∧ e ≤ 12 := by
  simp only [okPE, Bool.and_eq_true, decide_eq_true_eq] at h
  have := pr_bd h.1.1
  omega
def addv (out v : List Int) : List Int := List.zipWith (fun o x => wrap64 (o + x)) out v
theorem addv_len (out v : List Int) (h : v.length = out.length) : (addv out v).length = out.length := by simp [addv, h]
theorem addv_get (out v : List Int) (h : v.length = out.length) (q : Nat) (hq : q < out.length) : (addv out v).getD q 0 = wrap64 (out.getD q 0 + v.getD q 0) := by
  have h2 : q < (addv out v).length := by rw [addv_len out v h]; exact hq
  rw [gE _ _ h2, gE _ _ hq, gE _ _ (show q < v.length by omega)]
  simp [addv]
theorem addv_swap : ∀ (o u v : List Int), addv (addv o u) v = addv (addv o v) u
  | [], _, _ => by simp [addv]
  | _ :: _, [], v => by cases v <;> simp [addv]
  | _ :: _, _ :: _, [] => by simp [addv]
  | o :: os, u :: us, v :: vs => by
    have h := addv_swap os us vs
    simp only [addv, List.zipWith_cons_cons] at h ⊢
    rw [h]
    congr 1
    unfold wrap64
    omega
theorem perm_fold {α β : Type} (f : β → α → β) (hc : ∀ b x y, f (f b x) y = f (f b y) x) {l m : List α} (h : l.Perm m) : ∀ b, l.foldl f b = m.foldl f b := by
  induction h with
  | nil => intro b; rfl
  | cons x _ ih => intro b; exact ih _
  | swap x y l => intro b; simp only [List.foldl_cons]; rw [hc]
  | trans _ _ ih1 ih2 => intro b; rw [ih1, ih2]
def up (e i m : Nat) : Nat := if i + m < e then i + m else i + m - e
def dn (e i q : Nat) : Nat := if i ≤ q then q - i else q + e - i
theorem up_mod (e i m : Nat) (he : e ≤ 12) (hi : i < e) (hm : m < e) : Int.tmod (wrap64 ((i : Int) + (m : Int))) (e : Int) = (up e i m : Int) := by
  rw [w64 (by omega) (by omega), Int.tmod_eq_emod_of_nonneg (by omega)]
  unfold up
  split
  · rw [Int.emod_eq_of_lt (by omega) (by omega)]; omega
  · rw [show (i : Int) + (m : Int) = (i : Int) + m - e + e by omega, Int.add_emod_right, Int.emod_eq_of_lt (by omega) (by omega)]; omega
theorem dn_around (e i j : Nat) (he : e ≤ 12) (hi : i < e) (hj : j < e) : impl_around.f (wrap64 ((j : Int) - (i : Int))) (e : Int) = some (dn e i j : Int) := by
  rw [w64 (by omega) (by omega), around _ _ (by omega) (by omega)]
  unfold dn
  split
  · rw [Int.emod_eq_of_lt (by omega) (by omega)]; congr 1; omega
  · rw [show (j : Int) - (i : Int) = (j : Int) - i + e - e by omega, Int.sub_emod_right, Int.emod_eq_of_lt (by omega) (by omega)]; congr 1; omega
theorem up_dn (e i q : Nat) (hi : i < e) (hq : q < e) : up e i (dn e i q) = q ∧ dn e i q < e := by unfold up dn; split <;> split <;> omega
theorem dn_up (e i m : Nat) (hi : i < e) (hm : m < e) : dn e i (up e i m) = m ∧ up e i m < e := by unfold up dn; split <;> split <;> omega
theorem perm_dn : ∀ e, e < 13 → ∀ i, i < e → ((List.range e).map fun j => up e i j).Perm (List.range e) := by decide +kernel
/-- The number at k and m. -/
def nb (T : List (List Int)) (M F : Int) (k m : Nat) : Int := if (k : Int) = M then wrap64 (rd (rd_L1 T (k : Int)) (m : Int) - F) else rd (rd_L1 T (k : Int)) (m : Int)
def vec (T : List (List Int)) (M F : Int) (e i : Nat) (own : Int) (k : Nat) : List Int := (List.range e).map fun q => wrap64 (own * nb T M F k (dn e i q))
theorem vec_len (T : List (List Int)) (M F : Int) (e i : Nat) (own : Int) (k : Nat) : (vec T M F e i own k).length = e := by simp [vec]
theorem vec_get (T : List (List Int)) (M F : Int) (e i : Nat) (own : Int) (k q : Nat) (hq : q < e) : (vec T M F e i own k).getD q 0 = wrap64 (own * nb T M F k (dn e i q)) := by
  rw [gE _ _ (by rw [vec_len]; exact hq)]; simp [vec]
/-- One round of the innermost loop. -/
theorem inner (T : List (List Int)) (M F : Int) (e i : Nat) (own : Int) (k : Nat) (hi : i < e) (out : List Int) (ho : out.length = e) (m : Nat) (hm : m < e) (cur : List Int) (hc : cur.length = e) (h : ∀ q, q < e → cur.getD q 0 = if dn e i q < m then wrap64 (out.getD q 0 + wrap64 (own * nb T M F k (dn e i q))) else out.getD q 0) :
    (cur.set (up e i m) (wrap64 (cur.getD (up e i m) 0 + wrap64 (own * nb T M F k m)))).length = e ∧ ∀ q, q < e → (cur.set (up e i m) (wrap64 (cur.getD (up e i m) 0 + wrap64 (own * nb T M F k m)))).getD q 0 = if dn e i q < m + 1 then wrap64 (out.getD q 0 + wrap64 (own * nb T M F k (dn e i q))) else out.getD q 0 := by
  have hu := dn_up e i m hi hm
  refine ⟨by rw [List.length_set]; exact hc, fun q hq => ?_⟩
  rw [set_get _ _ _ _ (by omega)]
  by_cases c : q = up e i m
  · subst c
    rw [if_pos rfl, h _ hu.2, hu.1, if_neg (by omega), if_pos (by omega)]
  · have hd := up_dn e i q hi hq
    have : dn e i q ≠ m := fun e2 => c (by rw [← e2]; exact hd.1.symm)
    rw [if_neg c, h q hq]
    by_cases c2 : dn e i q < m
    · rw [if_pos c2, if_pos (by omega)]
    · rw [if_neg c2, if_neg (by omega)]
theorem inner_end (T : List (List Int)) (M F : Int) (e i : Nat) (own : Int) (k : Nat) (hi : i < e) (out : List Int) (ho : out.length = e) (cur : List Int) (hc : cur.length = e) (h : ∀ q, q < e → cur.getD q 0 = if dn e i q < e then wrap64 (out.getD q 0 + wrap64 (own * nb T M F k (dn e i q))) else out.getD q 0) : cur = addv out (vec T M F e i own k) := by
  have hl := addv_len out (vec T M F e i own k) (by rw [vec_len]; omega)
  refine List.ext_getElem (by omega) (fun q h1 h2 => ?_)
  rw [← gE _ 0, ← gE _ 0, h q (by omega), if_pos (up_dn e i q hi (by omega)).2, addv_get _ _ (by rw [vec_len]; omega) q (by omega), vec_get _ _ _ _ _ _ _ _ (by omega)]
structure Tab (T : List (List Int)) (e : Nat) : Prop where
  len : T.length = e
  row : ∀ k : Nat, k < e → (rd_L1 T (k : Int)).length = e
theorem mps_l2 (T : List (List Int)) (M F : Int) (e : Nat) (he : e ≤ 12) (hT : Tab T e) (a b : List Int) (i k : Nat) (hi : i < e) (hk : k < e) (own : Int) (out : List Int) (ho : out.length = e) (r : List Int)
    (H : Ev (fun f => spec_l06Times.l1 f (e : Int) a b T (addv out (vec T M F e i own k)) M F (i : Int) ((k + 1 : Nat) : Int)) r) :
    ∀ (d m : Nat) (cur : List Int), d + m = e → cur.length = e → (∀ q, q < e → cur.getD q 0 = if dn e i q < m then wrap64 (out.getD q 0 + wrap64 (own * nb T M F k (dn e i q))) else out.getD q 0) →
      Ev (fun f => spec_l06Times.l2 f (e : Int) a b T cur M F (i : Int) (k : Int) own (m : Int)) r := by
  intro d
  induction d with
  | zero =>
    intro m cur hm hc h
    have e1 : m = e := by omega
    subst e1
    rw [← inner_end T M F m i own k hi out ho cur hc h] at H
    refine Ev.step (fun f => ?_) H
    simp only [spec_l06Times.l2]
    rw [if_neg (by omega), w64 (x := (k : Int) + 1) (by omega) (by omega)]
    rfl
  | succ d ih =>
    intro m cur hm hc h
    have hme : m < e := by omega
    obtain ⟨n1, n2⟩ := inner T M F e i own k hi out ho m hme cur hc h
    have hu := dn_up e i m hi hme
    have hr := hT.row k hk
    refine Ev.step (fun f => ?_) (ih (m + 1) _ (by omega) n1 n2)
    simp only [spec_l06Times.l2, up_mod e i m he hi hme]
    rw [if_pos (by omega), if_pos (by omega), if_pos (by have := hT.len; omega), if_pos (by omega), if_pos (by omega)]
    unfold nb
    by_cases c : (k : Int) = M
    · rw [if_pos c, if_neg (by omega), if_pos (by omega), if_pos (by omega), if_pos c, w64 (x := (m : Int) + 1) (by omega) (by omega)]
      simp only [rd, Int.toNat_natCast]
      rfl
    · rw [if_neg c, if_neg (by omega), if_pos (by omega), if_pos (by omega), if_neg c, w64 (x := (m : Int) + 1) (by omega) (by omega)]
      simp only [rd, Int.toNat_natCast]
      rfl
/-- The round of the reference for one i. -/
def spR (T : List (List Int)) (M F : Int) (e : Nat) (a b : List Int) (i : Nat) (out : List Int) (k : Nat) : List Int := addv out (vec T M F e i (wrap64 (a.getD i 0 * b.getD (up e i k) 0)) k)
def imR (T : List (List Int)) (M F : Int) (e : Nat) (a b : List Int) (i : Nat) (out : List Int) (j : Nat) : List Int := addv out (vec T M F e i (wrap64 (a.getD i 0 * b.getD j 0)) (dn e i j))
theorem rows_eq (T : List (List Int)) (M F : Int) (e : Nat) (he : e ≤ 12) (a b : List Int) (i : Nat) (hi : i < e) (out : List Int) : (List.range e).foldl (imR T M F e a b i) out = (List.range e).foldl (spR T M F e a b i) out := by
  have h1 : (List.range e).foldl (spR T M F e a b i) out = ((List.range e).map fun k => up e i k).foldl (imR T M F e a b i) out := by
    rw [List.foldl_map]
    have : ∀ (l : List Nat) (o : List Int), (∀ k ∈ l, k < e) → l.foldl (spR T M F e a b i) o = l.foldl (fun o k => imR T M F e a b i o (up e i k)) o := by
      intro l
      induction l with
      | nil => intro o _; rfl
      | cons k l ih =>
        intro o hl
        rw [List.foldl_cons, List.foldl_cons, ih _ (fun x hx => hl x (by simp [hx]))]
        have := (dn_up e i k hi (hl k (by simp))).1
        unfold spR imR
        rw [this]
    exact this _ _ (fun k hk => List.mem_range.mp hk)
  rw [h1]
  exact (perm_fold (imR T M F e a b i) (fun b' x y => by unfold imR; exact addv_swap _ _ _) (perm_dn e (by omega) i hi) out).symm
theorem fold_len {α : Type} (f : List Int → α → List Int) (n : Nat) (hf : ∀ o x, o.length = n → (f o x).length = n) : ∀ (l : List α) (o : List Int), o.length = n → (l.foldl f o).length = n
  | [], o, h => h
  | x :: l, o, h => fold_len f n hf l _ (hf o x h)
theorem spR_len (T : List (List Int)) (M F : Int) (e : Nat) (a b : List Int) (i : Nat) (o : List Int) (k : Nat) (h : o.length = e) : (spR T M F e a b i o k).length = e := by
  unfold spR; rw [addv_len _ _ (by rw [vec_len]; omega)]; exact h
theorem imR_len (T : List (List Int)) (M F : Int) (e : Nat) (a b : List Int) (i : Nat) (o : List Int) (k : Nat) (h : o.length = e) : (imR T M F e a b i o k).length = e := by
  unfold imR; rw [addv_len _ _ (by rw [vec_len]; omega)]; exact h
theorem range_drop (e m : Nat) (h : m < e) : (List.range e).drop m = m :: (List.range e).drop (m + 1) := by
  rw [List.drop_eq_getElem_cons (by simpa using h)]; simp
theorem mps_l1 (T : List (List Int)) (M F : Int) (e : Nat) (he : e ≤ 12) (hT : Tab T e) (a b : List Int) (ha : a.length = e) (hb : b.length = e) (i : Nat) (hi : i < e) (r : List Int) :
    ∀ (d k : Nat) (out : List Int), d + k = e → out.length = e → Ev (fun f => spec_l06Times.l0 f (e : Int) a b T (((List.range e).drop k).foldl (spR T M F e a b i) out) M F ((i + 1 : Nat) : Int)) r →
      Ev (fun f => spec_l06Times.l1 f (e : Int) a b T out M F (i : Int) (k : Int)) r := by
  intro d
  induction d with
  | zero =>
    intro k out hk ho H
    rw [List.drop_eq_nil_of_le (by simp; omega), List.foldl_nil] at H
    refine Ev.step (fun f => ?_) H
    simp only [spec_l06Times.l1]
    rw [if_neg (by omega), w64 (x := (i : Int) + 1) (by omega) (by omega)]
    rfl
  | succ d ih =>
    intro k out hk ho H
    have hke : k < e := by omega
    rw [range_drop e k hke, List.foldl_cons] at H
    have H2 := ih (k + 1) _ (by omega) (spR_len T M F e a b i out k ho) H
    have hu := (dn_up e i k hi hke).2
    refine Ev.step (f := fun f => spec_l06Times.l2 f (e : Int) a b T out M F (i : Int) (k : Int) (wrap64 (a.getD i 0 * b.getD (up e i k) 0)) 0) (fun f => ?_) ?_
    · simp only [spec_l06Times.l1, up_mod e i k he hi hke]
      rw [if_pos (by omega), if_pos (by omega), if_pos (by omega), if_neg (by omega), if_pos (by omega), if_pos (by omega)]
      simp only [rd, Int.toNat_natCast]
    · exact mps_l2 T M F e he hT a b i k hi hke _ out ho r H2 e 0 out (by omega) ho (fun q hq => by rw [if_neg (by omega)])
theorem mps_l0 (T : List (List Int)) (M F : Int) (e : Nat) (he : e ≤ 12) (hT : Tab T e) (a b : List Int) (ha : a.length = e) (hb : b.length = e) :
    ∀ (d i : Nat) (out : List Int), d + i = e → out.length = e → Ev (fun f => spec_l06Times.l0 f (e : Int) a b T out M F (i : Int)) (((List.range e).drop i).foldl (fun o i => (List.range e).foldl (spR T M F e a b i) o) out) := by
  intro d
  induction d with
  | zero =>
    intro i out hi ho
    rw [List.drop_eq_nil_of_le (by simp; omega), List.foldl_nil]
    refine Ev.step (f := fun _ => some out) (fun f => ?_) (Ev.now _)
    simp only [spec_l06Times.l0]
    rw [if_neg (by omega)]
  | succ d ih =>
    intro i out hi ho
    have hie : i < e := by omega
    rw [range_drop e i hie, List.foldl_cons]
    refine Ev.step (f := fun f => spec_l06Times.l1 f (e : Int) a b T out M F (i : Int) 0) (fun f => ?_) ?_
    · simp only [spec_l06Times.l0]
      rw [if_pos (by omega)]
    · have := mps_l1 T M F e he hT a b ha hb i hie _ e 0 out (by omega) ho (by rw [List.drop_zero]; exact ih (i + 1) _ (by omega) (fold_len _ e (fun o x h => spR_len T M F e a b i o x h) _ _ ho))
      exact this
theorem mpi_l2 (T : List (List Int)) (M F p : Int) (cls : List Int) (e : Nat) (he : e ≤ 12) (hT : Tab T e) (a b : List Int) (i j : Nat) (hi : i < e) (hj : j < e) (x y : Int) (la lb : Int) (out : List Int) (ho : out.length = e) (r : List Int × Int × Int × Int)
    (H : Ev (fun f => impl_periods_times.l1 f b T (addv out (vec T M F e i (wrap64 (x * y)) (dn e i j))) M (i : Int) x a la (i : Int) b lb ((j + 1 : Nat) : Int) p (e : Int) F cls) r) :
    ∀ (d m : Nat) (cur : List Int), d + m = e → cur.length = e → (∀ q, q < e → cur.getD q 0 = if dn e i q < m then wrap64 (out.getD q 0 + wrap64 (wrap64 (x * y) * nb T M F (dn e i j) (dn e i q))) else out.getD q 0) →
      Ev (fun f => impl_periods_times.l2 f b T cur M (i : Int) x y (dn e i j : Int) a la (i : Int) b lb (j : Int) (e : Int) (m : Int) p (e : Int) F cls) r := by
  intro d
  have hk := (up_dn e i j hi hj).2
  induction d with
  | zero =>
    intro m cur hm hc h
    have e1 : m = e := by omega
    subst e1
    rw [← inner_end T M F m i _ _ hi out ho cur hc h] at H
    refine Ev.step (fun f => ?_) H
    simp only [impl_periods_times.l2]
    rw [if_neg (by omega), w64 (x := (j : Int) + 1) (by omega) (by omega)]
    rfl
  | succ d ih =>
    intro m cur hm hc h
    have hme : m < e := by omega
    obtain ⟨n1, n2⟩ := inner T M F e i (wrap64 (x * y)) (dn e i j) hi out ho m hme cur hc h
    have hu := dn_up e i m hi hme
    have hr := hT.row _ hk
    refine Ev.step (fun f => ?_) (ih (m + 1) _ (by omega) n1 n2)
    simp only [impl_periods_times.l2, up_mod e i m he hi hme]
    rw [if_pos (by omega), if_pos (by omega), if_pos (by have := hT.len; omega), if_pos (by omega), if_pos (by omega)]
    unfold nb
    by_cases c : (dn e i j : Int) = M
    · rw [if_pos c, if_neg (by omega), if_pos (by omega), if_pos (by omega), if_pos c, w64 (x := (m : Int) + 1) (by omega) (by omega)]
      simp only [rd, Int.toNat_natCast]
      rfl
    · rw [if_neg c, if_neg (by omega), if_pos (by omega), if_pos (by omega), if_neg c, w64 (x := (m : Int) + 1) (by omega) (by omega)]
      simp only [rd, Int.toNat_natCast]
      rfl
theorem mpi_l1 (T : List (List Int)) (M F p : Int) (cls : List Int) (e : Nat) (he : e ≤ 12) (hT : Tab T e) (a b : List Int) (ha : a.length = e) (hb : b.length = e) (i : Nat) (hi : i < e) (la : Int) (r : List Int × Int × Int × Int) :
    ∀ (d j : Nat) (out : List Int), d + j = e → out.length = e → Ev (fun f => impl_periods_times.l0 f b T (((List.range e).drop j).foldl (imR T M F e a b i) out) M a la ((i + 1 : Nat) : Int) p (e : Int) F cls) r →
      Ev (fun f => impl_periods_times.l1 f b T out M (i : Int) (a.getD i 0) a la (i : Int) b (b.length : Int) (j : Int) p (e : Int) F cls) r := by
  intro d
  induction d with
  | zero =>
    intro j out hj ho H
    rw [List.drop_eq_nil_of_le (by simp; omega), List.foldl_nil] at H
    refine Ev.step (fun f => ?_) H
    simp only [impl_periods_times.l1]
    rw [if_neg (by omega), w64 (x := (i : Int) + 1) (by omega) (by omega)]
    rfl
  | succ d ih =>
    intro j out hj ho H
    have hje : j < e := by omega
    rw [range_drop e j hje, List.foldl_cons] at H
    have H2 := ih (j + 1) _ (by omega) (imR_len T M F e a b i out j ho) H
    refine Ev.step (f := fun f => impl_periods_times.l2 f b T out M (i : Int) (a.getD i 0) (b.getD j 0) (dn e i j : Int) a la (i : Int) b (b.length : Int) (j : Int) (e : Int) 0 p (e : Int) F cls) (fun f => ?_) ?_
    · simp only [impl_periods_times.l1, dn_around e i j he hi hje, Option.bind_some]
      rw [if_pos (by omega), if_pos (by omega), if_pos (by omega)]
      simp only [rd, Int.toNat_natCast]
    · exact mpi_l2 T M F p cls e he hT a b i j hi hje _ _ la _ out ho r H2 e 0 out (by omega) ho (fun q hq => by rw [if_neg (by omega)])
theorem mpi_l0 (T : List (List Int)) (M F p : Int) (cls : List Int) (e : Nat) (he : e ≤ 12) (hT : Tab T e) (a b : List Int) (ha : a.length = e) (hb : b.length = e) :
    ∀ (d i : Nat) (out : List Int), d + i = e → out.length = e → Ev (fun f => impl_periods_times.l0 f b T out M a (a.length : Int) (i : Int) p (e : Int) F cls) (((List.range e).drop i).foldl (fun o i => (List.range e).foldl (imR T M F e a b i) o) out, p, (e : Int), F) := by
  intro d
  induction d with
  | zero =>
    intro i out hi ho
    rw [List.drop_eq_nil_of_le (by simp; omega), List.foldl_nil]
    refine Ev.step (f := fun _ => some (out, p, (e : Int), F)) (fun f => ?_) (Ev.now _)
    simp only [impl_periods_times.l0]
    rw [if_neg (by omega)]
  | succ d ih =>
    intro i out hi ho
    have hie : i < e := by omega
    rw [range_drop e i hie, List.foldl_cons]
    refine Ev.step (f := fun f => impl_periods_times.l1 f b T out M (i : Int) (a.getD i 0) a (a.length : Int) (i : Int) b (b.length : Int) 0 p (e : Int) F cls) (fun f => ?_) ?_
    · simp only [impl_periods_times.l0]
      rw [if_pos (by omega), if_pos (by omega), if_pos (by omega)]
      simp only [rd, Int.toNat_natCast]
    · have := mpi_l1 T M F p cls e he hT a b ha hb i hie (a.length : Int) _ e 0 out (by omega) ho (by rw [List.drop_zero]; exact ih (i + 1) _ (by omega) (fold_len _ e (fun o x h => imR_len T M F e a b i o x h) _ _ ho))
      exact this
theorem folds_eq (T : List (List Int)) (M F : Int) (e : Nat) (he : e ≤ 12) (a b : List Int) : ∀ (l : List Nat) (o : List Int), (∀ i ∈ l, i < e) → l.foldl (fun o i => (List.range e).foldl (imR T M F e a b i) o) o = l.foldl (fun o i => (List.range e).foldl (spR T M F e a b i) o) o
  | [], o, _ => rfl
  | i :: l, o, h => by
    rw [List.foldl_cons, List.foldl_cons, rows_eq T M F e he a b i (h i (by simp)), folds_eq T M F e he a b l _ (fun x hx => h x (by simp [hx]))]
def prodP (T : List (List Int)) (M F : Int) (e : Nat) (a b : List Int) : List Int := (List.range e).foldl (fun o i => (List.range e).foldl (spR T M F e a b i) o) (List.replicate e 0)
def tabOk (q : Int × Int) : Bool :=
  match impl_periodsOf.f 4000 q.1 q.2 with
  | some (p, e, F, cls, true) =>
    match impl_periods_table.f 4000 p e F cls, spec_l06Table.f 4000 q.1 q.2, spec_l06Indices.f 4000 q.1 with
    | some (T, p2, e2, F2), some T', some ix => decide (p = q.1 ∧ e = q.2 ∧ p2 = p ∧ e2 = e ∧ F2 = F ∧ F = wrap64 (Int.tdiv (wrap64 (q.1 - 1)) q.2) ∧ T' = T ∧ (T.length : Int) = e ∧ (∀ r ∈ T, (r.length : Int) = e) ∧ (cls.length : Int) = p ∧ (ix.length : Int) = p ∧ Int.tmod (rd ix (wrap64 (q.1 - 1))) q.2 = rd cls (wrap64 (q.1 - 1)))
    | _, _, _ => false
  | _ => false
theorem tab_ok : ∀ q ∈ pes, tabOk q = true := by decide +kernel
theorem tabs (p e : Int) (h : okPE p e = true) : ∃ (F M : Int) (cls : List Int) (T : List (List Int)), Ev (fun k => impl_periodsOf.f k p e) (p, e, F, cls, true) ∧ Ev (fun k => impl_periods_table.f k p e F cls) (T, p, e, F) ∧ Ev (fun k => spec_l06Table.f k p e) T ∧
    (∃ ix, Ev (fun k => spec_l06Indices.f k p) ix ∧ (ix.length : Int) = p ∧ Int.tmod (rd ix (wrap64 (p - 1))) e = M) ∧ (cls.length : Int) = p ∧ rd cls (wrap64 (p - 1)) = M ∧ F = wrap64 (Int.tdiv (wrap64 (p - 1)) e) ∧ Tab T e.toNat := by
  have hb := okPE_bd h
  have t := tab_ok (p, e) (okPE_mem h)
  unfold tabOk at t
  simp only at t
  split at t
  · rename_i p1 e1 F cls h1
    split at t
    · rename_i T p2 e2 F2 T' ix h2 h3 h4
      obtain ⟨rfl, rfl, rfl, rfl, rfl, hF, rfl, q1, q2, q3, q4, q5⟩ := of_decide_eq_true t
      refine ⟨_, _, cls, _, Ev.of (impl_periodsOf.mono _ _) h1, Ev.of (impl_periods_table.mono _ _ _ _) h2, Ev.of (spec_l06Table.mono _ _) h3, ⟨ix, Ev.of (spec_l06Indices.mono _) h4, q4, q5⟩, q3, rfl, hF, ⟨by omega, fun k hk => ?_⟩⟩
      have hk2 : k < T'.length := by omega
      have e1 : rd_L1 T' (k : Int) = T'[k] := by simp [rd_L1, hk2]
      rw [e1]
      have := q2 _ (List.getElem_mem hk2)
      omega
    · cases t
  · cases t
def nm (a b : Int) : Int := a * a - a * b + b * b
def dp (a b c d : Int) : Int := a * (c - d) - b * (-d)
def dq (a b c d : Int) : Int := a * (-d) + b * (c - d) - b * (-d)
def q1 (a b c d : Int) : Int := (2 * dp a b c d + nm c d) / (2 * nm c d)
def q2 (a b c d : Int) : Int := (2 * dq a b c d + nm c d) / (2 * nm c d)
def one (n : Int) : List Int := (List.replicate (phn n) 0).set 0 1
def ppz (e : Nat) : List Int := List.replicate e 0
def ppu (e i : Nat) : List Int := (ppz e).set i 1
def ppsub (o t : List Int) : List Int := List.zipWith (fun o x => wrap64 (o - x)) o t
/-- h(i) times b. -/
def ppH (T : List (List Int)) (M F : Int) (e i : Nat) (b : List Int) : List Int := (List.range e).foldl (spR T M F e (ppu e i) b i) (ppz e)
/-- a times h(0). -/
def ppW (T : List (List Int)) (M F : Int) (e : Nat) (a : List Int) : List Int := (List.range e).foldl (fun o i => spR T M F e a (ppu e 0) i o (dn e i 0)) (ppz e)
def ppRow (T : List (List Int)) (M F : Int) (e i : Nat) (l : List (List Int)) (k : Nat) : List Int :=
  if k < l.length then ppsub (if k = 0 then ppz e else l.getD (k - 1) []) (ppH T M F e i (l.getD k [])) else if k = 0 then ppz e else l.getD (k - 1) []
def ppNext (T : List (List Int)) (M F : Int) (e i : Nat) (l : List (List Int)) : List (List Int) := (List.range (l.length + 1)).map (ppRow T M F e i l)
def ppPoly (T : List (List Int)) (M F : Int) (e : Nat) : List Nat → List (List Int) → List (List Int)
  | [], l => l
  | i :: is, l => ppPoly T M F e is (ppNext T M F e i l)
def ppEnd (l : List (List Int)) : List Int := l.map fun a => wrap64 (-(a.getD 0 0))
def ppTr (l : List Int) : Int := l.foldl (fun t x => wrap64 (t - x)) 0
def ppSp (T : List (List Int)) (M F : Int) (e : Nat) : Nat → List Int → List Int
  | 0, _ => []
  | d + 1, pw => ppTr pw :: ppSp T M F e d (ppW T M F e pw)
def ppNs (s l : List Int) (k : Nat) : Int := (List.range k).foldl (fun t i => wrap64 (t - wrap64 (s.getD i 0 * l.getD (k - 1 - i) 0))) 0
def ppNw (s : List Int) : Nat → List Int → List Int
  | 0, l => l
  | d + 1, l => ppNw s d (l ++ [wrap64 (Int.tdiv (ppNs s l l.length) (l.length : Int))])
def ppfI {α : Type} (x : Int) (k : Int → α) : α := match x with
  | .ofNat 0 => k 0
  | .ofNat (n + 1) => k (Int.ofNat (n + 1))
  | .negSucc 0 => k (-1)
  | .negSucc (n + 1) => k (Int.negSucc (n + 1))
theorem ppfI_eq {α : Type} (x : Int) (k : Int → α) : ppfI x k = k x := by
  unfold ppfI
  split <;> rfl
def ppfL {α : Type} : List Int → (List Int → α) → α
  | [], k => k []
  | x :: xs, k => ppfI x fun y => ppfL xs fun ys => k (y :: ys)
theorem ppfL_eq {α : Type} : ∀ (l : List Int) (k : List Int → α), ppfL l k = k l
  | [], k => rfl
  | x :: xs, k => by rw [ppfL, ppfI_eq, ppfL_eq xs]
def ppRowsF {α : Type} (f : Nat → List Int) : List Nat → List (List Int) → (List (List Int) → α) → α
  | [], acc, c => c acc
  | k :: ks, acc, c => ppfL (f k) fun r => ppRowsF f ks (acc ++ [r]) c
theorem ppRowsF_eq {α : Type} (f : Nat → List Int) : ∀ (ks : List Nat) (acc : List (List Int)) (c : List (List Int) → α), ppRowsF f ks acc c = c (acc ++ ks.map f)
  | [], acc, c => by rw [ppRowsF, List.map_nil, List.append_nil]
  | k :: ks, acc, c => by rw [ppRowsF, ppfL_eq, ppRowsF_eq f ks, List.append_assoc]; rfl
def ppPolyF {α : Type} (T : List (List Int)) (M F : Int) (e : Nat) : List Nat → List (List Int) → (List (List Int) → α) → α
  | [], l, c => c l
  | i :: is, l, c => ppRowsF (ppRow T M F e i l) (List.range (l.length + 1)) [] fun n => ppPolyF T M F e is n c
theorem ppPolyF_eq {α : Type} (T : List (List Int)) (M F : Int) (e : Nat) : ∀ (is : List Nat) (l : List (List Int)) (c : List (List Int) → α), ppPolyF T M F e is l c = c (ppPoly T M F e is l)
  | [], l, c => rfl
  | i :: is, l, c => by
    rw [ppPolyF, ppRowsF_eq, ppPolyF_eq T M F e is, List.nil_append, ppPoly]
    rfl
def ppSpF {α : Type} (T : List (List Int)) (M F : Int) (e : Nat) : Nat → List Int → List Int → (List Int → α) → α
  | 0, _, acc, c => c acc
  | d + 1, pw, acc, c => ppfI (ppTr pw) fun t => ppfL (ppW T M F e pw) fun q => ppSpF T M F e d q (acc ++ [t]) c
theorem ppSpF_eq {α : Type} (T : List (List Int)) (M F : Int) (e : Nat) : ∀ (d : Nat) (pw acc : List Int) (c : List Int → α), ppSpF T M F e d pw acc c = c (acc ++ ppSp T M F e d pw)
  | 0, pw, acc, c => by rw [ppSpF, ppSp, List.append_nil]
  | d + 1, pw, acc, c => by rw [ppSpF, ppfI_eq, ppfL_eq, ppSpF_eq T M F e d, ppSp, List.append_assoc]; rfl
def ppNwF {α : Type} (s : List Int) : Nat → List Int → (List Int → α) → α
  | 0, l, c => c l
  | d + 1, l, c => ppfI (wrap64 (Int.tdiv (ppNs s l l.length) (l.length : Int))) fun t => ppNwF s d (l ++ [t]) c
theorem ppNwF_eq {α : Type} (s : List Int) : ∀ (d : Nat) (l : List Int) (c : List Int → α), ppNwF s d l c = c (ppNw s d l)
  | 0, l, c => rfl
  | d + 1, l, c => by rw [ppNwF, ppfI_eq, ppNwF_eq s d, ppNw]
def pokN (d : Int × Int × Int × Int × List (List Int) × List Int) : Bool :=
  ppPolyF d.2.2.2.2.1 d.2.2.2.1 d.2.2.1 d.2.1.toNat (List.range d.2.1.toNat) [List.replicate d.2.1.toNat (-1)] fun l => ppEnd l == d.2.2.2.2.2
def pokS (d : Int × Int × Int × Int × List (List Int) × List Int) : Bool :=
  ppSpF d.2.2.2.2.1 d.2.2.2.1 d.2.2.1 d.2.1.toNat d.2.1.toNat (ppu d.2.1.toNat 0) [] fun s => ppNwF s d.2.1.toNat [1] fun l => l.reverse == d.2.2.2.2.2
/-- For each prime and each number of classes: how many numbers a class has, the class of -1, the cyclotomic numbers, the period polynomial. -/
def pdat0 : List (Int × Int × Int × Int × List (List Int) × List Int) := [
  (3, 1, 2, 0, [[1]], [1, 1]),
  (3, 2, 1, 1, [[0, 1], [0, 0]], [1, 1, 1]),
  (5, 1, 4, 0, [[3]], [1, 1]),
  (5, 2, 2, 0, [[0, 1], [1, 1]], [-1, 1, 1]),
  (5, 4, 1, 2, [[0, 1, 0, 0], [0, 0, 0, 1], [0, 0, 0, 0], [0, 0, 1, 0]], [1, 1, 1, 1, 1]),
  (7, 1, 6, 0, [[5]], [1, 1]),
  (7, 2, 3, 1, [[1, 2], [1, 1]], [2, 1, 1]),
  (7, 3, 2, 0, [[0, 0, 1], [0, 1, 1], [1, 1, 0]], [-1, -2, 1, 1]),
  (7, 6, 1, 3, [[0, 0, 1, 0, 0, 0], [0, 0, 0, 0, 1, 0], [0, 1, 0, 0, 0, 0], [0, 0, 0, 0, 0, 0], [0, 0, 0, 0, 0, 1], [0, 0, 0, 1, 0, 0]], [1, 1, 1, 1, 1, 1, 1]),
  (11, 1, 10, 0, [[9]], [1, 1]),
  (11, 2, 5, 1, [[2, 3], [2, 2]], [3, 1, 1]),
  (11, 5, 2, 0, [[0, 1, 0, 0, 0], [1, 0, 0, 1, 0], [0, 0, 0, 1, 1], [0, 1, 1, 0, 0], [0, 0, 1, 0, 1]], [1, 3, -3, -4, 1, 1]),
  (13, 1, 12, 0, [[11]], [1, 1]),
  (13, 2, 6, 0, [[2, 3], [3, 3]], [-3, 1, 1]),
  (13, 3, 4, 0, [[0, 1, 2], [1, 2, 1], [2, 1, 1]], [1, -4, 1, 1]),
  (13, 4, 3, 2, [[0, 1, 2, 0], [1, 1, 0, 1], [0, 1, 0, 1], [1, 0, 1, 1]], [3, -4, 2, 1, 1]),
  (13, 6, 2, 0, [[0, 1, 0, 0, 0, 0], [1, 0, 0, 0, 1, 0], [0, 0, 0, 1, 1, 0], [0, 0, 1, 0, 0, 1], [0, 1, 1, 0, 0, 0], [0, 0, 0, 1, 0, 1]], [-1, 3, 6, -4, -5, 1, 1]),
  (17, 1, 16, 0, [[15]], [1, 1]),
  (17, 2, 8, 0, [[3, 4], [4, 4]], [-4, 1, 1]),
  (17, 4, 4, 0, [[0, 2, 1, 0], [2, 0, 1, 1], [1, 1, 1, 1], [0, 1, 1, 2]], [1, -1, -6, 1, 1]),
  (17, 8, 2, 0, [[0, 0, 0, 0, 0, 0, 1, 0], [0, 0, 0, 0, 1, 0, 1, 0], [0, 0, 1, 1, 0, 0, 0, 0], [0, 0, 1, 0, 0, 0, 0, 1], [0, 1, 0, 0, 0, 1, 0, 0], [0, 0, 0, 0, 1, 0, 0, 1], [1, 1, 0, 0, 0, 0, 0, 0], [0, 0, 0, 1, 0, 1, 0, 0]], [1, -4, -10, 10, 15, -6, -7, 1, 1]),
  (19, 1, 18, 0, [[17]], [1, 1]),
  (19, 2, 9, 1, [[4, 5], [4, 4]], [5, 1, 1]),
  (19, 3, 6, 0, [[2, 1, 2], [1, 2, 3], [2, 3, 1]], [-7, -6, 1, 1]),
  (19, 6, 3, 3, [[0, 1, 0, 2, 0, 0], [0, 1, 1, 0, 0, 1], [1, 0, 0, 0, 1, 1], [0, 0, 1, 0, 0, 1], [0, 0, 1, 1, 1, 0], [1, 1, 0, 0, 1, 0]], [7, 5, -1, -8, 2, 1, 1]),
  (19, 9, 2, 0, [[0, 1, 0, 0, 0, 0, 0, 0, 0], [1, 0, 0, 0, 1, 0, 0, 0, 0], [0, 0, 0, 0, 1, 0, 0, 1, 0], [0, 0, 0, 0, 0, 0, 1, 0, 1], [0, 1, 1, 0, 0, 0, 0, 0, 0], [0, 0, 0, 0, 0, 0, 1, 1, 0], [0, 0, 0, 1, 0, 1, 0, 0, 0], [0, 0, 1, 0, 0, 1, 0, 0, 0], [0, 0, 0, 1, 0, 0, 0, 0, 1]], [1, 5, -10, -20, 15, 21, -7, -8, 1, 1]),
  (23, 1, 22, 0, [[21]], [1, 1]),
  (23, 2, 11, 1, [[5, 6], [5, 5]], [6, 1, 1]),
  (29, 1, 28, 0, [[27]], [1, 1]),
  (29, 2, 14, 0, [[6, 7], [7, 7]], [-7, 1, 1]),
  (29, 4, 7, 2, [[2, 3, 0, 2], [1, 1, 2, 3], [2, 1, 2, 1], [1, 2, 3, 1]], [23, 20, 4, 1, 1]),
  (29, 7, 4, 0, [[0, 1, 0, 0, 2, 0, 0], [1, 0, 1, 0, 0, 1, 1], [0, 1, 0, 1, 1, 1, 0], [0, 0, 1, 2, 0, 1, 0], [2, 0, 1, 0, 0, 0, 1], [0, 1, 1, 1, 0, 0, 1], [0, 1, 0, 0, 1, 1, 1]], [1, -9, 14, 28, -7, -12, 1, 1]),
  (31, 1, 30, 0, [[29]], [1, 1]),
  (31, 2, 15, 1, [[7, 8], [7, 7]], [8, 1, 1]),
  (31, 3, 10, 0, [[3, 4, 2], [4, 2, 4], [2, 4, 4]], [-8, -10, 1, 1]),
  (31, 5, 6, 0, [[2, 0, 0, 2, 1], [0, 1, 2, 1, 2], [0, 2, 2, 1, 1], [2, 1, 1, 0, 2], [1, 2, 1, 2, 0]], [5, 1, -21, -12, 1, 1]),
  (31, 6, 5, 3, [[1, 2, 2, 0, 0, 0], [1, 0, 1, 0, 2, 1], [0, 1, 1, 0, 1, 2], [1, 1, 0, 1, 1, 0], [1, 0, 1, 2, 0, 1], [0, 1, 0, 2, 1, 1]], [32, 36, 44, 11, 3, 1, 1]),
  (37, 1, 36, 0, [[35]], [1, 1]),
  (37, 2, 18, 0, [[8, 9], [9, 9]], [-9, 1, 1]),
  (37, 3, 12, 0, [[2, 5, 4], [5, 4, 3], [4, 3, 5]], [11, -12, 1, 1]),
  (37, 4, 9, 2, [[2, 1, 2, 4], [2, 2, 4, 1], [2, 2, 2, 2], [2, 4, 1, 2]], [49, 7, 5, 1, 1]),
  (37, 6, 6, 0, [[2, 1, 0, 0, 2, 0], [1, 0, 1, 1, 2, 1], [0, 1, 2, 2, 0, 1], [0, 1, 2, 0, 1, 2], [2, 2, 0, 1, 0, 1], [0, 1, 1, 2, 1, 1]], [-1, 38, 15, -28, -15, 1, 1]),
  (37, 9, 4, 0, [[0, 1, 0, 0, 0, 2, 0, 0, 0], [1, 0, 1, 1, 0, 0, 0, 0, 1], [0, 1, 0, 0, 0, 1, 1, 0, 1], [0, 1, 0, 0, 0, 1, 1, 1, 0], [0, 0, 0, 0, 2, 0, 1, 1, 0], [2, 0, 1, 1, 0, 0, 0, 0, 0], [0, 0, 1, 1, 1, 0, 0, 1, 0], [0, 0, 0, 1, 1, 0, 1, 0, 1], [0, 1, 1, 0, 0, 0, 0, 1, 1]], [1, 7, -7, -73, 32, 66, -11, -16, 1, 1])]
def pdat1 : List (Int × Int × Int × Int × List (List Int) × List Int) := [
  (41, 1, 40, 0, [[39]], [1, 1]),
  (41, 2, 20, 0, [[9, 10], [10, 10]], [-10, 1, 1]),
  (41, 4, 10, 0, [[0, 4, 3, 2], [4, 2, 2, 2], [3, 2, 3, 2], [2, 2, 2, 4]], [-4, 18, -15, 1, 1]),
  (41, 5, 8, 0, [[0, 3, 2, 2, 0], [3, 0, 2, 1, 2], [2, 2, 2, 1, 1], [2, 1, 1, 2, 2], [0, 2, 1, 2, 3]], [-9, 21, 5, -16, 1, 1]),
  (41, 8, 5, 4, [[0, 2, 1, 2, 0, 0, 0, 0], [1, 0, 1, 0, 0, 2, 0, 1], [1, 0, 1, 1, 0, 0, 1, 1], [0, 0, 0, 1, 0, 1, 1, 2], [0, 1, 1, 0, 0, 1, 1, 0], [1, 0, 1, 1, 2, 0, 0, 0], [1, 1, 0, 0, 1, 1, 1, 0], [0, 1, 0, 0, 2, 0, 1, 1]], [59, -160, 153, -53, 44, 11, 3, 1, 1]),
  (43, 1, 42, 0, [[41]], [1, 1]),
  (43, 2, 21, 1, [[10, 11], [10, 10]], [11, 1, 1]),
  (43, 3, 14, 0, [[3, 6, 4], [6, 4, 4], [4, 4, 6]], [8, -14, 1, 1]),
  (43, 6, 7, 3, [[0, 2, 2, 3, 0, 0], [2, 1, 1, 0, 2, 1], [1, 1, 2, 0, 1, 2], [0, 2, 1, 0, 2, 1], [2, 0, 1, 2, 1, 1], [1, 1, 0, 2, 1, 2]], [44, -50, 67, -23, 4, 1, 1]),
  (43, 7, 6, 0, [[2, 0, 0, 0, 2, 0, 1], [0, 1, 1, 1, 0, 2, 1], [0, 1, 0, 2, 1, 1, 1], [0, 1, 2, 2, 0, 1, 0], [2, 0, 1, 0, 0, 1, 2], [0, 2, 1, 1, 1, 0, 1], [1, 1, 1, 0, 2, 1, 0]], [-49, 7, 104, 38, -35, -18, 1, 1]),
  (47, 1, 46, 0, [[45]], [1, 1]),
  (47, 2, 23, 1, [[11, 12], [11, 11]], [12, 1, 1]),
  (53, 1, 52, 0, [[51]], [1, 1]),
  (53, 2, 26, 0, [[12, 13], [13, 13]], [-13, 1, 1]),
  (53, 4, 13, 2, [[2, 3, 6, 2], [4, 4, 2, 3], [2, 4, 2, 4], [4, 2, 3, 4]], [47, -43, 7, 1, 1]),
  (59, 1, 58, 0, [[57]], [1, 1]),
  (59, 2, 29, 1, [[14, 15], [14, 14]], [15, 1, 1]),
  (61, 1, 60, 0, [[59]], [1, 1]),
  (61, 2, 30, 0, [[14, 15], [15, 15]], [-15, 1, 1]),
  (61, 3, 20, 0, [[6, 5, 8], [5, 8, 7], [8, 7, 5]], [-9, -20, 1, 1]),
  (61, 4, 15, 2, [[4, 3, 2, 6], [3, 3, 6, 3], [4, 3, 4, 3], [3, 6, 3, 3]], [117, 42, 8, 1, 1]),
  (61, 5, 12, 0, [[2, 3, 0, 4, 2], [3, 2, 2, 3, 2], [0, 2, 4, 3, 3], [4, 3, 3, 0, 2], [2, 2, 3, 2, 3]], [-13, 41, -17, -24, 1, 1]),
  (61, 6, 10, 0, [[0, 3, 2, 2, 0, 2], [3, 2, 1, 1, 2, 1], [2, 1, 0, 2, 4, 1], [2, 1, 2, 2, 1, 2], [0, 2, 4, 1, 2, 1], [2, 1, 1, 2, 1, 3]], [27, -126, 123, 8, -25, 1, 1])]
def pdat2 : List (Int × Int × Int × Int × List (List Int) × List Int) := [
  (11, 10, 1, 5, [[0, 1, 0, 0, 0, 0, 0, 0, 0, 0], [0, 0, 0, 0, 0, 0, 0, 0, 1, 0], [0, 0, 0, 0, 1, 0, 0, 0, 0, 0], [0, 0, 0, 0, 0, 0, 1, 0, 0, 0], [0, 0, 0, 0, 0, 0, 0, 0, 0, 1], [0, 0, 0, 0, 0, 0, 0, 0, 0, 0], [0, 0, 0, 0, 0, 1, 0, 0, 0, 0], [0, 0, 0, 1, 0, 0, 0, 0, 0, 0], [0, 0, 1, 0, 0, 0, 0, 0, 0, 0], [0, 0, 0, 0, 0, 0, 0, 1, 0, 0]], [1, 1, 1, 1, 1, 1, 1, 1, 1, 1, 1]),
  (23, 11, 2, 0, [[0, 0, 1, 0, 0, 0, 0, 0, 0, 0, 0], [0, 0, 0, 0, 1, 0, 0, 1, 0, 0, 0], [1, 0, 0, 0, 0, 1, 0, 0, 0, 0, 0], [0, 0, 0, 0, 0, 0, 0, 0, 0, 1, 1], [0, 1, 0, 0, 0, 1, 0, 0, 0, 0, 0], [0, 0, 1, 0, 1, 0, 0, 0, 0, 0, 0], [0, 0, 0, 0, 0, 0, 0, 0, 1, 0, 1], [0, 1, 0, 0, 0, 0, 0, 0, 1, 0, 0], [0, 0, 0, 0, 0, 0, 1, 1, 0, 0, 0], [0, 0, 0, 1, 0, 0, 0, 0, 0, 1, 0], [0, 0, 0, 1, 0, 0, 1, 0, 0, 0, 0]], [-1, -6, 15, 35, -35, -56, 28, 36, -9, -10, 1, 1]),
  (31, 10, 3, 5, [[0, 0, 0, 0, 1, 2, 0, 0, 0, 0], [0, 0, 1, 0, 0, 0, 1, 0, 1, 0], [0, 1, 1, 0, 1, 0, 0, 0, 0, 0], [1, 0, 0, 0, 0, 0, 1, 0, 0, 1], [0, 1, 0, 1, 0, 0, 0, 0, 1, 0], [0, 0, 0, 1, 0, 0, 0, 0, 1, 0], [0, 0, 0, 0, 1, 0, 0, 1, 0, 1], [0, 0, 0, 1, 0, 0, 1, 1, 0, 0], [1, 0, 1, 0, 0, 0, 0, 0, 0, 1], [0, 1, 0, 0, 0, 1, 0, 1, 0, 0]], [25, 20, 63, 6, 43, -11, -9, -16, 2, 1, 1]),
  (41, 10, 4, 0, [[0, 0, 0, 0, 0, 0, 1, 0, 2, 0], [0, 0, 1, 0, 0, 1, 0, 1, 0, 1], [0, 1, 2, 0, 0, 1, 0, 0, 0, 0], [0, 0, 0, 0, 1, 0, 1, 1, 1, 0], [0, 0, 0, 1, 1, 0, 0, 1, 0, 1], [0, 1, 1, 0, 0, 0, 1, 1, 0, 0], [1, 0, 0, 1, 0, 1, 0, 0, 0, 1], [0, 1, 0, 1, 1, 1, 0, 0, 0, 0], [2, 0, 0, 1, 0, 0, 0, 0, 0, 1], [0, 1, 0, 0, 1, 0, 1, 0, 1, 0]], [1, -23, 72, -7, -143, 47, 91, -13, -18, 1, 1]),
  (61, 10, 6, 0, [[2, 1, 0, 0, 0, 0, 0, 0, 2, 0], [1, 0, 0, 0, 1, 1, 1, 0, 2, 0], [0, 0, 2, 2, 0, 0, 1, 1, 0, 0], [0, 0, 2, 0, 0, 1, 1, 1, 0, 1], [0, 1, 0, 0, 0, 1, 1, 1, 1, 1], [0, 1, 0, 1, 1, 0, 1, 0, 1, 1], [0, 1, 1, 1, 1, 1, 0, 1, 0, 0], [0, 0, 1, 1, 1, 0, 1, 0, 0, 2], [2, 2, 0, 0, 1, 1, 0, 0, 0, 0], [0, 0, 0, 1, 1, 1, 0, 2, 0, 1]], [-13, -202, -916, -1023, 1, 500, 161, -56, -27, 1, 1])]
def pdat3 : List (Int × Int × Int × Int × List (List Int) × List Int) := [
  (13, 12, 1, 6, [[0, 1, 0, 0, 0, 0, 0, 0, 0, 0, 0, 0], [0, 0, 0, 0, 1, 0, 0, 0, 0, 0, 0, 0], [0, 0, 0, 0, 0, 0, 0, 0, 0, 1, 0, 0], [0, 0, 0, 0, 0, 0, 0, 0, 1, 0, 0, 0], [0, 0, 1, 0, 0, 0, 0, 0, 0, 0, 0, 0], [0, 0, 0, 0, 0, 0, 0, 0, 0, 0, 0, 1], [0, 0, 0, 0, 0, 0, 0, 0, 0, 0, 0, 0], [0, 0, 0, 0, 0, 0, 1, 0, 0, 0, 0, 0], [0, 0, 0, 0, 0, 0, 0, 0, 0, 0, 1, 0], [0, 0, 0, 0, 0, 1, 0, 0, 0, 0, 0, 0], [0, 0, 0, 0, 0, 0, 0, 1, 0, 0, 0, 0], [0, 0, 0, 1, 0, 0, 0, 0, 0, 0, 0, 0]], [1, 1, 1, 1, 1, 1, 1, 1, 1, 1, 1, 1, 1]),
  (37, 12, 3, 6, [[0, 1, 0, 0, 0, 0, 2, 0, 0, 0, 0, 0], [0, 0, 1, 0, 1, 0, 0, 0, 0, 0, 1, 0], [0, 0, 1, 0, 0, 0, 0, 0, 0, 1, 0, 1], [0, 0, 0, 0, 1, 1, 0, 0, 1, 0, 0, 0], [1, 0, 0, 0, 0, 0, 0, 1, 0, 0, 0, 1], [0, 0, 0, 0, 0, 0, 0, 0, 1, 0, 1, 1], [0, 0, 0, 0, 1, 0, 0, 0, 0, 0, 1, 0], [0, 0, 0, 1, 0, 1, 1, 0, 0, 0, 0, 0], [0, 0, 0, 1, 0, 0, 0, 1, 1, 0, 0, 0], [0, 1, 1, 0, 0, 1, 0, 0, 0, 0, 0, 0], [1, 0, 0, 0, 0, 0, 0, 1, 0, 1, 0, 0], [0, 1, 0, 1, 0, 0, 0, 0, 0, 1, 0, 0]], [47, -77, -13, -2, 94, 51, 85, -19, -13, -20, 2, 1, 1]),
  (61, 12, 5, 6, [[0, 1, 0, 0, 0, 0, 0, 2, 0, 0, 0, 2], [0, 0, 1, 1, 1, 0, 2, 0, 0, 0, 0, 0], [1, 0, 0, 1, 1, 0, 0, 0, 0, 1, 1, 0], [1, 0, 0, 1, 0, 0, 0, 0, 1, 0, 1, 1], [0, 0, 1, 0, 1, 0, 0, 0, 1, 1, 0, 1], [0, 0, 0, 0, 0, 0, 2, 0, 0, 1, 1, 1], [0, 0, 1, 1, 0, 0, 0, 0, 1, 1, 0, 0], [0, 2, 0, 0, 1, 1, 1, 0, 0, 0, 0, 0], [1, 0, 0, 0, 1, 1, 0, 1, 0, 0, 1, 0], [1, 0, 0, 0, 0, 1, 0, 1, 1, 1, 0, 0], [0, 1, 1, 0, 0, 0, 0, 1, 1, 0, 1, 0], [0, 1, 1, 1, 0, 2, 0, 0, 0, 0, 0, 0]], [1179, -780, 1102, 160, -804, 167, 325, -169, -17, 11, 3, 1, 1])]
theorem rdn (l : List Int) (i : Nat) : rd l (i : Int) = l.getD i 0 := by unfold rd; rw [Int.toNat_natCast]
theorem rdL (l : List (List Int)) (i : Nat) : rd_L1 l (i : Int) = l.getD i [] := by unfold rd_L1; rw [Int.toNat_natCast]
theorem getD_set (l : List Int) (i j : Nat) (x : Int) (hi : i < l.length) : (l.set i x).getD j 0 = if i = j then x else l.getD j 0 := by
  rw [List.getD_eq_getElem?_getD, List.getElem?_set]
  by_cases c : i = j
  · rw [if_pos c, if_pos hi, if_pos c]; rfl
  · rw [if_neg c, if_neg c, List.getD_eq_getElem?_getD]
theorem ext_getD {l m : List Int} (h : l.length = m.length) (e : ∀ t, t < l.length → l.getD t 0 = m.getD t 0) : l = m := by
  refine List.ext_getElem h fun t h1 h2 => ?_
  have := e t h1
  rwa [List.getD_eq_getElem?_getD, List.getD_eq_getElem?_getD, List.getElem?_eq_getElem h1, List.getElem?_eq_getElem h2] at this
theorem rep_get (n t : Nat) (x : Int) (h : t < n) : (List.replicate n x).getD t 0 = x := by
  rw [List.getD_eq_getElem?_getD, List.getElem?_replicate, if_pos h]
  rfl
theorem ppz_len (e : Nat) : (ppz e).length = e := by simp [ppz]
theorem ppu_len (e i : Nat) : (ppu e i).length = e := by simp [ppu, ppz]
theorem ppu_get (e i j : Nat) (hi : i < e) (hj : j < e) : (ppu e i).getD j 0 = if i = j then 1 else 0 := by
  unfold ppu
  rw [getD_set _ _ _ _ (by rw [ppz_len]; exact hi)]
  split
  · rfl
  · unfold ppz; exact rep_get _ _ _ hj
theorem wrap_wrap (x : Int) : wrap64 (wrap64 x) = wrap64 x := by unfold wrap64; omega
/-- A row of e numbers of 64 bits. -/
def Fix (e : Nat) (o : List Int) : Prop := o.length = e ∧ ∀ q, q < e → wrap64 (o.getD q 0) = o.getD q 0
theorem Fix.zero (e : Nat) : Fix e (ppz e) := ⟨ppz_len e, fun q hq => by unfold ppz; rw [rep_get _ _ _ hq]; exact w64 (by omega) (by omega)⟩
section
variable (T : List (List Int)) (M F : Int) (e : Nat)
theorem Fix.grow (a b : List Int) (i k : Nat) {o : List Int} (h : Fix e o) : Fix e (spR T M F e a b i o k) := by
  refine ⟨spR_len T M F e a b i o k h.1, fun q hq => ?_⟩
  have hv := vec_len T M F e i (wrap64 (a.getD i 0 * b.getD (up e i k) 0)) k
  unfold spR
  rw [addv_get _ _ (by rw [hv, h.1]) q (by rw [h.1]; exact hq), wrap_wrap]
theorem spR_zero (a b : List Int) (i k : Nat) {o : List Int} (h : Fix e o) (h0 : wrap64 (a.getD i 0 * b.getD (up e i k) 0) = 0) : spR T M F e a b i o k = o := by
  have hv := vec_len T M F e i (wrap64 (a.getD i 0 * b.getD (up e i k) 0)) k
  refine ext_getD (by rw [spR_len T M F e a b i o k h.1, h.1]) fun q hq => ?_
  rw [spR_len T M F e a b i o k h.1] at hq
  unfold spR
  rw [addv_get _ _ (by rw [hv, h.1]) q (by rw [h.1]; exact hq), vec_get _ _ _ _ _ _ _ _ hq, h0, Int.zero_mul, show wrap64 0 = 0 from w64 (by omega) (by omega), Int.add_zero]
  exact h.2 q hq
theorem fold_fix (a b : List Int) (i : Nat) : ∀ (l : List Nat) {o : List Int}, Fix e o → Fix e (l.foldl (spR T M F e a b i) o)
  | [], _, h => h
  | k :: l, _, h => fold_fix a b i l (h.grow T M F e a b i k)
theorem fold_id (a b : List Int) (i : Nat) : ∀ (l : List Nat) {o : List Int}, Fix e o → (∀ k ∈ l, wrap64 (a.getD i 0 * b.getD (up e i k) 0) = 0) → l.foldl (spR T M F e a b i) o = o
  | [], _, _, _ => rfl
  | k :: l, o, h, hk => by
    rw [List.foldl_cons, spR_zero T M F e a b i k h (hk k (by simp))]
    exact fold_id a b i l h fun x hx => hk x (List.mem_cons_of_mem _ hx)
theorem prod_unit (i : Nat) (hi : i < e) (b : List Int) : prodP T M F e (ppu e i) b = ppH T M F e i b := by
  have hF : Fix e (ppH T M F e i b) := fold_fix T M F e (ppu e i) b i _ (Fix.zero e)
  have key : ∀ n, n ≤ e → (List.range n).foldl (fun o j => (List.range e).foldl (spR T M F e (ppu e i) b j) o) (List.replicate e 0) = if i < n then ppH T M F e i b else ppz e := by
    intro n
    induction n with
    | zero => intro _; rw [if_neg (by omega)]; rfl
    | succ n ih =>
      intro hn
      rw [List.range_succ, List.foldl_append, ih (by omega), List.foldl_cons, List.foldl_nil]
      have idn : n ≠ i → ∀ o, Fix e o → (List.range e).foldl (spR T M F e (ppu e i) b n) o = o := fun hne o ho => fold_id T M F e (ppu e i) b n _ ho fun k _ => by
        rw [ppu_get e i n hi (by omega), if_neg (fun h => hne h.symm), Int.zero_mul]
        exact w64 (by omega) (by omega)
      by_cases c : n = i
      · subst c
        rw [if_neg (by omega), if_pos (by omega)]
        rfl
      · by_cases c2 : i < n
        · rw [if_pos c2, if_pos (by omega)]
          exact idn c _ hF
        · rw [if_neg c2, if_neg (by omega)]
          exact idn c _ (Fix.zero e)
  have := key e (Nat.le_refl _)
  rw [if_pos hi] at this
  exact this
theorem prod_one (he : 0 < e) (a : List Int) : prodP T M F e a (ppu e 0) = ppW T M F e a := by
  have inner : ∀ i, i < e → ∀ o, Fix e o → (List.range e).foldl (spR T M F e a (ppu e 0) i) o = spR T M F e a (ppu e 0) i o (dn e i 0) := by
    intro i hi o ho
    have hk0 := (up_dn e i 0 hi he).2
    have key : ∀ n, n ≤ e → (List.range n).foldl (spR T M F e a (ppu e 0) i) o = if dn e i 0 < n then spR T M F e a (ppu e 0) i o (dn e i 0) else o := by
      intro n
      induction n with
      | zero => intro _; rw [if_neg (by omega)]; rfl
      | succ n ih =>
        intro hn
        rw [List.range_succ, List.foldl_append, ih (by omega), List.foldl_cons, List.foldl_nil]
        have idn : n ≠ dn e i 0 → ∀ o, Fix e o → spR T M F e a (ppu e 0) i o n = o := fun hne o ho => spR_zero T M F e a (ppu e 0) i n ho (by
          have h2 := dn_up e i n hi (by omega)
          have h3 : up e i n ≠ 0 := fun h => hne (by rw [← h2.1, h])
          rw [ppu_get e 0 (up e i n) he h2.2, if_neg (fun h => h3 h.symm), Int.mul_zero]
          exact w64 (by omega) (by omega))
        by_cases c : n = dn e i 0
        · rw [if_neg (by omega), if_pos (by omega), c]
        · by_cases c2 : dn e i 0 < n
          · rw [if_pos c2, if_pos (by omega)]
            exact idn c _ (ho.grow T M F e a (ppu e 0) i _)
          · rw [if_neg c2, if_neg (by omega)]
            exact idn c _ ho
    have := key e (Nat.le_refl _)
    rwa [if_pos hk0] at this
  have outer : ∀ (l : List Nat) (o : List Int), Fix e o → (∀ i ∈ l, i < e) → l.foldl (fun o i => (List.range e).foldl (spR T M F e a (ppu e 0) i) o) o = l.foldl (fun o i => spR T M F e a (ppu e 0) i o (dn e i 0)) o := by
    intro l
    induction l with
    | nil => intro o _ _; rfl
    | cons i l ih =>
      intro o ho hl
      rw [List.foldl_cons, List.foldl_cons, inner i (hl i (by simp)) o ho]
      exact ih _ (ho.grow T M F e a (ppu e 0) i _) fun x hx => hl x (List.mem_cons_of_mem _ hx)
  exact outer _ _ (Fix.zero e) fun i hi => List.mem_range.mp hi
end
theorem ppH_len (T : List (List Int)) (M F : Int) (e i : Nat) (b : List Int) : (ppH T M F e i b).length = e := fold_len _ e (fun o k h => spR_len T M F e _ b i o k h) _ _ (ppz_len e)
theorem ppW_len (T : List (List Int)) (M F : Int) (e : Nat) (a : List Int) : (ppW T M F e a).length = e := fold_len _ e (fun o k h => spR_len T M F e a _ k o _ h) _ _ (ppz_len e)
theorem ppsub_len (o t : List Int) (h : o.length = t.length) : (ppsub o t).length = o.length := by simp [ppsub, h]
theorem ppsub_get (o t : List Int) (h : o.length = t.length) (q : Nat) (hq : q < o.length) : (ppsub o t).getD q 0 = wrap64 (o.getD q 0 - t.getD q 0) := by
  rw [gE _ _ (by rw [ppsub_len o t h]; exact hq), gE _ _ hq, gE _ _ (show q < t.length by omega)]
  simp [ppsub]
structure Kit (p : Int) (E : Nat) (T : List (List Int)) (M F : Int) (cls : List Int) : Prop where
  e0 : 1 ≤ E
  e1 : E ≤ 12
  per : Ev (fun k => impl_periodsOf.f k p (E : Int)) (p, (E : Int), F, cls, true)
  it : ∀ a b : List Int, a.length = E → b.length = E → Ev (fun k => impl_periods_times.f k p (E : Int) F cls a b) (prodP T M F E a b, p, (E : Int), F)
  st : ∀ a b : List Int, a.length = E → b.length = E → Ev (fun k => spec_l06Times.f k p (E : Int) a b) (prodP T M F E a b)
theorem Ev.one {α : Type} {g : Nat → Option α} {r s : α} (h : Ev g r) (h2 : Ev g s) : r = s := by
  obtain ⟨a, ha⟩ := h
  obtain ⟨b, hb⟩ := h2
  have h1 := ha (a + b) (by omega)
  rw [hb (a + b) (by omega)] at h1
  exact (Option.some.inj h1).symm
/-- The table, the class of -1 and the number of numbers of a class are those that are told. -/
def ptab (d : Int × Int × Int × Int × List (List Int) × List Int) : Bool :=
  okPE d.1 d.2.1 && decide (d.2.2.1 = wrap64 (Int.tdiv (wrap64 (d.1 - 1)) d.2.1)) && match spec_l06Table.f 4000 d.1 d.2.1, spec_l06Indices.f 4000 d.1 with
  | some T, some ix => decide (T = d.2.2.2.2.1 ∧ Int.tmod (rd ix (wrap64 (d.1 - 1))) d.2.1 = d.2.2.2.1)
  | _, _ => false
theorem ptab0 : ∀ d ∈ pdat0, ptab d = true := by decide +kernel
theorem ptab1 : ∀ d ∈ pdat1, ptab d = true := by decide +kernel
theorem ptab2 : ∀ d ∈ pdat2, ptab d = true := by decide +kernel
theorem ptab3 : ∀ d ∈ pdat3, ptab d = true := by decide +kernel
theorem pokN0 : ∀ d ∈ pdat0, pokN d = true := by decide +kernel
theorem pokN1 : ∀ d ∈ pdat1, pokN d = true := by decide +kernel
theorem pokN2 : ∀ d ∈ pdat2, pokN d = true := by decide +kernel
theorem pokN3 : ∀ d ∈ pdat3, pokN d = true := by decide +kernel
theorem pokS0 : ∀ d ∈ pdat0, pokS d = true := by decide +kernel
theorem pokS1 : ∀ d ∈ pdat1, pokS d = true := by decide +kernel
theorem pokS2 : ∀ d ∈ pdat2, pokS d = true := by decide +kernel
theorem pokS3 : ∀ d ∈ pdat3, pokS d = true := by decide +kernel
theorem pall : (pes.all fun q => (pdat0 ++ pdat1 ++ pdat2 ++ pdat3).any fun d => d.1 == q.1 && d.2.1 == q.2) = true := by decide +kernel
theorem pget (p e : Int) (h : okPE p e = true) : ∃ d, d.1 = p ∧ d.2.1 = e ∧ ptab d = true ∧ pokN d = true ∧ pokS d = true := by
  have := List.all_eq_true.mp pall (p, e) (okPE_mem h)
  obtain ⟨d, hd, h2⟩ := List.any_eq_true.mp this
  simp only [Bool.and_eq_true, beq_iff_eq] at h2
  refine ⟨d, h2.1, h2.2, ?_⟩
  simp only [List.mem_append] at hd
  rcases hd with ((hd | hd) | hd) | hd
  · exact ⟨ptab0 d hd, pokN0 d hd, pokS0 d hd⟩
  · exact ⟨ptab1 d hd, pokN1 d hd, pokS1 d hd⟩
  · exact ⟨ptab2 d hd, pokN2 d hd, pokS2 d hd⟩
  · exact ⟨ptab3 d hd, pokN3 d hd, pokS3 d hd⟩
def endOf (T : List (List Int)) (M F : Int) (E : Nat) : List Int := ppEnd (ppPoly T M F E (List.range E) [List.replicate E (-1)])
def revOf (T : List (List Int)) (M F : Int) (E : Nat) : List Int := (ppNw (ppSp T M F E E (ppu E 0)) E [1]).reverse
theorem pkit (p e : Int) (h : okPE p e = true) : ∃ (E : Nat) (T : List (List Int)) (M F : Int) (cls res : List Int), e = E ∧ Kit p E T M F cls ∧ endOf T M F E = res ∧ revOf T M F E = res := by
  have hbd0 := okPE_bd h
  obtain ⟨⟨p', e', F', M', T', res⟩, rfl, rfl, d1, d2, d3⟩ := pget p e h
  have hbd : 3 ≤ p' ∧ p' ≤ 61 ∧ 1 ≤ e' ∧ e' ≤ 12 := hbd0
  clear hbd0
  obtain ⟨F, M, cls, T, t1, t2, t3, ⟨ix, t4, t5, t6⟩, t7, t8, t9, t10⟩ := tabs p' e' h
  obtain ⟨E, rfl⟩ : ∃ E : Nat, e' = E := ⟨e'.toNat, by omega⟩
  simp only [ptab, Bool.and_eq_true, decide_eq_true_eq] at d1
  obtain ⟨⟨_, f1⟩, f2⟩ := d1
  have eqs : T' = T ∧ M' = M ∧ F' = F := by
    split at f2
    · rename_i T2 ix2 g1 g2
      obtain ⟨rfl, rfl⟩ := of_decide_eq_true f2
      have u1 := Ev.one t3 (Ev.of (spec_l06Table.mono _ _) g1)
      have u2 := Ev.one t4 (Ev.of (spec_l06Indices.mono _) g2)
      subst u2
      exact ⟨u1.symm, t6, by rw [f1, t9]⟩
    · cases f2
  obtain ⟨rfl, rfl, rfl⟩ := eqs
  simp only [pokN, pokS, ppPolyF_eq, ppSpF_eq, ppNwF_eq, beq_iff_eq, Int.toNat_natCast, List.nil_append] at d2 d3
  rw [Int.toNat_natCast] at t10
  have wp : wrap64 (p' - 1) = p' - 1 := w64 (by omega) (by omega)
  refine ⟨E, T', M', F', cls, res, rfl, ⟨by omega, by omega, t1, fun a b ha hb => ?_, fun a b ha hb => ?_⟩, d2, d3⟩
  · unfold impl_periods_times.f
    refine Ev.bind t2 ?_
    simp only [Int.toNat_natCast, if_pos (show 0 ≤ (E : Int) by omega), if_pos (show E ≤ 35184372088832 by omega), wp, if_pos (show 0 ≤ p' - 1 by omega), if_pos (show p' - 1 < (cls.length : Int) by omega)]
    rw [wp] at t8
    rw [t8]
    have := mpi_l0 T' M' F' p' cls E (by omega) t10 a b ha hb E 0 (List.replicate E 0) (by omega) (by simp)
    rw [List.drop_zero, folds_eq T' M' F' E (by omega) a b _ _ (fun i hi => List.mem_range.mp hi)] at this
    exact this
  · unfold spec_l06Times.f
    refine Ev.bind t3 ?_
    simp only [Int.toNat_natCast, if_pos (show 0 ≤ (E : Int) by omega), if_pos (show E ≤ 35184372088832 by omega)]
    refine Ev.bind t4 ?_
    simp only [wp, if_pos (show 0 ≤ p' - 1 by omega), if_pos (show p' - 1 < (ix.length : Int) by omega), if_neg (show ¬ (E : Int) = 0 by omega)]
    rw [wp] at t6 t9
    rw [t6, ← t9]
    have := mps_l0 T' M' F' E (by omega) t10 a b ha hb E 0 (List.replicate E 0) (by omega) (by simp)
    rw [List.drop_zero] at this
    exact this
def Rows (E : Nat) (l : List (List Int)) : Prop := ∀ k, k < l.length → (l.getD k []).length = E
theorem zero_E (E : Nat) : ((E : Int)).toNat = E := Int.toNat_natCast E
theorem rowN_len (T : List (List Int)) (M F : Int) (E i : Nat) (l : List (List Int)) (hl : Rows E l) (k : Nat) (hk : k < l.length + 1) : (ppRow T M F E i l k).length = E := by
  have own : (if k = 0 then ppz E else l.getD (k - 1) []).length = E := by
    split
    · exact ppz_len E
    · exact hl _ (by omega)
  unfold ppRow
  split
  · rw [ppsub_len _ _ (by rw [own, ppH_len]), own]
  · exact own
theorem cp_all (a b : List Int) (h : b.length = a.length) : hpp_cp a b = b := by
  unfold hpp_cp
  rw [h, Nat.min_self, List.take_of_length_le (by omega), List.drop_of_length_le (by omega), List.append_nil]
theorem range_snoc (f : Nat → List Int) (k : Nat) : (List.range (k + 1)).map f = (List.range k).map f ++ [f k] := by rw [List.range_succ, List.map_append]; rfl
theorem range_from (n m : Nat) (h : m < n) : (List.range n).drop m = m :: (List.range n).drop (m + 1) := by
  rw [List.drop_eq_getElem_cons (by simpa using h)]
  simp
theorem sp_l4 (l : List Int) (hl : l.length ≤ 1000) : ∀ (j : Nat), j ≤ l.length → Ev (fun k => spec_l06Polynomial.l4 k l (l.drop j).reverse ((j : Int) - 1)) l.reverse := by
  intro j
  induction j with
  | zero =>
    intro _
    refine Ev.step (f := fun _ => some l.reverse) (fun k => ?_) (Ev.now _)
    simp only [spec_l06Polynomial.l4]
    rw [if_neg (by omega), List.drop_zero]
  | succ j ih =>
    intro hj
    have hj2 : j < l.length := by omega
    have e1 : l.getD j 0 = l[j] := by rw [List.getD_eq_getElem?_getD, List.getElem?_eq_getElem hj2]; rfl
    have := ih (by omega)
    rw [List.drop_eq_getElem_cons hj2, List.reverse_cons] at this
    refine Ev.step (fun k => ?_) this
    simp only [spec_l06Polynomial.l4]
    rw [show (((j + 1 : Nat) : Int) - 1) = (j : Int) by omega, rdn, e1, if_pos (by omega), if_pos (by omega), if_pos (by omega), if_pos (by simp; omega), w64 (x := (j : Int) - 1) (by omega) (by omega)]
section
variable {p : Int} {E : Nat} {T : List (List Int)} {M F : Int} {cls : List Int} (K : Kit p E T M F cls)
include K
theorem ptimes (i : Nat) (hi : i < E) (b : List Int) (hb : b.length = E) : Ev (fun k => impl_ptimes.f k p (E : Int) F cls (ppu E i) b) (ppH T M F E i b) := by
  unfold impl_ptimes.f
  refine Ev.bind (K.it _ _ (ppu_len E i) hb) ?_
  rw [prod_unit T M F E i hi b]
  exact Ev.now _
theorem nextN_rows (i : Nat) (l : List (List Int)) (hl : Rows E l) : Rows E (ppNext T M F E i l) ∧ (ppNext T M F E i l).length = l.length + 1 := by
  have _ := K.e1
  have h2 : (ppNext T M F E i l).length = l.length + 1 := by simp [ppNext]
  refine ⟨fun k hk => ?_, h2⟩
  have e : (ppNext T M F E i l).getD k [] = ppRow T M F E i l k := by
    unfold ppNext
    rw [List.getD_eq_getElem?_getD, List.getElem?_map, List.getElem?_range (by omega)]
    rfl
  rw [e]
  exact rowN_len T M F E i l hl k (by omega)
/-- The subtraction. -/
theorem im_l3 (l next : List (List Int)) (h t own : List Int) (ht : t.length = E) (ho : own.length = E) (x42 x43 x54 x55 : Int) (hn : next.length ≤ 1000) (r : List Int × Int)
    (H : Ev (fun k => impl_PeriodPolynomial.l2 k (E : Int) l h (next ++ [ppsub own t]) x42 x43 x54 (wrap64 (x55 + 1)) p (E : Int) F cls) r) : ∀ (d m : Nat) (q : List Int), d + m = E → q.length = E → (∀ s, s < E → q.getD s 0 = if s < m then wrap64 (own.getD s 0 - t.getD s 0) else own.getD s 0) →
    Ev (fun k => impl_PeriodPolynomial.l3 k (E : Int) l h next q x42 x43 x54 x55 t (t.length : Int) (m : Int) p (E : Int) F cls) r := by
  have he := K.e1
  intro d
  induction d with
  | zero =>
    intro m q hm hq hs
    have e : q = ppsub own t := by
      refine ext_getD (by rw [hq, ppsub_len own t (by omega), ho]) fun s hs2 => ?_
      rw [hs s (by omega), if_pos (by omega), ppsub_get own t (by omega) s (by omega)]
    rw [e]
    refine Ev.step (fun k => ?_) H
    simp only [impl_PeriodPolynomial.l3]
    rw [if_neg (by omega), if_pos (by omega)]
  | succ d ih =>
    intro m q hm hq hs
    have h1 := hs m (by omega)
    rw [if_neg (by omega)] at h1
    refine Ev.step (fun k => ?_) (ih (m + 1) (q.set m (wrap64 (own.getD m 0 - t.getD m 0))) (by omega) (by rw [List.length_set]; exact hq) fun s hs2 => ?_)
    · simp only [impl_PeriodPolynomial.l3, rdn, Int.toNat_natCast]
      rw [if_pos (by omega), if_pos (by omega), if_pos (by omega), if_pos (by omega), h1, w64 (x := (m : Int) + 1) (by omega) (by omega)]
      rfl
    · rw [getD_set _ _ _ _ (by omega)]
      by_cases c : m = s
      · subst c; rw [if_pos rfl, if_pos (by omega)]
      · rw [if_neg c, hs s hs2]
        by_cases c2 : s < m
        · rw [if_pos c2, if_pos (by omega)]
        · rw [if_neg c2, if_neg (by omega)]
theorem im_l2 (i : Nat) (hi : i < E) (l : List (List Int)) (hl : Rows E l) (hll : l.length ≤ 100) (x42 x43 : Int) (r : List Int × Int)
    (H : Ev (fun k => impl_PeriodPolynomial.l1 k (E : Int) (ppNext T M F E i l) x42 (wrap64 (x43 + 1)) p (E : Int) F cls) r) : ∀ (d j : Nat), d + j = l.length + 1 →
    Ev (fun k => impl_PeriodPolynomial.l2 k (E : Int) l (ppu E i) ((List.range j).map (ppRow T M F E i l)) x42 x43 ((l.length : Int) + 1) (j : Int) p (E : Int) F cls) r := by
  have he := K.e1
  have he0 := K.e0
  intro d
  induction d with
  | zero =>
    intro j hj
    have e : (List.range j).map (ppRow T M F E i l) = ppNext T M F E i l := by rw [show j = l.length + 1 by omega]; rfl
    rw [e]
    refine Ev.step (fun k => ?_) H
    simp only [impl_PeriodPolynomial.l2]
    rw [if_neg (by omega)]
  | succ d ih =>
    intro j hj
    have next := ih (j + 1) (by omega)
    rw [range_snoc] at next
    have w1 : wrap64 ((j : Int) + 1) = ((j + 1 : Nat) : Int) := by rw [w64 (x := (j : Int) + 1) (by omega) (by omega)]; rfl
    have nl : ((List.range j).map (ppRow T M F E i l)).length = j := by simp
    -- the row that is taken over, whatever it is
    have tail : ∀ own : List Int, own = (if j = 0 then ppz E else l.getD (j - 1) []) → own.length = E → Ev (fun k => impl_PeriodPolynomial.j3 k (E : Int) l (ppu E i) ((List.range j).map (ppRow T M F E i l)) (j : Int) own x42 x43 ((l.length : Int) + 1) (j : Int) p (E : Int) F cls) r := by
      intro own ho hol
      by_cases c : j < l.length
      · have hb := hl j c
        refine Ev.step (f := fun k => (impl_ptimes.f k p (E : Int) F cls (ppu E i) (l.getD j [])).bind fun t293 => impl_PeriodPolynomial.l3 k (E : Int) l (ppu E i) ((List.range j).map (ppRow T M F E i l)) own x42 x43 ((l.length : Int) + 1) (j : Int) t293 (t293.length : Int) 0 p (E : Int) F cls) (fun k => ?_) (Ev.bind (ptimes K i hi _ hb) ?_)
        · simp only [impl_PeriodPolynomial.j3, rdL]
          rw [if_pos (by omega), if_pos (by omega)]
        · have e : ppRow T M F E i l j = ppsub own (ppH T M F E i (l.getD j [])) := by unfold ppRow; rw [if_pos c, ← ho]
          rw [e] at next
          exact im_l3 K l _ _ (ppH T M F E i (l.getD j [])) own (ppH_len ..) hol x42 x43 _ _ (by rw [nl]; omega) r (by rw [w1]; exact next) E 0 own (by omega) hol (fun s _ => by rw [if_neg (by omega)])
      · have e : ppRow T M F E i l j = own := by unfold ppRow; rw [if_neg c, ← ho]
        rw [e] at next
        refine Ev.step (fun k => ?_) next
        simp only [impl_PeriodPolynomial.j3]
        rw [if_neg (by omega), if_pos (by rw [nl]; omega), w1]
    by_cases c0 : j = 0
    · have t := tail (ppz E) (by rw [if_pos c0]) (ppz_len E)
      refine Ev.step (fun k => ?_) t
      simp only [impl_PeriodPolynomial.l2, zero_E, Option.bind_some]
      rw [if_pos (by omega), if_pos (by omega), if_pos (by omega), if_neg (by omega)]
      rfl
    · have hb := hl (j - 1) (by omega)
      have t := tail (l.getD (j - 1) []) (by rw [if_neg c0]) hb
      have ej : wrap64 ((j : Int) - 1) = ((j - 1 : Nat) : Int) := by rw [w64 (by omega) (by omega)]; omega
      refine Ev.step (fun k => ?_) t
      simp only [impl_PeriodPolynomial.l2, zero_E, Option.bind_some, ej, rdL]
      rw [if_pos (by omega), if_pos (by omega), if_pos (by omega), if_pos (by omega), if_pos (by omega), if_pos (by omega), if_pos (by rw [List.length_replicate, hb]; omega), cp_all _ _ (by rw [List.length_replicate, hb])]
theorem im_l4 (l : List (List Int)) (hl : Rows E l) (hll : l.length ≤ 100) : ∀ (d j : Nat), d + j = l.length → Ev (fun k => impl_PeriodPolynomial.l4 k l (ppEnd (l.take j)) (l.length : Int) (j : Int)) (ppEnd l, 0) := by
  have he0 := K.e0
  intro d
  induction d with
  | zero =>
    intro j hj
    rw [List.take_of_length_le (by omega)]
    refine Ev.step (f := fun _ => some (ppEnd l, 0)) (fun k => ?_) (Ev.now _)
    simp only [impl_PeriodPolynomial.l4]
    rw [if_neg (by omega)]
  | succ d ih =>
    intro j hj
    have hj2 : j < l.length := by omega
    have e1 : l.getD j [] = l[j] := by rw [List.getD_eq_getElem?_getD, List.getElem?_eq_getElem hj2]; rfl
    have hlen := hl j hj2
    have el : (ppEnd (l.take j)).length = j := by simp [ppEnd]; omega
    have en : ppEnd (l.take (j + 1)) = ppEnd (l.take j) ++ [wrap64 (-((l.getD j []).getD 0 0))] := by
      unfold ppEnd
      rw [List.take_succ_eq_append_getElem hj2, e1, List.map_append, List.map_cons, List.map_nil]
    refine Ev.step (fun k => ?_) (ih (j + 1) (by omega))
    simp only [impl_PeriodPolynomial.l4, rdL, show rd (l.getD j []) 0 = (l.getD j []).getD 0 0 from rfl]
    rw [if_pos (by omega), if_pos (by omega), if_pos (by omega), if_pos (by omega), if_pos (by omega), en, w64 (x := (j : Int) + 1) (by omega) (by omega)]
    rfl
theorem im_l1 : ∀ (d i : Nat) (l : List (List Int)), d + i = E → Rows E l → l.length = i + 1 → Ev (fun k => impl_PeriodPolynomial.l1 k (E : Int) l (E : Int) (i : Int) p (E : Int) F cls) (ppEnd (ppPoly T M F E ((List.range E).drop i) l), 0) := by
  have he := K.e1
  intro d
  induction d with
  | zero =>
    intro i l hi hl hll
    rw [List.drop_of_length_le (by simp; omega), ppPoly]
    have := im_l4 K l hl (by omega) l.length 0 (by omega)
    refine Ev.step (fun k => ?_) this
    simp only [impl_PeriodPolynomial.l1]
    rw [if_neg (by omega)]
    rfl
  | succ d ih =>
    intro i l hi hl hll
    obtain ⟨n1, n2⟩ := nextN_rows K i l hl
    rw [range_from E i (by omega), ppPoly]
    have nx := ih (i + 1) (ppNext T M F E i l) (by omega) n1 (by omega)
    have h2 := im_l2 K i (by omega) l hl (by omega) (E : Int) (i : Int) _ (by rw [w64 (x := (i : Int) + 1) (by omega) (by omega)]; exact nx) (l.length + 1) 0 (by omega)
    refine Ev.step (fun k => ?_) h2
    simp only [impl_PeriodPolynomial.l1, zero_E, Option.bind_some, Int.toNat_natCast, List.length_replicate]
    rw [if_pos (by omega), if_pos (by omega), if_pos (by omega), if_pos (by omega), if_pos (by omega), w64 (x := (l.length : Int) + 1) (by omega) (by omega)]
    rfl
theorem im_l0 : ∀ (d j : Nat) (q : List Int), d + j = E → q.length = E → (∀ s, s < j → q.getD s 0 = -1) → Ev (fun k => impl_PeriodPolynomial.l0 k (E : Int) q (E : Int) (j : Int) p (E : Int) F cls) (endOf T M F E, 0) := by
  have he := K.e1
  intro d
  induction d with
  | zero =>
    intro j q hj hq hs
    have e : q = List.replicate E (-1) := ext_getD (by simp [hq]) fun s h => by rw [hs s (by omega), rep_get _ _ _ (by omega)]
    have := im_l1 K E 0 [List.replicate E (-1)] (by omega) (fun k hk => by
      have : k = 0 := by simp at hk; omega
      subst this
      simp) rfl
    rw [List.drop_zero] at this
    refine Ev.step (fun k => ?_) this
    simp only [impl_PeriodPolynomial.l0]
    rw [if_neg (by omega), e]
    rfl
  | succ d ih =>
    intro j q hj hq hs
    refine Ev.step (fun k => ?_) (ih (j + 1) (q.set j (-1)) (by omega) (by rw [List.length_set]; exact hq) fun s h => ?_)
    · simp only [impl_PeriodPolynomial.l0, Int.toNat_natCast]
      rw [if_pos (by omega), if_pos (by omega), if_pos (by omega), w64 (x := (j : Int) + 1) (by omega) (by omega)]
      rfl
    · rw [getD_set _ _ _ _ (by omega)]
      by_cases c : j = s
      · rw [if_pos c]
      · rw [if_neg c]; exact hs s (by omega)
theorem impl_good : Ev (fun k => impl_PeriodPolynomial.f k p (E : Int)) (endOf T M F E, 0) := by
  have he := K.e1
  unfold impl_PeriodPolynomial.f
  refine Ev.bind K.per ?_
  simp only [if_true, zero_E, Option.bind_some, if_pos (show (0 : Int) ≤ (E : Int) by omega), if_pos (show E ≤ 35184372088832 by omega), List.length_replicate]
  exact im_l0 K E 0 _ (by omega) (by simp) (fun s h => by omega)
theorem sp_l1 (sums pw : List Int) (hp : pw.length = E) (x7 : List Int) (x8 : Int) (hs : sums.length ≤ 1000) (r : List Int) (H : Ev (fun k => if x8 < (E : Int) then (spec_l06Times.f k p (E : Int) pw x7).bind fun t174 => spec_l06Polynomial.l0 k p (E : Int) (sums ++ [ppTr pw]) t174 x7 (wrap64 (x8 + 1)) else spec_l06Polynomial.l0 k p (E : Int) (sums ++ [ppTr pw]) pw x7 (wrap64 (x8 + 1))) r) :
    ∀ (d j : Nat) (t : Int), d + j = E → (pw.drop j).foldl (fun t x => wrap64 (t - x)) t = ppTr pw → Ev (fun k => spec_l06Polynomial.l1 k p (E : Int) sums pw x7 x8 t (j : Int)) r := by
  have he := K.e1
  intro d
  induction d with
  | zero =>
    intro j t hj ht
    rw [List.drop_of_length_le (by omega), List.foldl_nil] at ht
    rw [ht]
    refine Ev.step (fun k => ?_) H
    simp only [spec_l06Polynomial.l1]
    rw [if_neg (by omega), if_pos (by omega)]
    rfl
  | succ d ih =>
    intro j t hj ht
    have hj2 : j < pw.length := by omega
    rw [List.drop_eq_getElem_cons hj2, List.foldl_cons] at ht
    have e1 : pw.getD j 0 = pw[j] := by rw [List.getD_eq_getElem?_getD, List.getElem?_eq_getElem hj2]; rfl
    refine Ev.step (fun k => ?_) (ih (j + 1) _ (by omega) ht)
    simp only [spec_l06Polynomial.l1, rdn, e1]
    rw [if_pos (by omega), if_pos (by omega), if_pos (by omega), w64 (x := (j : Int) + 1) (by omega) (by omega)]
    rfl
theorem sp_l3 (s l : List Int) (n : Nat) (hn : l.length = n) (hn0 : 1 ≤ n) (hs : n ≤ s.length) (hsl : s.length ≤ 1000) (r : List Int) (H : Ev (fun k => spec_l06Polynomial.l2 k (E : Int) s (l ++ [wrap64 (Int.tdiv (ppNs s l n) (n : Int))]) (wrap64 ((n : Int) + 1))) r) :
    ∀ (d j : Nat) (t : Int), d + j = n → ((List.range n).drop j).foldl (fun t i => wrap64 (t - wrap64 (s.getD i 0 * l.getD (n - 1 - i) 0))) t = ppNs s l n → Ev (fun k => spec_l06Polynomial.l3 k (E : Int) s l (n : Int) t (((j + 1 : Nat)) : Int)) r := by
  have _ := K.e1
  intro d
  induction d with
  | zero =>
    intro j t hj ht
    rw [List.drop_of_length_le (by simp; omega), List.foldl_nil] at ht
    rw [ht]
    refine Ev.step (fun k => ?_) H
    simp only [spec_l06Polynomial.l3]
    rw [if_neg (by omega), if_neg (by omega), if_pos (by omega)]
  | succ d ih =>
    intro j t hj ht
    rw [range_from n j (by omega), List.foldl_cons] at ht
    have w1 : wrap64 (((j + 1 : Nat) : Int) - 1) = (j : Int) := by rw [w64 (by omega) (by omega)]; omega
    have w2 : wrap64 ((n : Int) - ((j + 1 : Nat) : Int)) = ((n - 1 - j : Nat) : Int) := by rw [w64 (by omega) (by omega)]; omega
    have w3 : wrap64 (((j + 1 : Nat) : Int) + 1) = ((j + 1 + 1 : Nat) : Int) := by rw [w64 (by omega) (by omega)]; rfl
    refine Ev.step (fun k => ?_) (ih (j + 1) _ (by omega) ht)
    clear ht
    simp only [spec_l06Polynomial.l3, w1, w2, w3, rdn]
    rw [if_pos (by omega), if_pos (by omega), if_pos (by omega), if_pos (by omega), if_pos (by omega)]
theorem sp_l2 (s : List Int) (hs : s.length = E) : ∀ (d n : Nat) (l : List Int), d + n = E + 1 → l.length = n → 1 ≤ n → Ev (fun k => spec_l06Polynomial.l2 k (E : Int) s l (n : Int)) (ppNw s d l).reverse := by
  have he := K.e1
  intro d
  induction d with
  | zero =>
    intro n l hd hl hn
    have := sp_l4 l (by omega) l.length (Nat.le_refl _)
    rw [List.drop_of_length_le (Nat.le_refl _)] at this
    refine Ev.step (fun k => ?_) this
    simp only [spec_l06Polynomial.l2]
    rw [if_neg (by omega), show (l.length : Int) - 1 = (E : Int) by omega]
    rfl
  | succ d ih =>
    intro n l hd hl hn
    have nx := ih (n + 1) (l ++ [wrap64 (Int.tdiv (ppNs s l n) (n : Int))]) (by omega) (by simp; omega) (by omega)
    have h3 := sp_l3 K s l n hl hn (by omega) (by omega) _ (by rw [w64 (x := (n : Int) + 1) (by omega) (by omega)]; exact nx) n 0 0 (by omega) (by rw [List.drop_zero]; rfl)
    rw [ppNw, hl]
    refine Ev.step (fun k => ?_) h3
    simp only [spec_l06Polynomial.l2]
    rw [if_pos (by omega)]
    rfl
theorem sp_l0 : ∀ (d n : Nat) (sums pw : List Int), d + n = E + 1 → 1 ≤ n → sums.length + 1 = n → pw.length = E → Ev (fun k => spec_l06Polynomial.l0 k p (E : Int) sums pw (ppu E 0) (n : Int)) (ppNw (sums ++ ppSp T M F E d pw) E [1]).reverse := by
  have he := K.e1
  have he0 := K.e0
  intro d
  induction d with
  | zero =>
    intro n sums pw hd hn hs hp
    rw [ppSp, List.append_nil]
    have := sp_l2 K sums (by omega) E 1 [1] (by omega) rfl (by omega)
    refine Ev.step (fun k => ?_) this
    simp only [spec_l06Polynomial.l0]
    rw [if_neg (by omega)]
    rfl
  | succ d ih =>
    intro n sums pw hd hn hs hp
    have w1 : wrap64 ((n : Int) + 1) = ((n + 1 : Nat) : Int) := by rw [w64 (by omega) (by omega)]; rfl
    have key : ∀ q : List Int, q.length = E → ppSp T M F E d q = ppSp T M F E d (ppW T M F E pw) → Ev (fun k => spec_l06Polynomial.l0 k p (E : Int) (sums ++ [ppTr pw]) q (ppu E 0) (wrap64 ((n : Int) + 1))) (ppNw (sums ++ ppSp T M F E (d + 1) pw) E [1]).reverse := by
      intro q hq he2
      have := ih (n + 1) (sums ++ [ppTr pw]) q (by omega) (by omega) (by simp; omega) hq
      rw [List.append_assoc, he2] at this
      rw [w1]
      exact this
    refine Ev.step (f := fun k => spec_l06Polynomial.l1 k p (E : Int) sums pw (ppu E 0) (n : Int) 0 ((0 : Nat) : Int)) (fun k => ?_) (sp_l1 K sums pw hp (ppu E 0) (n : Int) (by omega) _ ?_ E 0 0 (by omega) (by rw [List.drop_zero]; rfl))
    · simp only [spec_l06Polynomial.l0]
      rw [if_pos (by omega)]
      rfl
    · by_cases c : n < E
      · simp only [if_pos (show (n : Int) < (E : Int) by omega)]
        refine Ev.bind (K.st pw (ppu E 0) hp (ppu_len E 0)) ?_
        rw [prod_one T M F E (by omega) pw]
        exact key _ (ppW_len ..) rfl
      · simp only [if_neg (show ¬ (n : Int) < (E : Int) by omega)]
        have hd0 : d = 0 := by omega
        subst hd0
        exact key pw hp rfl
theorem spec_good : Ev (fun k => spec_l06Polynomial.f k p (E : Int)) (revOf T M F E) := by
  have he := K.e1
  have he0 := K.e0
  have h := sp_l0 K E 1 [] (ppu E 0) (by omega) (by omega) rfl (ppu_len E 0)
  rw [List.nil_append] at h
  have own : spec_l01Own.f (ppu E 0) = some (ppu E 0) := own01 _ (by rw [ppu_len]; omega)
  unfold spec_l06Polynomial.f
  simp only [zero_E, Option.bind_some, if_pos (show (0 : Int) ≤ (E : Int) by omega), if_pos (show E ≤ 35184372088832 by omega), List.length_replicate, if_pos (show (0 : Int) < (E : Int) by omega)]
  exact ev_bind_const own h
end
theorem per_law (p e : Int) (l : List Int) (c : Int) (hl : l.length ≤ 1000) (hs : Ev (fun k => spec_PeriodPolynomial.f k p e) (l, c)) (hi : Ev (fun k => impl_PeriodPolynomial.f k p e) (l, c)) : Ev (fun k => laws_FnExactPeriodPolynomial.f k p e) true := by
  have hq := eqInts l l (by omega)
  have hh := heldInts l.length (by omega)
  unfold laws_FnExactPeriodPolynomial.f
  refine Ev.bind hs (Ev.bind hi (Ev.bind hq ?_))
  simp only [decide_true, if_true, bne_self_eq_false]
  refine Ev.step (fun k => by simp only [laws_FnExactPeriodPolynomial.j0, Bool.false_eq_true, if_false] <;> rfl) ?_
  refine Ev.bind (markInts l (by omega)) (Ev.bind hh ?_)
  simp only [if_neg (show ¬ (1 + (l.length : Int) < 0) by omega), if_true]
  refine Ev.bind hi (Ev.bind hq ?_)
  simp only [decide_true, if_true, bne_self_eq_false]
  refine Ev.step (fun k => by simp only [laws_FnExactPeriodPolynomial.j1, Bool.false_eq_true, if_false] <;> rfl) ?_
  refine Ev.bind hh ?_
  simp only [if_neg (show ¬ (1 + (l.length : Int) < 0) by omega), if_true]
  exact Ev.now _
theorem poly_len (T : List (List Int)) (M F : Int) (E : Nat) : ∀ (is : List Nat) (l : List (List Int)), (ppPoly T M F E is l).length = l.length + is.length
  | [], l => rfl
  | i :: is, l => by rw [ppPoly, poly_len T M F E is]; simp [ppNext]; omega
theorem FnExactPeriodPolynomial : laws_FnExactPeriodPolynomial.Pure := by
  intro p e hp he
  apply Ev.rounds
  cases h : okPE p e with
  | true =>
    obtain ⟨E, T, M, F, cls, res, rfl, K, h1, h2⟩ := pkit p e h
    have hi := impl_good K
    rw [h1] at hi
    have hs : Ev (fun k => spec_PeriodPolynomial.f k p (E : Int)) (res, 0) := by
      unfold spec_PeriodPolynomial.f
      have hc := l06Code p (E : Int)
      rw [h] at hc
      refine Ev.bind hc ?_
      simp only [if_true]
      refine Ev.bind (spec_good K) ?_
      rw [h2]
      exact Ev.now _
    refine per_law p (E : Int) res 0 ?_ hs hi
    rw [← h1]
    unfold endOf ppEnd
    have := K.e1
    rw [List.length_map, poly_len]
    simp
    omega
  | false =>
    have hb := wf64 hp
    refine per_law p e [] 2 (by simp) ?_ ?_
    · unfold spec_PeriodPolynomial.f
      refine Ev.bind (l06Code_bad p e [] h) ?_
      simp only [show ¬ (2 : Int) = 0 by decide, if_false]
      exact Ev.now _
    · unfold impl_PeriodPolynomial.f
      refine Ev.bind (periodsOf_bad p e hb.1 hb.2 h) ?_
      simp only [Bool.false_eq_true, if_false]
      exact Ev.now _
end Go.Proofs.Ytefhabkikaadiaa.Pure
