/- The program's MultiplyPeriods returns what the reference's returns, for all arguments; no condition. -/
import Derived.Test.YtghlmdjedpnglaaPFnExactMultiplyPeriodsx9
import Derived.OpenShut
namespace Go.Proofs.Ytghlmdjedpnglaa.Pure
open Go.RowKit Go.Proofs.Ytghlmdjedpnglaa.PFnExactMultiplyPeriods Go.Proofs.YtghlmdjedpnglaaW.PrintWords Go.Proofs.YtghlmdjedpnglaaW.PrintLast Go.Proofs.YtghlmdjedpnglaaW.PrintMore
set_option linter.unusedVariables false
set_option linter.unusedSimpArgs false
theorem w64 {x : Int} (h0 : -9223372036854775808 ≤ x) (h1 : x ≤ 9223372036854775807) : wrap64 x = x := by unfold wrap64; omega
theorem wf64 {x : Int} (h : (Lit.int .i64 x).wf = true) : -9223372036854775808 ≤ x ∧ x ≤ 9223372036854775807 := bounds_i64 h
theorem ev_bind_const {α β : Type} {o : Option α} {a : α} {f : Nat → α → Option β} {r : β} (h : o = some a) (k : Ev (fun n => f n a) r) : Ev (fun n => o.bind (f n)) r := by
  subst h; exact k
theorem toInts_l0 (l : List Int) (hl : l.length ≤ 1048576) : ∀ (d : Nat) (ys : List Int) (i : Nat), d + i = l.length → ys.length = l.length → ys.take i = l.take i → Ev (fun k => laws_toInt64S.l0 k l ys (i : Int)) l := by
  intro d
  induction d with
  | zero =>
    intro ys i hd hy ht
    have : i = l.length := by omega
    subst this
    refine Ev.step (f := fun _ => some l) (fun k => ?_) (Ev.now _)
    simp only [laws_toInt64S.l0]
    rw [if_neg (by omega)]
    rw [List.take_of_length_le (by omega), List.take_of_length_le (by omega)] at ht
    rw [ht]
  | succ d ih =>
    intro ys i hd hy ht
    refine Ev.step (f := fun k => laws_toInt64S.l0 k l (ys.set i (rd l (i : Int))) ((i + 1 : Nat) : Int)) (fun k => ?_) (ih _ _ (by omega) (by simp [hy]) ?_)
    · simp only [laws_toInt64S.l0]
      rw [if_pos (by omega), if_pos (by omega), if_pos (by omega), w64 (by omega) (by omega)]
      rfl
    · have hi : i < l.length := by omega
      rw [List.take_succ_eq_append_getElem (by simpa [hy] using hi), List.take_succ_eq_append_getElem hi, List.take_set_of_le (Nat.le_refl _), ht]
      simp [rd, hi]
theorem toInts (l : List Int) (hl : l.length ≤ 1048576) : Ev (fun k => laws_toInt64S.f k l) l := by
  have h := toInts_l0 l hl l.length (List.replicate l.length 0) 0 (by omega) (by simp) (by simp)
  refine Ev.congr (fun k => ?_) h
  unfold laws_toInt64S.f
  rw [if_pos (by omega), if_pos (by omega)]
  simp
theorem eqInts_l0 (l m : List Int) (hl : l.length ≤ 1048576) (hm : m.length = l.length) : ∀ (d i : Nat), d + i = l.length → Ev (fun k => laws_eqInt64S.l0 k l m (i : Int)) (decide (l.drop i = m.drop i)) := by
  intro d
  induction d with
  | zero =>
    intro i hd
    refine Ev.step (f := fun _ => some (decide (l.drop i = m.drop i))) (fun k => ?_) (Ev.now _)
    simp only [laws_eqInt64S.l0]
    rw [if_neg (by omega), List.drop_of_length_le (by omega), List.drop_of_length_le (by omega)]
    simp
  | succ d ih =>
    intro i hd
    have hi : i < l.length := by omega
    have hi2 : i < m.length := by omega
    have e1 : rd l (i : Int) = l[i] := by simp [rd, hi]
    have e2 : rd m (i : Int) = m[i] := by simp [rd, hi2]
    by_cases he : l[i] = m[i]
    · refine Ev.step (f := fun k => laws_eqInt64S.l0 k l m ((i + 1 : Nat) : Int)) (fun k => ?_) ?_
      · simp only [laws_eqInt64S.l0]
        rw [if_pos (by omega), if_pos (by omega), if_pos (by omega), e1, e2, if_pos he, w64 (by omega) (by omega)]
        rfl
      · have e : decide (l.drop i = m.drop i) = decide (l.drop (i + 1) = m.drop (i + 1)) := by
          rw [List.drop_eq_getElem_cons hi, List.drop_eq_getElem_cons hi2]
          simp only [List.cons.injEq, he, true_and]
        rw [e]
        exact ih (i + 1) (by omega)
    · refine Ev.step (f := fun _ => some false) (fun k => ?_) ?_
      · simp only [laws_eqInt64S.l0]
        rw [if_pos (by omega), if_pos (by omega), if_pos (by omega), e1, e2, if_neg he]
      · have e : decide (l.drop i = m.drop i) = false := by
          rw [List.drop_eq_getElem_cons hi, List.drop_eq_getElem_cons hi2]
          simp only [List.cons.injEq, he, false_and, decide_false]
        rw [e]
        exact Ev.now _
theorem eqInts (l m : List Int) (hl : l.length ≤ 1048576) : Ev (fun k => laws_eqInt64S.f k l m) (decide (l = m)) := by
  by_cases h : m.length = l.length
  · have := eqInts_l0 l m hl h l.length 0 (by omega)
    refine Ev.congr (fun k => ?_) (by simpa using this)
    unfold laws_eqInt64S.f
    rw [if_pos (by omega)]
  · have hne : l ≠ m := fun e => h (by rw [e])
    rw [decide_eq_false hne]
    refine Ev.congr (fun k => ?_) (Ev.now _)
    unfold laws_eqInt64S.f
    rw [if_neg (by omega)]
def phi (n : Int) : Int := [0, 1, 1, 2, 2, 4, 2, 6, 4, 6, 4, 10, 4, 12, 6, 8, 8].getD n.toNat 0
theorem l01In (a b c : Int) : spec_l01In.f a b c = some (decide (b ≤ a) && decide (a ≤ c)) := by
  unfold spec_l01In.f
  by_cases h : a ≥ b
  · rw [if_pos h]; simp [h]
  · rw [if_neg h]; simp [h]
theorem within_ (a b c : Int) : impl_within.f a b c = some (decide (b ≤ a) && decide (a ≤ c)) := by
  unfold impl_within.f
  by_cases h : b ≤ a
  · rw [if_pos h]; simp [h]
  · rw [if_neg h]; simp [h]
def inP (m : Int) (x : Int) : Bool := decide (-m ≤ x) && decide (x ≤ m)
theorem areSmall (l : List Int) (m : Int) (h0 : 0 ≤ m) (h1 : m ≤ 9223372036854775807) : impl_areSmall.f l m = some (l.all (inP m)) := by
  unfold impl_areSmall.f
  rw [w64 (by omega) (by omega)]
  rfl
def upTo (a : Int) (n : Nat) : List Int := (List.range n).map fun (j : Nat) => a + (j : Int)
theorem mem_upTo {a x : Int} {n : Nat} : x ∈ upTo a n ↔ a ≤ x ∧ x < a + n := by
  simp only [upTo, List.mem_map, List.mem_range]
  constructor
  · rintro ⟨j, hj, rfl⟩; omega
  · intro h; exact ⟨(x - a).toNat, by omega, by omega⟩
theorem upTo_len (a : Int) (n : Nat) : (upTo a n).length = n := by simp [upTo]
theorem upTo_get (a : Int) (n i : Nat) (hi : i < n) : (upTo a n)[i]'(by rw [upTo_len]; exact hi) = a + (i : Int) := by simp [upTo]
theorem upTo_snoc (a : Int) (n : Nat) : upTo a (n + 1) = upTo a n ++ [a + (n : Int)] := by
  unfold upTo
  rw [List.range_succ, List.map_append]
  rfl
theorem markInts_l0 : ∀ (d i : Nat) (ys : List Int), d + i = ys.length → ys.length ≤ 1048576 → ys.take i = upTo 1 i → Ev (fun k => laws_markInt64S.l0 k ys (1 + (i : Int)) (i : Int)) (1 + (ys.length : Int), upTo 1 ys.length) := by
  intro d
  induction d with
  | zero =>
    intro i ys hd hl ht
    obtain rfl : i = ys.length := by omega
    refine Ev.step (fun k => by simp only [laws_markInt64S.l0]; rw [if_neg (by omega)] <;> rfl) ?_
    rw [List.take_length] at ht
    rw [← ht]
    exact Ev.now _
  | succ d ih =>
    intro i ys hd hl ht
    have hi : i < ys.length := by omega
    have := ih (i + 1) (ys.set i (1 + (i : Int))) (by simp; omega) (by simpa using hl) (by
      rw [List.take_succ_eq_append_getElem (by simpa using hi), List.take_set_of_le (Nat.le_refl _), ht, upTo_snoc]
      simp)
    refine Ev.step (fun k => ?_) (by simpa using this)
    simp only [laws_markInt64S.l0]
    rw [if_pos (by omega), if_pos (by omega), w64 (x := 1 + (i : Int) + 1) (by omega) (by omega), w64 (x := (i : Int) + 1) (by omega) (by omega), show 1 + (i : Int) + 1 = 1 + ((i : Int) + 1) by omega]
    rfl
theorem markInts (l : List Int) (hl : l.length ≤ 1048576) : Ev (fun k => laws_markInt64S.f k l 1) (1 + (l.length : Int), upTo 1 l.length) := by
  have := markInts_l0 l.length 0 l (by omega) hl (by simp [upTo])
  unfold laws_markInt64S.f
  simpa using this
theorem heldInts_l0 (n : Nat) (hn : n ≤ 1048576) : ∀ (d i : Nat), d + i = n → Ev (fun k => laws_heldInt64S.l0 k (upTo 1 n) (1 + (i : Int)) (i : Int)) (1 + (n : Int)) := by
  intro d
  induction d with
  | zero =>
    intro i hd
    obtain rfl : i = n := by omega
    exact Ev.step (fun k => by simp only [laws_heldInt64S.l0]; rw [if_neg (by rw [upTo_len]; omega)] <;> rfl) (Ev.now _)
  | succ d ih =>
    intro i hd
    have hi : i < (upTo 1 n).length := by rw [upTo_len]; omega
    have e1 : rd (upTo 1 n) (i : Int) = 1 + (i : Int) := by
      have := upTo_get 1 n i (by omega)
      simp only [rd, Int.toNat_natCast, List.getD_eq_getElem?_getD, List.getElem?_eq_getElem hi, Option.getD_some, this]
    refine Ev.step (fun k => ?_) (ih (i + 1) (by omega))
    simp only [laws_heldInt64S.l0]
    rw [if_pos (by omega), if_pos (by omega), if_pos e1, w64 (x := 1 + (i : Int) + 1) (by omega) (by omega), w64 (x := (i : Int) + 1) (by omega) (by omega), show 1 + (i : Int) + 1 = 1 + ((i : Int) + 1) by omega]
    rfl
theorem heldInts (n : Nat) (hn : n ≤ 1048576) : Ev (fun k => laws_heldInt64S.f k (upTo 1 n) 1) (1 + (n : Int)) := by
  have := heldInts_l0 n hn n 0 (by omega)
  unfold laws_heldInt64S.f
  simpa using this
def prs : List Int := [3, 5, 7, 11, 13, 17, 19, 23, 29, 31, 37, 41, 43, 47, 53, 59, 61]
def pr (l : Int) : Bool := prs.contains l
theorem pr_iff {l : Int} : pr l = true ↔ l ∈ prs := by unfold pr; exact List.contains_iff_mem
theorem pr_bd {l : Int} (h : pr l = true) : 3 ≤ l ∧ l ≤ 61 := by
  rw [pr_iff] at h
  simp only [prs, List.mem_cons, List.not_mem_nil, or_false] at h
  omega
theorem upto61 {P : Int → Prop} (h : ∀ m : Nat, m < 62 → P m) (n : Int) (h0 : 0 ≤ n) (h1 : n ≤ 61) : P n := by
  have := h n.toNat (by omega)
  rwa [Int.toNat_of_nonneg (by omega)] at this
theorem isPrime_big (p : Int) (h0 : 61 < p) (h1 : p ≤ 9223372036854775807) : ∀ (n : Nat) (d : Int), 2 ≤ d → d ≤ p → (p - d).toNat = n → Ev (fun k => impl_isPrime.l0 k p d) false := by
  intro n
  induction n with
  | zero =>
    intro d hd hp hn
    have : d = p := by omega
    subst this
    refine Ev.step (f := fun _ => some false) (fun k => ?_) (Ev.now _)
    simp only [impl_isPrime.l0]
    by_cases c : wrap64 (d * d) ≤ d
    · rw [if_pos c, if_neg (by omega), if_pos (Int.tmod_self)]
    · rw [if_neg c, within_, Option.bind_some]
      simp
      omega
  | succ n ih =>
    intro d hd hp hn
    by_cases c : wrap64 (d * d) ≤ p
    · by_cases c2 : Int.tmod p d = 0
      · refine Ev.step (f := fun _ => some false) (fun k => ?_) (Ev.now _)
        simp only [impl_isPrime.l0]
        rw [if_pos c, if_neg (by omega), if_pos c2]
      · refine Ev.step (fun k => ?_) (ih (d + 1) (by omega) (by omega) (by omega))
        simp only [impl_isPrime.l0]
        rw [if_pos c, if_neg (by omega), if_neg c2, w64 (by omega) (by omega)]
    · refine Ev.step (f := fun _ => some false) (fun k => ?_) (Ev.now _)
      simp only [impl_isPrime.l0]
      rw [if_neg c, within_, Option.bind_some]
      simp
      omega
theorem isPrime (p : Int) (h0 : -9223372036854775808 ≤ p) (h1 : p ≤ 9223372036854775807) : Ev (fun k => impl_isPrime.f k p) (pr p) := by
  by_cases c : 61 < p
  · have e : pr p = false := by
      cases h : pr p with
      | false => rfl
      | true => have := pr_bd h; omega
    rw [e]
    exact isPrime_big p c h1 _ 2 (by omega) (by omega) rfl
  · by_cases c2 : 0 ≤ p
    · have key : ∀ m : Nat, m < 62 → impl_isPrime.f 20 (m : Int) = some (pr m) := by decide +kernel
      exact Ev.of (impl_isPrime.mono p) (upto61 (P := fun p => impl_isPrime.f 20 p = some (pr p)) key p c2 (by omega))
    · have e : pr p = false := by
        cases h : pr p with
        | false => rfl
        | true => have := pr_bd h; omega
      rw [e]
      refine Ev.step (f := fun _ => some false) (fun k => ?_) (Ev.now _)
      simp only [impl_isPrime.f, impl_isPrime.l0]
      rw [if_neg (by rw [w64 (x := 2 * 2) (by omega) (by omega)]; omega), within_, Option.bind_some]
      simp
      omega
theorem tmod_emod (c q : Int) (hq : 0 < q) : (Int.tmod c q) % q = c % q := by
  rw [Int.tmod_eq_emod]
  split <;> simp
  rw [Int.sub_emod]
  simp [Int.natAbs_of_nonneg (Int.le_of_lt hq)]
theorem around (a m : Int) (hm : 0 < m) (hm2 : m ≤ 1000000000000) : impl_around.f a m = some (a % m) := by
  unfold impl_around.f
  have h1 := Int.tmod_lt_of_pos a hm
  have h2 := Int.lt_tmod_of_pos a hm
  rw [if_neg (by omega), w64 (by omega) (by omega), Int.tmod_eq_emod_of_nonneg (by omega), Int.add_emod_right, tmod_emod _ _ hm]
def okPE (p e : Int) : Bool := pr p && (decide (1 ≤ e) && decide (e ≤ 12)) && decide ((p - 1) % e = 0)
def pes : List (Int × Int) := prs.flatMap fun p => (upTo 1 12).filterMap fun e => if okPE p e then some (p, e) else none
theorem okPE_mem {p e : Int} (h : okPE p e = true) : (p, e) ∈ pes := by
  have h' := h
  simp only [okPE, Bool.and_eq_true, decide_eq_true_eq] at h'
  refine List.mem_flatMap.mpr ⟨p, pr_iff.mp h'.1.1, List.mem_filterMap.mpr ⟨e, mem_upTo.mpr (by omega), ?_⟩⟩
  rw [if_pos h]
theorem l06Prime (p : Int) : Ev (fun k => spec_l06Prime.f k p) (pr p) := by
  by_cases c : 3 ≤ p ∧ p ≤ 61
  · have key : ∀ m : Nat, m < 62 → spec_l06Prime.f 20 (m : Int) = some (pr m) := by decide +kernel
    exact Ev.of (spec_l06Prime.mono p) (upto61 (P := fun p => spec_l06Prime.f 20 p = some (pr p)) key p (by omega) c.2)
  · have e : pr p = false := by
      cases h : pr p with
      | false => rfl
      | true => have := pr_bd h; omega
    rw [e]
    unfold spec_l06Prime.f
    refine ev_bind_const (l01In _ _ _) ?_
    rw [show (decide (3 ≤ p) && decide (p ≤ 61)) = false by simp; omega]
    exact Ev.now _
theorem l06Code_bad (p e : Int) (ls : List Int) (h : okPE p e = false) : Ev (fun k => spec_l06Code.f k p e ls) 2 := by
  have J : Ev (fun k => spec_l06Code.j0 k e ls true) 2 := Ev.step (fun k => by simp only [spec_l06Code.j0, if_true] <;> rfl) (Ev.now _)
  unfold spec_l06Code.f
  refine Ev.bind (l06Prime p) ?_
  cases hp : pr p with
  | false => simp only [Bool.false_eq_true, if_false]; exact J
  | true =>
    have hb := pr_bd hp
    simp only [if_true]
    refine ev_bind_const (l01In _ _ _) ?_
    cases he : decide (1 ≤ e) && decide (e ≤ 12) with
    | false => simp only [Bool.false_eq_true, if_false]; exact J
    | true =>
      have he' : 1 ≤ e ∧ e ≤ 12 := by simpa using he
      have hm : ¬ (p - 1) % e = 0 := by
        intro hm
        simp [okPE, hp, he, hm] at h
      simp only [if_true, if_neg (show ¬ e = 0 by omega), w64 (x := p - 1) (by omega) (by omega), Int.tmod_eq_emod_of_nonneg (show 0 ≤ p - 1 by omega)]
      rw [bne_iff_ne.mpr hm]
      exact J
theorem periodsOf_bad (p e : Int) (h0 : -9223372036854775808 ≤ p) (h1 : p ≤ 9223372036854775807) (h : okPE p e = false) : Ev (fun k => impl_periodsOf.f k p e) (0, 0, 0, [], false) := by
  have J : Ev (fun k => impl_periodsOf.j0 k p e true) (0, 0, 0, [], false) := Ev.step (fun k => by simp only [impl_periodsOf.j0, if_true] <;> rfl) (Ev.now _)
  unfold impl_periodsOf.f
  refine Ev.bind (isPrime p h0 h1) ?_
  cases hp : pr p with
  | false => simp only [Bool.false_eq_true, if_false]; exact J
  | true =>
    have hb := pr_bd hp
    simp only [if_true]
    refine ev_bind_const (within_ _ _ _) ?_
    cases he : decide (1 ≤ e) && decide (e ≤ 12) with
    | false => simp only [Bool.false_eq_true, if_false]; exact J
    | true =>
      have he' : 1 ≤ e ∧ e ≤ 12 := by simpa using he
      have hm : ¬ (p - 1) % e = 0 := by
        intro hm
        simp [okPE, hp, he, hm] at h
      simp only [if_true, if_neg (show ¬ e = 0 by omega), w64 (x := p - 1) (by omega) (by omega), Int.tmod_eq_emod_of_nonneg (show 0 ≤ p - 1 by omega)]
      rw [bne_iff_ne.mpr hm]
      exact J
theorem gE {α : Type} (l : List α) (d : α) {i : Nat} (h : i < l.length) : l.getD i d = l[i] := by rw [List.getD_eq_getElem?_getD, List.getElem?_eq_getElem h, Option.getD_some]
def phn (n : Int) : Nat := (phi n).toNat
def ix (p : Int) : List Int := if p = 3 then [-1, 0, 1] else if p = 5 then [-1, 0, 1, 3, 2] else if p = 7 then [-1, 0, 2, 1, 4, 5, 3] else if p = 11 then [-1, 0, 1, 8, 2, 4, 9, 7, 3, 6, 5] else if p = 13 then [-1, 0, 1, 4, 2, 9, 5, 11, 3, 8, 10, 7, 6] else if p = 17 then [-1, 0, 14, 1, 12, 5, 15, 11, 10, 2, 3, 7, 13, 4, 9, 6, 8] else if p = 19 then [-1, 0, 1, 13, 2, 16, 14, 6, 3, 8, 17, 12, 15, 5, 7, 11, 4, 10, 9] else if p = 23 then [-1, 0, 2, 16, 4, 1, 18, 19, 6, 10, 3, 9, 20, 14, 21, 17, 8, 7, 12, 15, 5, 13, 11] else if p = 29 then [-1, 0, 1, 5, 2, 22, 6, 12, 3, 10, 23, 25, 7, 18, 13, 27, 4, 21, 11, 9, 24, 17, 26, 20, 8, 16, 19, 15, 14] else if p = 31 then [-1, 0, 24, 1, 18, 20, 25, 28, 12, 2, 14, 23, 19, 11, 22, 21, 6, 7, 26, 4, 8, 29, 17, 27, 13, 10, 5, 3, 16, 9, 15] else if p = 37 then [-1, 0, 1, 26, 2, 23, 27, 32, 3, 16, 24, 30, 28, 11, 33, 13, 4, 7, 17, 35, 25, 22, 31, 15, 29, 10, 12, 6, 34, 21, 14, 9, 5, 20, 8, 19, 18] else if p = 41 then [-1, 0, 26, 15, 12, 22, 1, 39, 38, 30, 8, 3, 27, 31, 25, 37, 24, 33, 16, 9, 34, 14, 29, 36, 13, 4, 17, 5, 11, 7, 23, 28, 10, 18, 19, 21, 2, 32, 35, 6, 20] else if p = 43 then [-1, 0, 27, 1, 12, 25, 28, 35, 39, 2, 10, 30, 13, 32, 20, 26, 24, 38, 29, 19, 37, 36, 15, 16, 40, 8, 17, 3, 5, 41, 11, 34, 9, 31, 23, 18, 14, 7, 4, 33, 22, 6, 21] else if p = 47 then [-1, 0, 18, 20, 36, 1, 38, 32, 8, 40, 19, 7, 10, 11, 4, 21, 26, 16, 12, 45, 37, 6, 25, 5, 28, 2, 29, 14, 22, 35, 39, 3, 44, 27, 34, 33, 30, 42, 17, 31, 9, 15, 24, 13, 43, 41, 23] else if p = 53 then [-1, 0, 1, 17, 2, 47, 18, 14, 3, 34, 48, 6, 19, 24, 15, 12, 4, 10, 35, 37, 49, 31, 7, 39, 20, 42, 25, 51, 16, 46, 13, 33, 5, 23, 11, 9, 36, 30, 38, 41, 50, 45, 32, 22, 8, 29, 40, 44, 21, 28, 43, 27, 26] else if p = 59 then [-1, 0, 1, 50, 2, 6, 51, 18, 3, 42, 7, 25, 52, 45, 19, 56, 4, 40, 43, 38, 8, 10, 26, 15, 53, 12, 46, 34, 20, 28, 57, 49, 5, 17, 41, 24, 44, 55, 39, 37, 9, 14, 11, 33, 27, 48, 16, 23, 54, 36, 13, 32, 47, 22, 35, 31, 21, 30, 29] else if p = 61 then [-1, 0, 1, 6, 2, 22, 7, 49, 3, 12, 23, 15, 8, 40, 50, 28, 4, 47, 13, 26, 24, 55, 16, 57, 9, 44, 41, 18, 51, 35, 29, 59, 5, 21, 48, 11, 14, 39, 27, 46, 25, 54, 56, 43, 17, 34, 58, 20, 10, 38, 45, 53, 42, 33, 19, 37, 52, 32, 36, 31, 30] else []
theorem set_get (xs : List Int) (q : Nat) (v : Int) (j : Nat) (hq : q < xs.length) : (xs.set q v).getD j 0 = if j = q then v else xs.getD j 0 := by
  rw [List.getD_eq_getElem?_getD, List.getElem?_set, List.getD_eq_getElem?_getD]
  by_cases h : q = j
  · subst h
    simp [hq]
  · rw [if_neg h, if_neg (fun e => h e.symm)]
def okS (e : Int) (l : List Int) : Bool := decide ((l.length : Int) = e) && l.all (inP 1000)
theorem code_ok : ∀ q ∈ pes, spec_l06Code.f 40 q.1 q.2 [] = some 0 := by decide +kernel
theorem l06Code (p e : Int) : Ev (fun k => spec_l06Code.f k p e []) (if okPE p e then 0 else 2) := by
  cases h : okPE p e with
  | true => simp only [if_true]; exact Ev.of (spec_l06Code.mono _ _ _) (code_ok (p, e) (okPE_mem h))
  | false => simp only [Bool.false_eq_true, if_false]; exact l06Code_bad p e [] h
theorem okPE_bd {p e : Int} (h : okPE p e = true) : 3 ≤ p ∧ p ≤ 61 ∧ 1 ≤ e ∧ e ≤ 12 := by
  simp only [okPE, Bool.and_eq_true, decide_eq_true_eq] at h
  have := pr_bd h.1.1
  omega
theorem markIntsA_l0 (a : Int) (h0 : 0 ≤ a) (h1 : a ≤ 1000000000000) : ∀ (d i : Nat) (ys : List Int), d + i = ys.length → ys.length ≤ 1048576 → ys.take i = upTo a i → Ev (fun k => laws_markInt64S.l0 k ys (a + (i : Int)) (i : Int)) (a + (ys.length : Int), upTo a ys.length) := by
  intro d
  induction d with
  | zero =>
    intro i ys hd hl ht
    obtain rfl : i = ys.length := by omega
    refine Ev.step (fun k => by simp only [laws_markInt64S.l0]; rw [if_neg (by omega)] <;> rfl) ?_
    rw [List.take_length] at ht
    rw [← ht]
    exact Ev.now _
  | succ d ih =>
    intro i ys hd hl ht
    have hi : i < ys.length := by omega
    have := ih (i + 1) (ys.set i (a + (i : Int))) (by simp; omega) (by simpa using hl) (by
      rw [List.take_succ_eq_append_getElem (by simpa using hi), List.take_set_of_le (Nat.le_refl _), ht, upTo_snoc]
      simp)
    refine Ev.step (fun k => ?_) (by simpa using this)
    simp only [laws_markInt64S.l0]
    rw [if_pos (by omega), if_pos (by omega), w64 (x := a + (i : Int) + 1) (by omega) (by omega), w64 (x := (i : Int) + 1) (by omega) (by omega), show a + (i : Int) + 1 = a + ((i : Int) + 1) by omega]
    rfl
theorem markIntsA (l : List Int) (a : Int) (hl : l.length ≤ 1048576) (h0 : 0 ≤ a) (h1 : a ≤ 1000000000000) : Ev (fun k => laws_markInt64S.f k l a) (a + (l.length : Int), upTo a l.length) := by
  have := markIntsA_l0 a h0 h1 l.length 0 l (by omega) hl (by simp [upTo])
  unfold laws_markInt64S.f
  simpa using this
def addv (out v : List Int) : List Int := List.zipWith (fun o x => wrap64 (o + x)) out v
theorem addv_len (out v : List Int) (h : v.length = out.length) : (addv out v).length = out.length := by simp [addv, h]
theorem addv_get (out v : List Int) (h : v.length = out.length) (q : Nat) (hq : q < out.length) : (addv out v).getD q 0 = wrap64 (out.getD q 0 + v.getD q 0) := by
  have h2 : q < (addv out v).length := by rw [addv_len out v h]; exact hq
  rw [gE _ _ h2, gE _ _ hq, gE _ _ (show q < v.length by omega)]
  simp [addv]
theorem addv_swap : ∀ (o u v : List Int), addv (addv o u) v = addv (addv o v) u
  | [], _, _ => by simp [addv]
  | _ :: _, [], v => by cases v <;> simp [addv]
  | _ :: _, _ :: _, [] => by simp [addv]
  | o :: os, u :: us, v :: vs => by
    have h := addv_swap os us vs
    simp only [addv, List.zipWith_cons_cons] at h ⊢
    rw [h]
    congr 1
    unfold wrap64
    omega
theorem perm_fold {α β : Type} (f : β → α → β) (hc : ∀ b x y, f (f b x) y = f (f b y) x) {l m : List α} (h : l.Perm m) : ∀ b, l.foldl f b = m.foldl f b := by
  induction h with
  | nil => intro b; rfl
  | cons x _ ih => intro b; exact ih _
  | swap x y l => intro b; simp only [List.foldl_cons]; rw [hc]
  | trans _ _ ih1 ih2 => intro b; rw [ih1, ih2]
def up (e i m : Nat) : Nat := if i + m < e then i + m else i + m - e
def dn (e i q : Nat) : Nat := if i ≤ q then q - i else q + e - i
theorem up_mod (e i m : Nat) (he : e ≤ 12) (hi : i < e) (hm : m < e) : Int.tmod (wrap64 ((i : Int) + (m : Int))) (e : Int) = (up e i m : Int) := by
  rw [w64 (by omega) (by omega), Int.tmod_eq_emod_of_nonneg (by omega)]
  unfold up
  split
  · rw [Int.emod_eq_of_lt (by omega) (by omega)]; omega
  · rw [show (i : Int) + (m : Int) = (i : Int) + m - e + e by omega, Int.add_emod_right, Int.emod_eq_of_lt (by omega) (by omega)]; omega
theorem dn_around (e i j : Nat) (he : e ≤ 12) (hi : i < e) (hj : j < e) : impl_around.f (wrap64 ((j : Int) - (i : Int))) (e : Int) = some (dn e i j : Int) := by
  rw [w64 (by omega) (by omega), around _ _ (by omega) (by omega)]
  unfold dn
  split
  · rw [Int.emod_eq_of_lt (by omega) (by omega)]; congr 1; omega
  · rw [show (j : Int) - (i : Int) = (j : Int) - i + e - e by omega, Int.sub_emod_right, Int.emod_eq_of_lt (by omega) (by omega)]; congr 1; omega
theorem up_dn (e i q : Nat) (hi : i < e) (hq : q < e) : up e i (dn e i q) = q ∧ dn e i q < e := by unfold up dn; split <;> split <;> omega
theorem dn_up (e i m : Nat) (hi : i < e) (hm : m < e) : dn e i (up e i m) = m ∧ up e i m < e := by unfold up dn; split <;> split <;> omega
theorem perm_dn : ∀ e, e < 13 → ∀ i, i < e → ((List.range e).map fun j => up e i j).Perm (List.range e) := by decide +kernel
/-- The number at k and m. -/
def nb (T : List (List Int)) (M F : Int) (k m : Nat) : Int := if (k : Int) = M then wrap64 (rd (rd_L1 T (k : Int)) (m : Int) - F) else rd (rd_L1 T (k : Int)) (m : Int)
def vec (T : List (List Int)) (M F : Int) (e i : Nat) (own : Int) (k : Nat) : List Int := (List.range e).map fun q => wrap64 (own * nb T M F k (dn e i q))
theorem vec_len (T : List (List Int)) (M F : Int) (e i : Nat) (own : Int) (k : Nat) : (vec T M F e i own k).length = e := by simp [vec]
theorem vec_get (T : List (List Int)) (M F : Int) (e i : Nat) (own : Int) (k q : Nat) (hq : q < e) : (vec T M F e i own k).getD q 0 = wrap64 (own * nb T M F k (dn e i q)) := by
  rw [gE _ _ (by rw [vec_len]; exact hq)]; simp [vec]
/-- One round of the innermost loop. -/
theorem inner (T : List (List Int)) (M F : Int) (e i : Nat) (own : Int) (k : Nat) (hi : i < e) (out : List Int) (ho : out.length = e) (m : Nat) (hm : m < e) (cur : List Int) (hc : cur.length = e) (h : ∀ q, q < e → cur.getD q 0 = if dn e i q < m then wrap64 (out.getD q 0 + wrap64 (own * nb T M F k (dn e i q))) else out.getD q 0) :
    (cur.set (up e i m) (wrap64 (cur.getD (up e i m) 0 + wrap64 (own * nb T M F k m)))).length = e ∧ ∀ q, q < e → (cur.set (up e i m) (wrap64 (cur.getD (up e i m) 0 + wrap64 (own * nb T M F k m)))).getD q 0 = if dn e i q < m + 1 then wrap64 (out.getD q 0 + wrap64 (own * nb T M F k (dn e i q))) else out.getD q 0 := by
  have hu := dn_up e i m hi hm
  refine ⟨by rw [List.length_set]; exact hc, fun q hq => ?_⟩
  rw [set_get _ _ _ _ (by omega)]
  by_cases c : q = up e i m
  · subst c
    rw [if_pos rfl, h _ hu.2, hu.1, if_neg (by omega), if_pos (by omega)]
  · have hd := up_dn e i q hi hq
    have : dn e i q ≠ m := fun e2 => c (by rw [← e2]; exact hd.1.symm)
    rw [if_neg c, h q hq]
    by_cases c2 : dn e i q < m
    · rw [if_pos c2, if_pos (by omega)]
    · rw [if_neg c2, if_neg (by omega)]
theorem inner_end (T : List (List Int)) (M F : Int) (e i : Nat) (own : Int) (k : Nat) (hi : i < e) (out : List Int) (ho : out.length = e) (cur : List Int) (hc : cur.length = e) (h : ∀ q, q < e → cur.getD q 0 = if dn e i q < e then wrap64 (out.getD q 0 + wrap64 (own * nb T M F k (dn e i q))) else out.getD q 0) : cur = addv out (vec T M F e i own k) := by
  have hl := addv_len out (vec T M F e i own k) (by rw [vec_len]; omega)
  refine List.ext_getElem (by omega) (fun q h1 h2 => ?_)
  rw [← gE _ 0, ← gE _ 0, h q (by omega), if_pos (up_dn e i q hi (by omega)).2, addv_get _ _ (by rw [vec_len]; omega) q (by omega), vec_get _ _ _ _ _ _ _ _ (by omega)]
structure Tab (T : List (List Int)) (e : Nat) : Prop where
  len : T.length = e
  row : ∀ k : Nat, k < e → (rd_L1 T (k : Int)).length = e
theorem mps_l2 (T : List (List Int)) (M F : Int) (e : Nat) (he : e ≤ 12) (hT : Tab T e) (a b : List Int) (i k : Nat) (hi : i < e) (hk : k < e) (own : Int) (out : List Int) (ho : out.length = e) (r : List Int)
    (H : Ev (fun f => spec_l06Times.l1 f (e : Int) a b T (addv out (vec T M F e i own k)) M F (i : Int) ((k + 1 : Nat) : Int)) r) :
    ∀ (d m : Nat) (cur : List Int), d + m = e → cur.length = e → (∀ q, q < e → cur.getD q 0 = if dn e i q < m then wrap64 (out.getD q 0 + wrap64 (own * nb T M F k (dn e i q))) else out.getD q 0) →
      Ev (fun f => spec_l06Times.l2 f (e : Int) a b T cur M F (i : Int) (k : Int) own (m : Int)) r := by
  intro d
  induction d with
  | zero =>
    intro m cur hm hc h
    have e1 : m = e := by omega
    subst e1
    rw [← inner_end T M F m i own k hi out ho cur hc h] at H
    refine Ev.step (fun f => ?_) H
    simp only [spec_l06Times.l2]
    rw [if_neg (by omega), w64 (x := (k : Int) + 1) (by omega) (by omega)]
    rfl
  | succ d ih =>
    intro m cur hm hc h
    have hme : m < e := by omega
    obtain ⟨n1, n2⟩ := inner T M F e i own k hi out ho m hme cur hc h
    have hu := dn_up e i m hi hme
    have hr := hT.row k hk
    refine Ev.step (fun f => ?_) (ih (m + 1) _ (by omega) n1 n2)
    simp only [spec_l06Times.l2, up_mod e i m he hi hme]
    rw [if_pos (by omega), if_pos (by omega), if_pos (by have := hT.len; omega), if_pos (by omega), if_pos (by omega)]
    unfold nb
    by_cases c : (k : Int) = M
    · rw [if_pos c, if_neg (by omega), if_pos (by omega), if_pos (by omega), if_pos c, w64 (x := (m : Int) + 1) (by omega) (by omega)]
      simp only [rd, Int.toNat_natCast]
      rfl
    · rw [if_neg c, if_neg (by omega), if_pos (by omega), if_pos (by omega), if_neg c, w64 (x := (m : Int) + 1) (by omega) (by omega)]
      simp only [rd, Int.toNat_natCast]
      rfl
/-- The round of the reference for one i. -/
def spR (T : List (List Int)) (M F : Int) (e : Nat) (a b : List Int) (i : Nat) (out : List Int) (k : Nat) : List Int := addv out (vec T M F e i (wrap64 (a.getD i 0 * b.getD (up e i k) 0)) k)
def imR (T : List (List Int)) (M F : Int) (e : Nat) (a b : List Int) (i : Nat) (out : List Int) (j : Nat) : List Int := addv out (vec T M F e i (wrap64 (a.getD i 0 * b.getD j 0)) (dn e i j))
theorem rows_eq (T : List (List Int)) (M F : Int) (e : Nat) (he : e ≤ 12) (a b : List Int) (i : Nat) (hi : i < e) (out : List Int) : (List.range e).foldl (imR T M F e a b i) out = (List.range e).foldl (spR T M F e a b i) out := by
  have h1 : (List.range e).foldl (spR T M F e a b i) out = ((List.range e).map fun k => up e i k).foldl (imR T M F e a b i) out := by
    rw [List.foldl_map]
    have : ∀ (l : List Nat) (o : List Int), (∀ k ∈ l, k < e) → l.foldl (spR T M F e a b i) o = l.foldl (fun o k => imR T M F e a b i o (up e i k)) o := by
      intro l
      induction l with
      | nil => intro o _; rfl
      | cons k l ih =>
        intro o hl
        rw [List.foldl_cons, List.foldl_cons, ih _ (fun x hx => hl x (by simp [hx]))]
        have := (dn_up e i k hi (hl k (by simp))).1
        unfold spR imR
        rw [this]
    exact this _ _ (fun k hk => List.mem_range.mp hk)
  rw [h1]
  exact (perm_fold (imR T M F e a b i) (fun b' x y => by unfold imR; exact addv_swap _ _ _) (perm_dn e (by omega) i hi) out).symm
theorem fold_len {α : Type} (f : List Int → α → List Int) (n : Nat) (hf : ∀ o x, o.length = n → (f o x).length = n) : ∀ (l : List α) (o : List Int), o.length = n → (l.foldl f o).length = n
  | [], o, h => h
  | x :: l, o, h => fold_len f n hf l _ (hf o x h)
theorem spR_len (T : List (List Int)) (M F : Int) (e : Nat) (a b : List Int) (i : Nat) (o : List Int) (k : Nat) (h : o.length = e) : (spR T M F e a b i o k).length = e := by
  unfold spR; rw [addv_len _ _ (by rw [vec_len]; omega)]; exact h
theorem imR_len (T : List (List Int)) (M F : Int) (e : Nat) (a b : List Int) (i : Nat) (o : List Int) (k : Nat) (h : o.length = e) : (imR T M F e a b i o k).length = e := by
  unfold imR; rw [addv_len _ _ (by rw [vec_len]; omega)]; exact h
theorem range_drop (e m : Nat) (h : m < e) : (List.range e).drop m = m :: (List.range e).drop (m + 1) := by
  rw [List.drop_eq_getElem_cons (by simpa using h)]; simp
theorem mps_l1 (T : List (List Int)) (M F : Int) (e : Nat) (he : e ≤ 12) (hT : Tab T e) (a b : List Int) (ha : a.length = e) (hb : b.length = e) (i : Nat) (hi : i < e) (r : List Int) :
    ∀ (d k : Nat) (out : List Int), d + k = e → out.length = e → Ev (fun f => spec_l06Times.l0 f (e : Int) a b T (((List.range e).drop k).foldl (spR T M F e a b i) out) M F ((i + 1 : Nat) : Int)) r →
      Ev (fun f => spec_l06Times.l1 f (e : Int) a b T out M F (i : Int) (k : Int)) r := by
  intro d
  induction d with
  | zero =>
    intro k out hk ho H
    rw [List.drop_eq_nil_of_le (by simp; omega), List.foldl_nil] at H
    refine Ev.step (fun f => ?_) H
    simp only [spec_l06Times.l1]
    rw [if_neg (by omega), w64 (x := (i : Int) + 1) (by omega) (by omega)]
    rfl
  | succ d ih =>
    intro k out hk ho H
    have hke : k < e := by omega
    rw [range_drop e k hke, List.foldl_cons] at H
    have H2 := ih (k + 1) _ (by omega) (spR_len T M F e a b i out k ho) H
    have hu := (dn_up e i k hi hke).2
    refine Ev.step (f := fun f => spec_l06Times.l2 f (e : Int) a b T out M F (i : Int) (k : Int) (wrap64 (a.getD i 0 * b.getD (up e i k) 0)) 0) (fun f => ?_) ?_
    · simp only [spec_l06Times.l1, up_mod e i k he hi hke]
      rw [if_pos (by omega), if_pos (by omega), if_pos (by omega), if_neg (by omega), if_pos (by omega), if_pos (by omega)]
      simp only [rd, Int.toNat_natCast]
    · exact mps_l2 T M F e he hT a b i k hi hke _ out ho r H2 e 0 out (by omega) ho (fun q hq => by rw [if_neg (by omega)])
theorem mps_l0 (T : List (List Int)) (M F : Int) (e : Nat) (he : e ≤ 12) (hT : Tab T e) (a b : List Int) (ha : a.length = e) (hb : b.length = e) :
    ∀ (d i : Nat) (out : List Int), d + i = e → out.length = e → Ev (fun f => spec_l06Times.l0 f (e : Int) a b T out M F (i : Int)) (((List.range e).drop i).foldl (fun o i => (List.range e).foldl (spR T M F e a b i) o) out) := by
  intro d
  induction d with
  | zero =>
    intro i out hi ho
    rw [List.drop_eq_nil_of_le (by simp; omega), List.foldl_nil]
    refine Ev.step (f := fun _ => some out) (fun f => ?_) (Ev.now _)
    simp only [spec_l06Times.l0]
    rw [if_neg (by omega)]
  | succ d ih =>
    intro i out hi ho
    have hie : i < e := by omega
    rw [range_drop e i hie, List.foldl_cons]
    refine Ev.step (f := fun f => spec_l06Times.l1 f (e : Int) a b T out M F (i : Int) 0) (fun f => ?_) ?_
    · simp only [spec_l06Times.l0]
      rw [if_pos (by omega)]
    · have := mps_l1 T M F e he hT a b ha hb i hie _ e 0 out (by omega) ho (by rw [List.drop_zero]; exact ih (i + 1) _ (by omega) (fold_len _ e (fun o x h => spR_len T M F e a b i o x h) _ _ ho))
      exact this
theorem mpi_l2 (T : List (List Int)) (M F p : Int) (cls : List Int) (e : Nat) (he : e ≤ 12) (hT : Tab T e) (a b : List Int) (i j : Nat) (hi : i < e) (hj : j < e) (x y : Int) (la lb : Int) (out : List Int) (ho : out.length = e) (r : List Int × Int × Int × Int)
    (H : Ev (fun f => impl_periods_times.l1 f b T (addv out (vec T M F e i (wrap64 (x * y)) (dn e i j))) M (i : Int) x a la (i : Int) b lb ((j + 1 : Nat) : Int) p (e : Int) F cls) r) :
    ∀ (d m : Nat) (cur : List Int), d + m = e → cur.length = e → (∀ q, q < e → cur.getD q 0 = if dn e i q < m then wrap64 (out.getD q 0 + wrap64 (wrap64 (x * y) * nb T M F (dn e i j) (dn e i q))) else out.getD q 0) →
      Ev (fun f => impl_periods_times.l2 f b T cur M (i : Int) x y (dn e i j : Int) a la (i : Int) b lb (j : Int) (e : Int) (m : Int) p (e : Int) F cls) r := by
  intro d
  have hk := (up_dn e i j hi hj).2
  induction d with
  | zero =>
    intro m cur hm hc h
    have e1 : m = e := by omega
    subst e1
    rw [← inner_end T M F m i _ _ hi out ho cur hc h] at H
    refine Ev.step (fun f => ?_) H
    simp only [impl_periods_times.l2]
    rw [if_neg (by omega), w64 (x := (j : Int) + 1) (by omega) (by omega)]
    rfl
  | succ d ih =>
    intro m cur hm hc h
    have hme : m < e := by omega
    obtain ⟨n1, n2⟩ := inner T M F e i (wrap64 (x * y)) (dn e i j) hi out ho m hme cur hc h
    have hu := dn_up e i m hi hme
    have hr := hT.row _ hk
    refine Ev.step (fun f => ?_) (ih (m + 1) _ (by omega) n1 n2)
    simp only [impl_periods_times.l2, up_mod e i m he hi hme]
    rw [if_pos (by omega), if_pos (by omega), if_pos (by have := hT.len; omega), if_pos (by omega), if_pos (by omega)]
    unfold nb
    by_cases c : (dn e i j : Int) = M
    · rw [if_pos c, if_neg (by omega), if_pos (by omega), if_pos (by omega), if_pos c, w64 (x := (m : Int) + 1) (by omega) (by omega)]
      simp only [rd, Int.toNat_natCast]
      rfl
    · rw [if_neg c, if_neg (by omega), if_pos (by omega), if_pos (by omega), if_neg c, w64 (x := (m : Int) + 1) (by omega) (by omega)]
      simp only [rd, Int.toNat_natCast]
      rfl
theorem mpi_l1 (T : List (List Int)) (M F p : Int) (cls : List Int) (e : Nat) (he : e ≤ 12) (hT : Tab T e) (a b : List Int) (ha : a.length = e) (hb : b.length = e) (i : Nat) (hi : i < e) (la : Int) (r : List Int × Int × Int × Int) :
    ∀ (d j : Nat) (out : List Int), d + j = e → out.length = e → Ev (fun f => impl_periods_times.l0 f b T (((List.range e).drop j).foldl (imR T M F e a b i) out) M a la ((i + 1 : Nat) : Int) p (e : Int) F cls) r →
      Ev (fun f => impl_periods_times.l1 f b T out M (i : Int) (a.getD i 0) a la (i : Int) b (b.length : Int) (j : Int) p (e : Int) F cls) r := by
  intro d
  induction d with
  | zero =>
    intro j out hj ho H
    rw [List.drop_eq_nil_of_le (by simp; omega), List.foldl_nil] at H
    refine Ev.step (fun f => ?_) H
    simp only [impl_periods_times.l1]
    rw [if_neg (by omega), w64 (x := (i : Int) + 1) (by omega) (by omega)]
    rfl
  | succ d ih =>
    intro j out hj ho H
    have hje : j < e := by omega
    rw [range_drop e j hje, List.foldl_cons] at H
    have H2 := ih (j + 1) _ (by omega) (imR_len T M F e a b i out j ho) H
    refine Ev.step (f := fun f => impl_periods_times.l2 f b T out M (i : Int) (a.getD i 0) (b.getD j 0) (dn e i j : Int) a la (i : Int) b (b.length : Int) (j : Int) (e : Int) 0 p (e : Int) F cls) (fun f => ?_) ?_
    · simp only [impl_periods_times.l1, dn_around e i j he hi hje, Option.bind_some]
      rw [if_pos (by omega), if_pos (by omega), if_pos (by omega)]
      simp only [rd, Int.toNat_natCast]
    · exact mpi_l2 T M F p cls e he hT a b i j hi hje _ _ la _ out ho r H2 e 0 out (by omega) ho (fun q hq => by rw [if_neg (by omega)])
theorem mpi_l0 (T : List (List Int)) (M F p : Int) (cls : List Int) (e : Nat) (he : e ≤ 12) (hT : Tab T e) (a b : List Int) (ha : a.length = e) (hb : b.length = e) :
    ∀ (d i : Nat) (out : List Int), d + i = e → out.length = e → Ev (fun f => impl_periods_times.l0 f b T out M a (a.length : Int) (i : Int) p (e : Int) F cls) (((List.range e).drop i).foldl (fun o i => (List.range e).foldl (imR T M F e a b i) o) out, p, (e : Int), F) := by
  intro d
  induction d with
  | zero =>
    intro i out hi ho
    rw [List.drop_eq_nil_of_le (by simp; omega), List.foldl_nil]
    refine Ev.step (f := fun _ => some (out, p, (e : Int), F)) (fun f => ?_) (Ev.now _)
    simp only [impl_periods_times.l0]
    rw [if_neg (by omega)]
  | succ d ih =>
    intro i out hi ho
    have hie : i < e := by omega
    rw [range_drop e i hie, List.foldl_cons]
    refine Ev.step (f := fun f => impl_periods_times.l1 f b T out M (i : Int) (a.getD i 0) a (a.length : Int) (i : Int) b (b.length : Int) 0 p (e : Int) F cls) (fun f => ?_) ?_
    · simp only [impl_periods_times.l0]
      rw [if_pos (by omega), if_pos (by omega), if_pos (by omega)]
      simp only [rd, Int.toNat_natCast]
    · have := mpi_l1 T M F p cls e he hT a b ha hb i hie (a.length : Int) _ e 0 out (by omega) ho (by rw [List.drop_zero]; exact ih (i + 1) _ (by omega) (fold_len _ e (fun o x h => imR_len T M F e a b i o x h) _ _ ho))
      exact this
theorem folds_eq (T : List (List Int)) (M F : Int) (e : Nat) (he : e ≤ 12) (a b : List Int) : ∀ (l : List Nat) (o : List Int), (∀ i ∈ l, i < e) → l.foldl (fun o i => (List.range e).foldl (imR T M F e a b i) o) o = l.foldl (fun o i => (List.range e).foldl (spR T M F e a b i) o) o
  | [], o, _ => rfl
  | i :: l, o, h => by
    rw [List.foldl_cons, List.foldl_cons, rows_eq T M F e he a b i (h i (by simp)), folds_eq T M F e he a b l _ (fun x hx => h x (by simp [hx]))]
def prodP (T : List (List Int)) (M F : Int) (e : Nat) (a b : List Int) : List Int := (List.range e).foldl (fun o i => (List.range e).foldl (spR T M F e a b i) o) (List.replicate e 0)
theorem prodP_len (T : List (List Int)) (M F : Int) (e : Nat) (a b : List Int) : (prodP T M F e a b).length = e :=
  fold_len _ e (fun o i h => fold_len _ e (fun o k h => spR_len T M F e a b i o k h) _ o h) _ _ (by simp)
def tabOk (q : Int × Int) : Bool :=
  match impl_periodsOf.f 4000 q.1 q.2 with
  | some (p, e, F, cls, true) =>
    match impl_periods_table.f 4000 p e F cls, spec_l06Table.f 4000 q.1 q.2, spec_l06Indices.f 4000 q.1 with
    | some (T, p2, e2, F2), some T', some ix => decide (p = q.1 ∧ e = q.2 ∧ p2 = p ∧ e2 = e ∧ F2 = F ∧ F = wrap64 (Int.tdiv (wrap64 (q.1 - 1)) q.2) ∧ T' = T ∧ (T.length : Int) = e ∧ (∀ r ∈ T, (r.length : Int) = e) ∧ (cls.length : Int) = p ∧ (ix.length : Int) = p ∧ Int.tmod (rd ix (wrap64 (q.1 - 1))) q.2 = rd cls (wrap64 (q.1 - 1)))
    | _, _, _ => false
  | _ => false
theorem tab_ok : ∀ q ∈ pes, tabOk q = true := by decide +kernel
theorem tabs (p e : Int) (h : okPE p e = true) : ∃ (F M : Int) (cls : List Int) (T : List (List Int)), Ev (fun k => impl_periodsOf.f k p e) (p, e, F, cls, true) ∧ Ev (fun k => impl_periods_table.f k p e F cls) (T, p, e, F) ∧ Ev (fun k => spec_l06Table.f k p e) T ∧
    (∃ ix, Ev (fun k => spec_l06Indices.f k p) ix ∧ (ix.length : Int) = p ∧ Int.tmod (rd ix (wrap64 (p - 1))) e = M) ∧ (cls.length : Int) = p ∧ rd cls (wrap64 (p - 1)) = M ∧ F = wrap64 (Int.tdiv (wrap64 (p - 1)) e) ∧ Tab T e.toNat := by
  have hb := okPE_bd h
  have t := tab_ok (p, e) (okPE_mem h)
  unfold tabOk at t
  simp only at t
  split at t
  · rename_i p1 e1 F cls h1
    split at t
    · rename_i T p2 e2 F2 T' ix h2 h3 h4
      obtain ⟨rfl, rfl, rfl, rfl, rfl, hF, rfl, q1, q2, q3, q4, q5⟩ := of_decide_eq_true t
      refine ⟨_, _, cls, _, Ev.of (impl_periodsOf.mono _ _) h1, Ev.of (impl_periods_table.mono _ _ _ _) h2, Ev.of (spec_l06Table.mono _ _) h3, ⟨ix, Ev.of (spec_l06Indices.mono _) h4, q4, q5⟩, q3, rfl, hF, ⟨by omega, fun k hk => ?_⟩⟩
      have hk2 : k < T'.length := by omega
      have e1 : rd_L1 T' (k : Int) = T'[k] := by simp [rd_L1, hk2]
      rw [e1]
      have := q2 _ (List.getElem_mem hk2)
      omega
    · cases t
  · cases t
theorem stimes (p e : Int) (a b : List Int) (h : okPE p e = true) (ha : (a.length : Int) = e) (hb : (b.length : Int) = e) : ∃ (F : Int) (cls r : List Int), Ev (fun k => impl_periodsOf.f k p e) (p, e, F, cls, true) ∧ Ev (fun k => impl_periods_times.f k p e F cls a b) (r, p, e, F) ∧ Ev (fun k => spec_l06Times.f k p e a b) r ∧ r.length = e.toNat := by
  have hbd := okPE_bd h
  obtain ⟨F, M, cls, T, t1, t2, t3, ⟨ix, t4, t5, t6⟩, t7, t8, t9, t10⟩ := tabs p e h
  obtain ⟨E, rfl⟩ : ∃ E : Nat, e = E := ⟨e.toNat, by omega⟩
  rw [Int.toNat_natCast] at t10
  have wp : wrap64 (p - 1) = p - 1 := w64 (by omega) (by omega)
  refine ⟨F, cls, prodP T M F E a b, t1, ?_, ?_, by rw [prodP_len, Int.toNat_natCast]⟩
  · unfold impl_periods_times.f
    refine Ev.bind t2 ?_
    simp only [Int.toNat_natCast, if_pos (show 0 ≤ (E : Int) by omega), if_pos (show E ≤ 35184372088832 by omega), wp, if_pos (show 0 ≤ p - 1 by omega), if_pos (show p - 1 < (cls.length : Int) by omega)]
    rw [wp] at t8
    rw [t8]
    have := mpi_l0 T M F p cls E (by omega) t10 a b (by omega) (by omega) E 0 (List.replicate E 0) (by omega) (by simp)
    rw [List.drop_zero, folds_eq T M F E (by omega) a b _ _ (fun i hi => List.mem_range.mp hi)] at this
    exact this
  · unfold spec_l06Times.f
    refine Ev.bind t3 ?_
    simp only [Int.toNat_natCast, if_pos (show 0 ≤ (E : Int) by omega), if_pos (show E ≤ 35184372088832 by omega)]
    refine Ev.bind t4 ?_
    simp only [wp, if_pos (show 0 ≤ p - 1 by omega), if_pos (show p - 1 < (ix.length : Int) by omega), if_neg (show ¬ (E : Int) = 0 by omega)]
    rw [wp] at t6 t9
    rw [t6, ← t9]
    have := mps_l0 T M F E (by omega) t10 a b (by omega) (by omega) E 0 (List.replicate E 0) (by omega) (by simp)
    rw [List.drop_zero] at this
    exact this
def one (n : Int) : List Int := (List.replicate (phn n) 0).set 0 1
theorem l06Sum_at (e : Int) (a b : List Int) (ha : a.length ≤ 1048576) (hb : b.length ≤ 1048576) (x : Nat) (hx : x < 2) (r : Int) : ∀ (d i : Nat), d + i = ([a, b].getD x []).length → (([a, b].getD x []).length ≤ 1048576) →
    Ev (fun k => spec_l06Sum.l0 k e [a, b] ((x + 1 : Nat) : Int)) r → Ev (fun k => spec_l06Sum.l1 k e [a, b] (x : Int) (i : Int)) (if (([a, b].getD x []).drop i).all (inP 1000) then r else 2) := by
  have e0 : rd_L1 [a, b] (x : Int) = [a, b].getD x [] := by simp [rd_L1]
  generalize [a, b].getD x [] = l at *
  have hlen : ((([a, b] : List (List Int)).length : Nat) : Int) = 2 := rfl
  intro d
  induction d with
  | zero =>
    intro i hi hl H
    refine Ev.step (f := fun k => spec_l06Sum.l0 k e [a, b] ((x + 1 : Nat) : Int)) (fun k => ?_) ?_
    · simp only [spec_l06Sum.l1, e0, hlen]
      rw [if_pos (by omega), if_pos (by omega), if_neg (by omega), w64 (x := (x : Int) + 1) (by omega) (by omega)]
      rfl
    · rw [List.drop_of_length_le (by omega)]
      simpa using H
  | succ d ih =>
    intro i hi hl H
    have hi2 : i < l.length := by omega
    have e1 : rd l (i : Int) = l[i] := by simp [rd, hi2]
    rw [List.drop_eq_getElem_cons hi2, List.all_cons]
    cases hp : inP 1000 l[i] with
    | true =>
      refine Ev.step (f := fun k => spec_l06Sum.l1 k e [a, b] (x : Int) ((i + 1 : Nat) : Int)) (fun k => ?_) (by simpa using ih (i + 1) (by omega) hl H)
      simp only [spec_l06Sum.l1, e0, e1, hlen, l01In, Option.bind_some]
      rw [if_pos (by omega), if_pos (by omega), if_pos (by omega), if_pos (by omega), if_pos (by simpa [inP] using hp), w64 (x := (i : Int) + 1) (by omega) (by omega)]
      rfl
    | false =>
      refine Ev.step (f := fun _ => some 2) (fun k => ?_) (by simpa using Ev.now _)
      simp only [spec_l06Sum.l1, e0, e1, hlen, l01In, Option.bind_some]
      rw [if_pos (by omega), if_pos (by omega), if_pos (by omega), if_pos (by omega), if_neg (by simp [inP] at hp ⊢; omega)]
theorem l06Sum2 (p e : Int) (a b : List Int) (ha : a.length ≤ 1048576) (hb : b.length ≤ 1048576) : Ev (fun k => spec_l06Sum.f k p e [a, b]) (if okPE p e && (okS e a && okS e b) then 0 else 2) := by
  have ea : rd_L1 [a, b] 0 = a := rfl
  have eb : rd_L1 [a, b] 1 = b := rfl
  have hlen : ((([a, b] : List (List Int)).length : Nat) : Int) = 2 := rfl
  have end_ : Ev (fun k => spec_l06Sum.l0 k e [a, b] 2) 0 := by
    refine Ev.step (f := fun _ => some 0) (fun k => ?_) (Ev.now _)
    simp only [spec_l06Sum.l0, hlen]
    rw [if_neg (by omega)]
  have second : Ev (fun k => spec_l06Sum.l0 k e [a, b] 1) (if okS e b then 0 else 2) := by
    by_cases hle : (b.length : Int) = e
    · refine Ev.step (f := fun k => spec_l06Sum.l1 k e [a, b] 1 0) (fun k => ?_) ?_
      · simp only [spec_l06Sum.l0, eb, hlen]
        rw [if_pos (by omega), if_pos (by omega), if_pos hle]
      · have := l06Sum_at e a b ha hb 1 (by omega) 0 b.length 0 (by simp) (by simpa using hb) end_
        simpa [okS, hle] using this
    · refine Ev.step (f := fun _ => some 2) (fun k => ?_) (by simpa [okS, hle] using Ev.now _)
      simp only [spec_l06Sum.l0, eb, hlen]
      rw [if_pos (by omega), if_pos (by omega), if_neg hle]
  unfold spec_l06Sum.f
  refine Ev.bind (l06Code p e) ?_
  cases h : okPE p e with
  | false =>
    simp only [Bool.false_eq_true, if_false, Bool.false_and, show ¬ (2 : Int) = 0 by decide]
    exact Ev.now _
  | true =>
    simp only [if_true, Bool.true_and]
    by_cases hle : (a.length : Int) = e
    · refine Ev.step (f := fun k => spec_l06Sum.l1 k e [a, b] 0 0) (fun k => ?_) ?_
      · simp only [spec_l06Sum.l0, ea, hlen]
        rw [if_pos (by omega), if_pos (by omega), if_pos hle]
      · have := l06Sum_at e a b ha hb 0 (by omega) _ a.length 0 (by simp) (by simpa using ha) second
        cases hall : a.all (inP 1000) with
        | true => simpa [okS, hle, hall] using this
        | false => simpa [okS, hle, hall] using this
    · refine Ev.step (f := fun _ => some 2) (fun k => ?_) (by simpa [okS, hle] using Ev.now _)
      simp only [spec_l06Sum.l0, ea, hlen]
      rw [if_pos (by omega), if_pos (by omega), if_neg hle]
theorem isSum2 (e : Int) (a b : List Int) : Ev (fun k => impl_isPeriodSum.f k e [a, b]) (okS e a && okS e b) := by
  have ea : rd_L1 [a, b] 0 = a := rfl
  have eb : rd_L1 [a, b] 1 = b := rfl
  have hlen : ((([a, b] : List (List Int)).length : Nat) : Int) = 2 := rfl
  have round : ∀ (x : Int) (l : List Int) (r : Bool), 0 ≤ x ∧ x < 2 → rd_L1 [a, b] x = l → Ev (fun k => impl_isPeriodSum.l0 k e [a, b] 2 (x + 1)) r → Ev (fun k => impl_isPeriodSum.l0 k e [a, b] 2 x) (okS e l && r) := by
    intro x l r hx hl H
    by_cases hle : (l.length : Int) = e
    · cases hall : l.all (inP 1000) with
      | true =>
        refine Ev.step (fun k => ?_) (by simpa [okS, hle, hall] using H)
        simp only [impl_isPeriodSum.l0, hl, hlen, areSmall l 1000 (by decide) (by decide), Option.bind_some, hall]
        rw [if_pos (by omega), if_pos (by omega), if_pos (by omega), if_pos hle, w64 (by omega) (by omega)]
        rfl
      | false =>
        refine Ev.step (f := fun _ => some false) (fun k => ?_) (by simpa [okS, hle, hall] using Ev.now _)
        simp only [impl_isPeriodSum.l0, hl, hlen, areSmall l 1000 (by decide) (by decide), Option.bind_some, hall]
        rw [if_pos (by omega), if_pos (by omega), if_pos (by omega), if_pos hle, if_neg (by simp)]
    · refine Ev.step (f := fun _ => some false) (fun k => ?_) (by simpa [okS, hle] using Ev.now _)
      simp only [impl_isPeriodSum.l0, hl, hlen]
      rw [if_pos (by omega), if_pos (by omega), if_pos (by omega), if_neg hle]
  have end_ : Ev (fun k => impl_isPeriodSum.l0 k e [a, b] 2 2) true := by
    refine Ev.step (f := fun _ => some true) (fun k => ?_) (Ev.now _)
    simp only [impl_isPeriodSum.l0]
    rw [if_neg (by omega)]
  unfold impl_isPeriodSum.f
  have := round 0 a _ (by omega) ea (round 1 b true (by omega) eb end_)
  rw [Bool.and_true] at this
  exact this
theorem same_out (p e : Int) (a b : List Int) (h0 : -9223372036854775808 ≤ p) (h1 : p ≤ 9223372036854775807) (ha : a.length ≤ 1048576) (hb : b.length ≤ 1048576) : ∃ o : List Int × Int, Ev (fun k => spec_MultiplyPeriods.f k p e a b) o ∧ Ev (fun k => impl_MultiplyPeriods.f k p e a b) o ∧ o.1.length ≤ 1048576 := by
  cases h : okPE p e with
  | false =>
    refine ⟨([], 2), ?_, ?_, by simp⟩
    · unfold spec_MultiplyPeriods.f
      refine Ev.bind (l06Sum2 p e a b ha hb) ?_
      simp only [h, Bool.false_and, Bool.false_eq_true, if_false, show ¬ (2 : Int) = 0 by decide]
      exact Ev.now _
    · unfold impl_MultiplyPeriods.f
      refine Ev.bind (periodsOf_bad p e h0 h1 h) ?_
      simp only [Bool.false_eq_true, if_false]
      exact Ev.now _
  | true =>
    cases hs : okS e a && okS e b with
    | false =>
      refine ⟨([], 2), ?_, ?_, by simp⟩
      · unfold spec_MultiplyPeriods.f
        refine Ev.bind (l06Sum2 p e a b ha hb) ?_
        simp only [h, hs, Bool.and_false, Bool.false_eq_true, if_false, show ¬ (2 : Int) = 0 by decide]
        exact Ev.now _
      · obtain ⟨F, M, cls, T, t1, _⟩ := tabs p e h
        unfold impl_MultiplyPeriods.f
        refine Ev.bind t1 ?_
        simp only [if_true]
        refine Ev.bind (isSum2 e a b) ?_
        simp only [hs, Bool.false_eq_true, if_false]
        exact Ev.now _
    | true =>
      have hs2 := hs
      simp only [okS, Bool.and_eq_true, decide_eq_true_eq] at hs2
      have hbd := okPE_bd h
      obtain ⟨F, cls, r, t1, t2, t3, t4⟩ := stimes p e a b h hs2.1.1 hs2.2.1
      refine ⟨(r, 0), ?_, ?_, by simp only [t4]; omega⟩
      · unfold spec_MultiplyPeriods.f
        refine Ev.bind (l06Sum2 p e a b ha hb) ?_
        simp only [h, hs, Bool.and_self, if_true]
        exact Ev.bind t3 (Ev.now _)
      · unfold impl_MultiplyPeriods.f
        refine Ev.bind t1 ?_
        simp only [if_true]
        refine Ev.bind (isSum2 e a b) ?_
        simp only [hs, if_true]
        exact Ev.bind t2 (Ev.now _)
theorem FnExactMultiplyPeriods : laws_FnExactMultiplyPeriods.Pure := by
  intro p e a b hp _ _ _ _ _ _ _
  apply Ev.rounds
  have hb := wf64 hp
  unfold laws_FnExactMultiplyPeriods.f
  by_cases h1 : (a.length : Int) > 1048576
  · simp only [if_pos h1]
    exact Ev.now _
  simp only [if_neg h1]
  by_cases h2 : (b.length : Int) > 1048576
  · simp only [if_pos h2]
    exact Ev.now _
  simp only [if_neg h2]
  have ha : a.length ≤ 1048576 := by omega
  have hb2 : b.length ≤ 1048576 := by omega
  obtain ⟨⟨r, c⟩, hs, hi, hr⟩ := same_out p e a b hb.1 hb.2 ha hb2
  have a1 := toInts a ha
  have a2 := toInts b hb2
  refine Ev.bind a1 (Ev.bind a2 (Ev.bind hs (Ev.bind a1 (Ev.bind a2 (Ev.bind hi (Ev.bind (eqInts r r hr) ?_))))))
  simp only [decide_true, if_true, bne_self_eq_false]
  refine Ev.step (fun k => by simp only [laws_FnExactMultiplyPeriods.j0, Bool.false_eq_true, if_false] <;> rfl) ?_
  refine Ev.bind a1 (Ev.bind (eqInts a a ha) ?_)
  simp only [decide_true, if_true]
  refine Ev.bind a2 (Ev.bind (eqInts b b hb2) ?_)
  simp only [decide_true, if_true]
  refine Ev.bind (markInts a ha) (Ev.bind (markIntsA b (1 + (a.length : Int)) hb2 (by omega) (by omega)) ?_)
  simp only [if_neg (show ¬ (1 + (a.length : Int) + (b.length : Int) < 0) by omega)]
  refine Ev.bind (eqInts r r hr) ?_
  simp only [decide_true, if_true, bne_self_eq_false]
  refine Ev.step (fun k => by simp only [laws_FnExactMultiplyPeriods.j1, Bool.false_eq_true, if_false] <;> rfl) ?_
  refine Ev.bind (markInts r hr) (Ev.bind (heldInts r.length (by simpa using hr)) ?_)
  simp only [if_neg (show ¬ (1 + (r.length : Int) < 0) by omega), if_true]
  refine Ev.bind a1 (Ev.bind a2 (Ev.bind hi (Ev.bind (eqInts r r hr) ?_)))
  simp only [decide_true, if_true, bne_self_eq_false]
  refine Ev.step (fun k => by simp only [laws_FnExactMultiplyPeriods.j2, Bool.false_eq_true, if_false] <;> rfl) ?_
  refine Ev.bind (heldInts r.length (by simpa using hr)) ?_
  simp only [if_neg (show ¬ (1 + (r.length : Int) < 0) by omega), if_true]
  exact Ev.now _
end Go.Proofs.Ytghlmdjedpnglaa.Pure
