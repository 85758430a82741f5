/- The program's CycloAtResidues returns what the reference's returns, for all arguments; no condition. -/
import Derived.Test.YtefhabkikaadiaaPFnExactCycloAtResiduesx10
import Derived.OpenShut
namespace Go.Proofs.Ytefhabkikaadiaa.Pure
open Go.RowKit Go.Proofs.Ytefhabkikaadiaa.PFnExactCycloAtResidues Go.Proofs.YtefhabkikaadiaaW.PrintWords Go.Proofs.YtefhabkikaadiaaW.PrintLast Go.Proofs.YtefhabkikaadiaaW.PrintMore
set_option linter.unusedVariables false
set_option linter.unusedSimpArgs false
theorem w64 {x : Int} (h0 : -9223372036854775808 ≤ x) (h1 : x ≤ 9223372036854775807) : wrap64 x = x := by unfold wrap64; omega
theorem wf64 {x : Int} (h : (Lit.int .i64 x).wf = true) : -9223372036854775808 ≤ x ∧ x ≤ 9223372036854775807 := bounds_i64 h
theorem ev_bind_const {α β : Type} {o : Option α} {a : α} {f : Nat → α → Option β} {r : β} (h : o = some a) (k : Ev (fun n => f n a) r) : Ev (fun n => o.bind (f n)) r := by
  subst h; exact k
theorem toInts_l0 (l : List Int) (hl : l.length ≤ 1048576) : ∀ (d : Nat) (ys : List Int) (i : Nat), d + i = l.length → ys.length = l.length → ys.take i = l.take i → Ev (fun k => laws_toInt64S.l0 k l ys (i : Int)) l := by
  intro d
  induction d with
  | zero =>
    intro ys i hd hy ht
    have : i = l.length := by omega
    subst this
    refine Ev.step (f := fun _ => some l) (fun k => ?_) (Ev.now _)
    simp only [laws_toInt64S.l0]
    rw [if_neg (by omega)]
    rw [List.take_of_length_le (by omega), List.take_of_length_le (by omega)] at ht
    rw [ht]
  | succ d ih =>
    intro ys i hd hy ht
    refine Ev.step (f := fun k => laws_toInt64S.l0 k l (ys.set i (rd l (i : Int))) ((i + 1 : Nat) : Int)) (fun k => ?_) (ih _ _ (by omega) (by simp [hy]) ?_)
    · simp only [laws_toInt64S.l0]
      rw [if_pos (by omega), if_pos (by omega), if_pos (by omega), w64 (by omega) (by omega)]
      rfl
    · have hi : i < l.length := by omega
      rw [List.take_succ_eq_append_getElem (by simpa [hy] using hi), List.take_succ_eq_append_getElem hi, List.take_set_of_le (Nat.le_refl _), ht]
      simp [rd, hi]
theorem toInts (l : List Int) (hl : l.length ≤ 1048576) : Ev (fun k => laws_toInt64S.f k l) l := by
  have h := toInts_l0 l hl l.length (List.replicate l.length 0) 0 (by omega) (by simp) (by simp)
  refine Ev.congr (fun k => ?_) h
  unfold laws_toInt64S.f
  rw [if_pos (by omega), if_pos (by omega)]
  simp
theorem eqInts_l0 (l m : List Int) (hl : l.length ≤ 1048576) (hm : m.length = l.length) : ∀ (d i : Nat), d + i = l.length → Ev (fun k => laws_eqInt64S.l0 k l m (i : Int)) (decide (l.drop i = m.drop i)) := by
  intro d
  induction d with
  | zero =>
    intro i hd
    refine Ev.step (f := fun _ => some (decide (l.drop i = m.drop i))) (fun k => ?_) (Ev.now _)
    simp only [laws_eqInt64S.l0]
    rw [if_neg (by omega), List.drop_of_length_le (by omega), List.drop_of_length_le (by omega)]
    simp
  | succ d ih =>
    intro i hd
    have hi : i < l.length := by omega
    have hi2 : i < m.length := by omega
    have e1 : rd l (i : Int) = l[i] := by simp [rd, hi]
    have e2 : rd m (i : Int) = m[i] := by simp [rd, hi2]
    by_cases he : l[i] = m[i]
    · refine Ev.step (f := fun k => laws_eqInt64S.l0 k l m ((i + 1 : Nat) : Int)) (fun k => ?_) ?_
      · simp only [laws_eqInt64S.l0]
        rw [if_pos (by omega), if_pos (by omega), if_pos (by omega), e1, e2, if_pos he, w64 (by omega) (by omega)]
        rfl
      · have e : decide (l.drop i = m.drop i) = decide (l.drop (i + 1) = m.drop (i + 1)) := by
          rw [List.drop_eq_getElem_cons hi, List.drop_eq_getElem_cons hi2]
          simp only [List.cons.injEq, he, true_and]
        rw [e]
        exact ih (i + 1) (by omega)
    · refine Ev.step (f := fun _ => some false) (fun k => ?_) ?_
      · simp only [laws_eqInt64S.l0]
        rw [if_pos (by omega), if_pos (by omega), if_pos (by omega), e1, e2, if_neg he]
      · have e : decide (l.drop i = m.drop i) = false := by
          rw [List.drop_eq_getElem_cons hi, List.drop_eq_getElem_cons hi2]
          simp only [List.cons.injEq, he, false_and, decide_false]
        rw [e]
        exact Ev.now _
theorem eqInts (l m : List Int) (hl : l.length ≤ 1048576) : Ev (fun k => laws_eqInt64S.f k l m) (decide (l = m)) := by
  by_cases h : m.length = l.length
  · have := eqInts_l0 l m hl h l.length 0 (by omega)
    refine Ev.congr (fun k => ?_) (by simpa using this)
    unfold laws_eqInt64S.f
    rw [if_pos (by omega)]
  · have hne : l ≠ m := fun e => h (by rw [e])
    rw [decide_eq_false hne]
    refine Ev.congr (fun k => ?_) (Ev.now _)
    unfold laws_eqInt64S.f
    rw [if_neg (by omega)]
theorem eqCyclo (n n' : Int) (l l' : List Int) (hl : l.length ≤ 1048576) : Ev (fun k => laws_eqCyclo.f k n l n' l') (decide (n = n' ∧ l = l')) := by
  unfold laws_eqCyclo.f
  by_cases h : n = n'
  · simp only [if_pos h]
    refine Ev.bind (eqInts l l' hl) ?_
    by_cases h2 : l = l' <;> simp [h, h2] <;> exact Ev.now _
  · simp only [if_neg h]
    simp [h]
    exact Ev.now _
def phi (n : Int) : Int := [0, 1, 1, 2, 2, 4, 2, 6, 4, 6, 4, 10, 4, 12, 6, 8, 8].getD n.toNat 0
theorem orders {P : Int → Prop} (h : ∀ m : Nat, m < 17 → 1 ≤ m → P m) (n : Int) (h0 : 1 ≤ n) (h1 : n ≤ 16) : P n := by
  have := h n.toNat (by omega) (by omega)
  rwa [Int.toNat_of_nonneg (by omega)] at this
theorem phi_spec (n : Int) (h0 : 1 ≤ n) (h1 : n ≤ 16) : Ev (fun k => spec_l01Phi.f k n) (phi n) := by
  have key : ∀ m : Nat, m < 17 → 1 ≤ m → spec_l01Phi.f 60 (m : Int) = some (phi m) := by decide +kernel
  exact Ev.of (spec_l01Phi.mono n) (orders (P := fun n => spec_l01Phi.f 60 n = some (phi n)) key n h0 h1)
theorem l01In (a b c : Int) : spec_l01In.f a b c = some (decide (b ≤ a) && decide (a ≤ c)) := by
  unfold spec_l01In.f
  by_cases h : a ≥ b
  · rw [if_pos h]; simp [h]
  · rw [if_neg h]; simp [h]
theorem within_ (a b c : Int) : impl_within.f a b c = some (decide (b ≤ a) && decide (a ≤ c)) := by
  unfold impl_within.f
  by_cases h : b ≤ a
  · rw [if_pos h]; simp [h]
  · rw [if_neg h]; simp [h]
theorem mul_bd {a b A B : Int} (ha : -A ≤ a ∧ a ≤ A) (hb : -B ≤ b ∧ b ≤ B) : -(A * B) ≤ a * b ∧ a * b ≤ A * B := by
  have h : (a * b).natAbs ≤ A.toNat * B.toNat := by rw [Int.natAbs_mul]; exact Nat.mul_le_mul (by omega) (by omega)
  have h2 : ((A.toNat * B.toNat : Nat) : Int) = A * B := by rw [Int.natCast_mul, Int.toNat_of_nonneg (by omega), Int.toNat_of_nonneg (by omega)]
  omega
def upTo (a : Int) (n : Nat) : List Int := (List.range n).map fun (j : Nat) => a + (j : Int)
theorem upTo_cons (a : Int) (n : Nat) : upTo a (n + 1) = a :: upTo (a + 1) n := by
  unfold upTo
  rw [List.range_succ_eq_map, List.map_cons, List.map_map]
  congr 1
  · simp
  · apply List.map_congr_left
    intro j _
    simp only [Function.comp, Nat.succ_eq_add_one]
    omega
theorem mem_upTo {a x : Int} {n : Nat} : x ∈ upTo a n ↔ a ≤ x ∧ x < a + n := by
  simp only [upTo, List.mem_map, List.mem_range]
  constructor
  · rintro ⟨j, hj, rfl⟩; omega
  · intro h; exact ⟨(x - a).toNat, by omega, by omega⟩
theorem upTo_len (a : Int) (n : Nat) : (upTo a n).length = n := by simp [upTo]
theorem upTo_get (a : Int) (n i : Nat) (hi : i < n) : (upTo a n)[i]'(by rw [upTo_len]; exact hi) = a + (i : Int) := by simp [upTo]
theorem upTo_snoc (a : Int) (n : Nat) : upTo a (n + 1) = upTo a n ++ [a + (n : Int)] := by
  unfold upTo
  rw [List.range_succ, List.map_append]
  rfl
theorem markInts_l0 : ∀ (d i : Nat) (ys : List Int), d + i = ys.length → ys.length ≤ 1048576 → ys.take i = upTo 1 i → Ev (fun k => laws_markInt64S.l0 k ys (1 + (i : Int)) (i : Int)) (1 + (ys.length : Int), upTo 1 ys.length) := by
  intro d
  induction d with
  | zero =>
    intro i ys hd hl ht
    obtain rfl : i = ys.length := by omega
    refine Ev.step (fun k => by simp only [laws_markInt64S.l0]; rw [if_neg (by omega)] <;> rfl) ?_
    rw [List.take_length] at ht
    rw [← ht]
    exact Ev.now _
  | succ d ih =>
    intro i ys hd hl ht
    have hi : i < ys.length := by omega
    have := ih (i + 1) (ys.set i (1 + (i : Int))) (by simp; omega) (by simpa using hl) (by
      rw [List.take_succ_eq_append_getElem (by simpa using hi), List.take_set_of_le (Nat.le_refl _), ht, upTo_snoc]
      simp)
    refine Ev.step (fun k => ?_) (by simpa using this)
    simp only [laws_markInt64S.l0]
    rw [if_pos (by omega), if_pos (by omega), w64 (x := 1 + (i : Int) + 1) (by omega) (by omega), w64 (x := (i : Int) + 1) (by omega) (by omega), show 1 + (i : Int) + 1 = 1 + ((i : Int) + 1) by omega]
    rfl
theorem markInts (l : List Int) (hl : l.length ≤ 1048576) : Ev (fun k => laws_markInt64S.f k l 1) (1 + (l.length : Int), upTo 1 l.length) := by
  have := markInts_l0 l.length 0 l (by omega) hl (by simp [upTo])
  unfold laws_markInt64S.f
  simpa using this
theorem heldInts_l0 (n : Nat) (hn : n ≤ 1048576) : ∀ (d i : Nat), d + i = n → Ev (fun k => laws_heldInt64S.l0 k (upTo 1 n) (1 + (i : Int)) (i : Int)) (1 + (n : Int)) := by
  intro d
  induction d with
  | zero =>
    intro i hd
    obtain rfl : i = n := by omega
    exact Ev.step (fun k => by simp only [laws_heldInt64S.l0]; rw [if_neg (by rw [upTo_len]; omega)] <;> rfl) (Ev.now _)
  | succ d ih =>
    intro i hd
    have hi : i < (upTo 1 n).length := by rw [upTo_len]; omega
    have e1 : rd (upTo 1 n) (i : Int) = 1 + (i : Int) := by
      have := upTo_get 1 n i (by omega)
      simp only [rd, Int.toNat_natCast, List.getD_eq_getElem?_getD, List.getElem?_eq_getElem hi, Option.getD_some, this]
    refine Ev.step (fun k => ?_) (ih (i + 1) (by omega))
    simp only [laws_heldInt64S.l0]
    rw [if_pos (by omega), if_pos (by omega), if_pos e1, w64 (x := 1 + (i : Int) + 1) (by omega) (by omega), w64 (x := (i : Int) + 1) (by omega) (by omega), show 1 + (i : Int) + 1 = 1 + ((i : Int) + 1) by omega]
    rfl
theorem heldInts (n : Nat) (hn : n ≤ 1048576) : Ev (fun k => laws_heldInt64S.f k (upTo 1 n) 1) (1 + (n : Int)) := by
  have := heldInts_l0 n hn n 0 (by omega)
  unfold laws_heldInt64S.f
  simpa using this
theorem markCyclo (n : Int) (l : List Int) (hl : l.length ≤ 1048576) : Ev (fun k => laws_markCyclo.f k n l 1) (1 + (l.length : Int), upTo 1 l.length) := Ev.bind (markInts l hl) (Ev.now _)
theorem heldCyclo (m : Int) (n : Nat) (hn : n ≤ 1048576) : Ev (fun k => laws_heldCyclo.f k m (upTo 1 n) 1) (1 + (n : Int)) := by
  unfold laws_heldCyclo.f
  refine Ev.bind (heldInts n hn) ?_
  simp only [if_neg (show ¬ (1 + (n : Int) < 0) by omega)]
  exact Ev.now _
def prs : List Int := [3, 5, 7, 11, 13, 17, 19, 23, 29, 31, 37, 41, 43, 47, 53, 59, 61]
def pr (l : Int) : Bool := prs.contains l
theorem pr_iff {l : Int} : pr l = true ↔ l ∈ prs := by unfold pr; exact List.contains_iff_mem
theorem pr_bd {l : Int} (h : pr l = true) : 3 ≤ l ∧ l ≤ 61 := by
  rw [pr_iff] at h
  simp only [prs, List.mem_cons, List.not_mem_nil, or_false] at h
  omega
theorem upto61 {P : Int → Prop} (h : ∀ m : Nat, m < 62 → P m) (n : Int) (h0 : 0 ≤ n) (h1 : n ≤ 61) : P n := by
  have := h n.toNat (by omega)
  rwa [Int.toNat_of_nonneg (by omega)] at this
theorem isPrime_big (p : Int) (h0 : 61 < p) (h1 : p ≤ 9223372036854775807) : ∀ (n : Nat) (d : Int), 2 ≤ d → d ≤ p → (p - d).toNat = n → Ev (fun k => impl_isPrime.l0 k p d) false := by
  intro n
  induction n with
  | zero =>
    intro d hd hp hn
    have : d = p := by omega
    subst this
    refine Ev.step (f := fun _ => some false) (fun k => ?_) (Ev.now _)
    simp only [impl_isPrime.l0]
    by_cases c : wrap64 (d * d) ≤ d
    · rw [if_pos c, if_neg (by omega), if_pos (Int.tmod_self)]
    · rw [if_neg c, within_, Option.bind_some]
      simp
      omega
  | succ n ih =>
    intro d hd hp hn
    by_cases c : wrap64 (d * d) ≤ p
    · by_cases c2 : Int.tmod p d = 0
      · refine Ev.step (f := fun _ => some false) (fun k => ?_) (Ev.now _)
        simp only [impl_isPrime.l0]
        rw [if_pos c, if_neg (by omega), if_pos c2]
      · refine Ev.step (fun k => ?_) (ih (d + 1) (by omega) (by omega) (by omega))
        simp only [impl_isPrime.l0]
        rw [if_pos c, if_neg (by omega), if_neg c2, w64 (by omega) (by omega)]
    · refine Ev.step (f := fun _ => some false) (fun k => ?_) (Ev.now _)
      simp only [impl_isPrime.l0]
      rw [if_neg c, within_, Option.bind_some]
      simp
      omega
theorem isPrime (p : Int) (h0 : -9223372036854775808 ≤ p) (h1 : p ≤ 9223372036854775807) : Ev (fun k => impl_isPrime.f k p) (pr p) := by
  by_cases c : 61 < p
  · have e : pr p = false := by
      cases h : pr p with
      | false => rfl
      | true => have := pr_bd h; omega
    rw [e]
    exact isPrime_big p c h1 _ 2 (by omega) (by omega) rfl
  · by_cases c2 : 0 ≤ p
    · have key : ∀ m : Nat, m < 62 → impl_isPrime.f 20 (m : Int) = some (pr m) := by decide +kernel
      exact Ev.of (impl_isPrime.mono p) (upto61 (P := fun p => impl_isPrime.f 20 p = some (pr p)) key p c2 (by omega))
    · have e : pr p = false := by
        cases h : pr p with
        | false => rfl
        | true => have := pr_bd h; omega
      rw [e]
      refine Ev.step (f := fun _ => some false) (fun k => ?_) (Ev.now _)
      simp only [impl_isPrime.f, impl_isPrime.l0]
      rw [if_neg (by rw [w64 (x := 2 * 2) (by omega) (by omega)]; omega), within_, Option.bind_some]
      simp
      omega
theorem l03Prime (p : Int) : Ev (fun k => spec_l03Prime.f k p) (pr p) := by
  by_cases c : 3 ≤ p ∧ p ≤ 61
  · have key : ∀ m : Nat, m < 62 → spec_l03Prime.f 20 (m : Int) = some (pr m) := by decide +kernel
    exact Ev.of (spec_l03Prime.mono p) (upto61 (P := fun p => spec_l03Prime.f 20 p = some (pr p)) key p (by omega) c.2)
  · have e : pr p = false := by
      cases h : pr p with
      | false => rfl
      | true => have := pr_bd h; omega
    rw [e]
    unfold spec_l03Prime.f
    refine ev_bind_const (l01In _ _ _) ?_
    rw [show (decide (3 ≤ p) && decide (p ≤ 61)) = false by simp; omega]
    exact Ev.now _
def cyc (n : Int) : List Int := [[], [-1, 1], [1, 1], [1, 1, 1], [1, 0, 1], [1, 1, 1, 1, 1], [1, -1, 1], [1, 1, 1, 1, 1, 1, 1], [1, 0, 0, 0, 1], [1, 0, 0, 1, 0, 0, 1], [1, -1, 1, -1, 1], [1, 1, 1, 1, 1, 1, 1, 1, 1, 1, 1], [1, 0, -1, 0, 1], [1, 1, 1, 1, 1, 1, 1, 1, 1, 1, 1, 1, 1], [1, -1, 1, -1, 1, -1, 1], [1, -1, 0, 1, -1, 1, 0, -1, 1], [1, 0, 0, 0, 0, 0, 0, 0, 1]].getD n.toNat []
theorem cyc_impl (n : Int) (h0 : 1 ≤ n) (h1 : n ≤ 16) : Ev (fun k => impl_cyclotomic.f k n) (cyc n) := by
  have key : ∀ m : Nat, m < 17 → 1 ≤ m → impl_cyclotomic.f 400 (m : Int) = some (cyc m) := by decide +kernel
  exact Ev.of (impl_cyclotomic.mono n) (orders (P := fun n => impl_cyclotomic.f 400 n = some (cyc n)) key n h0 h1)
theorem cyc_spec (n : Int) (h0 : 1 ≤ n) (h1 : n ≤ 16) : Ev (fun k => spec_l01Cyclotomic.f k n) (cyc n) := by
  have key : ∀ m : Nat, m < 17 → 1 ≤ m → spec_l01Cyclotomic.f 400 (m : Int) = some (cyc m) := by decide +kernel
  exact Ev.of (spec_l01Cyclotomic.mono n) (orders (P := fun n => spec_l01Cyclotomic.f 400 n = some (cyc n)) key n h0 h1)
theorem cyc_small (n : Int) (h0 : 1 ≤ n) (h1 : n ≤ 16) : (cyc n).length ≤ 13 ∧ ∀ c ∈ cyc n, -1000000000 ≤ c ∧ c ≤ 1000000000 :=
  orders (P := fun n => (cyc n).length ≤ 13 ∧ ∀ c ∈ cyc n, -1000000000 ≤ c ∧ c ≤ 1000000000) (by decide +kernel) n h0 h1
def hv (cs : List Int) (r q : Int) : Int := cs.foldr (fun c out => (out * r + c) % q) 0
theorem hv_bd (cs : List Int) (r q : Int) (hq : 0 < q) : 0 ≤ hv cs r q ∧ hv cs r q < q := by
  cases cs with
  | nil => exact ⟨Int.le_refl 0, hq⟩
  | cons c cs => exact ⟨Int.emod_nonneg _ (by omega), Int.emod_lt_of_pos _ hq⟩
theorem hv_step (cs : List Int) (i : Nat) (hi : i < cs.length) (r q : Int) : hv (cs.drop i) r q = (hv (cs.drop (i + 1)) r q * r + cs[i]) % q := by
  rw [List.drop_eq_getElem_cons hi]
  rfl
theorem tmod_bd (c q : Int) (hq : 0 < q) : -q < Int.tmod c q ∧ Int.tmod c q < q := by
  have h1 := Int.tmod_lt_of_pos c hq
  have h2 := Int.lt_tmod_of_pos c hq
  omega
theorem tmod_emod (c q : Int) (hq : 0 < q) : (Int.tmod c q) % q = c % q := by
  rw [Int.tmod_eq_emod]
  split <;> simp
  rw [Int.sub_emod]
  simp [Int.natAbs_of_nonneg (Int.le_of_lt hq)]
theorem vstep (o r c q : Int) (hq : 0 < q) (hq2 : q ≤ 1000000000) (ho : 0 ≤ o ∧ o < q) (hr : 0 ≤ r ∧ r ≤ 1000000000) :
    wrap64 (wrap64 (o * r) + Int.tmod c q) = o * r + Int.tmod c q ∧ Int.tmod (wrap64 (Int.tmod (o * r + Int.tmod c q) q + q)) q = (o * r + c) % q ∧ Int.tmod (wrap64 (o * r + Int.tmod c q + q)) q = (o * r + c) % q := by
  have b1 := tmod_bd c q hq
  have b2 : 0 ≤ o * r ∧ o * r ≤ 1000000000 * 1000000000 := by
    refine ⟨Int.mul_nonneg ho.1 hr.1, Int.mul_le_mul (by omega) hr.2 hr.1 (by omega)⟩
  have b3 := tmod_bd (o * r + Int.tmod c q) q hq
  refine ⟨by rw [w64 (x := o * r) (by omega) (by omega), w64 (by omega) (by omega)], ?_, ?_⟩
  · rw [w64 (by omega) (by omega), Int.tmod_eq_emod_of_nonneg (by omega), Int.add_emod_right, tmod_emod _ _ hq, Int.add_emod, tmod_emod c q hq, ← Int.add_emod]
  · rw [w64 (by omega) (by omega), Int.tmod_eq_emod_of_nonneg (by omega), Int.add_emod_right, Int.add_emod, tmod_emod c q hq, ← Int.add_emod]
theorem valueAt_l0 (cs : List Int) (hl : cs.length ≤ 1000) (r q : Int) (hq : 0 < q) (hq2 : q ≤ 1000000000) (hr : 0 ≤ r ∧ r ≤ 1000000000) : ∀ (i : Nat), i ≤ cs.length → Ev (fun k => impl_valueAt.l0 k cs r q (hv (cs.drop i) r q) ((i : Int) - 1)) (hv cs r q) := by
  intro i
  induction i with
  | zero =>
    intro hi
    refine Ev.step (f := fun _ => some (hv cs r q)) (fun k => ?_) (Ev.now _)
    simp only [impl_valueAt.l0]
    rw [if_neg (by omega), List.drop_zero]
  | succ i ih =>
    intro hi
    have hlt : i < cs.length := by omega
    have e1 : rd cs (i : Int) = cs[i] := by simp [rd, hlt]
    have hv2 := vstep (hv (cs.drop (i + 1)) r q) r cs[i] q hq hq2 (hv_bd _ _ _ hq) hr
    refine Ev.step (fun k => ?_) (ih (by omega))
    simp only [impl_valueAt.l0]
    rw [show ((i + 1 : Nat) : Int) - 1 = i by omega, if_pos (by omega), if_pos (by omega), if_pos (by omega), if_neg (by omega), e1, w64 (x := (i : Int) - 1) (by omega) (by omega), hv2.1]
    simp only [impl_around.f]
    rw [if_neg (by omega), hv2.2.1, Option.bind_some, hv_step cs i hlt]
theorem valueAt (cs : List Int) (hl : cs.length ≤ 1000) (r q : Int) (hq : 0 < q) (hq2 : q ≤ 1000000000) (hr : 0 ≤ r ∧ r ≤ 1000000000) : Ev (fun k => impl_valueAt.f k cs r q) (hv cs r q) := by
  have := valueAt_l0 cs hl r q hq hq2 hr cs.length (by omega)
  rw [List.drop_of_length_le (by omega)] at this
  unfold impl_valueAt.f
  rw [w64 (by omega) (by omega)]
  exact this
theorem l07Value_l0 (cs : List Int) (hl : cs.length ≤ 1000) (r q : Int) (hq : 0 < q) (hq2 : q ≤ 1000000000) (hr : 0 ≤ r ∧ r ≤ 1000000000) : ∀ (i : Nat), i ≤ cs.length → Ev (fun k => spec_l07Value.l0 k cs r q (hv (cs.drop i) r q) ((i : Int) - 1)) (hv cs r q) := by
  intro i
  induction i with
  | zero =>
    intro hi
    refine Ev.step (f := fun _ => some (hv cs r q)) (fun k => ?_) (Ev.now _)
    simp only [spec_l07Value.l0]
    rw [if_neg (by omega), List.drop_zero]
  | succ i ih =>
    intro hi
    have hlt : i < cs.length := by omega
    have e1 : rd cs (i : Int) = cs[i] := by simp [rd, hlt]
    have hv2 := vstep (hv (cs.drop (i + 1)) r q) r cs[i] q hq hq2 (hv_bd _ _ _ hq) hr
    refine Ev.step (fun k => ?_) (ih (by omega))
    simp only [spec_l07Value.l0]
    rw [show ((i + 1 : Nat) : Int) - 1 = i by omega, if_pos (by omega), if_pos (by omega), if_pos (by omega), if_neg (by omega), e1, w64 (x := (i : Int) - 1) (by omega) (by omega), hv2.1, hv2.2.2, hv_step cs i hlt]
theorem l07Value (cs : List Int) (hl : cs.length ≤ 1000) (r q : Int) (hq : 0 < q) (hq2 : q ≤ 1000000000) (hr : 0 ≤ r ∧ r ≤ 1000000000) : Ev (fun k => spec_l07Value.f k cs r q) (hv cs r q) := by
  have := l07Value_l0 cs hl r q hq hq2 hr cs.length (by omega)
  rw [List.drop_of_length_le (by omega)] at this
  unfold spec_l07Value.f
  rw [w64 (by omega) (by omega)]
  exact this
def fully (n l : Int) : Bool := decide (n % l ≠ 0) && decide ((l - 1) % n = 0)
def okNL (n l : Int) : Bool := (decide (1 ≤ n) && decide (n ≤ 16)) && pr l && fully n l
theorem okNL_iff {n l : Int} : okNL n l = true ↔ (1 ≤ n ∧ n ≤ 16) ∧ pr l = true ∧ fully n l = true := by
  simp only [okNL, Bool.and_eq_true, decide_eq_true_eq, and_assoc]
theorem l07Fully (n l : Int) (hn : 1 ≤ n ∧ n ≤ 16) (hl : pr l = true) : spec_l07Fully.f n l = some (fully n l) := by
  have := pr_bd hl
  unfold spec_l07Fully.f
  rw [if_neg (show ¬ l = 0 by omega), Int.tmod_eq_emod_of_nonneg (show 0 ≤ n by omega)]
  by_cases h : n % l = 0
  · rw [if_pos h]
    simp [fully, h]
  · rw [if_neg h, if_neg (show ¬ n = 0 by omega), w64 (by omega) (by omega), Int.tmod_eq_emod_of_nonneg (by omega)]
    by_cases h2 : (l - 1) % n = 0 <;> simp [fully, h, h2]
theorem splits07 (n l : Int) (hn : 1 ≤ n ∧ n ≤ 16) (hl : pr l = true) : Ev (fun k => impl_splits.f k n l) (fully n l) := by
  have key : ∀ l ∈ prs, ∀ m : Nat, m < 17 → 1 ≤ m → impl_splits.f 100 (m : Int) l = some (fully m l) := by decide +kernel
  exact Ev.of (impl_splits.mono n l) (orders (P := fun n => impl_splits.f 100 n l = some (fully n l)) (key l (pr_iff.mp hl)) n hn.1 hn.2)
theorem l07Code (n l : Int) : Ev (fun k => spec_l07Code.f k n l) (if (decide (1 ≤ n) && decide (n ≤ 16)) && pr l then 0 else 2) := by
  unfold spec_l07Code.f
  refine ev_bind_const (l01In _ _ _) ?_
  cases h : (decide (1 ≤ n) && decide (n ≤ 16)) with
  | false => exact Ev.now _
  | true =>
    simp only [if_true, Bool.true_and]
    refine Ev.bind (l03Prime l) ?_
    cases pr l <;> exact Ev.now _
def roots (n l : Int) : List Int := (upTo 1 (l - 1).toNat).filter fun r => hv (cyc n) r l == 0
theorem mem_roots {n l r : Int} (hl : 1 ≤ l) : r ∈ roots n l ↔ (1 ≤ r ∧ r ≤ l - 1) ∧ hv (cyc n) r l = 0 := by
  unfold roots
  rw [List.mem_filter, mem_upTo, beq_iff_eq]
  constructor
  · rintro ⟨h1, h2⟩; exact ⟨by omega, h2⟩
  · rintro ⟨h1, h2⟩; exact ⟨by omega, h2⟩
theorem rootsFor_l0 (cs : List Int) (hc : cs.length ≤ 1000) (l : Int) (hl : 3 ≤ l ∧ l ≤ 61) : ∀ (d : Nat) (i : Int) (acc : List Int), (d : Int) + i = l → 1 ≤ i → (acc.length : Int) ≤ i → Ev (fun k => impl_rootsFor.l0 k l acc cs i) (acc ++ (upTo i d).filter (fun r => hv cs r l == 0), true) := by
  intro d
  induction d with
  | zero =>
    intro i acc hd hi ha
    refine Ev.step (fun k => by simp only [impl_rootsFor.l0]; rw [if_neg (by omega)]) ?_
    simpa [upTo] using Ev.now _
  | succ d ih =>
    intro i acc hd hi ha
    refine Ev.step (fun k => by simp only [impl_rootsFor.l0]; rw [if_pos (by omega), w64 (x := i + 1) (by omega) (by omega)]) ?_
    refine Ev.bind (valueAt cs hc i l (by omega) (by omega) (by omega)) ?_
    rw [upTo_cons, List.filter_cons]
    by_cases h : hv cs i l = 0
    · have h2 : (hv cs i l == 0) = true := by rw [h]; rfl
      simp only [if_pos h, h2, if_true]
      have := ih (i + 1) (acc ++ [i]) (by omega) (by omega) (by simp; omega)
      rw [List.append_assoc, List.singleton_append] at this
      simp only [if_pos (show acc.length < 17592186044416 by omega)]
      exact this
    · have h2 : (hv cs i l == 0) = false := by rw [beq_eq_false_iff_ne]; exact h
      simp only [if_neg h, h2, Bool.false_eq_true, if_false]
      exact ih (i + 1) acc (by omega) (by omega) (by omega)
theorem rootsFor (n l : Int) (h0 : -9223372036854775808 ≤ l) (h1 : l ≤ 9223372036854775807) : Ev (fun k => impl_rootsFor.f k n l) (if okNL n l then (roots n l, true) else ([], false)) := by
  unfold impl_rootsFor.f impl_isOrder.f
  refine ev_bind_const (a := decide (1 ≤ n) && decide (n ≤ 16)) (by rw [within_]; rfl) ?_
  have no : Ev (fun k => impl_rootsFor.j0 k n l true) (([] : List Int), false) := Ev.step (fun k => by simp only [impl_rootsFor.j0, if_true] <;> rfl) (Ev.now _)
  cases h : (decide (1 ≤ n) && decide (n ≤ 16)) with
  | false => simpa [okNL, h] using no
  | true =>
    have hn : 1 ≤ n ∧ n ≤ 16 := by simpa using h
    simp only [if_true]
    refine Ev.bind (isPrime l h0 h1) ?_
    cases hp : pr l with
    | false => simpa [okNL, h, hp] using no
    | true =>
      have hb := pr_bd hp
      simp only [if_true]
      refine Ev.bind (splits07 n l hn hp) ?_
      cases hs : fully n l with
      | false => simpa [okNL, h, hp, hs] using no
      | true =>
        have e : okNL n l = true := by simp [okNL, h, hp, hs]
        simp only [e, if_true]
        refine Ev.step (fun k => by simp only [impl_rootsFor.j0, Bool.not_true, Bool.false_eq_true, if_false]; rfl) ?_
        refine Ev.bind (cyc_impl n hn.1 hn.2) ?_
        have := rootsFor_l0 (cyc n) (by have := (cyc_small n hn.1 hn.2).1; omega) l hb (l - 1).toNat 1 [] (by omega) (by omega) (by simp)
        simpa [roots] using this
theorem roots_len (n l : Int) (hl : l ≤ 61) : (roots n l).length ≤ 60 := by
  unfold roots
  refine Nat.le_trans (List.length_filter_le _ _) ?_
  simp [upTo]
  omega
theorem phi_small (n : Int) (h0 : 1 ≤ n) (h1 : n ≤ 16) : 1 ≤ phi n ∧ phi n ≤ 12 := orders (P := fun n => 1 ≤ phi n ∧ phi n ≤ 12) (by decide +kernel) n h0 h1
theorem pow_emod (a m : Int) : ∀ k : Nat, (a % m) ^ k % m = a ^ k % m := by
  intro k
  induction k with
  | zero => rw [Int.pow_zero, Int.pow_zero]
  | succ k ih => rw [Int.pow_succ, Int.pow_succ, Int.mul_emod, ih, Int.emod_emod, ← Int.mul_emod]
theorem l07Power_l0 (l x : Int) (hl : 0 < l) (hl2 : l ≤ 1000000) (hx : 0 ≤ x ∧ x < l) : ∀ (k : Nat) (o : Int), k ≤ 1000000 → 0 ≤ o → o < l → Ev (fun f => spec_l07Power.l0 f l x (k : Int) o) ((o * x ^ k) % l) := by
  intro k
  induction k with
  | zero =>
    intro o hk h0 h1
    refine Ev.step (fun f => by simp only [spec_l07Power.l0]; rw [if_neg (by omega)] <;> rfl) ?_
    rw [Int.pow_zero, Int.mul_one, Int.emod_eq_of_lt h0 h1]
    exact Ev.now _
  | succ k ih =>
    intro o hk h0 h1
    have hb : 0 ≤ o * x ∧ o * x ≤ 1000000 * 1000000 := ⟨Int.mul_nonneg h0 hx.1, Int.mul_le_mul (by omega) (by omega) hx.1 (by omega)⟩
    have := ih ((o * x) % l) (by omega) (Int.emod_nonneg _ (by omega)) (Int.emod_lt_of_pos _ hl)
    have e : (o * x) % l * x ^ k % l = o * x ^ (k + 1) % l := by
      rw [Int.mul_emod, Int.emod_emod, ← Int.mul_emod, Int.mul_assoc, ← Int.pow_succ']
    rw [e] at this
    refine Ev.step (fun f => ?_) this
    simp only [spec_l07Power.l0]
    rw [if_pos (by omega), if_neg (by omega), w64 (x := ((k + 1 : Nat) : Int) - 1) (by omega) (by omega), w64 (x := o * x) (by omega) (by omega), Int.tmod_eq_emod_of_nonneg hb.1, show ((k + 1 : Nat) : Int) - 1 = k by omega]
theorem l07Power (l x : Int) (k : Nat) (hl : 1 < l) (hl2 : l ≤ 1000000) (hx : 0 ≤ x ∧ x < l) (hk : k ≤ 1000000) : Ev (fun f => spec_l07Power.f f l x (k : Int)) (x ^ k % l) := by
  have := l07Power_l0 l x (by omega) hl2 hx k 1 hk (by omega) hl
  rw [Int.one_mul] at this
  exact this
theorem implPower_l0 (m : Int) (hm : 0 < m) (hm2 : m ≤ 1000000) : ∀ (n k : Nat) (x o : Int), k ≤ n → n ≤ 1000000 → 0 ≤ x → x < m → 0 ≤ o → o < m → Ev (fun f => impl_power.l0 f x (k : Int) m o) ((o * x ^ k) % m) := by
  intro n
  induction n with
  | zero =>
    intro k x o hk _ h0 h1 h2 h3
    obtain rfl : k = 0 := by omega
    refine Ev.step (fun f => by simp only [impl_power.l0]; rw [if_neg (by omega)] <;> rfl) ?_
    rw [Int.pow_zero, Int.mul_one, Int.emod_eq_of_lt h2 h3]
    exact Ev.now _
  | succ n ih =>
    intro k x o hk hn h0 h1 h2 h3
    by_cases hz : k = 0
    · subst hz
      refine Ev.step (fun f => by simp only [impl_power.l0]; rw [if_neg (by omega)] <;> rfl) ?_
      rw [Int.pow_zero, Int.mul_one, Int.emod_eq_of_lt h2 h3]
      exact Ev.now _
    have hxx : 0 ≤ x * x ∧ x * x ≤ 1000000 * 1000000 := ⟨Int.mul_nonneg h0 h0, Int.mul_le_mul (by omega) (by omega) h0 (by omega)⟩
    have hox : 0 ≤ o * x ∧ o * x ≤ 1000000 * 1000000 := ⟨Int.mul_nonneg h2 h0, Int.mul_le_mul (by omega) (by omega) h0 (by omega)⟩
    have e1 : wrap64 (Int.tdiv (k : Int) 2) = ((k / 2 : Nat) : Int) := by
      rw [Int.tdiv_eq_ediv_of_nonneg (by omega), w64 (by omega) (by omega)]
      omega
    have e2 : (x * x) % m = x * x % m := rfl
    by_cases ho : k % 2 = 1
    · have := ih (k / 2) ((x * x) % m) ((o * x) % m) (by omega) (by omega) (Int.emod_nonneg _ (by omega)) (Int.emod_lt_of_pos _ hm) (Int.emod_nonneg _ (by omega)) (Int.emod_lt_of_pos _ hm)
      have e : ((o * x) % m * ((x * x) % m) ^ (k / 2)) % m = (o * x ^ k) % m := by
        rw [Int.mul_emod, pow_emod, Int.emod_emod, ← Int.mul_emod]
        congr 1
        rw [Int.mul_assoc]
        congr 1
        have : k = 2 * (k / 2) + 1 := by omega
        conv => rhs; rw [this]
        rw [Int.pow_succ, Int.pow_mul, show x ^ 2 = x * x by rw [Int.pow_succ, Int.pow_succ, Int.pow_zero, Int.one_mul], Int.mul_comm]
      rw [e] at this
      refine Ev.step (fun f => ?_) this
      simp only [impl_power.l0]
      rw [if_pos (by omega), Int.tmod_eq_emod_of_nonneg (by omega), if_pos (by omega), if_neg (by omega), w64 (x := x * x) (by omega) (by omega), w64 (x := o * x) (by omega) (by omega), Int.tmod_eq_emod_of_nonneg hxx.1, Int.tmod_eq_emod_of_nonneg hox.1, e1]
    · have := ih (k / 2) ((x * x) % m) o (by omega) (by omega) (Int.emod_nonneg _ (by omega)) (Int.emod_lt_of_pos _ hm) h2 h3
      have e : (o * ((x * x) % m) ^ (k / 2)) % m = (o * x ^ k) % m := by
        rw [Int.mul_emod, pow_emod, ← Int.mul_emod]
        congr 2
        have : k = 2 * (k / 2) := by omega
        conv => rhs; rw [this]
        rw [Int.pow_mul, show x ^ 2 = x * x by rw [Int.pow_succ, Int.pow_succ, Int.pow_zero, Int.one_mul]]
      rw [e] at this
      refine Ev.step (fun f => ?_) this
      simp only [impl_power.l0]
      rw [if_pos (by omega), Int.tmod_eq_emod_of_nonneg (by omega), if_neg (by omega), if_neg (by omega), w64 (x := x * x) (by omega) (by omega), Int.tmod_eq_emod_of_nonneg hxx.1, e1]
theorem around (a m : Int) (hm : 0 < m) (hm2 : m ≤ 1000000000000) : impl_around.f a m = some (a % m) := by
  unfold impl_around.f
  have h1 := Int.tmod_lt_of_pos a hm
  have h2 := Int.lt_tmod_of_pos a hm
  rw [if_neg (by omega), w64 (by omega) (by omega), Int.tmod_eq_emod_of_nonneg (by omega), Int.add_emod_right, tmod_emod _ _ hm]
theorem implPower (m x : Int) (k : Nat) (hm : 1 < m) (hm2 : m ≤ 1000000) (hk : k ≤ 1000000) : Ev (fun f => impl_power.f f x (k : Int) m) (x ^ k % m) := by
  unfold impl_power.f
  have := implPower_l0 m (by omega) hm2 k k (x % m) 1 (by omega) hk (Int.emod_nonneg _ (by omega)) (Int.emod_lt_of_pos _ (by omega)) (by omega) hm
  rw [Int.one_mul, pow_emod] at this
  simp only [if_neg (show ¬ m = 0 by omega), show (1 : Int) % m = 1 from Int.emod_eq_of_lt (by omega) hm]
  exact ev_bind_const (around x m (by omega) (by omega)) this
def acc : List Int → List Int → List Int → List Int
  | many, t :: ts, e :: es => acc (if e ≥ 0 then many.set e.toNat (wrap64 (rd many e + t)) else many) ts es
  | many, _, _ => many
theorem l07Roots_l0 (cs : List Int) (hc : cs.length ≤ 1000) (l : Int) (hl : 3 ≤ l ∧ l ≤ 61) : ∀ (d : Nat) (i : Int) (acc : List Int), (d : Int) + i = l → 1 ≤ i → (acc.length : Int) ≤ i → Ev (fun k => spec_l07Roots.l0 k l acc cs i) (acc ++ (upTo i d).filter (fun r => hv cs r l == 0)) := by
  intro d
  induction d with
  | zero =>
    intro i acc hd hi ha
    refine Ev.step (fun k => by simp only [spec_l07Roots.l0]; rw [if_neg (by omega)]) ?_
    simpa [upTo] using Ev.now _
  | succ d ih =>
    intro i acc hd hi ha
    refine Ev.step (fun k => by simp only [spec_l07Roots.l0]; rw [if_pos (by omega), w64 (x := i + 1) (by omega) (by omega)]) ?_
    refine Ev.bind (l07Value cs hc i l (by omega) (by omega) (by omega)) ?_
    rw [upTo_cons, List.filter_cons]
    by_cases h : hv cs i l = 0
    · have h2 : (hv cs i l == 0) = true := by rw [h]; rfl
      simp only [if_pos h, h2, if_true]
      have := ih (i + 1) (acc ++ [i]) (by omega) (by omega) (by simp; omega)
      rw [List.append_assoc, List.singleton_append] at this
      simp only [if_pos (show acc.length < 17592186044416 by omega)]
      exact this
    · have h2 : (hv cs i l == 0) = false := by rw [beq_eq_false_iff_ne]; exact h
      simp only [if_neg h, h2, Bool.false_eq_true, if_false]
      exact ih (i + 1) acc (by omega) (by omega) (by omega)
theorem l07Roots (n l : Int) (hn : 1 ≤ n ∧ n ≤ 16) (hl : 3 ≤ l ∧ l ≤ 61) : Ev (fun k => spec_l07Roots.f k n l) (roots n l) := by
  unfold spec_l07Roots.f
  refine Ev.bind (cyc_spec n hn.1 hn.2) ?_
  have := l07Roots_l0 (cyc n) (by have := (cyc_small n hn.1 hn.2).1; omega) l hl (l - 1).toNat 1 [] (by omega) (by omega) (by simp)
  simpa [roots] using this
theorem rdn (l : List Int) (i : Nat) : rd l (i : Int) = l.getD i 0 := by unfold rd; rw [Int.toNat_natCast]
theorem rdn1 (l : List Int) (i : Nat) : rd l ((i : Int) + 1) = l.getD (i + 1) 0 := by rw [show (i : Int) + 1 = ((i + 1 : Nat) : Int) by omega, rdn]
theorem getD_set (l : List Int) (i j : Nat) (x : Int) (hi : i < l.length) : (l.set i x).getD j 0 = if i = j then x else l.getD j 0 := by
  rw [List.getD_eq_getElem?_getD, List.getElem?_set]
  by_cases c : i = j
  · rw [if_pos c, if_pos hi, if_pos c]; rfl
  · rw [if_neg c, if_neg c, List.getD_eq_getElem?_getD]
theorem ext_getD {l m : List Int} (h : l.length = m.length) (e : ∀ t, t < l.length → l.getD t 0 = m.getD t 0) : l = m := by
  refine List.ext_getElem h fun t h1 h2 => ?_
  have := e t h1
  rwa [List.getD_eq_getElem?_getD, List.getD_eq_getElem?_getD, List.getElem?_eq_getElem h1, List.getElem?_eq_getElem h2] at this
theorem getD_over (l : List Int) (t : Nat) (h : l.length ≤ t) : l.getD t 0 = 0 := by
  rw [List.getD_eq_getElem?_getD, List.getElem?_eq_none h]
  rfl
theorem map_get (n : Nat) (f : Nat → Int) (t : Nat) (ht : t < n) : ((List.range n).map f).getD t 0 = f t := by
  rw [List.getD_eq_getElem?_getD, List.getElem?_map, List.getElem?_range ht]
  rfl
/-- The coefficient before. -/
def pv (p : List Int) (j : Nat) : Int := if j = 0 then 0 else p.getD (j - 1) 0
def mc (l r : Int) (p : List Int) (t : Nat) : Int := (pv p t + p.getD t 0 * (l - r)) % l
/-- A polynomial times x - r. -/
def mulp (l r : Int) (p : List Int) : List Int := (List.range (p.length + 1)).map (mc l r p)
def ad1 (l f : Int) (p out : List Int) (t : Nat) : Int := (out.getD t 0 + f * p.getD t 0) % l
def addp (l f : Int) (p out : List Int) : List Int := (List.range out.length).map (ad1 l f p out)
def inL (l : Int) (p : List Int) : Prop := ∀ t : Nat, 0 ≤ p.getD t 0 ∧ p.getD t 0 < l
theorem pv_bd {l : Int} {p : List Int} (hl : 0 < l) (h : inL l p) (j : Nat) : 0 ≤ pv p j ∧ pv p j < l := by
  unfold pv
  split
  · omega
  · exact h _
theorem mulp_len (l r : Int) (p : List Int) : (mulp l r p).length = p.length + 1 := by simp [mulp]
theorem addp_len (l f : Int) (p out : List Int) : (addp l f p out).length = out.length := by simp [addp]
theorem map_in (l : Int) (hl : 0 < l) (n : Nat) (f : Nat → Int) (h : ∀ t, 0 ≤ f t ∧ f t < l) : inL l ((List.range n).map f) := by
  intro t
  by_cases c : t < n
  · rw [map_get n f t c]; exact h t
  · rw [getD_over _ _ (by simp; omega)]; omega
theorem mulp_in (l r : Int) (hl : 0 < l) (p : List Int) : inL l (mulp l r p) := map_in l hl _ _ fun t => ⟨Int.emod_nonneg _ (by omega), Int.emod_lt_of_pos _ hl⟩
theorem addp_in (l f : Int) (hl : 0 < l) (p out : List Int) : inL l (addp l f p out) := map_in l hl _ _ fun t => ⟨Int.emod_nonneg _ (by omega), Int.emod_lt_of_pos _ hl⟩
theorem mul61 {a b l : Int} (hl : l ≤ 61) (ha : 0 ≤ a ∧ a ≤ l) (hb : 0 ≤ b ∧ b ≤ l) : 0 ≤ a * b ∧ a * b ≤ 61 * 61 := ⟨Int.mul_nonneg ha.1 hb.1, Int.mul_le_mul (by omega) (by omega) hb.1 (by omega)⟩
/-- What stands in the next polynomial when j coefficients are done. -/
def Mid (l r : Int) (p q : List Int) (j : Nat) : Prop := q.length = p.length + 1 ∧ ∀ t, t ≤ p.length → q.getD t 0 = if t < j then mc l r p t else if t = j then pv p j else 0
theorem Mid.done {l r : Int} {p q : List Int} (hl : 0 < l) (hp : inL l p) (h : Mid l r p q p.length) : q = mulp l r p := by
  refine ext_getD (by rw [h.1, mulp_len]) fun t ht => ?_
  have ht2 : t ≤ p.length := by have := h.1; omega
  rw [h.2 t ht2]
  unfold mulp
  rw [map_get _ _ _ (by omega)]
  by_cases c : t < p.length
  · rw [if_pos c]
  · have e : t = p.length := by omega
    subst e
    have b := pv_bd hl hp p.length
    rw [if_neg c, if_pos rfl]
    unfold mc
    rw [getD_over p _ (Nat.le_refl _), Int.zero_mul, Int.add_zero, Int.emod_eq_of_lt b.1 b.2]
theorem Mid.start (l r : Int) (p : List Int) : Mid l r p (List.replicate (p.length + 1) 0) 0 := by
  refine ⟨by simp, fun t ht => ?_⟩
  rw [if_neg (by omega)]
  have e : (List.replicate (p.length + 1) (0 : Int)).getD t 0 = 0 := by rw [List.getD_eq_getElem?_getD, List.getElem?_replicate]; split <;> rfl
  rw [e]
  split
  · unfold pv; rw [if_pos rfl]
  · rfl
theorem Mid.step {l r : Int} {p q : List Int} {j : Nat} (h : Mid l r p q j) (hj : j < p.length) : Mid l r p ((q.set j (mc l r p j)).set (j + 1) (p.getD j 0)) (j + 1) ∧ Mid l r p ((q.set (j + 1) (p.getD j 0)).set j (mc l r p j)) (j + 1) := by
  have hq := h.1
  have key : ∀ q' : List Int, q'.length = p.length + 1 → (∀ t, q'.getD t 0 = if t = j then mc l r p j else if t = j + 1 then p.getD j 0 else q.getD t 0) → Mid l r p q' (j + 1) := by
    intro q' hl he
    refine ⟨hl, fun t ht => ?_⟩
    rw [he t]
    by_cases c1 : t = j
    · rw [if_pos c1, if_pos (by omega), c1]
    · rw [if_neg c1]
      by_cases c2 : t = j + 1
      · rw [if_pos c2, if_neg (by omega), if_pos c2]
        unfold pv
        rw [if_neg (by omega), Nat.add_sub_cancel]
      · rw [if_neg c2, h.2 t ht]
        by_cases c3 : t < j
        · rw [if_pos c3, if_pos (by omega)]
        · rw [if_neg c3, if_neg c1, if_neg (by omega), if_neg c2]
  refine ⟨key _ (by simp [hq]) fun t => ?_, key _ (by simp [hq]) fun t => ?_⟩
  · rw [getD_set _ _ _ _ (by simp; omega), getD_set _ _ _ _ (by omega)]
    by_cases c1 : t = j
    · rw [if_neg (by omega), if_pos c1.symm, if_pos c1]
    · rw [if_neg (c := j = t) (fun e => c1 e.symm), if_neg c1]
      by_cases c2 : t = j + 1
      · rw [if_pos c2.symm, if_pos c2]
      · rw [if_neg (fun e => c2 e.symm), if_neg c2]
  · rw [getD_set _ _ _ _ (by simp; omega), getD_set _ _ _ _ (by omega)]
    by_cases c1 : t = j
    · rw [if_pos c1.symm, if_pos c1]
    · rw [if_neg (c := j = t) (fun e => c1 e.symm), if_neg c1]
      by_cases c2 : t = j + 1
      · rw [if_pos c2.symm, if_pos c2]
      · rw [if_neg (fun e => c2 e.symm), if_neg c2]
theorem Mid.here {l r : Int} {p q : List Int} {j : Nat} (h : Mid l r p q j) (hj : j < p.length) : q.getD j 0 = pv p j ∧ q.getD (j + 1) 0 = 0 := by
  refine ⟨?_, ?_⟩
  · rw [h.2 j (by omega), if_neg (by omega), if_pos rfl]
  · rw [h.2 (j + 1) (by omega), if_neg (by omega), if_neg (by omega)]
theorem sp_l3 (l : Int) (hl : 3 ≤ l ∧ l ≤ 61) (xr rs : List Int) (i : Int) (p : List Int) (hp : inL l p) (hpl : p.length ≤ 1000) (fac : Int) (k : Nat) (hk : k < rs.length) (hr : 0 ≤ rs.getD k 0 ∧ rs.getD k 0 < l) (n0 : Int) (out : List Int) (res : Int × List Int × Int)
    (H : Ev (fun f => spec_CycloAtResidues.l2 f l xr rs i (mulp l (rs.getD k 0) p) fac (wrap64 ((k : Int) + 1)) n0 out) res) : ∀ (d j : Nat) (q : List Int), d + j = p.length → Mid l (rs.getD k 0) p q j → Ev (fun f => spec_CycloAtResidues.l3 f l xr rs i p fac (k : Int) q (j : Int) n0 out) res := by
  intro d
  induction d with
  | zero =>
    intro j q hj hq
    have e : j = p.length := by omega
    subst e
    rw [hq.done (by omega) hp]
    refine Ev.step (fun f => ?_) H
    simp only [spec_CycloAtResidues.l3]
    rw [if_neg (by omega)]
  | succ d ih =>
    intro j q hj hq
    have hql := hq.1
    obtain ⟨h1, h2⟩ := hq.here (by omega)
    have b1 := pv_bd (by omega) hp j
    have b2 := hp j
    have b3 := mul61 (l := l) hl.2 ⟨b2.1, by omega⟩ (show 0 ≤ l - rs.getD k 0 ∧ l - rs.getD k 0 ≤ l by omega)
    refine Ev.step (fun f => ?_) (ih (j + 1) _ (by omega) (hq.step (by omega)).1)
    simp only [spec_CycloAtResidues.l3, rdn, w64 (x := (j : Int) + 1) (by omega) (by omega), rdn1, Option.bind_some, Int.toNat_natCast]
    rw [if_pos (by omega), if_pos (by omega), if_pos (by omega), if_pos (by omega), if_pos (by omega), if_neg (by omega), if_pos (by omega), if_pos (by omega)]
    rw [h1, w64 (x := l - rs.getD k 0) (by omega) (by omega), w64 (x := p.getD j 0 * (l - rs.getD k 0)) (by omega) (by omega), w64 (x := pv p j + p.getD j 0 * (l - rs.getD k 0)) (by omega) (by omega), Int.tmod_eq_emod_of_nonneg (by omega)]
    rw [getD_set _ _ _ _ (by omega), if_neg (by omega), h2, Int.zero_add, w64 (x := p.getD j 0) (by omega) (by omega), Int.tmod_eq_emod_of_nonneg (by omega), Int.emod_eq_of_lt b2.1 b2.2]
    rfl
theorem im_l2 (n l : Int) (hl : 3 ≤ l ∧ l ≤ 61) (xr rs parts : List Int) (i ri : Int) (p : List Int) (hp : inL l p) (hpl : p.length ≤ 1000) (und : Int) (r : Int) (hr : 0 ≤ r ∧ r < l) (x48 x49 x56 x57 : Int) (res : Int × List Int × Int)
    (H : Ev (fun f => (impl_around.f (wrap64 (und * (wrap64 (ri - r)))) l).bind fun t278 => impl_CycloAtResidues.l1 f n xr rs parts i ri (mulp l r p) t278 x48 x49 x56 (wrap64 (x57 + 1)) l) res) : ∀ (d j : Nat) (q : List Int), d + j = p.length → Mid l r p q j → Ev (fun f => impl_CycloAtResidues.l2 f n xr rs parts i ri p und r q x48 x49 x56 x57 (p.length : Int) (j : Int) l) res := by
  intro d
  induction d with
  | zero =>
    intro j q hj hq
    have e : j = p.length := by omega
    subst e
    rw [hq.done (by omega) hp]
    refine Ev.step (fun f => ?_) H
    simp only [impl_CycloAtResidues.l2]
    rw [if_neg (by omega)]
  | succ d ih =>
    intro j q hj hq
    have hql := hq.1
    obtain ⟨h1, h2⟩ := hq.here (by omega)
    have b1 := pv_bd (by omega) hp j
    have b2 := hp j
    have b3 := mul61 (l := l) hl.2 ⟨b2.1, by omega⟩ (show 0 ≤ r ∧ r ≤ l by omega)
    have e2 : (pv p j - p.getD j 0 * r) % l = mc l r p j := by
      unfold mc
      rw [Int.mul_sub, show pv p j + (p.getD j 0 * l - p.getD j 0 * r) = pv p j - p.getD j 0 * r + p.getD j 0 * l by omega, Int.add_mul_emod_self_right]
    refine Ev.step (fun f => ?_) (ih (j + 1) _ (by omega) (hq.step (by omega)).2)
    simp only [impl_CycloAtResidues.l2, rdn, w64 (x := (j : Int) + 1) (by omega) (by omega), rdn1, Option.bind_some, Int.toNat_natCast]
    rw [if_pos (by omega), if_pos (by omega), if_pos (by omega), if_pos (by omega), if_pos (by omega)]
    rw [h2, Int.zero_add, w64 (x := p.getD j 0) (by omega) (by omega), around _ _ (by omega) (by omega), Int.emod_eq_of_lt b2.1 b2.2]
    simp only [Option.bind_some]
    rw [if_pos (by omega), getD_set _ _ _ _ (by omega), if_neg (by omega), h1, w64 (x := p.getD j 0 * r) (by omega) (by omega), w64 (x := pv p j - p.getD j 0 * r) (by omega) (by omega), around _ _ (by omega) (by omega), e2]
    rfl
/-- What stands in the sum when j places are done. -/
def Half (l f : Int) (p out q : List Int) (j : Nat) : Prop := q.length = out.length ∧ ∀ t, t < out.length → q.getD t 0 = if t < j then ad1 l f p out t else out.getD t 0
theorem Half.done {l f : Int} {p out q : List Int} (h : Half l f p out q out.length) : q = addp l f p out := by
  refine ext_getD (by rw [h.1, addp_len]) fun t ht => ?_
  have ht2 : t < out.length := by have := h.1; omega
  rw [h.2 t ht2, if_pos ht2]
  unfold addp
  rw [map_get _ _ _ ht2]
theorem Half.step {l f : Int} {p out q : List Int} {j : Nat} (h : Half l f p out q j) (hj : j < out.length) : q.getD j 0 = out.getD j 0 ∧ Half l f p out (q.set j (ad1 l f p out j)) (j + 1) := by
  refine ⟨by rw [h.2 j hj, if_neg (by omega)], by simp [h.1], fun t ht => ?_⟩
  rw [getD_set _ _ _ _ (by have := h.1; omega)]
  by_cases c : t = j
  · rw [if_pos c.symm, if_pos (by omega), c]
  · rw [if_neg (fun e => c e.symm), h.2 t ht]
    by_cases c2 : t < j
    · rw [if_pos c2, if_pos (by omega)]
    · rw [if_neg c2, if_neg (by omega)]
theorem sp_l4 (l : Int) (hl : 3 ≤ l ∧ l ≤ 61) (xr rs : List Int) (i : Int) (p : List Int) (hp : inL l p) (fac : Int) (hf : 0 ≤ fac ∧ fac < l) (n0 : Int) (out : List Int) (ho : inL l out) (hol : out.length ≤ 1000) (hpo : p.length = out.length) (res : Int × List Int × Int)
    (H : Ev (fun f => spec_CycloAtResidues.l1 f l xr rs (wrap64 (i + 1)) n0 (addp l fac p out)) res) : ∀ (d j : Nat) (q : List Int), d + j = out.length → Half l fac p out q j → Ev (fun f => spec_CycloAtResidues.l4 f l xr rs i p fac (j : Int) n0 q) res := by
  intro d
  induction d with
  | zero =>
    intro j q hj hq
    have e : j = out.length := by omega
    subst e
    rw [hq.done]
    refine Ev.step (fun f => ?_) H
    simp only [spec_CycloAtResidues.l4]
    rw [if_neg (by omega)]
  | succ d ih =>
    intro j q hj hq
    have hql := hq.1
    obtain ⟨h1, h2⟩ := hq.step (by omega)
    have b1 := ho j
    have b2 := hp j
    have b3 := mul61 (l := l) hl.2 (show 0 ≤ fac ∧ fac ≤ l by omega) ⟨b2.1, by omega⟩
    refine Ev.step (fun f => ?_) (ih (j + 1) _ (by omega) h2)
    simp only [spec_CycloAtResidues.l4, rdn, Int.toNat_natCast]
    rw [if_pos (by omega), if_pos (by omega), if_pos (by omega), if_neg (by omega), h1, w64 (x := fac * p.getD j 0) (by omega) (by omega), w64 (x := out.getD j 0 + fac * p.getD j 0) (by omega) (by omega), Int.tmod_eq_emod_of_nonneg (by omega), w64 (x := (j : Int) + 1) (by omega) (by omega)]
    rfl
theorem im_l3 (n l : Int) (hl : 3 ≤ l ∧ l ≤ 61) (xr rs : List Int) (x48 x49 : Int) (p : List Int) (hp : inL l p) (fac : Int) (hf : 0 ≤ fac ∧ fac < l) (out : List Int) (ho : inL l out) (hol : out.length ≤ 1000) (hpo : p.length = out.length) (res : Int × List Int × Int)
    (H : Ev (fun f => impl_CycloAtResidues.l0 f n xr rs (addp l fac p out) x48 (wrap64 (x49 + 1)) l) res) : ∀ (d j : Nat) (q : List Int), d + j = out.length → Half l fac p out q j → Ev (fun f => impl_CycloAtResidues.l3 f n xr rs q p fac x48 x49 (p.length : Int) (j : Int) l) res := by
  intro d
  induction d with
  | zero =>
    intro j q hj hq
    have e : j = out.length := by omega
    subst e
    rw [hq.done]
    refine Ev.step (fun f => ?_) H
    simp only [impl_CycloAtResidues.l3]
    rw [if_neg (by omega)]
  | succ d ih =>
    intro j q hj hq
    have hql := hq.1
    obtain ⟨h1, h2⟩ := hq.step (by omega)
    have b1 := ho j
    have b2 := hp j
    have b3 := mul61 (l := l) hl.2 (show 0 ≤ fac ∧ fac ≤ l by omega) ⟨b2.1, by omega⟩
    refine Ev.step (fun f => ?_) (ih (j + 1) _ (by omega) h2)
    simp only [impl_CycloAtResidues.l3, rdn, Int.toNat_natCast]
    rw [if_pos (by omega), if_pos (by omega), if_pos (by omega), if_pos (by omega), if_neg (by omega), h1, Int.mul_comm (p.getD j 0) fac, w64 (x := fac * p.getD j 0) (by omega) (by omega), w64 (x := out.getD j 0 + fac * p.getD j 0) (by omega) (by omega), Int.tmod_eq_emod_of_nonneg (by omega), w64 (x := (j : Int) + 1) (by omega) (by omega)]
    rfl
theorem inverse07 (l x : Int) (hl : 3 ≤ l ∧ l ≤ 61) (hx : -1000 ≤ x ∧ x ≤ 1000) : Ev (fun f => spec_l07Inverse.f f l x) ((x % l) ^ (l - 2).toNat % l) := by
  have h1 := Int.tmod_lt_of_pos x (show 0 < l by omega)
  have h2 := Int.lt_tmod_of_pos x (show 0 < l by omega)
  unfold spec_l07Inverse.f
  simp only [if_neg (show ¬ l = 0 by omega)]
  rw [w64 (by omega) (by omega), Int.tmod_eq_emod_of_nonneg (by omega), Int.add_emod_right, tmod_emod _ _ (by omega), w64 (by omega) (by omega), show l - 2 = (((l - 2).toNat : Nat) : Int) by omega]
  refine Ev.bind (l07Power l (x % l) (l - 2).toNat (by omega) (by omega) ⟨Int.emod_nonneg _ (by omega), Int.emod_lt_of_pos _ (by omega)⟩ (by omega)) ?_
  rw [Int.toNat_natCast]
  exact Ev.now _
theorem fac_step (l c u x : Int) (e : Nat) : (c * u ^ e % l) * ((x % l) ^ e % l) % l = c * ((u * x) % l) ^ e % l := by
  rw [← Int.mul_emod, Int.mul_emod c (((u * x) % l) ^ e), pow_emod, ← Int.mul_emod, Int.mul_pow, ← Int.mul_assoc, Int.mul_emod (c * u ^ e) ((x % l) ^ e), pow_emod, ← Int.mul_emod]
theorem both_k (n l : Int) (hl : 3 ≤ l ∧ l ≤ 61) (xr rs parts : List Int) (hrs : inL l rs) (hrl : rs.length ≤ 1000) (i : Nat) (hi : i < rs.length) (c : Int) (n0 : Int) (out : List Int) : ∀ (d k : Nat), d + k = rs.length → ∀ (p : List Int) (und : Int), inL l p → p.length = 1 + k - (if i < k then 1 else 0) → 0 ≤ und → und < l →
    ∃ (p' : List Int) (und' : Int), inL l p' ∧ p'.length = rs.length ∧ (0 ≤ und' ∧ und' < l) ∧
      (∀ res, Ev (fun f => spec_CycloAtResidues.l4 f l xr rs (i : Int) p' (c * und' ^ (l - 2).toNat % l) 0 n0 out) res → Ev (fun f => spec_CycloAtResidues.l2 f l xr rs (i : Int) p (c * und ^ (l - 2).toNat % l) (k : Int) n0 out) res) ∧
      ∀ res, Ev (fun f => impl_CycloAtResidues.l1 f n xr rs parts (i : Int) (rs.getD i 0) p' und' (rs.length : Int) (i : Int) (rs.length : Int) (rs.length : Int) l) res → Ev (fun f => impl_CycloAtResidues.l1 f n xr rs parts (i : Int) (rs.getD i 0) p und (rs.length : Int) (i : Int) (rs.length : Int) (k : Int) l) res := by
  intro d
  induction d with
  | zero =>
    intro k hk p und hp hpl u0 u1
    refine ⟨p, und, hp, by rw [hpl, if_pos (by omega)]; omega, ⟨u0, u1⟩, fun res h => Ev.step (fun f => ?_) h, fun res h => ?_⟩
    · simp only [spec_CycloAtResidues.l2]
      rw [if_neg (by omega)]
    · rwa [show (k : Int) = (rs.length : Int) by omega]
  | succ d ih =>
    intro k hk p und hp hpl u0 u1
    have hpl2 : p.length ≤ 1 + k := by rw [hpl]; omega
    by_cases ci : k = i
    · obtain ⟨p', und', a1, a2, a3, a4, a5⟩ := ih (k + 1) (by omega) p und hp (by rw [hpl, if_neg (by omega), if_pos (by omega)]; omega) u0 u1
      refine ⟨p', und', a1, a2, a3, fun res h => Ev.step (fun f => ?_) (a4 res h), fun res h => Ev.step (fun f => ?_) (a5 res h)⟩
      · simp only [spec_CycloAtResidues.l2]
        rw [if_pos (by omega), if_pos (by omega), w64 (x := (k : Int) + 1) (by omega) (by omega)]
        rfl
      · simp only [impl_CycloAtResidues.l1]
        rw [if_pos (by omega), if_pos (by omega), if_pos (by omega), if_pos (by omega), w64 (x := (k : Int) + 1) (by omega) (by omega)]
        rfl
    · have rr1 := hrs k
      have rr2 := hrs i
      have dx : -61 * 61 ≤ und * (rs.getD i 0 - rs.getD k 0) ∧ und * (rs.getD i 0 - rs.getD k 0) ≤ 61 * 61 := mul_bd (A := 61) (B := 61) (by omega) (by omega)
      have nu0 := Int.emod_nonneg (und * (rs.getD i 0 - rs.getD k 0)) (show l ≠ 0 by omega)
      have nu1 := Int.emod_lt_of_pos (und * (rs.getD i 0 - rs.getD k 0)) (show 0 < l by omega)
      obtain ⟨p', und', a1, a2, a3, a4, a5⟩ := ih (k + 1) (by omega) (mulp l (rs.getD k 0) p) ((und * (rs.getD i 0 - rs.getD k 0)) % l) (mulp_in _ _ (by omega) _) (by rw [mulp_len, hpl]; by_cases c1 : i < k; (· rw [if_pos c1, if_pos (by omega)]; omega); (· rw [if_neg c1, if_neg (by omega)]; omega)) nu0 nu1
      have f0 := Int.emod_nonneg (c * und ^ (l - 2).toNat) (show l ≠ 0 by omega)
      have f1 := Int.emod_lt_of_pos (c * und ^ (l - 2).toNat) (show 0 < l by omega)
      have g0 := Int.emod_nonneg (((rs.getD i 0 - rs.getD k 0) % l) ^ (l - 2).toNat) (show l ≠ 0 by omega)
      have g1 := Int.emod_lt_of_pos (((rs.getD i 0 - rs.getD k 0) % l) ^ (l - 2).toNat) (show 0 < l by omega)
      have fg := mul61 (l := l) hl.2 ⟨f0, by omega⟩ ⟨g0, by omega⟩
      refine ⟨p', und', a1, a2, a3, fun res h => ?_, fun res h => ?_⟩
      · have h3 := a4 res h
        rw [← fac_step] at h3
        have h4 := sp_l3 l hl xr rs (i : Int) p hp (by omega) _ k (by omega) rr1 n0 out res (by rw [w64 (x := (k : Int) + 1) (by omega) (by omega)]; exact h3) p.length 0 _ (by omega) (Mid.start l (rs.getD k 0) p)
        refine Ev.step (f := fun f => (spec_l07Inverse.f f l (rs.getD i 0 - rs.getD k 0)).bind fun t182 => spec_CycloAtResidues.l3 f l xr rs (i : Int) p (Int.tmod (wrap64 ((c * und ^ (l - 2).toNat % l) * t182)) l) (k : Int) (List.replicate (p.length + 1) 0) ((0 : Nat) : Int) n0 out) (fun f => ?_) (Ev.bind (inverse07 l _ hl (by omega)) ?_)
        · simp only [spec_CycloAtResidues.l2, rdn]
          rw [if_pos (by omega), if_neg (by omega), if_pos (by omega), if_pos (by omega), if_pos (by omega), w64 (x := rs.getD i 0 - rs.getD k 0) (by omega) (by omega), w64 (x := (p.length : Int) + 1) (by omega) (by omega)]
          simp only [if_neg (show ¬ l = 0 by omega), if_pos (show (0 : Int) ≤ (p.length : Int) + 1 by omega), show ((p.length : Int) + 1).toNat = p.length + 1 by omega, if_pos (show p.length + 1 ≤ 35184372088832 by omega)]
          rfl
        · rw [w64 (by omega) (by omega), Int.tmod_eq_emod_of_nonneg fg.1]
          exact h4
      · have h3 := a5 res h
        have h4 := im_l2 n l hl xr rs parts (i : Int) (rs.getD i 0) p hp (by omega) und (rs.getD k 0) rr1 (rs.length : Int) (i : Int) (rs.length : Int) (k : Int) res (ev_bind_const (by rw [w64 (x := rs.getD i 0 - rs.getD k 0) (by omega) (by omega), w64 (by omega) (by omega), around _ _ (by omega) (by omega)]) (by rw [w64 (x := (k : Int) + 1) (by omega) (by omega)]; exact h3)) p.length 0 _ (by omega) (Mid.start l (rs.getD k 0) p)
        refine Ev.step (fun f => ?_) h4
        simp only [impl_CycloAtResidues.l1, rdn]
        rw [if_pos (by omega), if_pos (by omega), if_pos (by omega), if_neg (by omega), w64 (x := (p.length : Int) + 1) (by omega) (by omega), if_pos (by omega), if_pos (by omega), show ((p.length : Int) + 1).toNat = p.length + 1 by omega]
        rfl
theorem both_i (n l : Int) (hl : 3 ≤ l ∧ l ≤ 61) (xr rs : List Int) (hrs : inL l rs) (hrl : rs.length ≤ 1000) (hx : inL l xr) (hxl : xr.length = rs.length) : ∀ (d i : Nat), d + i = rs.length → ∀ out : List Int, inL l out → out.length = rs.length →
    ∃ fin : List Int, fin.length = rs.length ∧ Ev (fun f => spec_CycloAtResidues.l1 f l xr rs (i : Int) n out) (n, fin, 0) ∧ Ev (fun f => impl_CycloAtResidues.l0 f n xr rs out (rs.length : Int) (i : Int) l) (n, fin, 0) := by
  intro d
  induction d with
  | zero =>
    intro i hi out ho hol
    refine ⟨out, hol, Ev.step (f := fun _ => some (n, out, 0)) (fun f => ?_) (Ev.now _), Ev.step (f := fun _ => some (n, out, 0)) (fun f => ?_) (Ev.now _)⟩
    · simp only [spec_CycloAtResidues.l1]
      rw [if_neg (by omega)]
    · simp only [impl_CycloAtResidues.l0]
      rw [if_neg (by omega)]
  | succ d ih =>
    intro i hi out ho hol
    have c1 := hx i
    have oneL : inL l [1] := fun t => by
      cases t with
      | zero => exact ⟨by decide, by show (1 : Int) < l; omega⟩
      | succ t => rw [getD_over _ _ (by simp)]; omega
    obtain ⟨p', und', a1, a2, a3, a4, a5⟩ := both_k n l hl xr rs out hrs hrl i (by omega) (xr.getD i 0) n out rs.length 0 (by omega) [1] 1 oneL (by rw [if_neg (by omega)]; rfl) (by omega) (by omega)
    have f0 := Int.emod_nonneg (xr.getD i 0 * und' ^ (l - 2).toNat) (show l ≠ 0 by omega)
    have f1 := Int.emod_lt_of_pos (xr.getD i 0 * und' ^ (l - 2).toNat) (show 0 < l by omega)
    obtain ⟨fin, b1, b2, b3⟩ := ih (i + 1) (by omega) (addp l (xr.getD i 0 * und' ^ (l - 2).toNat % l) p' out) (addp_in _ _ (by omega) _ _) (by rw [addp_len, hol])
    have start : Half l (xr.getD i 0 * und' ^ (l - 2).toNat % l) p' out out 0 := ⟨rfl, fun t _ => by rw [if_neg (by omega)]⟩
    have s1 := a4 _ (sp_l4 l hl xr rs (i : Int) p' a1 _ ⟨f0, f1⟩ n out ho (by omega) (by omega) _ (by rw [w64 (x := (i : Int) + 1) (by omega) (by omega)]; exact b2) out.length 0 out (by omega) start)
    have i1 := im_l3 n l hl xr rs (rs.length : Int) (i : Int) p' a1 _ ⟨f0, f1⟩ out ho (by omega) (by omega) _ (by rw [w64 (x := (i : Int) + 1) (by omega) (by omega)]; exact b3) out.length 0 out (by omega) start
    have pw1 : xr.getD i 0 * 1 ^ (l - 2).toNat % l = xr.getD i 0 := by rw [Int.one_pow, Int.mul_one, Int.emod_eq_of_lt c1.1 c1.2]
    rw [pw1] at s1
    refine ⟨fin, b1, Ev.step (fun f => ?_) s1, ?_⟩
    · simp only [spec_CycloAtResidues.l1, rdn]
      rw [if_pos (by omega), if_pos (by omega), if_pos (by omega)]
      rfl
    · have g0 := Int.emod_nonneg (und' ^ (l - 2).toNat) (show l ≠ 0 by omega)
      have g1 := Int.emod_lt_of_pos (und' ^ (l - 2).toNat) (show 0 < l by omega)
      have cg := mul61 (l := l) hl.2 ⟨c1.1, by omega⟩ ⟨g0, by omega⟩
      have i2 := a5 _ (show Ev (fun f => impl_CycloAtResidues.l1 f n xr rs out (i : Int) (rs.getD i 0) p' und' (rs.length : Int) (i : Int) (rs.length : Int) (rs.length : Int) l) (n, fin, 0) from by
        refine Ev.step (f := fun f => (impl_power.f f und' (((l - 2).toNat : Nat) : Int) l).bind fun t280 => impl_CycloAtResidues.l3 f n xr rs out p' (Int.tmod (wrap64 (xr.getD i 0 * t280)) l) (rs.length : Int) (i : Int) (p'.length : Int) ((0 : Nat) : Int) l) (fun f => ?_) (Ev.bind (implPower l und' (l - 2).toNat (by omega) (by omega) (by omega)) ?_)
        · simp only [impl_CycloAtResidues.l1, rdn]
          rw [if_neg (by omega), if_pos (by omega), if_pos (by omega), w64 (x := l - 2) (by omega) (by omega), show l - 2 = (((l - 2).toNat : Nat) : Int) by omega]
          simp only [if_neg (show ¬ l = 0 by omega), Int.toNat_natCast]
          rfl
        · rw [w64 (by omega) (by omega), Int.tmod_eq_emod_of_nonneg cg.1, Int.mul_emod (xr.getD i 0) (und' ^ (l - 2).toNat % l), Int.emod_emod, ← Int.mul_emod]
          exact i1)
      refine Ev.step (fun f => ?_) i2
      simp only [impl_CycloAtResidues.l0, rdn]
      rw [if_pos (by omega), if_pos (by omega), if_pos (by omega)]
      rfl
theorem roots_phi (n l : Int) (h : okNL n l = true) : ((roots n l).length : Int) = phi n := by
  have key : ∀ l ∈ prs, ∀ m : Nat, m < 17 → 1 ≤ m → okNL (m : Int) l = true → ((roots (m : Int) l).length : Int) = phi (m : Int) := by decide +kernel
  have h2 := okNL_iff.mp h
  exact orders (P := fun n => okNL n l = true → ((roots n l).length : Int) = phi n) (key l (pr_iff.mp h2.2.1)) n h2.1.1 h2.1.2 h
def bads (l : Int) (x : List Int) : Bool := x.any fun v => !(decide (0 ≤ v) && decide (v ≤ l - 1))
theorem sp_l0 (n l : Int) (hl : 3 ≤ l ∧ l ≤ 61) (x rs : List Int) (hxl : x.length ≤ 1048576) (res : Int × List Int × Int) (H : Ev (fun f => (spec_l01Zero.f f n).bind fun b => spec_CycloAtResidues.l1 f l x rs 0 b.1 b.2) res) : ∀ (d i : Nat), d + i = x.length → Ev (fun f => spec_CycloAtResidues.l0 f n l x rs (i : Int)) (if bads l (x.drop i) = true then (0, [], 2) else res) := by
  intro d
  induction d with
  | zero =>
    intro i hi
    rw [List.drop_of_length_le (by omega)]
    refine Ev.step (fun f => ?_) H
    simp only [spec_CycloAtResidues.l0]
    rw [if_neg (by omega)]
  | succ d ih =>
    intro i hi
    have hi2 : i < x.length := by omega
    have er : rd x (i : Int) = x[i] := by simp [rd, hi2]
    have e : bads l (x.drop i) = ((!(decide (0 ≤ x[i]) && decide (x[i] ≤ l - 1))) || bads l (x.drop (i + 1))) := by
      rw [List.drop_eq_getElem_cons hi2]
      rfl
    rw [e]
    cases c : decide (0 ≤ x[i]) && decide (x[i] ≤ l - 1) with
    | true =>
      rw [Bool.not_true, Bool.false_or]
      refine Ev.step (fun f => ?_) (ih (i + 1) (by omega))
      simp only [spec_CycloAtResidues.l0, er, l01In, w64 (x := l - 1) (by omega) (by omega), c, Option.bind_some, if_true]
      rw [if_pos (by omega), if_pos (by omega), w64 (x := (i : Int) + 1) (by omega) (by omega)]
      rfl
    | false =>
      rw [Bool.not_false, Bool.true_or]
      simp only [if_true]
      refine Ev.step (f := fun _ => some (0, [], 2)) (fun f => ?_) (Ev.now _)
      simp only [spec_CycloAtResidues.l0, er, l01In, w64 (x := l - 1) (by omega) (by omega), c, Option.bind_some, Bool.false_eq_true, if_false]
      rw [if_pos (by omega), if_pos (by omega)]
theorem sp_bad (n l : Int) (hl : 3 ≤ l ∧ l ≤ 61) (x rs : List Int) (hxl : x.length ≤ 1048576) : ∀ (d i : Nat), d + i = x.length → bads l (x.drop i) = true → Ev (fun f => spec_CycloAtResidues.l0 f n l x rs (i : Int)) (0, [], 2) := by
  intro d
  induction d with
  | zero =>
    intro i hi h
    rw [List.drop_of_length_le (by omega)] at h
    cases h
  | succ d ih =>
    intro i hi h
    have hi2 : i < x.length := by omega
    have er : rd x (i : Int) = x[i] := by simp [rd, hi2]
    have e : bads l (x.drop i) = ((!(decide (0 ≤ x[i]) && decide (x[i] ≤ l - 1))) || bads l (x.drop (i + 1))) := by
      rw [List.drop_eq_getElem_cons hi2]
      rfl
    rw [e] at h
    cases c : decide (0 ≤ x[i]) && decide (x[i] ≤ l - 1) with
    | true =>
      rw [c, Bool.not_true, Bool.false_or] at h
      refine Ev.step (fun f => ?_) (ih (i + 1) (by omega) h)
      simp only [spec_CycloAtResidues.l0, er, l01In, w64 (x := l - 1) (by omega) (by omega), c, Option.bind_some, if_true]
      rw [if_pos (by omega), if_pos (by omega), w64 (x := (i : Int) + 1) (by omega) (by omega)]
      rfl
    | false =>
      refine Ev.step (f := fun _ => some (0, [], 2)) (fun f => ?_) (Ev.now _)
      simp only [spec_CycloAtResidues.l0, er, l01In, w64 (x := l - 1) (by omega) (by omega), c, Option.bind_some, Bool.false_eq_true, if_false]
      rw [if_pos (by omega), if_pos (by omega)]
theorem zero01 (n : Int) (h0 : 1 ≤ n) (h1 : n ≤ 16) : Ev (fun f => spec_l01Zero.f f n) (n, List.replicate (phi n).toNat 0) := by
  have := phi_small n h0 h1
  unfold spec_l01Zero.f
  refine Ev.bind (phi_spec n h0 h1) ?_
  simp only [if_pos (show 0 ≤ phi n by omega), if_pos (show (phi n).toNat ≤ 35184372088832 by omega)]
  exact Ev.now _
theorem same_out (n l : Int) (x : List Int) (hx : x.length ≤ 1048576) (h0 : -9223372036854775808 ≤ l) (h1 : l ≤ 9223372036854775807) : ∃ o : Int × List Int × Int, o.2.1.length ≤ 1000 ∧ Ev (fun k => spec_CycloAtResidues.f k n l x) o ∧ Ev (fun k => impl_CycloAtResidues.f k n l x) o := by
  have badI : ∀ rs : List Int, Ev (fun k => impl_CycloAtResidues.j0 k n x rs true l) (0, [], 2) := fun rs => Ev.step (fun k => by simp only [impl_CycloAtResidues.j0, if_true] <;> rfl) (Ev.now _)
  unfold spec_CycloAtResidues.f impl_CycloAtResidues.f
  cases hk : okNL n l with
  | false =>
    have ri := rootsFor n l h0 h1
    rw [hk] at ri
    refine ⟨(0, [], 2), by simp, Ev.bind (l07Code n l) ?_, Ev.bind ri ?_⟩
    · cases hp : ((decide (1 ≤ n) && decide (n ≤ 16)) && pr l) with
      | false => simp only [Bool.false_eq_true, if_false, show ¬ (2 : Int) = 0 by decide]; exact Ev.now _
      | true =>
        simp only [Bool.and_eq_true, decide_eq_true_eq] at hp
        simp only [if_true]
        refine ev_bind_const (l07Fully n l hp.1 hp.2) ?_
        have e : okNL n l = fully n l := by simp [okNL, hp]
        rw [← e, hk]
        simp only [Bool.false_eq_true, if_false]
        exact Ev.now _
    · simp only [Bool.false_eq_true, if_false]
      exact badI _
  | true =>
    have h2 := okNL_iff.mp hk
    have hb := pr_bd h2.2.1
    have ri := rootsFor n l h0 h1
    rw [hk] at ri
    simp only [if_true] at ri
    have hrl := roots_len n l hb.2
    have hph := roots_phi n l hk
    have hrs : inL l (roots n l) := fun t => by
      by_cases c : t < (roots n l).length
      · have := (mem_roots (n := n) (l := l) (by omega)).mp (List.getElem_mem (l := roots n l) c)
        rw [List.getD_eq_getElem?_getD, List.getElem?_eq_getElem c]
        show 0 ≤ (roots n l)[t] ∧ (roots n l)[t] < l
        omega
      · rw [getD_over _ _ (by omega)]; omega
    have sC : Ev (fun k => spec_l07Code.f k n l) 0 := by
      have := l07Code n l
      rwa [show ((decide (1 ≤ n) && decide (n ≤ 16)) && pr l) = true by simp [h2]] at this
    have sF : spec_l07Fully.f n l = some true := by rw [l07Fully n l h2.1 h2.2.1, h2.2.2]
    by_cases ceq : (x.length : Int) = ((roots n l).length : Int)
    · have hany : impl_anyOut.f x l = some (bads l x) := by
        unfold impl_anyOut.f bads
        rw [w64 (by omega) (by omega)]
      cases hbd : bads l x with
      | true =>
        refine ⟨(0, [], 2), by simp, Ev.bind sC ?_, Ev.bind ri ?_⟩
        · simp only [if_true]
          refine ev_bind_const sF ?_
          simp only [if_true]
          refine Ev.bind (l07Roots n l h2.1 hb) ?_
          simp only [if_pos ceq]
          have := sp_bad n l hb x (roots n l) hx x.length 0 (by omega) (by rw [List.drop_zero]; exact hbd)
          exact this
        · simp only [if_true, if_pos ceq]
          refine ev_bind_const hany ?_
          rw [hbd]
          exact badI _
      | false =>
        have hxin : inL l x := fun t => by
          by_cases c : t < x.length
          · rw [List.getD_eq_getElem?_getD, List.getElem?_eq_getElem c]
            show 0 ≤ x[t] ∧ x[t] < l
            have h3 : (!(decide (0 ≤ x[t]) && decide (x[t] ≤ l - 1))) = false := by
              cases h4 : (!(decide (0 ≤ x[t]) && decide (x[t] ≤ l - 1))) with
              | false => rfl
              | true =>
                have : bads l x = true := List.any_eq_true.mpr ⟨x[t], List.getElem_mem c, h4⟩
                rw [hbd] at this
                cases this
            simp only [Bool.not_eq_false', Bool.and_eq_true, decide_eq_true_eq] at h3
            omega
          · rw [getD_over _ _ (by omega)]; omega
        have zin : inL l (List.replicate (roots n l).length 0) := fun t => by rw [List.getD_eq_getElem?_getD, List.getElem?_replicate]; split <;> (show (0 : Int) ≤ 0 ∧ (0 : Int) < l; omega)
        obtain ⟨fin, b1, b2, b3⟩ := both_i n l hb x (roots n l) hrs (by omega) hxin (by omega) (roots n l).length 0 (by omega) (List.replicate (roots n l).length 0) zin (by simp)
        refine ⟨(n, fin, 0), by show fin.length ≤ 1000; omega, Ev.bind sC ?_, Ev.bind ri ?_⟩
        · simp only [if_true]
          refine ev_bind_const sF ?_
          simp only [if_true]
          refine Ev.bind (l07Roots n l h2.1 hb) ?_
          simp only [if_pos ceq]
          have := sp_l0 n l hb x (roots n l) hx (n, fin, 0) (Ev.bind (zero01 n h2.1.1 h2.1.2) (by rw [show (phi n).toNat = (roots n l).length by omega]; exact b2)) x.length 0 (by omega)
          rw [List.drop_zero, hbd] at this
          simpa using this
        · simp only [if_true, if_pos ceq]
          refine ev_bind_const hany ?_
          rw [hbd]
          refine Ev.step (fun k => ?_) b3
          simp only [impl_CycloAtResidues.j0, Bool.false_eq_true, if_false]
          rw [if_pos (by omega), if_pos (by omega), Int.toNat_natCast]
          rfl
    · refine ⟨(0, [], 2), by simp, Ev.bind sC ?_, Ev.bind ri ?_⟩
      · simp only [if_true]
        refine ev_bind_const sF ?_
        simp only [if_true]
        refine Ev.bind (l07Roots n l h2.1 hb) ?_
        simp only [if_neg ceq]
        exact Ev.now _
      · simp only [if_true, if_neg ceq]
        exact badI _
theorem FnExactCycloAtResidues : laws_FnExactCycloAtResidues.Pure := by
  intro n q a _ hq _ _ _
  apply Ev.rounds
  have hq2 := wf64 hq
  unfold laws_FnExactCycloAtResidues.f
  by_cases hb : (a.length : Int) > 1048576
  · simp only [if_pos hb]
    exact Ev.now _
  have htl : a.length ≤ 1048576 := by omega
  obtain ⟨⟨m, l, cd⟩, hl, hs, hi⟩ := same_out n q a htl hq2.1 hq2.2
  replace hl : l.length ≤ 1000 := hl
  have hl' : l.length ≤ 1048576 := by omega
  have ht := toInts a htl
  simp only [if_neg hb]
  refine Ev.bind ht (Ev.bind hs (Ev.bind ht (Ev.bind hi (Ev.bind (eqCyclo _ _ _ _ hl') ?_))))
  simp only [and_self, decide_true, if_true, bne_self_eq_false]
  refine Ev.step (fun k => by simp only [laws_FnExactCycloAtResidues.j0, Bool.false_eq_true, if_false] <;> rfl) ?_
  refine Ev.bind ht (Ev.bind (eqInts a a htl) ?_)
  simp only [decide_true, if_true]
  refine Ev.bind (markInts a htl) ?_
  simp only [if_neg (show ¬ (1 + (a.length : Int) < 0) by omega)]
  refine Ev.bind (eqCyclo _ _ _ _ hl') ?_
  simp only [and_self, decide_true, if_true, bne_self_eq_false]
  refine Ev.step (fun k => by simp only [laws_FnExactCycloAtResidues.j1, Bool.false_eq_true, if_false] <;> rfl) ?_
  refine Ev.bind (markCyclo m l hl') (Ev.bind (heldCyclo m l.length hl') ?_)
  simp only [if_neg (show ¬ (1 + (l.length : Int) < 0) by omega), if_true]
  refine Ev.bind ht (Ev.bind hi (Ev.bind (eqCyclo _ _ _ _ hl') ?_))
  simp only [and_self, decide_true, if_true, bne_self_eq_false]
  refine Ev.step (fun k => by simp only [laws_FnExactCycloAtResidues.j2, Bool.false_eq_true, if_false] <;> rfl) ?_
  refine Ev.bind (heldCyclo m l.length hl') ?_
  simp only [if_neg (show ¬ (1 + (l.length : Int) < 0) by omega), if_true]
  exact Ev.now _
end Go.Proofs.Ytefhabkikaadiaa.Pure
