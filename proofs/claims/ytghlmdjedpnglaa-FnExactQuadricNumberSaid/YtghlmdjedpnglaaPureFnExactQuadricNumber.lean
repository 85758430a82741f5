/- The program's QuadricNumber returns what the reference's returns, for all arguments; no condition. -/
import Derived.Test.YtghlmdjedpnglaaPFnExactQuadricNumberx6
import Derived.OpenShut
namespace Go.Proofs.Ytghlmdjedpnglaa.Pure
open Go.RowKit Go.Proofs.Ytghlmdjedpnglaa.PFnExactQuadricNumber Go.Proofs.YtghlmdjedpnglaaW.PrintWords Go.Proofs.YtghlmdjedpnglaaW.PrintLast Go.Proofs.YtghlmdjedpnglaaW.PrintMore
set_option linter.unusedVariables false
set_option linter.unusedSimpArgs false
theorem w64 {x : Int} (h0 : -9223372036854775808 ≤ x) (h1 : x ≤ 9223372036854775807) : wrap64 x = x := by unfold wrap64; omega
theorem wf64 {x : Int} (h : (Lit.int .i64 x).wf = true) : -9223372036854775808 ≤ x ∧ x ≤ 9223372036854775807 := bounds_i64 h
theorem ev_bind_const {α β : Type} {o : Option α} {a : α} {f : Nat → α → Option β} {r : β} (h : o = some a) (k : Ev (fun n => f n a) r) : Ev (fun n => o.bind (f n)) r := by
  subst h; exact k
theorem toInts_l0 (l : List Int) (hl : l.length ≤ 1048576) : ∀ (d : Nat) (ys : List Int) (i : Nat), d + i = l.length → ys.length = l.length → ys.take i = l.take i → Ev (fun k => laws_toInt64S.l0 k l ys (i : Int)) l := by
  intro d
  induction d with
  | zero =>
    intro ys i hd hy ht
    have : i = l.length := by omega
    subst this
    refine Ev.step (f := fun _ => some l) (fun k => ?_) (Ev.now _)
    simp only [laws_toInt64S.l0]
    rw [if_neg (by omega)]
    rw [List.take_of_length_le (by omega), List.take_of_length_le (by omega)] at ht
    rw [ht]
  | succ d ih =>
    intro ys i hd hy ht
    refine Ev.step (f := fun k => laws_toInt64S.l0 k l (ys.set i (rd l (i : Int))) ((i + 1 : Nat) : Int)) (fun k => ?_) (ih _ _ (by omega) (by simp [hy]) ?_)
    · simp only [laws_toInt64S.l0]
      rw [if_pos (by omega), if_pos (by omega), if_pos (by omega), w64 (by omega) (by omega)]
      rfl
    · have hi : i < l.length := by omega
      rw [List.take_succ_eq_append_getElem (by simpa [hy] using hi), List.take_succ_eq_append_getElem hi, List.take_set_of_le (Nat.le_refl _), ht]
      simp [rd, hi]
theorem toInts (l : List Int) (hl : l.length ≤ 1048576) : Ev (fun k => laws_toInt64S.f k l) l := by
  have h := toInts_l0 l hl l.length (List.replicate l.length 0) 0 (by omega) (by simp) (by simp)
  refine Ev.congr (fun k => ?_) h
  unfold laws_toInt64S.f
  rw [if_pos (by omega), if_pos (by omega)]
  simp
theorem eqInts_l0 (l m : List Int) (hl : l.length ≤ 1048576) (hm : m.length = l.length) : ∀ (d i : Nat), d + i = l.length → Ev (fun k => laws_eqInt64S.l0 k l m (i : Int)) (decide (l.drop i = m.drop i)) := by
  intro d
  induction d with
  | zero =>
    intro i hd
    refine Ev.step (f := fun _ => some (decide (l.drop i = m.drop i))) (fun k => ?_) (Ev.now _)
    simp only [laws_eqInt64S.l0]
    rw [if_neg (by omega), List.drop_of_length_le (by omega), List.drop_of_length_le (by omega)]
    simp
  | succ d ih =>
    intro i hd
    have hi : i < l.length := by omega
    have hi2 : i < m.length := by omega
    have e1 : rd l (i : Int) = l[i] := by simp [rd, hi]
    have e2 : rd m (i : Int) = m[i] := by simp [rd, hi2]
    by_cases he : l[i] = m[i]
    · refine Ev.step (f := fun k => laws_eqInt64S.l0 k l m ((i + 1 : Nat) : Int)) (fun k => ?_) ?_
      · simp only [laws_eqInt64S.l0]
        rw [if_pos (by omega), if_pos (by omega), if_pos (by omega), e1, e2, if_pos he, w64 (by omega) (by omega)]
        rfl
      · have e : decide (l.drop i = m.drop i) = decide (l.drop (i + 1) = m.drop (i + 1)) := by
          rw [List.drop_eq_getElem_cons hi, List.drop_eq_getElem_cons hi2]
          simp only [List.cons.injEq, he, true_and]
        rw [e]
        exact ih (i + 1) (by omega)
    · refine Ev.step (f := fun _ => some false) (fun k => ?_) ?_
      · simp only [laws_eqInt64S.l0]
        rw [if_pos (by omega), if_pos (by omega), if_pos (by omega), e1, e2, if_neg he]
      · have e : decide (l.drop i = m.drop i) = false := by
          rw [List.drop_eq_getElem_cons hi, List.drop_eq_getElem_cons hi2]
          simp only [List.cons.injEq, he, false_and, decide_false]
        rw [e]
        exact Ev.now _
theorem eqInts (l m : List Int) (hl : l.length ≤ 1048576) : Ev (fun k => laws_eqInt64S.f k l m) (decide (l = m)) := by
  by_cases h : m.length = l.length
  · have := eqInts_l0 l m hl h l.length 0 (by omega)
    refine Ev.congr (fun k => ?_) (by simpa using this)
    unfold laws_eqInt64S.f
    rw [if_pos (by omega)]
  · have hne : l ≠ m := fun e => h (by rw [e])
    rw [decide_eq_false hne]
    refine Ev.congr (fun k => ?_) (Ev.now _)
    unfold laws_eqInt64S.f
    rw [if_neg (by omega)]
def phi (n : Int) : Int := [0, 1, 1, 2, 2, 4, 2, 6, 4, 6, 4, 10, 4, 12, 6, 8, 8].getD n.toNat 0
theorem l01In (a b c : Int) : spec_l01In.f a b c = some (decide (b ≤ a) && decide (a ≤ c)) := by
  unfold spec_l01In.f
  by_cases h : a ≥ b
  · rw [if_pos h]; simp [h]
  · rw [if_neg h]; simp [h]
theorem within_ (a b c : Int) : impl_within.f a b c = some (decide (b ≤ a) && decide (a ≤ c)) := by
  unfold impl_within.f
  by_cases h : b ≤ a
  · rw [if_pos h]; simp [h]
  · rw [if_neg h]; simp [h]
def prs : List Int := [3, 5, 7, 11, 13, 17, 19, 23, 29, 31, 37, 41, 43, 47, 53, 59, 61]
def pr (l : Int) : Bool := prs.contains l
theorem pr_iff {l : Int} : pr l = true ↔ l ∈ prs := by unfold pr; exact List.contains_iff_mem
theorem pr_bd {l : Int} (h : pr l = true) : 3 ≤ l ∧ l ≤ 61 := by
  rw [pr_iff] at h
  simp only [prs, List.mem_cons, List.not_mem_nil, or_false] at h
  omega
theorem upto61 {P : Int → Prop} (h : ∀ m : Nat, m < 62 → P m) (n : Int) (h0 : 0 ≤ n) (h1 : n ≤ 61) : P n := by
  have := h n.toNat (by omega)
  rwa [Int.toNat_of_nonneg (by omega)] at this
theorem isPrime_big (p : Int) (h0 : 61 < p) (h1 : p ≤ 9223372036854775807) : ∀ (n : Nat) (d : Int), 2 ≤ d → d ≤ p → (p - d).toNat = n → Ev (fun k => impl_isPrime.l0 k p d) false := by
  intro n
  induction n with
  | zero =>
    intro d hd hp hn
    have : d = p := by omega
    subst this
    refine Ev.step (f := fun _ => some false) (fun k => ?_) (Ev.now _)
    simp only [impl_isPrime.l0]
    by_cases c : wrap64 (d * d) ≤ d
    · rw [if_pos c, if_neg (by omega), if_pos (Int.tmod_self)]
    · rw [if_neg c, within_, Option.bind_some]
      simp
      omega
  | succ n ih =>
    intro d hd hp hn
    by_cases c : wrap64 (d * d) ≤ p
    · by_cases c2 : Int.tmod p d = 0
      · refine Ev.step (f := fun _ => some false) (fun k => ?_) (Ev.now _)
        simp only [impl_isPrime.l0]
        rw [if_pos c, if_neg (by omega), if_pos c2]
      · refine Ev.step (fun k => ?_) (ih (d + 1) (by omega) (by omega) (by omega))
        simp only [impl_isPrime.l0]
        rw [if_pos c, if_neg (by omega), if_neg c2, w64 (by omega) (by omega)]
    · refine Ev.step (f := fun _ => some false) (fun k => ?_) (Ev.now _)
      simp only [impl_isPrime.l0]
      rw [if_neg c, within_, Option.bind_some]
      simp
      omega
theorem isPrime (p : Int) (h0 : -9223372036854775808 ≤ p) (h1 : p ≤ 9223372036854775807) : Ev (fun k => impl_isPrime.f k p) (pr p) := by
  by_cases c : 61 < p
  · have e : pr p = false := by
      cases h : pr p with
      | false => rfl
      | true => have := pr_bd h; omega
    rw [e]
    exact isPrime_big p c h1 _ 2 (by omega) (by omega) rfl
  · by_cases c2 : 0 ≤ p
    · have key : ∀ m : Nat, m < 62 → impl_isPrime.f 20 (m : Int) = some (pr m) := by decide +kernel
      exact Ev.of (impl_isPrime.mono p) (upto61 (P := fun p => impl_isPrime.f 20 p = some (pr p)) key p c2 (by omega))
    · have e : pr p = false := by
        cases h : pr p with
        | false => rfl
        | true => have := pr_bd h; omega
      rw [e]
      refine Ev.step (f := fun _ => some false) (fun k => ?_) (Ev.now _)
      simp only [impl_isPrime.f, impl_isPrime.l0]
      rw [if_neg (by rw [w64 (x := 2 * 2) (by omega) (by omega)]; omega), within_, Option.bind_some]
      simp
      omega
def hv (cs : List Int) (r q : Int) : Int := cs.foldr (fun c out => (out * r + c) % q) 0
theorem tmod_emod (c q : Int) (hq : 0 < q) : (Int.tmod c q) % q = c % q := by
  rw [Int.tmod_eq_emod]
  split <;> simp
  rw [Int.sub_emod]
  simp [Int.natAbs_of_nonneg (Int.le_of_lt hq)]
theorem pow_emod (a m : Int) : ∀ k : Nat, (a % m) ^ k % m = a ^ k % m := by
  intro k
  induction k with
  | zero => rw [Int.pow_zero, Int.pow_zero]
  | succ k ih => rw [Int.pow_succ, Int.pow_succ, Int.mul_emod, ih, Int.emod_emod, ← Int.mul_emod]
theorem implPower_l0 (m : Int) (hm : 0 < m) (hm2 : m ≤ 1000000) : ∀ (n k : Nat) (x o : Int), k ≤ n → n ≤ 1000000 → 0 ≤ x → x < m → 0 ≤ o → o < m → Ev (fun f => impl_power.l0 f x (k : Int) m o) ((o * x ^ k) % m) := by
  intro n
  induction n with
  | zero =>
    intro k x o hk _ h0 h1 h2 h3
    obtain rfl : k = 0 := by omega
    refine Ev.step (fun f => by simp only [impl_power.l0]; rw [if_neg (by omega)] <;> rfl) ?_
    rw [Int.pow_zero, Int.mul_one, Int.emod_eq_of_lt h2 h3]
    exact Ev.now _
  | succ n ih =>
    intro k x o hk hn h0 h1 h2 h3
    by_cases hz : k = 0
    · subst hz
      refine Ev.step (fun f => by simp only [impl_power.l0]; rw [if_neg (by omega)] <;> rfl) ?_
      rw [Int.pow_zero, Int.mul_one, Int.emod_eq_of_lt h2 h3]
      exact Ev.now _
    have hxx : 0 ≤ x * x ∧ x * x ≤ 1000000 * 1000000 := ⟨Int.mul_nonneg h0 h0, Int.mul_le_mul (by omega) (by omega) h0 (by omega)⟩
    have hox : 0 ≤ o * x ∧ o * x ≤ 1000000 * 1000000 := ⟨Int.mul_nonneg h2 h0, Int.mul_le_mul (by omega) (by omega) h0 (by omega)⟩
    have e1 : wrap64 (Int.tdiv (k : Int) 2) = ((k / 2 : Nat) : Int) := by
      rw [Int.tdiv_eq_ediv_of_nonneg (by omega), w64 (by omega) (by omega)]
      omega
    have e2 : (x * x) % m = x * x % m := rfl
    by_cases ho : k % 2 = 1
    · have := ih (k / 2) ((x * x) % m) ((o * x) % m) (by omega) (by omega) (Int.emod_nonneg _ (by omega)) (Int.emod_lt_of_pos _ hm) (Int.emod_nonneg _ (by omega)) (Int.emod_lt_of_pos _ hm)
      have e : ((o * x) % m * ((x * x) % m) ^ (k / 2)) % m = (o * x ^ k) % m := by
        rw [Int.mul_emod, pow_emod, Int.emod_emod, ← Int.mul_emod]
        congr 1
        rw [Int.mul_assoc]
        congr 1
        have : k = 2 * (k / 2) + 1 := by omega
        conv => rhs; rw [this]
        rw [Int.pow_succ, Int.pow_mul, show x ^ 2 = x * x by rw [Int.pow_succ, Int.pow_succ, Int.pow_zero, Int.one_mul], Int.mul_comm]
      rw [e] at this
      refine Ev.step (fun f => ?_) this
      simp only [impl_power.l0]
      rw [if_pos (by omega), Int.tmod_eq_emod_of_nonneg (by omega), if_pos (by omega), if_neg (by omega), w64 (x := x * x) (by omega) (by omega), w64 (x := o * x) (by omega) (by omega), Int.tmod_eq_emod_of_nonneg hxx.1, Int.tmod_eq_emod_of_nonneg hox.1, e1]
    · have := ih (k / 2) ((x * x) % m) o (by omega) (by omega) (Int.emod_nonneg _ (by omega)) (Int.emod_lt_of_pos _ hm) h2 h3
      have e : (o * ((x * x) % m) ^ (k / 2)) % m = (o * x ^ k) % m := by
        rw [Int.mul_emod, pow_emod, ← Int.mul_emod]
        congr 2
        have : k = 2 * (k / 2) := by omega
        conv => rhs; rw [this]
        rw [Int.pow_mul, show x ^ 2 = x * x by rw [Int.pow_succ, Int.pow_succ, Int.pow_zero, Int.one_mul]]
      rw [e] at this
      refine Ev.step (fun f => ?_) this
      simp only [impl_power.l0]
      rw [if_pos (by omega), Int.tmod_eq_emod_of_nonneg (by omega), if_neg (by omega), if_neg (by omega), w64 (x := x * x) (by omega) (by omega), Int.tmod_eq_emod_of_nonneg hxx.1, e1]
theorem around (a m : Int) (hm : 0 < m) (hm2 : m ≤ 1000000000000) : impl_around.f a m = some (a % m) := by
  unfold impl_around.f
  have h1 := Int.tmod_lt_of_pos a hm
  have h2 := Int.lt_tmod_of_pos a hm
  rw [if_neg (by omega), w64 (by omega) (by omega), Int.tmod_eq_emod_of_nonneg (by omega), Int.add_emod_right, tmod_emod _ _ hm]
theorem implPower (m x : Int) (k : Nat) (hm : 1 < m) (hm2 : m ≤ 1000000) (hk : k ≤ 1000000) : Ev (fun f => impl_power.f f x (k : Int) m) (x ^ k % m) := by
  unfold impl_power.f
  have := implPower_l0 m (by omega) hm2 k k (x % m) 1 (by omega) hk (Int.emod_nonneg _ (by omega)) (Int.emod_lt_of_pos _ (by omega)) (by omega) hm
  rw [Int.one_mul, pow_emod] at this
  simp only [if_neg (show ¬ m = 0 by omega), show (1 : Int) % m = 1 from Int.emod_eq_of_lt (by omega) hm]
  exact ev_bind_const (around x m (by omega) (by omega)) this
theorem pow_nat (x l : Int) (k : Nat) (hx : 0 ≤ x) (hl : 0 ≤ l) : x ^ k % l = ((x.toNat ^ k % l.toNat : Nat) : Int) := by
  rw [Int.natCast_emod, Int.natCast_pow, Int.toNat_of_nonneg hx, Int.toNat_of_nonneg hl]
theorem l06Prime (p : Int) : Ev (fun k => spec_l06Prime.f k p) (pr p) := by
  by_cases c : 3 ≤ p ∧ p ≤ 61
  · have key : ∀ m : Nat, m < 62 → spec_l06Prime.f 20 (m : Int) = some (pr m) := by decide +kernel
    exact Ev.of (spec_l06Prime.mono p) (upto61 (P := fun p => spec_l06Prime.f 20 p = some (pr p)) key p (by omega) c.2)
  · have e : pr p = false := by
      cases h : pr p with
      | false => rfl
      | true => have := pr_bd h; omega
    rw [e]
    unfold spec_l06Prime.f
    refine ev_bind_const (l01In _ _ _) ?_
    rw [show (decide (3 ≤ p) && decide (p ≤ 61)) = false by simp; omega]
    exact Ev.now _
def phn (n : Int) : Nat := (phi n).toNat
def plist (p : Int) (k : Nat) (m : Nat) : List Int := (List.range m).map fun x : Nat => (x : Int) ^ k % p
theorem plist_len (p : Int) (k m : Nat) : (plist p k m).length = m := by simp [plist]
theorem plist_succ (p : Int) (k m : Nat) : plist p k (m + 1) = plist p k m ++ [(m : Int) ^ k % p] := by simp [plist, List.range_succ]
theorem powersOf_l0 (p : Int) (k : Nat) (hp : 3 ≤ p ∧ p ≤ 61) (hk : k ≤ 60) : ∀ (d i : Nat), (d : Int) + i = p → Ev (fun f => impl_powersOf.l0 f p (k : Int) (plist p k i) p (i : Int)) (plist p k p.toNat) := by
  intro d
  induction d with
  | zero =>
    intro i hi
    refine Ev.step (f := fun _ => some (plist p k i)) (fun f => ?_) ?_
    · simp only [impl_powersOf.l0]
      rw [if_neg (by omega)]
    · rw [show p.toNat = i by omega]
      exact Ev.now _
  | succ d ih =>
    intro i hi
    refine Ev.step (f := fun f => (impl_power.f f (i : Int) (k : Int) p).bind fun t => if (plist p k i).length < 17592186044416 then impl_powersOf.l0 f p (k : Int) (plist p k i ++ [t]) p ((i + 1 : Nat) : Int) else none) (fun f => ?_) ?_
    · simp only [impl_powersOf.l0]
      rw [if_pos (by omega), w64 (x := (i : Int) + 1) (by omega) (by omega)]
      rfl
    · refine Ev.bind (implPower p (i : Int) k (by omega) (by omega) (by omega)) ?_
      simp only [if_pos (show (plist p k i).length < 17592186044416 by rw [plist_len]; omega), ← plist_succ]
      exact ih (i + 1) (by omega)
theorem powersOf (p : Int) (k : Nat) (hp : 3 ≤ p ∧ p ≤ 61) (hk : k ≤ 60) : Ev (fun f => impl_powersOf.f f p (k : Int)) (plist p k p.toNat) := by
  have := powersOf_l0 p k hp hk p.toNat 0 (by omega)
  exact this
theorem l08Power_l0 (l x : Int) (hl : 0 < l) (hl2 : l ≤ 1000000) (hx : 0 ≤ x ∧ x < l) : ∀ (k : Nat) (o : Int), k ≤ 1000000 → 0 ≤ o → o < l → Ev (fun f => spec_l08Power.l0 f l x (k : Int) o) ((o * x ^ k) % l) := by
  intro k
  induction k with
  | zero =>
    intro o hk h0 h1
    refine Ev.step (fun f => by simp only [spec_l08Power.l0]; rw [if_neg (by omega)] <;> rfl) ?_
    rw [Int.pow_zero, Int.mul_one, Int.emod_eq_of_lt h0 h1]
    exact Ev.now _
  | succ k ih =>
    intro o hk h0 h1
    have hb : 0 ≤ o * x ∧ o * x ≤ 1000000 * 1000000 := ⟨Int.mul_nonneg h0 hx.1, Int.mul_le_mul (by omega) (by omega) hx.1 (by omega)⟩
    have := ih ((o * x) % l) (by omega) (Int.emod_nonneg _ (by omega)) (Int.emod_lt_of_pos _ hl)
    have e : (o * x) % l * x ^ k % l = o * x ^ (k + 1) % l := by
      rw [Int.mul_emod, Int.emod_emod, ← Int.mul_emod, Int.mul_assoc, ← Int.pow_succ']
    rw [e] at this
    refine Ev.step (fun f => ?_) this
    simp only [spec_l08Power.l0]
    rw [if_pos (by omega), if_neg (by omega), w64 (x := ((k + 1 : Nat) : Int) - 1) (by omega) (by omega), w64 (x := o * x) (by omega) (by omega), Int.tmod_eq_emod_of_nonneg hb.1, show ((k + 1 : Nat) : Int) - 1 = k by omega]
theorem l08Power (l x : Int) (k : Nat) (hl : 1 < l) (hl2 : l ≤ 1000000) (hx : 0 ≤ x ∧ x < l) (hk : k ≤ 1000000) : Ev (fun f => spec_l08Power.f f l x (k : Int)) (x ^ k % l) := by
  have := l08Power_l0 l x (by omega) hl2 hx k 1 hk (by omega) hl
  rw [Int.one_mul] at this
  exact this
def bump (out : List Int) (v : Int) : List Int := out.set v.toNat (out.getD v.toNat 0 + 1)
theorem bump_all : ∀ (l z : List Int), (∀ v ∈ l, 0 ≤ v ∧ v < z.length) → (l.foldl bump z).length = z.length ∧ ∀ b : Nat, b < z.length → (l.foldl bump z).getD b 0 = z.getD b 0 + (l.count (b : Int) : Nat)
  | [], z, _ => ⟨rfl, fun b _ => by simp⟩
  | v :: l, z, h => by
    have hv := h v (by simp)
    have hl : (bump z v).length = z.length := by simp [bump]
    obtain ⟨h1, h2⟩ := bump_all l (bump z v) (fun w hw => by rw [hl]; exact h w (List.mem_cons_of_mem _ hw))
    refine ⟨by rw [List.foldl_cons, h1, hl], fun b hb => ?_⟩
    rw [List.foldl_cons, h2 b (by omega)]
    have e : (bump z v).getD b 0 = z.getD b 0 + (if v = (b : Int) then 1 else 0) := by
      unfold bump
      rw [List.getD_eq_getElem?_getD, List.getElem?_set]
      by_cases c : v.toNat = b
      · rw [if_pos c, if_pos (by omega), if_pos (by omega), c]
        rfl
      · rw [if_neg c, if_neg (by omega), List.getD_eq_getElem?_getD]
        simp
    rw [e, List.count_cons]
    by_cases c : v = (b : Int)
    · simp [c]; omega
    · simp [c]
def vals1 (p a : Int) (k m : Nat) : List Int := (List.range m).map fun x : Nat => a * ((x : Int) ^ k % p) % p
theorem vals1_bd (p a : Int) (k m : Nat) (hp : 0 < p) : ∀ v ∈ vals1 p a k m, 0 ≤ v ∧ v < p := by
  intro v hv
  obtain ⟨x, _, rfl⟩ := List.mem_map.mp hv
  exact ⟨Int.emod_nonneg _ (by omega), Int.emod_lt_of_pos _ hp⟩
def vcount (p a : Int) (k m : Nat) : List Int := (vals1 p a k m).foldl bump (List.replicate p.toNat 0)
theorem vcount_succ (p a : Int) (k m : Nat) : vcount p a k (m + 1) = bump (vcount p a k m) (a * ((m : Int) ^ k % p) % p) := by
  simp [vcount, vals1, List.range_succ]
theorem vcount_get (p a : Int) (k m : Nat) (hp : 0 < p) : (vcount p a k m).length = p.toNat ∧ ∀ b : Nat, (b : Int) < p → (vcount p a k m).getD b 0 = ((vals1 p a k m).count (b : Int) : Nat) := by
  obtain ⟨h1, h2⟩ := bump_all (vals1 p a k m) (List.replicate p.toNat 0) (fun v hv => by have := vals1_bd p a k m hp v hv; simp; omega)
  refine ⟨by simpa [vcount] using h1, fun b hb => ?_⟩
  have := h2 b (by simp; omega)
  unfold vcount
  rw [this]
  rw [List.getD_eq_getElem?_getD, List.getElem?_replicate]
  split <;> simp
theorem vals1_len (p a : Int) (k m : Nat) : (vals1 p a k m).length = m := by simp [vals1]
theorem isExp (k : Int) : impl_isExponent.f k = some (decide (1 ≤ k) && decide (k ≤ 60)) := by
  unfold impl_isExponent.f
  rw [within_]
  rfl
def nm (a b : Int) : Int := a * a - a * b + b * b
def dp (a b c d : Int) : Int := a * (c - d) - b * (-d)
def dq (a b c d : Int) : Int := a * (-d) + b * (c - d) - b * (-d)
def q1 (a b c d : Int) : Int := (2 * dp a b c d + nm c d) / (2 * nm c d)
def q2 (a b c d : Int) : Int := (2 * dq a b c d + nm c d) / (2 * nm c d)
def r1 (a b c d : Int) : Int := a - (q1 a b c d * c - q2 a b c d * d)
def r2 (a b c d : Int) : Int := b - (q1 a b c d * d + q2 a b c d * c - q2 a b c d * d)
def one (n : Int) : List Int := (List.replicate (phn n) 0).set 0 1
def qval (p a : Nat) : List Nat := (List.range p).map fun b => ((List.range p).filter fun x => a * (x * x) % p == b).length
def qdot : List Nat → List Nat → Nat
  | [], _ => 0
  | _, [] => 0
  | x :: xs, y :: ys => x * y + qdot xs ys
def qrow (v : List Nat) (b : Nat) : List Nat := (v.take (b + 1)).reverse ++ (v.drop (b + 1)).reverse
def qconv (p : Nat) (u v : List Nat) : List Nat := (List.range p).map fun b => qdot u (qrow v b)
def qpow (p x : Nat) : Nat → Nat
  | 0 => 1
  | n + 1 => qpow p x n * x % p
def chi (p x : Nat) : Int := if x % p = 0 then 0 else if qpow p (x % p) ((p - 1) / 2) = 1 then 1 else -1
def qtab (p : Nat) (e : Int) : List Nat := (List.range p).map fun b => (1 + e * chi p b).toNat
def qform (p n prod b : Nat) : Int :=
  let s := if n / 2 % 2 = 1 then p - 1 else 1
  if n % 2 = 1 then (p : Int) ^ (n - 1) + (p : Int) ^ (n / 2) * chi p (s * prod * b)
  else (p : Int) ^ (n - 1) + (if b = 0 then (p : Int) - 1 else -1) * (p : Int) ^ (n / 2 - 1) * chi p (s * prod)
def okrow (p n prod : Nat) (l : List Nat) : Bool := ((l.map fun (x : Nat) => (x : Int)) == (List.range p).map fun b => qform p n prod b) && l.all fun x => Nat.ble x 1000000000
def qgo (p g : Nat) (v1 vg : List Nat) : Nat → Nat → Nat → List Nat → Bool
  | 0, _, _, _ => true
  | d + 1, n, prod, u => okrow p n prod u && (qgo p g v1 vg d (n + 1) prod (qconv p v1 u) && qgo p g v1 vg d (n + 1) (prod * g % p) (qconv p vg u))
def qe0 (p : Nat) : List Nat := (List.replicate p 0).set 0 1
def qcheck (p g : Nat) : Bool :=
  let v1 := qtab p 1; let vg := qtab p (-1)
  qconv p v1 (qe0 p) == v1 && qconv p vg (qe0 p) == vg && qgo p g v1 vg 4 1 1 v1 && qgo p g v1 vg 4 1 (1 * g % p) vg
def qbase (p g : Nat) : Bool := (qval p 1 == qtab p 1) && (chi p g == -1) && (List.range p).all fun a => a == 0 || ((a * qpow p a (p - 2) % p == 1) && (qpow p a ((p - 1) / 2) == 1 || qpow p a ((p - 1) / 2) == p - 1))
/-- What holds of a prime p and a number g without a root. -/
structure QP (p g : Nat) : Prop where
  two : 2 < p
  le : p ≤ 61
  base : qbase p g = true
  chk : qcheck p g = true
theorem qfold_ok (p g : Nat) (v1 vg : List Nat) : ∀ (cs : List Bool) (d n prod : Nat) (u : List Nat), cs.length < d → qgo p g v1 vg d n prod u = true →
    okrow p (n + cs.length) (cs.foldl (fun t c => if c = true then t else t * g % p) prod) (cs.foldl (fun t c => qconv p (if c = true then v1 else vg) t) u) = true
  | [], d + 1, n, prod, u, _, h => by
    simp only [qgo, Bool.and_eq_true] at h
    exact h.1
  | c :: cs, d + 1, n, prod, u, hd, h => by
    simp only [qgo, Bool.and_eq_true] at h
    rw [List.length_cons, show n + (cs.length + 1) = (n + 1) + cs.length by omega, List.foldl_cons, List.foldl_cons]
    rw [List.length_cons] at hd
    cases c with
    | true => exact qfold_ok p g v1 vg cs d (n + 1) _ _ (by omega) h.2.1
    | false => exact qfold_ok p g v1 vg cs d (n + 1) _ _ (by omega) h.2.2
theorem qpath (p g : Nat) (h : qcheck p g = true) (c : Bool) (cs : List Bool) (hl : cs.length ≤ 3) :
    okrow p ((c :: cs).length) ((c :: cs).foldl (fun t c => if c = true then t else t * g % p) 1) ((c :: cs).foldl (fun t c => qconv p (if c = true then qtab p 1 else qtab p (-1)) t) (qe0 p)) = true := by
  simp only [qcheck, Bool.and_eq_true, beq_iff_eq] at h
  obtain ⟨⟨⟨h1, h2⟩, h3⟩, h4⟩ := h
  rw [List.length_cons, List.foldl_cons, List.foldl_cons, Nat.add_comm]
  cases c with
  | true =>
    simp only [if_true, h1]
    exact qfold_ok p g _ _ cs 4 1 _ _ (by omega) h3
  | false =>
    simp only [Bool.false_eq_true, if_false, h2]
    exact qfold_ok p g _ _ cs 4 1 _ _ (by omega) h4
theorem qpow_eq (p x : Nat) (hp : 1 < p) : ∀ n, qpow p x n = x ^ n % p
  | 0 => by rw [qpow, Nat.pow_zero, Nat.mod_eq_of_lt hp]
  | n + 1 => by rw [qpow, qpow_eq p x hp n, Nat.pow_succ, Nat.mod_mul_mod]
theorem chi_mod (p x : Nat) : chi p (x % p) = chi p x := by
  unfold chi
  rw [Nat.mod_mod]
theorem qbase_parts {p g : Nat} (h : qbase p g = true) : qval p 1 = qtab p 1 ∧ chi p g = -1 ∧ ∀ a, a < p → a ≠ 0 → a * qpow p a (p - 2) % p = 1 ∧ (qpow p a ((p - 1) / 2) = 1 ∨ qpow p a ((p - 1) / 2) = p - 1) := by
  simp only [qbase, Bool.and_eq_true, beq_iff_eq, List.all_eq_true, Bool.or_eq_true, List.mem_range] at h
  obtain ⟨⟨h1, h2⟩, h3⟩ := h
  exact ⟨h1, h2, fun a ha h0 => (h3 a ha).resolve_left h0⟩
theorem chi_pow {p g : Nat} (Q : QP p g) (a : Nat) (h : a % p ≠ 0) : (a ^ ((p - 1) / 2) % p = 1 ∧ chi p a = 1) ∨ (a ^ ((p - 1) / 2) % p = p - 1 ∧ chi p a = -1) := by
  have := ((qbase_parts Q.base).2.2 (a % p) (Nat.mod_lt _ (by have := Q.two; omega)) h).2
  have h2 := Q.two
  unfold chi
  rw [if_neg h]
  rw [qpow_eq p _ (by omega), ← Nat.pow_mod] at this ⊢
  rcases this with e | e
  · exact .inl ⟨e, if_pos e⟩
  · exact .inr ⟨e, if_neg (by omega)⟩
theorem chi_zero {p a : Nat} (h : a % p = 0) : chi p a = 0 := by unfold chi; exact if_pos h
theorem q_neg {p g : Nat} (Q : QP p g) : (p - 1) * (p - 1) % p = 1 := by
  have h2 := Q.two
  obtain ⟨m, rfl⟩ : ∃ m, p = m + 2 := ⟨p - 2, by omega⟩
  rw [show (m + 2 - 1) * (m + 2 - 1) = 1 + (m + 2) * m by rw [show m + 2 - 1 = m + 1 by omega]; grind, Nat.add_mul_mod_self_left, Nat.mod_eq_of_lt (by omega)]
theorem chi_mul {p g : Nat} (Q : QP p g) (a b : Nat) : chi p (a * b) = chi p a * chi p b := by
  have h2 := Q.two
  by_cases ha : a % p = 0
  · rw [chi_zero ha, chi_zero (by rw [Nat.mul_mod, ha, Nat.zero_mul, Nat.zero_mod]), Int.zero_mul]
  by_cases hb : b % p = 0
  · rw [chi_zero hb, chi_zero (by rw [Nat.mul_mod, hb, Nat.mul_zero, Nat.zero_mod]), Int.mul_zero]
  have hh : 0 < (p - 1) / 2 := by omega
  have hn := q_neg Q
  have hm : (a * b) ^ ((p - 1) / 2) % p = (a ^ ((p - 1) / 2) % p) * (b ^ ((p - 1) / 2) % p) % p := by rw [Nat.mul_pow, Nat.mul_mod]
  have hab : (a * b) % p ≠ 0 := by
    intro h
    have h0 : (a * b) ^ ((p - 1) / 2) % p = 0 := by rw [Nat.pow_mod, h, Nat.zero_pow hh, Nat.zero_mod]
    rw [hm] at h0
    rcases chi_pow Q a ha with ⟨ea, _⟩ | ⟨ea, _⟩ <;> rcases chi_pow Q b hb with ⟨eb, _⟩ | ⟨eb, _⟩ <;> rw [ea, eb] at h0
    · rw [Nat.mod_eq_of_lt (by omega)] at h0; omega
    · rw [Nat.one_mul, Nat.mod_eq_of_lt (by omega)] at h0; omega
    · rw [Nat.mul_one, Nat.mod_eq_of_lt (by omega)] at h0; omega
    · omega
  rcases chi_pow Q (a * b) hab with ⟨e, f⟩ | ⟨e, f⟩ <;> rw [hm] at e <;> rcases chi_pow Q a ha with ⟨ea, fa⟩ | ⟨ea, fa⟩ <;> rcases chi_pow Q b hb with ⟨eb, fb⟩ | ⟨eb, fb⟩ <;> rw [ea, eb] at e <;> rw [f, fa, fb] <;> first
    | rfl
    | (rw [Nat.one_mul, Nat.mod_eq_of_lt (by omega)] at e; omega)
    | (rw [Nat.mul_one, Nat.mod_eq_of_lt (by omega)] at e; omega)
    | omega
theorem chi_pm {p g : Nat} (Q : QP p g) {a : Nat} (h : a % p ≠ 0) : chi p a = 1 ∨ chi p a = -1 := (chi_pow Q a h).imp And.right And.right
theorem qval_class {p g : Nat} (Q : QP p g) {a : Nat} (ha : a < p) (h0 : a ≠ 0) : qval p a = if chi p a = 1 then qtab p 1 else qtab p (-1) := by
  have h2 := Q.two
  obtain ⟨b1, _, b3⟩ := qbase_parts Q.base
  have hi := (b3 a ha h0).1
  have hap : a % p ≠ 0 := by rw [Nat.mod_eq_of_lt ha]; exact h0
  have e1 : ∀ b, b < p → ((List.range p).filter fun x => a * (x * x) % p == b) = (List.range p).filter fun x => 1 * (x * x) % p == (qpow p a (p - 2) * b) % p := by
    intro b hb
    refine List.filter_congr fun x hx => ?_
    rw [Nat.one_mul, Bool.eq_iff_iff, beq_iff_eq, beq_iff_eq]
    constructor
    · intro h
      rw [← h, Nat.mul_mod_mod, ← Nat.mul_assoc, Nat.mul_comm (qpow p a (p - 2)) a, Nat.mul_mod (a * qpow p a (p - 2)) (x * x), hi, Nat.one_mul, Nat.mod_mod]
    · intro h
      rw [Nat.mul_mod a (x * x), h, ← Nat.mul_mod, ← Nat.mul_assoc, Nat.mul_mod (a * qpow p a (p - 2)) b, hi, Nat.one_mul, Nat.mod_mod, Nat.mod_eq_of_lt hb]
  have e2 : ∀ c, c < p → ((List.range p).filter fun x => 1 * (x * x) % p == c).length = (1 + 1 * chi p c).toNat := by
    intro c hc
    have := congrArg (fun l => l[c]?) b1
    simpa [qval, qtab, List.getElem?_range hc] using this
  have e3 : chi p (qpow p a (p - 2)) = chi p a := by
    have m := chi_mul Q a (qpow p a (p - 2))
    rw [← chi_mod p (a * _), hi] at m
    have one : chi p 1 = 1 := by
      have := chi_mul Q 1 1
      rcases chi_pm Q (a := 1) (by rw [Nat.mod_eq_of_lt (by omega)]; omega) with e | e
      · exact e
      · rw [Nat.one_mul, e] at this; omega
    rw [one] at m
    rcases chi_pm Q hap with e | e <;> rw [e] at m ⊢ <;> omega
  have key : ∀ e : Int, chi p a = e → qval p a = qtab p e := by
    intro e he
    unfold qval qtab
    refine List.map_congr_left fun b hb => ?_
    rw [List.mem_range] at hb
    rw [e1 b hb, e2 _ (Nat.mod_lt _ (by omega)), chi_mod, chi_mul Q, e3, he, Int.one_mul]
  rcases chi_pm Q hap with e | e
  · rw [if_pos e]; exact key 1 e
  · rw [if_neg (by omega)]; exact key (-1) e
theorem chi_fold {p g : Nat} (Q : QP p g) : ∀ (L : List Nat) (s t : Nat), chi p s = chi p t → (∀ a ∈ L, a % p ≠ 0) → chi p ((L.map fun a => decide (chi p a = 1)).foldl (fun t c => if c = true then t else t * g % p) s) = chi p (L.foldl (fun t a => t * a % p) t)
  | [], s, t, h, _ => h
  | a :: L, s, t, h, ha => by
    simp only [List.map_cons, List.foldl_cons]
    refine chi_fold Q L _ _ ?_ fun b hb => ha b (List.mem_cons_of_mem _ hb)
    rw [chi_mod, chi_mul Q t a, ← h]
    rcases chi_pm Q (ha a (by simp)) with e | e
    · rw [if_pos (by simp [e]), e, Int.mul_one]
    · rw [if_neg (by simp [e]), chi_mod, chi_mul Q, (qbase_parts Q.base).2.1, e]
/-- The table behind the factors L. -/
theorem qall {p g : Nat} (Q : QP p g) (L : List Nat) (hL : ∀ a ∈ L, 1 ≤ a ∧ a < p) (h1 : 1 ≤ L.length) (h4 : L.length ≤ 4) :
    ((L.foldl (fun u a => qconv p (qval p a) u) (qe0 p)).map fun (x : Nat) => (x : Int)) = ((List.range p).map fun b => qform p L.length (L.foldl (fun t a => t * a % p) 1) b) ∧ ∀ x ∈ L.foldl (fun u a => qconv p (qval p a) u) (qe0 p), x ≤ 1000000000 := by
  have hz : ∀ a ∈ L, a % p ≠ 0 := fun a ha => by have := hL a ha; rw [Nat.mod_eq_of_lt this.2]; omega
  have ef : ∀ (M : List Nat) (u : List Nat), (∀ a ∈ M, 1 ≤ a ∧ a < p) → M.foldl (fun u a => qconv p (qval p a) u) u = (M.map fun a => decide (chi p a = 1)).foldl (fun t c => qconv p (if c = true then qtab p 1 else qtab p (-1)) t) u := by
    intro M
    induction M with
    | nil => intro u _; rfl
    | cons a M ih =>
      intro u hM
      rw [List.map_cons, List.foldl_cons, List.foldl_cons, ih _ fun b hb => hM b (List.mem_cons_of_mem _ hb)]
      congr 2
      have := hM a (by simp)
      rw [qval_class Q this.2 (by omega)]
      by_cases e : chi p a = 1 <;> simp [e]
  rw [ef L _ hL]
  have cf := chi_fold Q L 1 1 rfl hz
  generalize hprod : L.foldl (fun t a => t * a % p) 1 = prod at cf ⊢
  match hcs : L.map fun a => decide (chi p a = 1) with
  | [] => rw [List.map_eq_nil_iff] at hcs; subst hcs; simp at h1
  | c :: cs =>
    have hl : L.length = (c :: cs).length := by rw [← hcs, List.length_map]
    have := qpath p g Q.chk c cs (by rw [List.length_cons] at hl; omega)
    rw [hcs] at cf
    rw [← hl] at this
    simp only [okrow, Bool.and_eq_true, beq_iff_eq, List.all_eq_true, Nat.ble_eq] at this
    refine ⟨this.1.trans (List.map_congr_left fun b _ => ?_), this.2⟩
    unfold qform
    simp only [chi_mul Q, cf]
theorem qp3 : QP 3 2 := ⟨by decide, by decide, by decide +kernel, by decide +kernel⟩
theorem qp5 : QP 5 2 := ⟨by decide, by decide, by decide +kernel, by decide +kernel⟩
theorem qp7 : QP 7 3 := ⟨by decide, by decide, by decide +kernel, by decide +kernel⟩
theorem qp11 : QP 11 2 := ⟨by decide, by decide, by decide +kernel, by decide +kernel⟩
theorem qp13 : QP 13 2 := ⟨by decide, by decide, by decide +kernel, by decide +kernel⟩
theorem qp17 : QP 17 3 := ⟨by decide, by decide, by decide +kernel, by decide +kernel⟩
theorem qp19 : QP 19 2 := ⟨by decide, by decide, by decide +kernel, by decide +kernel⟩
theorem qp23 : QP 23 5 := ⟨by decide, by decide, by decide +kernel, by decide +kernel⟩
theorem qp29 : QP 29 2 := ⟨by decide, by decide, by decide +kernel, by decide +kernel⟩
theorem qp31 : QP 31 3 := ⟨by decide, by decide, by decide +kernel, by decide +kernel⟩
theorem qp37 : QP 37 2 := ⟨by decide, by decide, by decide +kernel, by decide +kernel⟩
theorem qp41 : QP 41 6 := ⟨by decide, by decide, by decide +kernel, by decide +kernel⟩
theorem qp43 : QP 43 3 := ⟨by decide, by decide, by decide +kernel, by decide +kernel⟩
theorem qp47 : QP 47 5 := ⟨by decide, by decide, by decide +kernel, by decide +kernel⟩
theorem qp53 : QP 53 2 := ⟨by decide, by decide, by decide +kernel, by decide +kernel⟩
theorem qp59 : QP 59 2 := ⟨by decide, by decide, by decide +kernel, by decide +kernel⟩
theorem qp61 : QP 61 2 := ⟨by decide, by decide, by decide +kernel, by decide +kernel⟩
theorem qp_all {p : Int} (h : pr p = true) : ∃ g, QP p.toNat g := by
  rw [pr_iff] at h
  simp only [prs, List.mem_cons, List.not_mem_nil, or_false] at h
  rcases h with rfl | rfl | rfl | rfl | rfl | rfl | rfl | rfl | rfl | rfl | rfl | rfl | rfl | rfl | rfl | rfl | rfl
  · exact ⟨_, qp3⟩
  · exact ⟨_, qp5⟩
  · exact ⟨_, qp7⟩
  · exact ⟨_, qp11⟩
  · exact ⟨_, qp13⟩
  · exact ⟨_, qp17⟩
  · exact ⟨_, qp19⟩
  · exact ⟨_, qp23⟩
  · exact ⟨_, qp29⟩
  · exact ⟨_, qp31⟩
  · exact ⟨_, qp37⟩
  · exact ⟨_, qp41⟩
  · exact ⟨_, qp43⟩
  · exact ⟨_, qp47⟩
  · exact ⟨_, qp53⟩
  · exact ⟨_, qp59⟩
  · exact ⟨_, qp61⟩
theorem wrapT (s v q : Nat) (hs : s ≤ 1000) (hv : v ≤ 1000) : Int.tmod (wrap64 ((s : Int) + (v : Int))) (q : Int) = (((s + v) % q : Nat) : Int) := by
  rw [w64 (by omega) (by omega), Int.tmod_eq_emod_of_nonneg (by omega)]
  exact_mod_cast rfl
theorem rot_iff {q s v t : Nat} (hs : s < q) (hv : v < q) (ht : t < q) : (s + v) % q = t ↔ s = (t + q - v) % q := by
  have e1 : (s + v) % q = if s + v < q then s + v else s + v - q := by
    split
    · exact Nat.mod_eq_of_lt ‹_›
    · rw [Nat.mod_eq_sub_mod (by omega), Nat.mod_eq_of_lt (by omega)]
  have e2 : (t + q - v) % q = if t + q - v < q then t + q - v else t + q - v - q := by
    split
    · exact Nat.mod_eq_of_lt ‹_›
    · rw [Nat.mod_eq_sub_mod (by omega), Nat.mod_eq_of_lt (by omega)]
  rw [e1, e2]
  split <;> split <;> omega
theorem rdn (l : List Int) (i : Nat) : rd l (i : Int) = l.getD i 0 := by unfold rd; rw [Int.toNat_natCast]
theorem getD_set (l : List Int) (i j : Nat) (x : Int) (hi : i < l.length) : (l.set i x).getD j 0 = if i = j then x else l.getD j 0 := by
  rw [List.getD_eq_getElem?_getD, List.getElem?_set]
  by_cases c : i = j
  · rw [if_pos c, if_pos hi, if_pos c]; rfl
  · rw [if_neg c, if_neg c, List.getD_eq_getElem?_getD]
/-- The sum of a convolution. -/
def cvs (w m : List Int) (q t : Nat) : Nat → Nat → Int
  | 0, _ => 0
  | d + 1, j => w.getD j 0 * m.getD ((t + q - j) % q) 0 + cvs w m q t d (j + 1)
theorem cvs_nn (w m : List Int) (q t : Nat) (hw : ∀ j, 0 ≤ w.getD j 0) (hm : ∀ j, 0 ≤ m.getD j 0) : ∀ d j, 0 ≤ cvs w m q t d j
  | 0, _ => by unfold cvs; omega
  | d + 1, j => by unfold cvs; have := cvs_nn w m q t hw hm d (j + 1); have := Int.mul_nonneg (hw j) (hm ((t + q - j) % q)); omega
theorem sol_l2 (q : Nat) (hq : 3 ≤ q ∧ q ≤ 61) (L2 : List Int) (b fr : Int) (m : List Int) (hml : m.length = q) (hm : ∀ j, 0 ≤ m.getD j 0) (v : Nat) (hv : v < q) (n : Int) (hn : 0 ≤ n) (L1 : List Int) (x24 x25 : Int) (tab : List Int) (x40 : Int) :
    ∀ (d s : Nat) (nx : List Int), d + s = q → nx.length = q → (∀ t, t < q → 0 ≤ nx.getD t 0 ∧ nx.getD t 0 + (if s ≤ (t + q - v) % q then n * m.getD ((t + q - v) % q) 0 else 0) ≤ 4611686018427387904) →
    ∃ nx' : List Int, nx'.length = q ∧ (∀ t, t < q → nx'.getD t 0 = nx.getD t 0 + (if s ≤ (t + q - v) % q then n * m.getD ((t + q - v) % q) 0 else 0)) ∧
      ∀ r, Ev (fun k => impl_solutions.l1 k (q : Int) L2 b fr m nx' L1 x24 x25 tab x40 ((v + 1 : Nat) : Int)) r → Ev (fun k => impl_solutions.l2 k (q : Int) L2 b fr m nx (v : Int) n L1 x24 x25 tab x40 (v : Int) (m.length : Int) (s : Int)) r := by
  intro d
  induction d with
  | zero =>
    intro s nx hs hl hb
    refine ⟨nx, hl, fun t ht => ?_, fun r hr => Ev.step (fun k => ?_) hr⟩
    · have := Nat.mod_lt (t + q - v) (show 0 < q by omega)
      rw [if_neg (by omega), Int.add_zero]
    · simp only [impl_solutions.l2]
      rw [if_neg (by omega), w64 (x := (v : Int) + 1) (by omega) (by omega)]
      rfl
  | succ d ih =>
    intro s nx hs hl hb
    have hp : (s + v) % q < q := Nat.mod_lt _ (by omega)
    have hself : s = ((s + v) % q + q - v) % q := (rot_iff (by omega) hv hp).mp rfl
    have hB := hb _ hp
    rw [← hself, if_pos (Nat.le_refl _)] at hB
    have hnn := Int.mul_nonneg hn (hm s)
    have hset : ∀ t, t < q → (nx.set ((s + v) % q) (nx.getD ((s + v) % q) 0 + n * m.getD s 0)).getD t 0 + (if s + 1 ≤ (t + q - v) % q then n * m.getD ((t + q - v) % q) 0 else 0) = nx.getD t 0 + (if s ≤ (t + q - v) % q then n * m.getD ((t + q - v) % q) 0 else 0) := by
      intro t ht
      rw [getD_set _ _ _ _ (by omega)]
      have hi := rot_iff (s := s) (by omega) hv ht
      by_cases c : (s + v) % q = t
      · have hs2 := hi.mp c
        rw [if_pos c, if_neg (by omega), if_pos (by omega), ← hs2, c, Int.add_zero]
      · have hs2 : s ≠ (t + q - v) % q := fun h => c (hi.mpr h)
        rw [if_neg c]
        by_cases c2 : s ≤ (t + q - v) % q
        · rw [if_pos c2, if_pos (by omega)]
        · rw [if_neg c2, if_neg (by omega)]
    obtain ⟨nx', h1, h2, h3⟩ := ih (s + 1) (nx.set ((s + v) % q) (nx.getD ((s + v) % q) 0 + n * m.getD s 0)) (by omega) (by rw [List.length_set]; exact hl) (fun t ht => by
      refine ⟨?_, ?_⟩
      · rw [getD_set _ _ _ _ (by omega)]
        split
        · omega
        · exact (hb t ht).1
      · rw [hset t ht]; exact (hb t ht).2)
    refine ⟨nx', h1, fun t ht => by rw [h2 t ht, hset t ht], fun r hr => Ev.step (fun k => ?_) (h3 r hr)⟩
    simp only [impl_solutions.l2, wrapT s v q (by omega) (by omega), rdn]
    rw [if_pos (by omega), if_pos (by omega), if_pos (by omega), if_neg (by omega), if_pos (by omega), if_pos (by omega), Int.toNat_natCast, w64 (x := (s : Int) + 1) (by omega) (by omega), w64 (x := n * m.getD s 0) (by omega) (by omega), w64 (by omega) (by omega)]
    rfl
theorem sol_l1 (q : Nat) (hq : 3 ≤ q ∧ q ≤ 61) (L2 : List Int) (b fr : Int) (m : List Int) (hml : m.length = q) (hm : ∀ j, 0 ≤ m.getD j 0) (L1 : List Int) (x24 x25 : Int) (tab : List Int) (htl : tab.length = q) (ht0 : ∀ j, 0 ≤ tab.getD j 0) :
    ∀ (d v : Nat) (nx : List Int), d + v = q → nx.length = q → (∀ t, t < q → 0 ≤ nx.getD t 0 ∧ nx.getD t 0 + cvs tab m q t d v ≤ 4611686018427387904) →
    ∃ nx' : List Int, nx'.length = q ∧ (∀ t, t < q → nx'.getD t 0 = nx.getD t 0 + cvs tab m q t d v) ∧
      ∀ r, Ev (fun k => impl_solutions.l0 k (q : Int) L2 b fr nx' L1 x24 (wrap64 (x25 + 1))) r → Ev (fun k => impl_solutions.l1 k (q : Int) L2 b fr m nx L1 x24 x25 tab (tab.length : Int) (v : Int)) r := by
  intro d
  induction d with
  | zero =>
    intro v nx hv hl hb
    refine ⟨nx, hl, fun t ht => by unfold cvs; omega, fun r hr => Ev.step (fun k => ?_) hr⟩
    simp only [impl_solutions.l1]
    rw [if_neg (by omega)]
  | succ d ih =>
    intro v nx hv hl hb
    have ifnn : ∀ t, t < q → (if 0 ≤ (t + q - v) % q then tab.getD v 0 * m.getD ((t + q - v) % q) 0 else 0) = tab.getD v 0 * m.getD ((t + q - v) % q) 0 := fun t _ => if_pos (Nat.zero_le _)
    obtain ⟨n1, a1, a2, a3⟩ := sol_l2 q hq L2 b fr m hml hm v (by omega) (tab.getD v 0) (ht0 v) L1 x24 x25 tab (tab.length : Int) q 0 nx (by omega) hl (fun t ht => by
      have := hb t ht
      unfold cvs at this
      have nn := cvs_nn tab m q t ht0 hm d (v + 1)
      rw [ifnn t ht]
      omega)
    obtain ⟨n2, b1, b2, b3⟩ := ih (v + 1) n1 (by omega) a1 (fun t ht => by
      have := hb t ht
      unfold cvs at this
      have := Int.mul_nonneg (ht0 v) (hm ((t + q - v) % q))
      rw [a2 t ht, ifnn t ht]
      omega)
    refine ⟨n2, b1, fun t ht => ?_, fun r hr => Ev.step (fun k => ?_) (a3 r (b3 r hr))⟩
    · rw [b2 t ht, a2 t ht, ifnn t ht]
      conv => rhs; unfold cvs
      omega
    · simp only [impl_solutions.l1, rdn]
      rw [if_pos (by omega), if_pos (by omega), if_pos (by omega)]
      rfl
theorem cast_getD (u : List Nat) (j : Nat) : (u.map fun (x : Nat) => (x : Int)).getD j 0 = ((u.getD j 0 : Nat) : Int) := by
  rw [List.getD_eq_getElem?_getD, List.getD_eq_getElem?_getD, List.getElem?_map]
  cases u[j]? <;> rfl
theorem qrow_get (v : List Nat) (q t i : Nat) (hv : v.length = q) (ht : t < q) (hi : i < q) : (qrow v t).getD i 0 = v.getD ((t + q - i) % q) 0 := by
  unfold qrow
  have l1 : (v.take (t + 1)).reverse.length = t + 1 := by rw [List.length_reverse, List.length_take]; omega
  have l2 : (v.drop (t + 1)).length = q - (t + 1) := by rw [List.length_drop, hv]
  rw [List.getD_eq_getElem?_getD, List.getD_eq_getElem?_getD]
  by_cases c : i ≤ t
  · rw [List.getElem?_append_left (by omega), List.getElem?_reverse (by rw [List.length_take]; omega), List.length_take, List.getElem?_take, if_pos (by omega), Nat.mod_eq_sub_mod (by omega), Nat.mod_eq_of_lt (by omega)]
    congr 2
    omega
  · rw [List.getElem?_append_right (by omega), List.getElem?_reverse (by omega), l2, List.getElem?_drop, l1, Nat.mod_eq_of_lt (by omega)]
    congr 2
    omega
theorem qdot_cvs (q t : Nat) (ht : t < q) (v : List Nat) (hv : v.length = q) (w row : List Nat) (hrow : ∀ i, i < q → row.getD i 0 = v.getD ((t + q - i) % q) 0) (hw : w.length = q) (hr : row.length = q) : ∀ d j, d + j = q → ((qdot (w.drop j) (row.drop j) : Nat) : Int) = cvs (w.map fun (x : Nat) => (x : Int)) (v.map fun (x : Nat) => (x : Int)) q t d j
  | 0, j, h => by
    rw [List.drop_of_length_le (by omega)]
    simp [qdot, cvs]
  | d + 1, j, h => by
    have e1 := hrow j (by omega)
    rw [List.getD_eq_getElem?_getD, List.getElem?_eq_getElem (by omega)] at e1
    have e2 : w.getD j 0 = w[j]'(by omega) := by rw [List.getD_eq_getElem?_getD, List.getElem?_eq_getElem (by omega)]; rfl
    rw [List.drop_eq_getElem_cons (by omega : j < w.length), List.drop_eq_getElem_cons (by omega : j < row.length), qdot, cvs, cast_getD, cast_getD, ← qdot_cvs q t ht v hv w row hrow hw hr d (j + 1) (by omega), ← e1, e2]
    push_cast
    rfl
theorem qconv_len (p : Nat) (u v : List Nat) : (qconv p u v).length = p := by simp [qconv]
theorem qval_len (p a : Nat) : (qval p a).length = p := by simp [qval]
theorem qconv_get (q t : Nat) (ht : t < q) (w v : List Nat) (hw : w.length = q) (hv : v.length = q) : ((qconv q w v).map fun (x : Nat) => (x : Int)).getD t 0 = cvs (w.map fun (x : Nat) => (x : Int)) (v.map fun (x : Nat) => (x : Int)) q t q 0 := by
  have hr : (qrow v t).length = q := by unfold qrow; simp; omega
  have := qdot_cvs q t ht v hv w (qrow v t) (fun i hi => qrow_get v q t i hv ht hi) hw hr q 0 (by omega)
  rw [List.drop_zero, List.drop_zero] at this
  rw [← this, cast_getD]
  unfold qconv
  rw [List.getD_eq_getElem?_getD, List.getElem?_map, List.getElem?_range ht]
  rfl
theorem cast_nn (u : List Nat) (j : Nat) : 0 ≤ (u.map fun (x : Nat) => (x : Int)).getD j 0 := by rw [cast_getD]; omega
theorem ext_getD {l m : List Int} (h : l.length = m.length) (e : ∀ t, t < l.length → l.getD t 0 = m.getD t 0) : l = m := by
  refine List.ext_getElem h fun t h1 h2 => ?_
  have := e t h1
  rwa [List.getD_eq_getElem?_getD, List.getD_eq_getElem?_getD, List.getElem?_eq_getElem h1, List.getElem?_eq_getElem h2] at this
/-- The tables of a factor. -/
theorem vc_cast (q a : Nat) (hq : 0 < q) : vcount (q : Int) (a : Int) 2 q = (qval q a).map fun (x : Nat) => (x : Int) := by
  obtain ⟨g1, g2⟩ := vcount_get (q : Int) (a : Int) 2 q (by omega)
  rw [Int.toNat_natCast] at g1
  refine ext_getD (by rw [g1, List.length_map, qval_len]) fun t ht => ?_
  rw [g2 t (by omega), cast_getD]
  unfold qval vals1
  rw [List.getD_eq_getElem?_getD, List.getElem?_map, List.getElem?_range (by omega)]
  show _ = (((List.filter _ _).length : Nat) : Int)
  rw [List.count_eq_countP, List.countP_map, List.countP_eq_length_filter]
  congr 2
  refine List.filter_congr fun x hx => ?_
  show ((a : Int) * ((x : Int) ^ 2 % (q : Int)) % (q : Int) == (t : Int)) = _
  rw [Bool.eq_iff_iff, beq_iff_eq, beq_iff_eq]
  have : (a : Int) * ((x : Int) ^ 2 % (q : Int)) % (q : Int) = ((a * (x * x) % q : Nat) : Int) := by
    rw [Int.mul_emod, Int.emod_emod, ← Int.mul_emod, Int.natCast_emod, Int.natCast_mul, Int.natCast_mul, Int.pow_succ, Int.pow_succ, Int.pow_zero, Int.one_mul]
  rw [this]
  omega
theorem plist_get (p : Int) (k m i : Nat) (hi : i < m) : (plist p k m).getD i 0 = (i : Int) ^ k % p := by
  unfold plist
  rw [List.getD_eq_getElem?_getD, List.getElem?_map, List.getElem?_range hi]
  rfl
theorem ivc_l0 (p a : Int) (k : Nat) (hp : 3 ≤ p ∧ p ≤ 61) (ha : 1 ≤ a ∧ a < p) : ∀ (d i : Nat), (d : Int) + i = p → Ev (fun f => impl_valueCounts.l0 f p a (vcount p a k i) (plist p k p.toNat) ((plist p k p.toNat).length : Int) (i : Int)) (vcount p a k p.toNat) := by
  intro d
  induction d with
  | zero =>
    intro i hi
    refine Ev.step (f := fun _ => some (vcount p a k i)) (fun f => ?_) ?_
    · simp only [impl_valueCounts.l0]
      rw [if_neg (by rw [plist_len]; omega)]
    · rw [show p.toNat = i by omega]
      exact Ev.now _
  | succ d ih =>
    intro i hi
    have hm : 0 ≤ (i : Int) ^ k % p ∧ (i : Int) ^ k % p < p := ⟨Int.emod_nonneg _ (by omega), Int.emod_lt_of_pos _ (by omega)⟩
    have hb : 0 ≤ a * ((i : Int) ^ k % p) ∧ a * ((i : Int) ^ k % p) ≤ 61 * 61 := ⟨Int.mul_nonneg (by omega) hm.1, Int.mul_le_mul (by omega) (by omega) hm.1 (by omega)⟩
    have e1 : Int.tmod (wrap64 (a * ((i : Int) ^ k % p))) p = a * ((i : Int) ^ k % p) % p := by rw [w64 (by omega) (by omega), Int.tmod_eq_emod_of_nonneg hb.1]
    have hq : 0 ≤ a * ((i : Int) ^ k % p) % p ∧ a * ((i : Int) ^ k % p) % p < p := ⟨Int.emod_nonneg _ (by omega), Int.emod_lt_of_pos _ (by omega)⟩
    obtain ⟨g1, g2⟩ := vcount_get p a k i (by omega)
    have g3 := g2 (a * ((i : Int) ^ k % p) % p).toNat (by omega)
    have g4 : (vals1 p a k i).count (((a * ((i : Int) ^ k % p) % p).toNat : Nat) : Int) ≤ i := by have := List.count_le_length (a := (((a * ((i : Int) ^ k % p) % p).toNat : Nat) : Int)) (l := vals1 p a k i); rw [vals1_len] at this; exact this
    have e0 : rd (plist p k p.toNat) (i : Int) = (i : Int) ^ k % p := by rw [rdn, plist_get _ _ _ _ (by omega)]
    refine Ev.step (fun f => ?_) (ih (i + 1) (by omega))
    simp only [impl_valueCounts.l0, e0, e1, plist_len]
    rw [if_pos (by omega), if_pos (by omega), if_pos (by omega), if_neg (by omega), if_pos hq.1, if_pos (by omega), w64 (x := (i : Int) + 1) (by omega) (by omega), vcount_succ]
    unfold bump
    simp only [rd]
    rw [g3, w64 (by omega) (by omega)]
    rfl
theorem implValues (p a : Int) (k : Nat) (hp : 3 ≤ p ∧ p ≤ 61) (ha : 1 ≤ a ∧ a < p) (hk : k ≤ 60) : Ev (fun f => impl_valueCounts.f f p a (k : Int) 0) (vcount p a k p.toNat) := by
  unfold impl_valueCounts.f
  simp only [if_pos (show 0 ≤ p by omega), if_pos (show p.toNat ≤ 35184372088832 by omega)]
  refine Ev.bind (powersOf p k hp hk) ?_
  simp only [plist_len, if_pos (show (0 : Int) ≤ 0 by omega), if_pos (show (0 : Int) ≤ (p.toNat : Int) by omega), Option.bind_some]
  exact ivc_l0 p a k hp ha p.toNat 0 (by omega)
/-- The tables behind the first factors. -/
def qT (q : Nat) (L : List Nat) : List Nat := L.foldl (fun u a => qconv q (qval q a) u) (qe0 q)
theorem qT_len (q : Nat) (L : List Nat) : (qT q L).length = q := by
  unfold qT
  rcases List.eq_nil_or_concat L with rfl | ⟨l, a, rfl⟩
  · simp [qe0]
  · simp [List.concat_eq_append, qconv_len]
theorem sol_l0 {q g : Nat} (Q : QP q g) (L : List Int) (hL : ∀ a ∈ L, 1 ≤ a ∧ a < (q : Int)) (h4 : L.length ≤ 4) (b : Int) (hb : 0 ≤ b ∧ b < (q : Int)) : ∀ (d i : Nat), d + i = L.length →
    Ev (fun k => impl_solutions.l0 k (q : Int) (List.replicate L.length 2) b 0 ((qT q ((L.take i).map Int.toNat)).map fun (x : Nat) => (x : Int)) L (L.length : Int) (i : Int)) (((qT q (L.map Int.toNat)).map fun (x : Nat) => (x : Int)).getD b.toNat 0) := by
  have q2 := Q.two
  have q6 := Q.le
  intro d
  induction d with
  | zero =>
    intro i hi
    refine Ev.step (f := fun _ => some (((qT q (L.map Int.toNat)).map fun (x : Nat) => (x : Int)).getD b.toNat 0)) (fun k => ?_) (Ev.now _)
    simp only [impl_solutions.l0]
    rw [List.take_of_length_le (by omega), if_neg (by omega), if_pos (by omega), if_pos (by rw [List.length_map, qT_len]; omega)]
    rfl
  | succ d ih =>
    intro i hi
    have hi2 : i < L.length := by omega
    have hm := hL L[i] (List.getElem_mem hi2)
    have er : rd L (i : Int) = ((L[i].toNat : Nat) : Int) := by rw [rdn, List.getD_eq_getElem?_getD, List.getElem?_eq_getElem hi2]; show L[i] = _; omega
    have er2 : rd (List.replicate L.length 2) (i : Int) = ((2 : Nat) : Int) := by rw [rdn, List.getD_eq_getElem?_getD, List.getElem?_replicate, if_pos hi2]; rfl
    have eT : qT q ((L.take (i + 1)).map Int.toNat) = qconv q (qval q L[i].toNat) (qT q ((L.take i).map Int.toNat)) := by
      rw [List.take_succ_eq_append_getElem hi2, List.map_append]
      unfold qT
      rw [List.foldl_append]
      rfl
    have hall := (qall Q ((L.take (i + 1)).map Int.toNat) (fun a ha => by
      obtain ⟨c, hc, rfl⟩ := List.mem_map.mp ha
      have := hL c (List.mem_of_mem_take hc)
      omega) (by rw [List.length_map, List.length_take]; omega) (by rw [List.length_map, List.length_take]; omega)).2
    have hbd : ∀ t, t < q → cvs ((qval q L[i].toNat).map fun (x : Nat) => (x : Int)) ((qT q ((L.take i).map Int.toNat)).map fun (x : Nat) => (x : Int)) q t q 0 ≤ 1000000000 := by
      intro t ht
      rw [← qconv_get q t ht _ _ (qval_len _ _) (qT_len _ _), ← eT, cast_getD]
      have h3 : t < (qT q ((L.take (i + 1)).map Int.toNat)).length := by rw [qT_len]; exact ht
      have := hall _ (List.getElem_mem (l := qT q ((L.take (i + 1)).map Int.toNat)) h3)
      rw [List.getD_eq_getElem?_getD, List.getElem?_eq_getElem h3, Option.getD_some]
      omega
    obtain ⟨nx, n1, n2, n3⟩ := sol_l1 q ⟨by omega, q6⟩ (List.replicate L.length 2) b 0 ((qT q ((L.take i).map Int.toNat)).map fun (x : Nat) => (x : Int)) (by rw [List.length_map, qT_len]) (cast_nn _) L (L.length : Int) (i : Int) ((qval q L[i].toNat).map fun (x : Nat) => (x : Int)) (by rw [List.length_map, qval_len]) (cast_nn _) q 0 (List.replicate q 0) (by omega) (by simp) (fun t ht => by
      have := hbd t ht
      have e : (List.replicate q (0 : Int)).getD t 0 = 0 := by rw [List.getD_eq_getElem?_getD, List.getElem?_replicate, if_pos ht]; rfl
      rw [e]
      omega)
    have enx : nx = ((qT q ((L.take (i + 1)).map Int.toNat)).map fun (x : Nat) => (x : Int)) := by
      refine ext_getD (by rw [n1, List.length_map, qT_len]) fun t ht => ?_
      have e : (List.replicate q (0 : Int)).getD t 0 = 0 := by rw [List.getD_eq_getElem?_getD, List.getElem?_replicate, if_pos (by omega)]; rfl
      rw [n2 t (by omega), e, eT, qconv_get q t (by omega) _ _ (qval_len _ _) (qT_len _ _), Int.zero_add]
    have hr := ih (i + 1) (by omega)
    rw [← enx] at hr
    have hr2 := n3 _ (by rw [w64 (x := (i : Int) + 1) (by omega) (by omega)]; exact hr)
    refine Ev.step (f := fun k => (impl_valueCounts.f k (q : Int) ((L[i].toNat : Nat) : Int) ((2 : Nat) : Int) 0).bind fun t177 => impl_solutions.l1 k (q : Int) (List.replicate L.length 2) b 0 ((qT q ((L.take i).map Int.toNat)).map fun (x : Nat) => (x : Int)) (List.replicate q 0) L (L.length : Int) (i : Int) t177 (t177.length : Int) 0) (fun k => ?_) ?_
    · unfold impl_solutions.l0
      rw [er, er2, if_pos (by omega), if_pos (by omega), if_pos (by omega), if_pos (by omega), if_pos (by omega), if_pos (by simp; omega), Int.toNat_natCast]
    · refine Ev.bind (implValues (q : Int) ((L[i].toNat : Nat) : Int) 2 (by omega) (by omega) (by omega)) ?_
      rw [Int.toNat_natCast, vc_cast q L[i].toNat (by omega)]
      exact hr2
theorem solutions {q g : Nat} (Q : QP q g) (L : List Int) (hL : ∀ a ∈ L, 1 ≤ a ∧ a < (q : Int)) (h1 : 1 ≤ L.length) (h4 : L.length ≤ 4) (b : Int) (hb : 0 ≤ b ∧ b < (q : Int)) :
    Ev (fun k => impl_solutions.f k (q : Int) L (List.replicate L.length 2) b 0) (qform q L.length ((L.map Int.toNat).foldl (fun t a => t * a % q) 1) b.toNat) := by
  have q2 := Q.two
  have q6 := Q.le
  have h := sol_l0 Q L hL h4 b hb L.length 0 (by omega)
  have ha := (qall Q (L.map Int.toNat) (fun a ha => by
      obtain ⟨c, hc, rfl⟩ := List.mem_map.mp ha
      have := hL c hc
      omega) (by rw [List.length_map]; omega) (by rw [List.length_map]; omega)).1
  have e : ((qT q (L.map Int.toNat)).map fun (x : Nat) => (x : Int)).getD b.toNat 0 = qform q L.length ((L.map Int.toNat).foldl (fun t a => t * a % q) 1) b.toNat := by
    unfold qT
    rw [ha, List.getD_eq_getElem?_getD, List.getElem?_map, List.getElem?_range (by omega), List.length_map]
    rfl
  rw [e] at h
  have e0 : ((qT q ((L.take 0).map Int.toNat)).map fun (x : Nat) => (x : Int)) = (List.replicate q (0 : Int)).set 0 1 := by
    simp [qT, qe0, List.map_set]
  rw [e0] at h
  unfold impl_solutions.f
  simp only [if_pos (show (0 : Int) ≤ (q : Int) by omega), Int.toNat_natCast, if_pos (show q ≤ 35184372088832 by omega), Option.bind_some, List.length_replicate, if_pos (show (0 : Int) < (q : Int) by omega)]
  exact h
def okQ (p : Int) (L : List Int) (b : Int) : Bool := pr p && (decide (1 ≤ L.length ∧ L.length ≤ 4)) && (decide (0 ≤ b) && decide (b ≤ p - 1)) && L.all fun a => decide (1 ≤ a) && decide (a ≤ p - 1)
theorem eqn_l0 (p : Int) (hp : 3 ≤ p ∧ p ≤ 61) (L : List Int) (hl : L.length ≤ 4) : ∀ (d i : Nat), d + i = L.length → Ev (fun k => impl_isEquation.l0 k p (List.replicate L.length 2) L (L.length : Int) (i : Int)) ((L.drop i).all fun a => decide (1 ≤ a) && decide (a ≤ p - 1)) := by
  intro d
  induction d with
  | zero =>
    intro i hi
    refine Ev.step (f := fun _ => some true) (fun k => ?_) ?_
    · simp only [impl_isEquation.l0]
      rw [if_neg (by omega)]
    · rw [List.drop_of_length_le (by omega)]
      exact Ev.now _
  | succ d ih =>
    intro i hi
    have hi2 : i < L.length := by omega
    have er : rd L (i : Int) = L[i] := by rw [rdn, List.getD_eq_getElem?_getD, List.getElem?_eq_getElem hi2]; rfl
    have er2 : rd (List.replicate L.length 2) (i : Int) = 2 := by rw [rdn, List.getD_eq_getElem?_getD, List.getElem?_replicate, if_pos hi2]; rfl
    have e2 : impl_isExponent.f 2 = some true := by rw [isExp]; rfl
    rw [List.drop_eq_getElem_cons hi2, List.all_cons]
    cases c : decide (1 ≤ L[i]) && decide (L[i] ≤ p - 1) with
    | true =>
      rw [Bool.true_and]
      refine Ev.step (fun k => ?_) (ih (i + 1) (by omega))
      simp only [impl_isEquation.l0, er, er2, within_, w64 (x := p - 1) (by omega) (by omega), c, e2, Option.bind_some, if_true, List.length_replicate]
      rw [if_pos (by omega), if_pos (by omega), if_pos (by omega), if_pos (by omega), w64 (x := (i : Int) + 1) (by omega) (by omega)]
      rfl
    | false =>
      rw [Bool.false_and]
      refine Ev.step (f := fun _ => some false) (fun k => ?_) (Ev.now _)
      simp only [impl_isEquation.l0, er, within_, w64 (x := p - 1) (by omega) (by omega), c, Option.bind_some, Bool.false_eq_true, if_false]
      rw [if_pos (by omega), if_pos (by omega), if_pos (by omega)]
theorem isEquation_ (p : Int) (L : List Int) (b : Int) (h0 : -9223372036854775808 ≤ p) (h1 : p ≤ 9223372036854775807) (hl : L.length ≤ 1048576) : Ev (fun k => impl_isEquation.f k p L (List.replicate L.length 2) b) (okQ p L b) := by
  have bad : Ev (fun k => impl_isEquation.j0 k p L (List.replicate L.length 2) true) false := Ev.step (fun k => by simp only [impl_isEquation.j0, if_true] <;> rfl) (Ev.now _)
  unfold impl_isEquation.f
  refine Ev.bind (isPrime p h0 h1) ?_
  cases hp : pr p with
  | false => simp only [okQ, hp, Bool.false_and, Bool.false_eq_true, if_false]; exact bad
  | true =>
    have hb := pr_bd hp
    simp only [if_true]
    refine ev_bind_const (within_ _ _ _) ?_
    by_cases c : 1 ≤ L.length ∧ L.length ≤ 4
    · rw [show (decide ((1 : Int) ≤ (L.length : Int)) && decide ((L.length : Int) ≤ 4)) = true by simp; omega]
      simp only [if_true, List.length_replicate]
      refine ev_bind_const (within_ _ _ _) ?_
      rw [w64 (by omega) (by omega)]
      cases c2 : decide (0 ≤ b) && decide (b ≤ p - 1) with
      | false => simp only [okQ, hp, c2, Bool.not_false, Bool.and_false, Bool.false_and]; exact bad
      | true =>
        simp only [okQ, hp, c2, Bool.not_true, decide_eq_true c, Bool.true_and]
        refine Ev.step (fun k => by simp only [impl_isEquation.j0, Bool.false_eq_true, if_false] <;> rfl) ?_
        exact eqn_l0 p hb L c.2 L.length 0 (by omega)
    · rw [show (decide ((1 : Int) ≤ (L.length : Int)) && decide ((L.length : Int) ≤ 4)) = false by simp; omega]
      simp only [okQ, decide_eq_false c, Bool.and_false, Bool.false_and, Bool.false_eq_true, if_false]
      exact bad
theorem given_bad (p : Int) (L : List Int) (i : Int) : Ev (fun k => spec_l08Given.l0 k p L 2 i) 2 := by
  have h : Ev (fun k => spec_l08Given.j3 k p L 2 i false) 2 := Ev.step (fun k => by simp only [spec_l08Given.j3, Bool.false_eq_true, if_false] <;> rfl) (Ev.now _)
  by_cases c : i < (L.length : Int)
  · refine Ev.step (fun k => ?_) h
    simp only [spec_l08Given.l0, if_pos c]
    rfl
  · refine Ev.step (fun k => ?_) h
    simp only [spec_l08Given.l0, if_neg c]
theorem given_l0 (p : Int) (hp : 3 ≤ p ∧ p ≤ 61) (L : List Int) (hl : L.length ≤ 4) : ∀ (d i : Nat), d + i = L.length → Ev (fun k => spec_l08Given.l0 k p L 0 (i : Int)) (if (L.drop i).all (fun a => decide (1 ≤ a) && decide (a ≤ p - 1)) = true then 0 else 2) := by
  intro d
  induction d with
  | zero =>
    intro i hi
    rw [List.drop_of_length_le (by omega)]
    refine Ev.step (f := fun k => spec_l08Given.j3 k p L 0 (i : Int) false) (fun k => ?_) (Ev.step (f := fun _ => some 0) (fun k => ?_) (Ev.now _))
    · simp only [spec_l08Given.l0]
      rw [if_neg (by omega)]
    · simp only [spec_l08Given.j3, Bool.false_eq_true, if_false]
  | succ d ih =>
    intro i hi
    have hi2 : i < L.length := by omega
    have er : rd L (i : Int) = L[i] := by rw [rdn, List.getD_eq_getElem?_getD, List.getElem?_eq_getElem hi2]; rfl
    rw [List.drop_eq_getElem_cons hi2, List.all_cons]
    refine Ev.step (f := fun k => spec_l08Given.j3 k p L 0 (i : Int) true) (fun k => ?_) ?_
    · simp only [spec_l08Given.l0]
      rw [if_pos (by omega)]
      rfl
    cases c : decide (1 ≤ L[i]) && decide (L[i] ≤ p - 1) with
    | true =>
      rw [Bool.true_and]
      refine Ev.step (fun k => ?_) (ih (i + 1) (by omega))
      simp only [spec_l08Given.j3, er, l01In, w64 (x := p - 1) (by omega) (by omega), c, Option.bind_some, if_true]
      rw [if_pos (by omega), if_pos (by omega), w64 (x := (i : Int) + 1) (by omega) (by omega)]
      rfl
    | false =>
      rw [Bool.false_and]
      simp only [Bool.false_eq_true, if_false]
      refine Ev.step (fun k => ?_) (given_bad p L (wrap64 ((i : Int) + 1)))
      simp only [spec_l08Given.j3, er, l01In, w64 (x := p - 1) (by omega) (by omega), c, Option.bind_some, Bool.false_eq_true, if_false, if_true]
      rw [if_pos (by omega), if_pos (by omega)]
theorem code2_l0 (p : Int) (m : Nat) (hm : m ≤ 1000) : ∀ (d i : Nat), d + i = m → Ev (fun k => spec_l08Code.l0 k (List.replicate m 2) (i : Int)) 0 := by
  intro d
  induction d with
  | zero =>
    intro i hi
    refine Ev.step (f := fun _ => some 0) (fun k => ?_) (Ev.now _)
    simp only [spec_l08Code.l0, List.length_replicate]
    rw [if_neg (by omega)]
  | succ d ih =>
    intro i hi
    have er2 : rd (List.replicate m 2) (i : Int) = 2 := by rw [rdn, List.getD_eq_getElem?_getD, List.getElem?_replicate, if_pos (by omega)]; rfl
    refine Ev.step (fun k => ?_) (ih (i + 1) (by omega))
    simp only [spec_l08Code.l0, List.length_replicate, er2, l01In, Option.bind_some]
    rw [if_pos (by omega), if_pos (by omega), if_pos (by decide), w64 (x := (i : Int) + 1) (by omega) (by omega)]
    rfl
theorem code2 (p : Int) (m : Nat) (hm : m ≤ 1000) : Ev (fun f => spec_l08Code.f f p (List.replicate m 2)) (if pr p then 0 else 2) := by
  unfold spec_l08Code.f
  refine Ev.bind (l06Prime p) ?_
  cases pr p with
  | false => simp only [Bool.false_eq_true, if_false]; exact Ev.now _
  | true =>
    simp only [if_true]
    exact code2_l0 p m hm m 0 (by omega)
theorem l08Given_ (p : Int) (L : List Int) (b : Int) : Ev (fun k => spec_l08Given.f k p L (List.replicate (min L.length 5) 2) b) (if okQ p L b then 0 else 2) := by
  have bad1 : ∀ _ : Int, Ev (fun k => spec_l08Given.j1 k p L 2) 2 := fun _ => Ev.step (fun k => by simp only [spec_l08Given.j1] <;> rfl) (given_bad p L 0)
  have bad : ∀ c : Int, Ev (fun k => spec_l08Given.j0 k p L c true) 2 := fun c => Ev.step (fun k => by simp only [spec_l08Given.j0, if_true] <;> rfl) (bad1 0)
  have bad2 : Ev (fun k => spec_l08Given.j0 k p L 2 false) 2 := Ev.step (fun k => by simp only [spec_l08Given.j0, Bool.false_eq_true, if_false] <;> rfl) (bad1 0)
  unfold spec_l08Given.f
  refine Ev.bind (code2 p _ (by omega)) ?_
  cases hp : pr p with
  | false =>
    simp only [okQ, hp, Bool.false_and, Bool.false_eq_true, if_false, show ¬ (2 : Int) = 0 by decide]
    exact bad2
  | true =>
    have hb := pr_bd hp
    simp only [if_true]
    by_cases c : 1 ≤ L.length ∧ L.length ≤ 4
    · simp only [if_neg (show ¬ (L.length : Int) < 1 by omega), if_neg (show ¬ (L.length : Int) > 4 by omega), List.length_replicate, if_pos (show (L.length : Int) = ((min L.length 5 : Nat) : Int) by omega)]
      refine ev_bind_const (l01In _ _ _) ?_
      rw [w64 (by omega) (by omega)]
      cases c2 : decide (0 ≤ b) && decide (b ≤ p - 1) with
      | false => simp only [okQ, hp, c2, Bool.not_false, Bool.and_false, Bool.false_and, Bool.false_eq_true, if_false]; exact bad 0
      | true =>
        simp only [okQ, hp, c2, Bool.not_true, decide_eq_true c, Bool.true_and]
        refine Ev.step (fun k => by simp only [spec_l08Given.j0, Bool.false_eq_true, if_false] <;> rfl) ?_
        refine Ev.step (fun k => by simp only [spec_l08Given.j1] <;> rfl) ?_
        exact given_l0 p hb L c.2 L.length 0 (by omega)
    · simp only [okQ, decide_eq_false c, Bool.and_false, Bool.false_and, Bool.false_eq_true, if_false]
      by_cases c1 : (L.length : Int) < 1
      · simp only [if_pos c1]; exact bad 0
      · simp only [if_neg c1, if_pos (show (L.length : Int) > 4 by omega)]; exact bad 0
theorem square_ {q g : Nat} (Q : QP q g) (x : Int) (hx : -1000000000 ≤ x ∧ x ≤ 1000000000) : Ev (fun k => spec_l08Square.f k (q : Int) x) (chi q (x % (q : Int)).toNat) := by
  have q2 := Q.two
  have q6 := Q.le
  have h1 := Int.tmod_lt_of_pos x (show (0 : Int) < (q : Int) by omega)
  have h2 := Int.lt_tmod_of_pos x (show (0 : Int) < (q : Int) by omega)
  have e : Int.tmod (wrap64 ((Int.tmod x (q : Int)) + (q : Int))) (q : Int) = x % (q : Int) := by
    rw [w64 (by omega) (by omega), Int.tmod_eq_emod_of_nonneg (by omega), Int.add_emod_right, tmod_emod _ _ (by omega)]
  have y0 := Int.emod_nonneg x (show (q : Int) ≠ 0 by omega)
  have y1 := Int.emod_lt_of_pos x (show (0 : Int) < (q : Int) by omega)
  unfold spec_l08Square.f
  simp only [e, if_neg (show ¬ (q : Int) = 0 by omega)]
  obtain ⟨Y, hY⟩ : ∃ Y : Nat, x % (q : Int) = Y := ⟨(x % (q : Int)).toNat, by omega⟩
  rw [hY] at y0 y1 ⊢
  rw [Int.toNat_natCast]
  unfold chi
  by_cases c : Y = 0
  · subst c
    simp only [Nat.zero_mod, if_true]
    exact Ev.now _
  · rw [if_neg (by rw [Nat.mod_eq_of_lt (by omega)]; exact c), Nat.mod_eq_of_lt (by omega), qpow_eq q Y (by omega)]
    simp only [if_neg (show ¬ (Y : Int) = 0 by omega)]
    have eh : wrap64 (Int.tdiv (wrap64 ((q : Int) - 1)) 2) = (((q - 1) / 2 : Nat) : Int) := by
      rw [w64 (x := (q : Int) - 1) (by omega) (by omega), Int.tdiv_eq_ediv_of_nonneg (by omega), w64 (by omega) (by omega)]
      omega
    rw [eh]
    refine Ev.bind (l08Power (q : Int) (Y : Int) ((q - 1) / 2) (by omega) (by omega) (by omega) (by omega)) ?_
    rw [pow_nat _ _ _ (by omega) (by omega), Int.toNat_natCast, Int.toNat_natCast]
    by_cases c2 : Y ^ ((q - 1) / 2) % q = 1
    · rw [c2]; simp only [if_true, Int.natCast_one]; exact Ev.now _
    · simp only [if_neg c2, if_neg (show ¬ ((Y ^ ((q - 1) / 2) % q : Nat) : Int) = 1 by omega)]; exact Ev.now _
theorem sq_pos {q g : Nat} (Q : QP q g) (m : Nat) (hm : m ≤ 1000000) : Ev (fun k => spec_l08Square.f k (q : Int) (m : Int)) (chi q (1 * m)) := by
  have := square_ Q (m : Int) (by omega)
  rw [Nat.one_mul]
  rwa [← Int.natCast_emod, Int.toNat_natCast, chi_mod] at this
theorem sq_neg {q g : Nat} (Q : QP q g) (m : Nat) (hm : m ≤ 1000000) : Ev (fun k => spec_l08Square.f k (q : Int) (-(m : Int))) (chi q ((q - 1) * m)) := by
  have h := square_ Q (-(m : Int)) (by omega)
  have q2 := Q.two
  have e : (-(m : Int)) % (q : Int) = (((q - 1) * m % q : Nat) : Int) := by
    rw [Int.natCast_emod, Int.natCast_mul, show ((q - 1 : Nat) : Int) = (q : Int) - 1 by omega, Int.sub_mul, Int.one_mul, show (q : Int) * (m : Int) - (m : Int) = -(m : Int) + (q : Int) * (m : Int) by omega, Int.add_mul_emod_self_left]
  rwa [e, Int.toNat_natCast, chi_mod] at h
theorem chi_bd (p x : Nat) : -1 ≤ chi p x ∧ chi p x ≤ 1 := by
  unfold chi
  split
  · omega
  · split <;> omega
theorem qn_j3 {q g : Nat} (Q : QP q g) (n m b : Nat) (h1 : 1 ≤ n) (h4 : n ≤ 4) (hm : m < q) (hb : b < q) : Ev (fun k => spec_QuadricNumber.j3 k (q : Int) (b : Int) (n : Int) (m : Int) (if n / 2 % 2 = 1 then -1 else 1)) (qform q n m b, 0) := by
  have q2 := Q.two
  have q6 := Q.le
  have hmb : m * b ≤ 61 * 61 := Nat.mul_le_mul (by omega) (by omega)
  have hqq : (3 * 3 : Int) ≤ (q : Int) * (q : Int) ∧ (q : Int) * (q : Int) ≤ 61 * 61 := ⟨Int.mul_le_mul (by omega) (by omega) (by omega) (by omega), Int.mul_le_mul (by omega) (by omega) (by omega) (by omega)⟩
  have hqqq : (3 * 3 * 3 : Int) ≤ (q : Int) * (q : Int) * (q : Int) ∧ (q : Int) * (q : Int) * (q : Int) ≤ 61 * 61 * 61 := ⟨Int.mul_le_mul hqq.1 (by omega) (by omega) (by omega), Int.mul_le_mul hqq.2 (by omega) (by omega) (by omega)⟩
  have w2 : wrap64 ((q : Int) * (q : Int)) = (q : Int) * (q : Int) := w64 (by omega) (by omega)
  have w3 : wrap64 ((q : Int) * (q : Int) * (q : Int)) = (q : Int) * (q : Int) * (q : Int) := w64 (by omega) (by omega)
  have hc : ∀ x : Nat, -1 ≤ chi q x ∧ chi q x ≤ 1 := chi_bd q
  have p3 : (q : Int) ^ 3 = (q : Int) * (q : Int) * (q : Int) := by rw [Int.pow_succ, Int.pow_succ, Int.pow_succ, Int.pow_zero, Int.one_mul]
  have p2 : (q : Int) ^ 2 = (q : Int) * (q : Int) := by rw [Int.pow_succ, Int.pow_succ, Int.pow_zero, Int.one_mul]
  have p1 : (q : Int) ^ 1 = (q : Int) := by rw [Int.pow_succ, Int.pow_zero, Int.one_mul]
  have a10 : wrap64 ((1 : Int) - 1) = 0 := (w64 (by omega) (by omega)).trans (by decide)
  have a21 : wrap64 ((2 : Int) - 1) = 1 := (w64 (by omega) (by omega)).trans (by decide)
  have a32 : wrap64 ((3 : Int) - 1) = 2 := (w64 (by omega) (by omega)).trans (by decide)
  have a43 : wrap64 ((4 : Int) - 1) = 3 := (w64 (by omega) (by omega)).trans (by decide)
  have t1 : wrap64 (Int.tdiv (1 : Int) 2) = 0 := by rw [show Int.tdiv (1 : Int) 2 = 0 by decide]; exact w64 (by omega) (by omega)
  have t2 : wrap64 (Int.tdiv (2 : Int) 2) = 1 := by rw [show Int.tdiv (2 : Int) 2 = 1 by decide]; exact w64 (by omega) (by omega)
  have t3 : wrap64 (Int.tdiv (3 : Int) 2) = 1 := by rw [show Int.tdiv (3 : Int) 2 = 1 by decide]; exact w64 (by omega) (by omega)
  have t4 : wrap64 (Int.tdiv (4 : Int) 2) = 2 := by rw [show Int.tdiv (4 : Int) 2 = 2 by decide]; exact w64 (by omega) (by omega)
  have cast : ((m : Int) * (b : Int)) = ((m * b : Nat) : Int) := (Int.natCast_mul m b).symm
  rcases (show n = 1 ∨ n = 2 ∨ n = 3 ∨ n = 4 by omega) with rfl | rfl | rfl | rfl
  · rw [show (if 1 / 2 % 2 = 1 then (-1 : Int) else 1) = 1 from rfl, show ((1 : Nat) : Int) = 1 from rfl]
    have hs := sq_pos Q (m * b) (by omega)
    have e : qform q 1 m b = 1 + 1 * chi q (1 * (m * b)) := by simp [qform, p1]
    have hx := hc (1 * (m * b))
    rw [e]
    refine Ev.step (f := fun k => (spec_l08Square.f k (q : Int) ((m * b : Nat) : Int)).bind fun t => some (wrap64 (1 + wrap64 (1 * t)), 0)) (fun k => ?_) (Ev.bind hs ?_)
    · simp only [spec_QuadricNumber.j3, Option.bind_some, w2, w3, a10, t1]
      rw [if_pos (by decide), if_pos (by omega), if_pos (by simp), if_pos (by omega), if_pos (by simp)]
      have : wrap64 (wrap64 ((1) * (m : Int)) * (b : Int)) = ((m * b : Nat) : Int) := by
        rw [Int.one_mul, w64 (x := (m : Int)) (by omega) (by omega), cast, w64 (by omega) (by omega)]
      rw [this]
      rfl
    · rw [w64 (x := 1 * chi q (1 * (m * b))) (by omega) (by omega), w64 (by omega) (by omega)]
      exact Ev.now _
  · rw [show (if 2 / 2 % 2 = 1 then (-1 : Int) else 1) = -1 from rfl, show ((2 : Nat) : Int) = 2 from rfl]
    have hs := sq_neg Q m (by omega)
    have hx := hc ((q - 1) * m)
    have hvv : ∀ v : Int, (-1 ≤ v ∧ v ≤ 61) → -61 ≤ v * chi q ((q - 1) * m) ∧ v * chi q ((q - 1) * m) ≤ 61 := by
      intro v hv
      rcases (show chi q ((q - 1) * m) = -1 ∨ chi q ((q - 1) * m) = 0 ∨ chi q ((q - 1) * m) = 1 by omega) with e | e | e <;> rw [e] <;> omega
    by_cases hb0 : b = 0
    · subst hb0
      have e : qform q 2 m 0 = (q : Int) + ((q : Int) - 1) * chi q ((q - 1) * m) := by simp [qform, p1]
      rw [e]
      refine Ev.step (f := fun k => (spec_l08Square.f k (q : Int) (-(m : Int))).bind fun t => some (wrap64 ((q : Int) + wrap64 (wrap64 (wrap64 ((q : Int) - 1) * 1) * t)), 0)) (fun k => ?_) (Ev.bind hs ?_)
      · simp only [spec_QuadricNumber.j3, Option.bind_some, w2, w3, a21, t2, a10]
        rw [if_neg (by decide), if_pos (by decide), if_pos (by omega), if_pos (by simp), if_pos (by omega), if_pos (by simp)]
        have : wrap64 ((-1) * (m : Int)) = -(m : Int) := by
          rw [w64 (by omega) (by omega)]
          omega
        rw [this]
        rfl
      · have := hvv ((q : Int) - 1) (by omega)
        rw [w64 (x := (q : Int) - 1) (by omega) (by omega), Int.mul_one, w64 (x := (q : Int) - 1) (by omega) (by omega), w64 (x := ((q : Int) - 1) * chi q ((q - 1) * m)) (by omega) (by omega), w64 (by omega) (by omega)]
        exact Ev.now _
    · have e : qform q 2 m b = (q : Int) + (-1) * chi q ((q - 1) * m) := by simp [qform, hb0, p1]
      rw [e]
      refine Ev.step (f := fun k => (spec_l08Square.f k (q : Int) (-(m : Int))).bind fun t => some (wrap64 ((q : Int) + wrap64 (wrap64 ((-1) * 1) * t)), 0)) (fun k => ?_) (Ev.bind hs ?_)
      · simp only [spec_QuadricNumber.j3, Option.bind_some, w2, w3, a21, t2, a10]
        rw [if_neg (by decide), if_neg (by omega), if_pos (by omega), if_pos (by simp), if_pos (by omega), if_pos (by simp)]
        have : wrap64 ((-1) * (m : Int)) = -(m : Int) := by
          rw [w64 (by omega) (by omega)]
          omega
        rw [this]
        rfl
      · rw [show wrap64 ((-1) * 1) = -1 from (w64 (by omega) (by omega)).trans (by decide), w64 (x := (-1) * chi q ((q - 1) * m)) (by omega) (by omega), w64 (by omega) (by omega)]
        exact Ev.now _
  · rw [show (if 3 / 2 % 2 = 1 then (-1 : Int) else 1) = -1 from rfl, show ((3 : Nat) : Int) = 3 from rfl]
    have hs := sq_neg Q (m * b) (by omega)
    have e : qform q 3 m b = (q : Int) * (q : Int) + (q : Int) * chi q ((q - 1) * (m * b)) := by simp [qform, p1, p2, Nat.mul_assoc]
    have hx := hc ((q - 1) * (m * b))
    have hv : -61 ≤ (q : Int) * chi q ((q - 1) * (m * b)) ∧ (q : Int) * chi q ((q - 1) * (m * b)) ≤ 61 := by
      rcases (show chi q ((q - 1) * (m * b)) = -1 ∨ chi q ((q - 1) * (m * b)) = 0 ∨ chi q ((q - 1) * (m * b)) = 1 by omega) with e | e | e <;> rw [e] <;> omega
    rw [e]
    refine Ev.step (f := fun k => (spec_l08Square.f k (q : Int) (-((m * b : Nat) : Int))).bind fun t => some (wrap64 ((q : Int) * (q : Int) + wrap64 ((q : Int) * t)), 0)) (fun k => ?_) (Ev.bind hs ?_)
    · simp only [spec_QuadricNumber.j3, Option.bind_some, w2, w3, a32, t3]
      rw [if_pos (by decide), if_pos (by omega), if_pos (by simp), if_pos (by omega), if_pos (by simp)]
      have : wrap64 (wrap64 ((-1) * (m : Int)) * (b : Int)) = -((m * b : Nat) : Int) := by
        rw [w64 (x := -1 * (m : Int)) (by omega) (by omega), Int.mul_assoc, cast, w64 (by omega) (by omega)]
        omega
      rw [this]
      rfl
    · rw [w64 (x := (q : Int) * chi q ((q - 1) * (m * b))) (by omega) (by omega), w64 (by omega) (by omega)]
      exact Ev.now _
  · rw [show (if 4 / 2 % 2 = 1 then (-1 : Int) else 1) = 1 from rfl, show ((4 : Nat) : Int) = 4 from rfl]
    have hs := sq_pos Q m (by omega)
    have hx := hc (1 * m)
    have hvv : ∀ v : Int, (-61 * 61 ≤ v ∧ v ≤ 61 * 61) → -61 * 61 ≤ v * chi q (1 * m) ∧ v * chi q (1 * m) ≤ 61 * 61 := by
      intro v hv
      rcases (show chi q (1 * m) = -1 ∨ chi q (1 * m) = 0 ∨ chi q (1 * m) = 1 by omega) with e | e | e <;> rw [e] <;> omega
    by_cases hb0 : b = 0
    · subst hb0
      have e : qform q 4 m 0 = (q : Int) * (q : Int) * (q : Int) + ((q : Int) - 1) * (q : Int) * chi q (1 * m) := by simp [qform, p3, p1]
      have hqm : ((q : Int) - 1) * (q : Int) = (q : Int) * (q : Int) - (q : Int) := by rw [Int.sub_mul, Int.one_mul]
      rw [e]
      refine Ev.step (f := fun k => (spec_l08Square.f k (q : Int) (m : Int)).bind fun t => some (wrap64 ((q : Int) * (q : Int) * (q : Int) + wrap64 (wrap64 (wrap64 ((q : Int) - 1) * (q : Int)) * t)), 0)) (fun k => ?_) (Ev.bind hs ?_)
      · simp only [spec_QuadricNumber.j3, Option.bind_some, w2, w3, a43, t4, a21]
        rw [if_neg (by decide), if_pos (by decide), if_pos (by omega), if_pos (by simp), if_pos (by omega), if_pos (by simp)]
        have : wrap64 ((1) * (m : Int)) = (m : Int) := by
          rw [w64 (by omega) (by omega)]
          omega
        rw [this]
        rfl
      · have := hvv (((q : Int) - 1) * (q : Int)) (by omega)
        rw [w64 (x := (q : Int) - 1) (by omega) (by omega), w64 (x := ((q : Int) - 1) * (q : Int)) (by omega) (by omega), w64 (x := ((q : Int) - 1) * (q : Int) * chi q (1 * m)) (by omega) (by omega), w64 (by omega) (by omega)]
        exact Ev.now _
    · have e : qform q 4 m b = (q : Int) * (q : Int) * (q : Int) + (-1) * (q : Int) * chi q (1 * m) := by simp [qform, hb0, p3, p1]
      rw [e]
      refine Ev.step (f := fun k => (spec_l08Square.f k (q : Int) (m : Int)).bind fun t => some (wrap64 ((q : Int) * (q : Int) * (q : Int) + wrap64 (wrap64 ((-1) * (q : Int)) * t)), 0)) (fun k => ?_) (Ev.bind hs ?_)
      · simp only [spec_QuadricNumber.j3, Option.bind_some, w2, w3, a43, t4, a21]
        rw [if_neg (by decide), if_neg (by omega), if_pos (by omega), if_pos (by simp), if_pos (by omega), if_pos (by simp)]
        have : wrap64 ((1) * (m : Int)) = (m : Int) := by
          rw [w64 (by omega) (by omega)]
          omega
        rw [this]
        rfl
      · have := hvv ((-1) * (q : Int)) (by omega)
        rw [w64 (x := (-1) * (q : Int)) (by omega) (by omega), w64 (x := (-1) * (q : Int) * chi q (1 * m)) (by omega) (by omega), w64 (by omega) (by omega)]
        exact Ev.now _
theorem qn_l1 {q g : Nat} (Q : QP q g) (L : List Int) (hL : ∀ a ∈ L, 1 ≤ a ∧ a < (q : Int)) (h1 : 1 ≤ L.length) (h4 : L.length ≤ 4) (b : Nat) (hb : b < q) : ∀ (d i : Nat) (m : Nat), d + i = L.length → m < q →
    Ev (fun k => spec_QuadricNumber.l1 k (q : Int) L (b : Int) (L.length : Int) (m : Int) 1 (i : Int)) (qform q L.length (((L.drop i).map Int.toNat).foldl (fun t a => t * a % q) m) b, 0) := by
  have q2 := Q.two
  have q6 := Q.le
  intro d
  induction d with
  | zero =>
    intro i m hi hm
    have h := qn_j3 Q L.length m b h1 h4 hm hb
    rw [List.drop_of_length_le (by omega)]
    refine Ev.step (fun k => ?_) h
    simp only [spec_QuadricNumber.l1]
    rw [if_neg (by omega)]
    have e : Int.tmod (wrap64 (Int.tdiv (L.length : Int) 2)) 2 = ((L.length / 2 % 2 : Nat) : Int) := by
      rw [Int.tdiv_eq_ediv_of_nonneg (by omega), w64 (by omega) (by omega), Int.tmod_eq_emod_of_nonneg (by omega)]
      omega
    rw [e]
    by_cases c : L.length / 2 % 2 = 1
    · rw [if_pos (by omega), if_pos c]
    · rw [if_neg (by omega), if_neg c]
  | succ d ih =>
    intro i m hi hm
    have hi2 : i < L.length := by omega
    have hm2 := hL L[i] (List.getElem_mem hi2)
    have er : rd L (i : Int) = ((L[i].toNat : Nat) : Int) := by rw [rdn, List.getD_eq_getElem?_getD, List.getElem?_eq_getElem hi2]; show L[i] = _; omega
    have hmm : m * L[i].toNat ≤ 61 * 61 := Nat.mul_le_mul (by omega) (by omega)
    rw [List.drop_eq_getElem_cons hi2, List.map_cons, List.foldl_cons]
    refine Ev.step (fun k => ?_) (ih (i + 1) (m * L[i].toNat % q) (by omega) (Nat.mod_lt _ (by omega)))
    simp only [spec_QuadricNumber.l1, er]
    rw [if_pos (by omega), if_pos (by omega), if_pos (by omega), if_neg (by omega), ← Int.natCast_mul, w64 (x := ((m * L[i].toNat : Nat) : Int)) (by omega) (by omega), Int.tmod_eq_emod_of_nonneg (by omega), w64 (x := (i : Int) + 1) (by omega) (by omega), Int.natCast_emod]
    rfl
theorem qn_l0 (p : Int) (L : List Int) (b : Int) (r : Int × Int) (h : Ev (fun k => spec_QuadricNumber.j1 k p L b (List.replicate (min L.length 5) 2)) r) : ∀ (d i : Nat), d + i = min L.length 5 → Ev (fun k => spec_QuadricNumber.l0 k p L b (List.replicate i 2) (i : Int)) r := by
  intro d
  induction d with
  | zero =>
    intro i hi
    rw [← hi, Nat.zero_add] at h
    refine Ev.step (fun k => ?_) h
    simp only [spec_QuadricNumber.l0]
    by_cases c : (i : Int) < (L.length : Int)
    · rw [if_pos c, if_neg (by omega)]
    · rw [if_neg c]
  | succ d ih =>
    intro i hi
    have := ih (i + 1) (by omega)
    refine Ev.step (fun k => ?_) this
    simp only [spec_QuadricNumber.l0, List.length_replicate]
    rw [if_pos (by omega), if_pos (by omega), if_pos (by omega), w64 (x := (i : Int) + 1) (by omega) (by omega), List.replicate_succ']
    rfl
theorem FnExactQuadricNumber : laws_FnExactQuadricNumber.Pure := by
  intro p L b hp _ _ _ _
  apply Ev.rounds
  have hp2 := wf64 hp
  unfold laws_FnExactQuadricNumber.f
  by_cases hl : (L.length : Int) > 1048576
  · simp only [if_pos hl]; exact Ev.now _
  have hl2 : L.length ≤ 1048576 := by omega
  simp only [if_neg hl]
  have main : ∃ r, Ev (fun k => spec_QuadricNumber.f k p L b) r ∧ Ev (fun k => impl_QuadricNumber.f k p L b) r := by
    have rep : slices_Repeat_int64_int64.f [2] (L.length : Int) = some (List.replicate L.length 2) := by
      unfold slices_Repeat_int64_int64.f
      rw [if_pos ⟨rfl, by omega, by omega⟩, Int.toNat_natCast]
      rfl
    unfold spec_QuadricNumber.f impl_QuadricNumber.f impl_CountSolutions.f
    cases h : okQ p L b with
    | false =>
      refine ⟨(0, 2), qn_l0 p L b _ ?_ (min L.length 5) 0 (by omega), ev_bind_const rep (Ev.bind (a := ((0 : Int), (2 : Int))) (Ev.bind (isEquation_ p L b hp2.1 hp2.2 hl2) ?_) (Ev.now _))⟩
      · have g := l08Given_ p L b
        rw [h] at g
        refine Ev.step (fun k => by simp only [spec_QuadricNumber.j1] <;> rfl) (Ev.bind g ?_)
        simp only [Bool.false_eq_true, if_false, show ¬ (2 : Int) = 0 by decide]
        exact Ev.now _
      · rw [h]
        simp only [Bool.false_eq_true, if_false]
        exact Ev.now _
    | true =>
      have h' := h
      simp only [okQ, Bool.and_eq_true, decide_eq_true_eq, List.all_eq_true] at h
      obtain ⟨⟨⟨h1, h2⟩, h3⟩, h4⟩ := h
      have hb := pr_bd h1
      obtain ⟨g, Q⟩ := qp_all h1
      obtain ⟨q, rfl⟩ : ∃ q : Nat, p = q := ⟨p.toNat, by omega⟩
      obtain ⟨c, rfl⟩ : ∃ c : Nat, b = c := ⟨b.toNat, by omega⟩
      rw [Int.toNat_natCast] at Q
      have hL : ∀ a ∈ L, 1 ≤ a ∧ a < (q : Int) := fun a ha => by have := h4 a ha; omega
      refine ⟨(qform q L.length ((L.map Int.toNat).foldl (fun t a => t * a % q) 1) c, 0), qn_l0 _ L _ _ ?_ (min L.length 5) 0 (by omega), ev_bind_const rep (Ev.bind (a := (qform q L.length ((L.map Int.toNat).foldl (fun t a => t * a % q) 1) c, (0 : Int))) (Ev.bind (isEquation_ _ L _ hp2.1 hp2.2 hl2) ?_) (Ev.now _))⟩
      · have g := l08Given_ (q : Int) L (c : Int)
        rw [h'] at g
        refine Ev.step (fun k => by simp only [spec_QuadricNumber.j1] <;> rfl) (Ev.bind g ?_)
        simp only [if_true]
        exact qn_l1 Q L hL h2.1 h2.2 c (by omega) L.length 0 1 (by omega) (by have := Q.two; omega)
      · rw [h']
        simp only [if_true]
        have s := solutions Q L hL h2.1 h2.2 (c : Int) (by omega)
        rw [Int.toNat_natCast] at s
        exact Ev.bind s (Ev.now _)
  obtain ⟨r, r1, r2⟩ := main
  refine Ev.bind (toInts L hl2) (Ev.bind r1 (Ev.bind (toInts L hl2) (Ev.bind r2 ?_)))
  have ne : (r.2 != r.2) = false := by simp
  simp only [if_true, ne]
  refine Ev.step (fun k => by simp only [laws_FnExactQuadricNumber.j0, Bool.false_eq_true, if_false] <;> rfl) (Ev.bind (toInts L hl2) (Ev.bind (eqInts L L hl2) ?_))
  simp only [decide_true, if_true]
  exact Ev.now _
end Go.Proofs.Ytghlmdjedpnglaa.Pure
