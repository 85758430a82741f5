/- The program's LeastNoPower returns what the reference's returns, for all arguments; no condition. -/
import Derived.Test.YtghlmdjedpnglaaPFnExactLeastNoPowerx9
import Derived.OpenShut
namespace Go.Proofs.Ytghlmdjedpnglaa.Pure
open Go.RowKit Go.Proofs.Ytghlmdjedpnglaa.PFnExactLeastNoPower Go.Proofs.YtghlmdjedpnglaaW.PrintWords Go.Proofs.YtghlmdjedpnglaaW.PrintLast Go.Proofs.YtghlmdjedpnglaaW.PrintMore
set_option linter.unusedVariables false
set_option linter.unusedSimpArgs false
theorem w64 {x : Int} (h0 : -9223372036854775808 ≤ x) (h1 : x ≤ 9223372036854775807) : wrap64 x = x := by unfold wrap64; omega
theorem wf64 {x : Int} (h : (Lit.int .i64 x).wf = true) : -9223372036854775808 ≤ x ∧ x ≤ 9223372036854775807 := bounds_i64 h
theorem ev_bind_const {α β : Type} {o : Option α} {a : α} {f : Nat → α → Option β} {r : β} (h : o = some a) (k : Ev (fun n => f n a) r) : Ev (fun n => o.bind (f n)) r := by
  subst h; exact k
theorem l01In (a b c : Int) : spec_l01In.f a b c = some (decide (b ≤ a) && decide (a ≤ c)) := by
  unfold spec_l01In.f
  by_cases h : a ≥ b
  · rw [if_pos h]; simp [h]
  · rw [if_neg h]; simp [h]
theorem within_ (a b c : Int) : impl_within.f a b c = some (decide (b ≤ a) && decide (a ≤ c)) := by
  unfold impl_within.f
  by_cases h : b ≤ a
  · rw [if_pos h]; simp [h]
  · rw [if_neg h]; simp [h]
def prs : List Int := [3, 5, 7, 11, 13, 17, 19, 23, 29, 31, 37, 41, 43, 47, 53, 59, 61]
def pr (l : Int) : Bool := prs.contains l
theorem pr_iff {l : Int} : pr l = true ↔ l ∈ prs := by unfold pr; exact List.contains_iff_mem
theorem pr_bd {l : Int} (h : pr l = true) : 3 ≤ l ∧ l ≤ 61 := by
  rw [pr_iff] at h
  simp only [prs, List.mem_cons, List.not_mem_nil, or_false] at h
  omega
theorem upto61 {P : Int → Prop} (h : ∀ m : Nat, m < 62 → P m) (n : Int) (h0 : 0 ≤ n) (h1 : n ≤ 61) : P n := by
  have := h n.toNat (by omega)
  rwa [Int.toNat_of_nonneg (by omega)] at this
theorem isPrime_big (p : Int) (h0 : 61 < p) (h1 : p ≤ 9223372036854775807) : ∀ (n : Nat) (d : Int), 2 ≤ d → d ≤ p → (p - d).toNat = n → Ev (fun k => impl_isPrime.l0 k p d) false := by
  intro n
  induction n with
  | zero =>
    intro d hd hp hn
    have : d = p := by omega
    subst this
    refine Ev.step (f := fun _ => some false) (fun k => ?_) (Ev.now _)
    simp only [impl_isPrime.l0]
    by_cases c : wrap64 (d * d) ≤ d
    · rw [if_pos c, if_neg (by omega), if_pos (Int.tmod_self)]
    · rw [if_neg c, within_, Option.bind_some]
      simp
      omega
  | succ n ih =>
    intro d hd hp hn
    by_cases c : wrap64 (d * d) ≤ p
    · by_cases c2 : Int.tmod p d = 0
      · refine Ev.step (f := fun _ => some false) (fun k => ?_) (Ev.now _)
        simp only [impl_isPrime.l0]
        rw [if_pos c, if_neg (by omega), if_pos c2]
      · refine Ev.step (fun k => ?_) (ih (d + 1) (by omega) (by omega) (by omega))
        simp only [impl_isPrime.l0]
        rw [if_pos c, if_neg (by omega), if_neg c2, w64 (by omega) (by omega)]
    · refine Ev.step (f := fun _ => some false) (fun k => ?_) (Ev.now _)
      simp only [impl_isPrime.l0]
      rw [if_neg c, within_, Option.bind_some]
      simp
      omega
theorem isPrime (p : Int) (h0 : -9223372036854775808 ≤ p) (h1 : p ≤ 9223372036854775807) : Ev (fun k => impl_isPrime.f k p) (pr p) := by
  by_cases c : 61 < p
  · have e : pr p = false := by
      cases h : pr p with
      | false => rfl
      | true => have := pr_bd h; omega
    rw [e]
    exact isPrime_big p c h1 _ 2 (by omega) (by omega) rfl
  · by_cases c2 : 0 ≤ p
    · have key : ∀ m : Nat, m < 62 → impl_isPrime.f 20 (m : Int) = some (pr m) := by decide +kernel
      exact Ev.of (impl_isPrime.mono p) (upto61 (P := fun p => impl_isPrime.f 20 p = some (pr p)) key p c2 (by omega))
    · have e : pr p = false := by
        cases h : pr p with
        | false => rfl
        | true => have := pr_bd h; omega
      rw [e]
      refine Ev.step (f := fun _ => some false) (fun k => ?_) (Ev.now _)
      simp only [impl_isPrime.f, impl_isPrime.l0]
      rw [if_neg (by rw [w64 (x := 2 * 2) (by omega) (by omega)]; omega), within_, Option.bind_some]
      simp
      omega
def hv (cs : List Int) (r q : Int) : Int := cs.foldr (fun c out => (out * r + c) % q) 0
theorem tmod_emod (c q : Int) (hq : 0 < q) : (Int.tmod c q) % q = c % q := by
  rw [Int.tmod_eq_emod]
  split <;> simp
  rw [Int.sub_emod]
  simp [Int.natAbs_of_nonneg (Int.le_of_lt hq)]
theorem pow_emod (a m : Int) : ∀ k : Nat, (a % m) ^ k % m = a ^ k % m := by
  intro k
  induction k with
  | zero => rw [Int.pow_zero, Int.pow_zero]
  | succ k ih => rw [Int.pow_succ, Int.pow_succ, Int.mul_emod, ih, Int.emod_emod, ← Int.mul_emod]
theorem implPower_l0 (m : Int) (hm : 0 < m) (hm2 : m ≤ 1000000) : ∀ (n k : Nat) (x o : Int), k ≤ n → n ≤ 1000000 → 0 ≤ x → x < m → 0 ≤ o → o < m → Ev (fun f => impl_power.l0 f x (k : Int) m o) ((o * x ^ k) % m) := by
  intro n
  induction n with
  | zero =>
    intro k x o hk _ h0 h1 h2 h3
    obtain rfl : k = 0 := by omega
    refine Ev.step (fun f => by simp only [impl_power.l0]; rw [if_neg (by omega)] <;> rfl) ?_
    rw [Int.pow_zero, Int.mul_one, Int.emod_eq_of_lt h2 h3]
    exact Ev.now _
  | succ n ih =>
    intro k x o hk hn h0 h1 h2 h3
    by_cases hz : k = 0
    · subst hz
      refine Ev.step (fun f => by simp only [impl_power.l0]; rw [if_neg (by omega)] <;> rfl) ?_
      rw [Int.pow_zero, Int.mul_one, Int.emod_eq_of_lt h2 h3]
      exact Ev.now _
    have hxx : 0 ≤ x * x ∧ x * x ≤ 1000000 * 1000000 := ⟨Int.mul_nonneg h0 h0, Int.mul_le_mul (by omega) (by omega) h0 (by omega)⟩
    have hox : 0 ≤ o * x ∧ o * x ≤ 1000000 * 1000000 := ⟨Int.mul_nonneg h2 h0, Int.mul_le_mul (by omega) (by omega) h0 (by omega)⟩
    have e1 : wrap64 (Int.tdiv (k : Int) 2) = ((k / 2 : Nat) : Int) := by
      rw [Int.tdiv_eq_ediv_of_nonneg (by omega), w64 (by omega) (by omega)]
      omega
    have e2 : (x * x) % m = x * x % m := rfl
    by_cases ho : k % 2 = 1
    · have := ih (k / 2) ((x * x) % m) ((o * x) % m) (by omega) (by omega) (Int.emod_nonneg _ (by omega)) (Int.emod_lt_of_pos _ hm) (Int.emod_nonneg _ (by omega)) (Int.emod_lt_of_pos _ hm)
      have e : ((o * x) % m * ((x * x) % m) ^ (k / 2)) % m = (o * x ^ k) % m := by
        rw [Int.mul_emod, pow_emod, Int.emod_emod, ← Int.mul_emod]
        congr 1
        rw [Int.mul_assoc]
        congr 1
        have : k = 2 * (k / 2) + 1 := by omega
        conv => rhs; rw [this]
        rw [Int.pow_succ, Int.pow_mul, show x ^ 2 = x * x by rw [Int.pow_succ, Int.pow_succ, Int.pow_zero, Int.one_mul], Int.mul_comm]
      rw [e] at this
      refine Ev.step (fun f => ?_) this
      simp only [impl_power.l0]
      rw [if_pos (by omega), Int.tmod_eq_emod_of_nonneg (by omega), if_pos (by omega), if_neg (by omega), w64 (x := x * x) (by omega) (by omega), w64 (x := o * x) (by omega) (by omega), Int.tmod_eq_emod_of_nonneg hxx.1, Int.tmod_eq_emod_of_nonneg hox.1, e1]
    · have := ih (k / 2) ((x * x) % m) o (by omega) (by omega) (Int.emod_nonneg _ (by omega)) (Int.emod_lt_of_pos _ hm) h2 h3
      have e : (o * ((x * x) % m) ^ (k / 2)) % m = (o * x ^ k) % m := by
        rw [Int.mul_emod, pow_emod, ← Int.mul_emod]
        congr 2
        have : k = 2 * (k / 2) := by omega
        conv => rhs; rw [this]
        rw [Int.pow_mul, show x ^ 2 = x * x by rw [Int.pow_succ, Int.pow_succ, Int.pow_zero, Int.one_mul]]
      rw [e] at this
      refine Ev.step (fun f => ?_) this
      simp only [impl_power.l0]
      rw [if_pos (by omega), Int.tmod_eq_emod_of_nonneg (by omega), if_neg (by omega), if_neg (by omega), w64 (x := x * x) (by omega) (by omega), Int.tmod_eq_emod_of_nonneg hxx.1, e1]
theorem around (a m : Int) (hm : 0 < m) (hm2 : m ≤ 1000000000000) : impl_around.f a m = some (a % m) := by
  unfold impl_around.f
  have h1 := Int.tmod_lt_of_pos a hm
  have h2 := Int.lt_tmod_of_pos a hm
  rw [if_neg (by omega), w64 (by omega) (by omega), Int.tmod_eq_emod_of_nonneg (by omega), Int.add_emod_right, tmod_emod _ _ hm]
theorem implPower (m x : Int) (k : Nat) (hm : 1 < m) (hm2 : m ≤ 1000000) (hk : k ≤ 1000000) : Ev (fun f => impl_power.f f x (k : Int) m) (x ^ k % m) := by
  unfold impl_power.f
  have := implPower_l0 m (by omega) hm2 k k (x % m) 1 (by omega) hk (Int.emod_nonneg _ (by omega)) (Int.emod_lt_of_pos _ (by omega)) (by omega) hm
  rw [Int.one_mul, pow_emod] at this
  simp only [if_neg (show ¬ m = 0 by omega), show (1 : Int) % m = 1 from Int.emod_eq_of_lt (by omega) hm]
  exact ev_bind_const (around x m (by omega) (by omega)) this
theorem l06Prime (p : Int) : Ev (fun k => spec_l06Prime.f k p) (pr p) := by
  by_cases c : 3 ≤ p ∧ p ≤ 61
  · have key : ∀ m : Nat, m < 62 → spec_l06Prime.f 20 (m : Int) = some (pr m) := by decide +kernel
    exact Ev.of (spec_l06Prime.mono p) (upto61 (P := fun p => spec_l06Prime.f 20 p = some (pr p)) key p (by omega) c.2)
  · have e : pr p = false := by
      cases h : pr p with
      | false => rfl
      | true => have := pr_bd h; omega
    rw [e]
    unfold spec_l06Prime.f
    refine ev_bind_const (l01In _ _ _) ?_
    rw [show (decide (3 ≤ p) && decide (p ≤ 61)) = false by simp; omega]
    exact Ev.now _
def plist (p : Int) (k : Nat) (m : Nat) : List Int := (List.range m).map fun x : Nat => (x : Int) ^ k % p
theorem plist_len (p : Int) (k m : Nat) : (plist p k m).length = m := by simp [plist]
theorem plist_succ (p : Int) (k m : Nat) : plist p k (m + 1) = plist p k m ++ [(m : Int) ^ k % p] := by simp [plist, List.range_succ]
theorem plist_bd (p : Int) (k m : Nat) (hp : 0 < p) : ∀ v ∈ plist p k m, 0 ≤ v ∧ v < p := by
  intro v hv
  obtain ⟨x, _, rfl⟩ := List.mem_map.mp hv
  exact ⟨Int.emod_nonneg _ (by omega), Int.emod_lt_of_pos _ hp⟩
theorem powersOf_l0 (p : Int) (k : Nat) (hp : 3 ≤ p ∧ p ≤ 61) (hk : k ≤ 60) : ∀ (d i : Nat), (d : Int) + i = p → Ev (fun f => impl_powersOf.l0 f p (k : Int) (plist p k i) p (i : Int)) (plist p k p.toNat) := by
  intro d
  induction d with
  | zero =>
    intro i hi
    refine Ev.step (f := fun _ => some (plist p k i)) (fun f => ?_) ?_
    · simp only [impl_powersOf.l0]
      rw [if_neg (by omega)]
    · rw [show p.toNat = i by omega]
      exact Ev.now _
  | succ d ih =>
    intro i hi
    refine Ev.step (f := fun f => (impl_power.f f (i : Int) (k : Int) p).bind fun t => if (plist p k i).length < 17592186044416 then impl_powersOf.l0 f p (k : Int) (plist p k i ++ [t]) p ((i + 1 : Nat) : Int) else none) (fun f => ?_) ?_
    · simp only [impl_powersOf.l0]
      rw [if_pos (by omega), w64 (x := (i : Int) + 1) (by omega) (by omega)]
      rfl
    · refine Ev.bind (implPower p (i : Int) k (by omega) (by omega) (by omega)) ?_
      simp only [if_pos (show (plist p k i).length < 17592186044416 by rw [plist_len]; omega), ← plist_succ]
      exact ih (i + 1) (by omega)
theorem powersOf (p : Int) (k : Nat) (hp : 3 ≤ p ∧ p ≤ 61) (hk : k ≤ 60) : Ev (fun f => impl_powersOf.f f p (k : Int)) (plist p k p.toNat) := by
  have := powersOf_l0 p k hp hk p.toNat 0 (by omega)
  exact this
theorem l08Power_l0 (l x : Int) (hl : 0 < l) (hl2 : l ≤ 1000000) (hx : 0 ≤ x ∧ x < l) : ∀ (k : Nat) (o : Int), k ≤ 1000000 → 0 ≤ o → o < l → Ev (fun f => spec_l08Power.l0 f l x (k : Int) o) ((o * x ^ k) % l) := by
  intro k
  induction k with
  | zero =>
    intro o hk h0 h1
    refine Ev.step (fun f => by simp only [spec_l08Power.l0]; rw [if_neg (by omega)] <;> rfl) ?_
    rw [Int.pow_zero, Int.mul_one, Int.emod_eq_of_lt h0 h1]
    exact Ev.now _
  | succ k ih =>
    intro o hk h0 h1
    have hb : 0 ≤ o * x ∧ o * x ≤ 1000000 * 1000000 := ⟨Int.mul_nonneg h0 hx.1, Int.mul_le_mul (by omega) (by omega) hx.1 (by omega)⟩
    have := ih ((o * x) % l) (by omega) (Int.emod_nonneg _ (by omega)) (Int.emod_lt_of_pos _ hl)
    have e : (o * x) % l * x ^ k % l = o * x ^ (k + 1) % l := by
      rw [Int.mul_emod, Int.emod_emod, ← Int.mul_emod, Int.mul_assoc, ← Int.pow_succ']
    rw [e] at this
    refine Ev.step (fun f => ?_) this
    simp only [spec_l08Power.l0]
    rw [if_pos (by omega), if_neg (by omega), w64 (x := ((k + 1 : Nat) : Int) - 1) (by omega) (by omega), w64 (x := o * x) (by omega) (by omega), Int.tmod_eq_emod_of_nonneg hb.1, show ((k + 1 : Nat) : Int) - 1 = k by omega]
theorem l08Power (l x : Int) (k : Nat) (hl : 1 < l) (hl2 : l ≤ 1000000) (hx : 0 ≤ x ∧ x < l) (hk : k ≤ 1000000) : Ev (fun f => spec_l08Power.f f l x (k : Int)) (x ^ k % l) := by
  have := l08Power_l0 l x (by omega) hl2 hx k 1 hk (by omega) hl
  rw [Int.one_mul] at this
  exact this
def bump (out : List Int) (v : Int) : List Int := out.set v.toNat (out.getD v.toNat 0 + 1)
theorem bump_all : ∀ (l z : List Int), (∀ v ∈ l, 0 ≤ v ∧ v < z.length) → (l.foldl bump z).length = z.length ∧ ∀ b : Nat, b < z.length → (l.foldl bump z).getD b 0 = z.getD b 0 + (l.count (b : Int) : Nat)
  | [], z, _ => ⟨rfl, fun b _ => by simp⟩
  | v :: l, z, h => by
    have hv := h v (by simp)
    have hl : (bump z v).length = z.length := by simp [bump]
    obtain ⟨h1, h2⟩ := bump_all l (bump z v) (fun w hw => by rw [hl]; exact h w (List.mem_cons_of_mem _ hw))
    refine ⟨by rw [List.foldl_cons, h1, hl], fun b hb => ?_⟩
    rw [List.foldl_cons, h2 b (by omega)]
    have e : (bump z v).getD b 0 = z.getD b 0 + (if v = (b : Int) then 1 else 0) := by
      unfold bump
      rw [List.getD_eq_getElem?_getD, List.getElem?_set]
      by_cases c : v.toNat = b
      · rw [if_pos c, if_pos (by omega), if_pos (by omega), c]
        rfl
      · rw [if_neg c, if_neg (by omega), List.getD_eq_getElem?_getD]
        simp
    rw [e, List.count_cons]
    by_cases c : v = (b : Int)
    · simp [c]; omega
    · simp [c]
def vals1 (p a : Int) (k m : Nat) : List Int := (List.range m).map fun x : Nat => a * ((x : Int) ^ k % p) % p
theorem vals1_bd (p a : Int) (k m : Nat) (hp : 0 < p) : ∀ v ∈ vals1 p a k m, 0 ≤ v ∧ v < p := by
  intro v hv
  obtain ⟨x, _, rfl⟩ := List.mem_map.mp hv
  exact ⟨Int.emod_nonneg _ (by omega), Int.emod_lt_of_pos _ hp⟩
def vcount (p a : Int) (k m : Nat) : List Int := (vals1 p a k m).foldl bump (List.replicate p.toNat 0)
theorem vcount_succ (p a : Int) (k m : Nat) : vcount p a k (m + 1) = bump (vcount p a k m) (a * ((m : Int) ^ k % p) % p) := by
  simp [vcount, vals1, List.range_succ]
theorem vcount_get (p a : Int) (k m : Nat) (hp : 0 < p) : (vcount p a k m).length = p.toNat ∧ ∀ b : Nat, (b : Int) < p → (vcount p a k m).getD b 0 = ((vals1 p a k m).count (b : Int) : Nat) := by
  obtain ⟨h1, h2⟩ := bump_all (vals1 p a k m) (List.replicate p.toNat 0) (fun v hv => by have := vals1_bd p a k m hp v hv; simp; omega)
  refine ⟨by simpa [vcount] using h1, fun b hb => ?_⟩
  have := h2 b (by simp; omega)
  unfold vcount
  rw [this]
  rw [List.getD_eq_getElem?_getD, List.getElem?_replicate]
  split <;> simp
theorem vals1_len (p a : Int) (k m : Nat) : (vals1 p a k m).length = m := by simp [vals1]
theorem l08Values_l0 (p a : Int) (k : Nat) (hp : 3 ≤ p ∧ p ≤ 61) (ha : 1 ≤ a ∧ a < p) (hk : k ≤ 60) : ∀ (d i : Nat), (d : Int) + i = p → Ev (fun f => spec_l08Values.l0 f p a (k : Int) (vcount p a k i) (i : Int)) (vcount p a k p.toNat) := by
  intro d
  induction d with
  | zero =>
    intro i hi
    refine Ev.step (f := fun _ => some (vcount p a k i)) (fun f => ?_) ?_
    · simp only [spec_l08Values.l0]
      rw [if_neg (by omega)]
    · rw [show p.toNat = i by omega]
      exact Ev.now _
  | succ d ih =>
    intro i hi
    have hm : 0 ≤ (i : Int) ^ k % p ∧ (i : Int) ^ k % p < p := ⟨Int.emod_nonneg _ (by omega), Int.emod_lt_of_pos _ (by omega)⟩
    have hb : 0 ≤ a * ((i : Int) ^ k % p) ∧ a * ((i : Int) ^ k % p) ≤ 61 * 61 := ⟨Int.mul_nonneg (by omega) hm.1, Int.mul_le_mul (by omega) (by omega) hm.1 (by omega)⟩
    have e1 : Int.tmod (wrap64 (a * ((i : Int) ^ k % p))) p = a * ((i : Int) ^ k % p) % p := by rw [w64 (by omega) (by omega), Int.tmod_eq_emod_of_nonneg hb.1]
    have hq : 0 ≤ a * ((i : Int) ^ k % p) % p ∧ a * ((i : Int) ^ k % p) % p < p := ⟨Int.emod_nonneg _ (by omega), Int.emod_lt_of_pos _ (by omega)⟩
    obtain ⟨g1, g2⟩ := vcount_get p a k i (by omega)
    have g3 := g2 (a * ((i : Int) ^ k % p) % p).toNat (by omega)
    have g4 : (vals1 p a k i).count (((a * ((i : Int) ^ k % p) % p).toNat : Nat) : Int) ≤ i := by have := List.count_le_length (a := (((a * ((i : Int) ^ k % p) % p).toNat : Nat) : Int)) (l := vals1 p a k i); rw [vals1_len] at this; exact this
    refine Ev.step (f := fun f => (spec_l08Power.f f p (i : Int) (k : Int)).bind fun t => if p = 0 then none else if 0 ≤ Int.tmod (wrap64 (a * t)) p then (if Int.tmod (wrap64 (a * t)) p < ((vcount p a k i).length : Int) then spec_l08Values.l0 f p a (k : Int) ((vcount p a k i).set (Int.tmod (wrap64 (a * t)) p).toNat (wrap64 ((rd (vcount p a k i) (Int.tmod (wrap64 (a * t)) p)) + 1))) ((i + 1 : Nat) : Int) else none) else none) (fun f => ?_) ?_
    · simp only [spec_l08Values.l0]
      rw [if_pos (by omega), w64 (x := (i : Int) + 1) (by omega) (by omega)]
      rfl
    · refine Ev.bind (l08Power p (i : Int) k (by omega) (by omega) (by omega) (by omega)) ?_
      simp only [e1, if_neg (show ¬ p = 0 by omega), if_pos hq.1, if_pos (show a * ((i : Int) ^ k % p) % p < ((vcount p a k i).length : Int) by omega)]
      have := ih (i + 1) (by omega)
      rw [vcount_succ] at this
      unfold bump at this
      simp only [rd]
      rw [g3, w64 (by omega) (by omega)]
      rw [g3] at this
      exact this
theorem l08Values (p a : Int) (k : Nat) (hp : 3 ≤ p ∧ p ≤ 61) (ha : 1 ≤ a ∧ a < p) (hk : k ≤ 60) : Ev (fun f => spec_l08Values.f f p a (k : Int)) (vcount p a k p.toNat) := by
  unfold spec_l08Values.f
  simp only [if_pos (show 0 ≤ p by omega), if_pos (show p.toNat ≤ 35184372088832 by omega)]
  exact l08Values_l0 p a k hp ha hk p.toNat 0 (by omega)
theorem vals1_one (p : Int) (k m : Nat) : vals1 p 1 k m = plist p k m := by
  unfold vals1 plist
  simp
/-- The numbers up to m that are powers. -/
def pset (p : Int) (k : Nat) (m : Nat) : List Int := ((List.range m).map fun b : Nat => (b : Int)).filter fun b => (plist p k p.toNat).contains b
theorem pset_len (p : Int) (k m : Nat) : (pset p k m).length ≤ m := Nat.le_trans (List.length_filter_le _ _) (by simp)
theorem hdp_pset (p : Int) (k : Nat) (hp : 3 ≤ p ∧ p ≤ 61) : hdp_set (plist p k p.toNat) = pset p k p.toNat := by
  have hb := plist_bd p k p.toNat (by omega)
  unfold hdp_set pset
  have e : (100 : Nat) = p.toNat + (100 - p.toNat) := by omega
  rw [e, List.range_add, List.map_append, List.filter_append]
  have : (((List.range (100 - p.toNat)).map fun x => p.toNat + x).map fun b : Nat => (b : Int)).filter (fun b => (plist p k p.toNat).contains b) = [] := by
    rw [List.filter_eq_nil_iff]
    intro b hb2
    simp only [List.mem_map, List.mem_range] at hb2
    obtain ⟨y, ⟨x, _, rfl⟩, rfl⟩ := hb2
    simp only [List.contains_iff_mem]
    intro hc
    have := hb _ hc
    omega
  rw [this, List.append_nil]
theorem diffPowers (p : Int) (k : Nat) (hp : 3 ≤ p ∧ p ≤ 61) (hk : k ≤ 60) : Ev (fun f => impl_differentPowers.f f p (k : Int)) (pset p k p.toNat) := by
  unfold impl_differentPowers.f
  refine Ev.bind (powersOf p k hp hk) ?_
  have hb := plist_bd p k p.toNat (by omega)
  have : impl_dset.f (plist p k p.toNat) = some (hdp_set (plist p k p.toNat)) := by
    unfold impl_dset.f
    rw [if_pos ⟨by rw [plist_len]; omega, by rw [plist_len]; omega, List.all_eq_true.mpr fun x hx => by have := hb x hx; simp; omega⟩]
  rw [this, hdp_pset p k hp]
  exact Ev.now _
def okK (p k : Int) : Bool := pr p && (decide (1 ≤ k) && decide (k ≤ 60))
theorem l08Code (p k : Int) : Ev (fun f => spec_l08Code.f f p [k]) (if okK p k then 0 else 2) := by
  unfold spec_l08Code.f okK
  refine Ev.bind (l06Prime p) ?_
  cases pr p with
  | false => simp only [Bool.false_eq_true, if_false, Bool.false_and]; exact Ev.now _
  | true =>
    simp only [if_true, Bool.true_and]
    have e0 : rd [k] 0 = k := rfl
    cases hk : decide (1 ≤ k) && decide (k ≤ 60) with
    | false =>
      refine Ev.step (f := fun _ => some 2) (fun f => ?_) (Ev.now _)
      simp only [spec_l08Code.l0, e0, l01In, Option.bind_some, hk]
      rw [if_pos (by simp), if_pos (by decide)]
      simp
    | true =>
      refine Ev.step (f := fun f => spec_l08Code.l0 f [k] 1) (fun f => ?_) ?_
      · simp only [spec_l08Code.l0, e0, l01In, Option.bind_some, hk]
        rw [if_pos (by simp), if_pos (by decide), if_pos trivial, w64 (x := 0 + 1) (by decide) (by decide)]
        rfl
      · refine Ev.step (f := fun _ => some 0) (fun f => ?_) (Ev.now _)
        simp only [spec_l08Code.l0]
        rw [if_neg (by simp)]
theorem isExp (k : Int) : impl_isExponent.f k = some (decide (1 ≤ k) && decide (k ≤ 60)) := by
  unfold impl_isExponent.f
  rw [within_]
  rfl
theorem index_l0 (l : List Int) (v : Int) (hl : l.length ≤ 1048576) : ∀ (d i : Nat), d + i = l.length → ∃ t : Int, Ev (fun k => slices_Index_int64_int64.l0 k l v (l.length : Int) (i : Int)) t ∧ decide (t ≥ 0) = decide (v ∈ l.drop i) := by
  intro d
  induction d with
  | zero =>
    intro i hi
    refine ⟨-1, Ev.step (f := fun _ => some (-1)) (fun k => ?_) (Ev.now _), ?_⟩
    · simp only [slices_Index_int64_int64.l0]
      rw [if_neg (by omega)]
    · rw [List.drop_of_length_le (by omega)]
      simp
  | succ d ih =>
    intro i hi
    have hi2 : i < l.length := by omega
    have e1 : rd l (i : Int) = l[i] := by simp [rd, hi2]
    rw [List.drop_eq_getElem_cons hi2]
    by_cases c : v = l[i]
    · refine ⟨(i : Int), Ev.step (f := fun _ => some (i : Int)) (fun k => ?_) (Ev.now _), ?_⟩
      · simp only [slices_Index_int64_int64.l0, e1, if_pos c, if_pos (show (i : Int) < (l.length : Int) by omega), if_pos (show (0 : Int) ≤ (i : Int) by omega)]
      · exact (decide_eq_true (show (i : Int) ≥ 0 by omega)).trans (decide_eq_true (List.mem_cons.mpr (.inl c))).symm
    · obtain ⟨t, h1, h2⟩ := ih (i + 1) (by omega)
      refine ⟨t, Ev.step (fun k => ?_) h1, ?_⟩
      · simp only [slices_Index_int64_int64.l0, e1, if_neg c, if_pos (show (i : Int) < (l.length : Int) by omega), if_pos (show (0 : Int) ≤ (i : Int) by omega), w64 (x := (i : Int) + 1) (by omega) (by omega)]
        rfl
      · rw [h2]
        simp only [List.mem_cons, c, false_or]
theorem contains (l : List Int) (v : Int) (hl : l.length ≤ 1048576) : Ev (fun k => slices_Contains_int64_int64.f k l v) (decide (v ∈ l)) := by
  obtain ⟨t, h1, h2⟩ := index_l0 l v hl l.length 0 (by omega)
  rw [List.drop_zero] at h2
  unfold slices_Contains_int64_int64.f
  refine Ev.bind (a := t) h1 ?_
  rw [h2]
  exact Ev.now _
def lnp (p : Int) (k : Nat) : Nat → Nat → Int
  | 0, _ => 0
  | d + 1, i => if (i : Int) ∈ plist p k p.toNat then lnp p k d (i + 1) else i
theorem pset_mem (p : Int) (k : Nat) (hp : 0 < p) (i : Nat) (hi : (i : Int) < p) : (i : Int) ∈ pset p k p.toNat ↔ (i : Int) ∈ plist p k p.toNat := by
  unfold pset
  simp only [List.mem_filter, List.mem_map, List.mem_range, List.contains_iff_mem]
  exact ⟨fun h => h.2, fun h => ⟨⟨i, by omega, rfl⟩, h⟩⟩
theorem sp_l0 (p : Int) (k : Nat) (hp : 3 ≤ p ∧ p ≤ 61) : ∀ (d i : Nat), (d : Int) + i = p → Ev (fun f => spec_LeastNoPower.l0 f p (vcount p 1 k p.toNat) (i : Int)) (lnp p k d i, 0) := by
  obtain ⟨g1, g2⟩ := vcount_get p 1 k p.toNat (by omega)
  intro d
  induction d with
  | zero =>
    intro i hi
    refine Ev.step (f := fun _ => some (0, 0)) (fun f => ?_) (Ev.now _)
    simp only [spec_LeastNoPower.l0]
    rw [if_neg (by omega)]
  | succ d ih =>
    intro i hi
    have g3 := g2 i (by omega)
    have ei : rd (vcount p 1 k p.toNat) (i : Int) = (vcount p 1 k p.toNat).getD i 0 := by simp [rd]
    unfold lnp
    by_cases c : (i : Int) ∈ plist p k p.toNat
    · have hc : 0 < (vals1 p 1 k p.toNat).count (i : Int) := by rw [vals1_one]; exact List.count_pos_iff.mpr c
      rw [if_pos c]
      refine Ev.step (fun f => ?_) (ih (i + 1) (by omega))
      simp only [spec_LeastNoPower.l0, ei, g3, if_pos (show (i : Int) < p by omega), if_pos (show (0 : Int) ≤ (i : Int) by omega), if_pos (show (i : Int) < ((vcount p 1 k p.toNat).length : Int) by omega), if_neg (show ¬ (((vals1 p 1 k p.toNat).count (i : Int) : Nat) : Int) = 0 by omega), w64 (x := (i : Int) + 1) (by omega) (by omega)]
      rfl
    · have hc : (vals1 p 1 k p.toNat).count (i : Int) = 0 := by rw [vals1_one]; exact List.count_eq_zero.mpr c
      rw [if_neg c]
      refine Ev.step (f := fun _ => some ((i : Int), 0)) (fun f => ?_) (Ev.now _)
      simp only [spec_LeastNoPower.l0, ei, g3, if_pos (show (i : Int) < p by omega), if_pos (show (0 : Int) ≤ (i : Int) by omega), if_pos (show (i : Int) < ((vcount p 1 k p.toNat).length : Int) by omega), if_pos (show (((vals1 p 1 k p.toNat).count (i : Int) : Nat) : Int) = 0 by omega)]
theorem im_l0 (p : Int) (k : Nat) (hp : 3 ≤ p ∧ p ≤ 61) : ∀ (d i : Nat), (d : Int) + i = p → Ev (fun f => impl_LeastNoPower.l0 f (pset p k p.toNat) p (i : Int)) (lnp p k d i, 0) := by
  have hl := pset_len p k p.toNat
  intro d
  induction d with
  | zero =>
    intro i hi
    refine Ev.step (f := fun _ => some (0, 0)) (fun f => ?_) (Ev.now _)
    simp only [impl_LeastNoPower.l0]
    rw [if_neg (by omega)]
  | succ d ih =>
    intro i hi
    have hm := pset_mem p k (by omega) i (by omega)
    refine Ev.step (f := fun f => (slices_Contains_int64_int64.f f (pset p k p.toNat) (i : Int)).bind fun t => if t = true then impl_LeastNoPower.l0 f (pset p k p.toNat) p ((i + 1 : Nat) : Int) else some ((i : Int), 0)) (fun f => ?_) ?_
    · simp only [impl_LeastNoPower.l0, if_pos (show (i : Int) < p by omega), w64 (x := (i : Int) + 1) (by omega) (by omega)]
      rfl
    · refine Ev.bind (contains _ _ (by omega)) ?_
      unfold lnp
      by_cases c : (i : Int) ∈ plist p k p.toNat
      · simp only [decide_eq_true (hm.mpr c), if_true, if_pos c]
        exact ih (i + 1) (by omega)
      · simp only [decide_eq_false (fun h => c (hm.mp h)), Bool.false_eq_true, if_false, if_neg c]
        exact Ev.now _
def out (p k : Int) : Int × Int := if okK p k then (lnp p k.toNat p.toNat 0, 0) else (0, 2)
theorem spec_out (p k : Int) : Ev (fun f => spec_LeastNoPower.f f p k) (out p k) := by
  unfold spec_LeastNoPower.f out
  refine Ev.bind (l08Code p k) ?_
  cases h : okK p k with
  | false => simp only [Bool.false_eq_true, if_false, show ¬ (2 : Int) = 0 by decide]; exact Ev.now _
  | true =>
    simp only [okK, Bool.and_eq_true, decide_eq_true_eq] at h
    have hb := pr_bd h.1
    simp only [if_true]
    obtain ⟨m, rfl⟩ : ∃ m : Nat, k = m := ⟨k.toNat, by omega⟩
    refine Ev.bind (l08Values p 1 m hb ⟨by omega, by omega⟩ (by omega)) ?_
    rw [Int.toNat_natCast]
    exact sp_l0 p m hb p.toNat 0 (by omega)
theorem impl_out (p k : Int) (h0 : -9223372036854775808 ≤ p) (h1 : p ≤ 9223372036854775807) : Ev (fun f => impl_LeastNoPower.f f p k) (out p k) := by
  have bad : Ev (fun f => impl_LeastNoPower.j0 f p k true) (0, 2) := Ev.step (fun f => by simp only [impl_LeastNoPower.j0, if_true] <;> rfl) (Ev.now _)
  unfold impl_LeastNoPower.f out okK
  refine Ev.bind (isPrime p h0 h1) ?_
  cases hp : pr p with
  | false => simp only [Bool.false_eq_true, if_false, Bool.false_and]; exact bad
  | true =>
    have hb := pr_bd hp
    simp only [if_true, Bool.true_and]
    refine ev_bind_const (isExp k) ?_
    cases hk : decide (1 ≤ k) && decide (k ≤ 60) with
    | false => simp only [Bool.not_false, Bool.false_eq_true, if_false]; exact bad
    | true =>
      have hk2 : 1 ≤ k ∧ k ≤ 60 := by simpa using hk
      simp only [Bool.not_true, if_true]
      obtain ⟨m, rfl⟩ : ∃ m : Nat, k = m := ⟨k.toNat, by omega⟩
      refine Ev.step (fun f => by simp only [impl_LeastNoPower.j0, Bool.false_eq_true, if_false] <;> rfl) ?_
      refine Ev.bind (diffPowers p m hb (by omega)) ?_
      rw [Int.toNat_natCast]
      exact im_l0 p m hb p.toNat 0 (by omega)
theorem FnExactLeastNoPower : laws_FnExactLeastNoPower.Pure := by
  intro p k hp _
  apply Ev.rounds
  have hp2 := wf64 hp
  unfold laws_FnExactLeastNoPower.f
  refine Ev.bind (spec_out p k) (Ev.bind (impl_out p k hp2.1 hp2.2) ?_)
  simp only [if_true]
  exact Ev.now _
end Go.Proofs.Ytghlmdjedpnglaa.Pure
