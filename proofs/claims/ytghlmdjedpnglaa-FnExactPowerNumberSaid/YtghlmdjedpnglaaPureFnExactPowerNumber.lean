/- The program's PowerNumber returns what the reference's returns, for all arguments; no condition. -/
import Derived.Test.YtghlmdjedpnglaaPFnExactPowerNumberx12
import Derived.OpenShut
namespace Go.Proofs.Ytghlmdjedpnglaa.Pure
open Go.RowKit Go.Proofs.Ytghlmdjedpnglaa.PFnExactPowerNumber Go.Proofs.YtghlmdjedpnglaaW.PrintWords Go.Proofs.YtghlmdjedpnglaaW.PrintLast Go.Proofs.YtghlmdjedpnglaaW.PrintMore
set_option linter.unusedVariables false
set_option linter.unusedSimpArgs false
theorem w64 {x : Int} (h0 : -9223372036854775808 ≤ x) (h1 : x ≤ 9223372036854775807) : wrap64 x = x := by unfold wrap64; omega
theorem wf64 {x : Int} (h : (Lit.int .i64 x).wf = true) : -9223372036854775808 ≤ x ∧ x ≤ 9223372036854775807 := bounds_i64 h
theorem ev_bind_const {α β : Type} {o : Option α} {a : α} {f : Nat → α → Option β} {r : β} (h : o = some a) (k : Ev (fun n => f n a) r) : Ev (fun n => o.bind (f n)) r := by
  subst h; exact k
theorem l01In (a b c : Int) : spec_l01In.f a b c = some (decide (b ≤ a) && decide (a ≤ c)) := by
  unfold spec_l01In.f
  by_cases h : a ≥ b
  · rw [if_pos h]; simp [h]
  · rw [if_neg h]; simp [h]
theorem within_ (a b c : Int) : impl_within.f a b c = some (decide (b ≤ a) && decide (a ≤ c)) := by
  unfold impl_within.f
  by_cases h : b ≤ a
  · rw [if_pos h]; simp [h]
  · rw [if_neg h]; simp [h]
def prs : List Int := [3, 5, 7, 11, 13, 17, 19, 23, 29, 31, 37, 41, 43, 47, 53, 59, 61]
def pr (l : Int) : Bool := prs.contains l
theorem pr_iff {l : Int} : pr l = true ↔ l ∈ prs := by unfold pr; exact List.contains_iff_mem
theorem pr_bd {l : Int} (h : pr l = true) : 3 ≤ l ∧ l ≤ 61 := by
  rw [pr_iff] at h
  simp only [prs, List.mem_cons, List.not_mem_nil, or_false] at h
  omega
theorem upto61 {P : Int → Prop} (h : ∀ m : Nat, m < 62 → P m) (n : Int) (h0 : 0 ≤ n) (h1 : n ≤ 61) : P n := by
  have := h n.toNat (by omega)
  rwa [Int.toNat_of_nonneg (by omega)] at this
theorem isPrime_big (p : Int) (h0 : 61 < p) (h1 : p ≤ 9223372036854775807) : ∀ (n : Nat) (d : Int), 2 ≤ d → d ≤ p → (p - d).toNat = n → Ev (fun k => impl_isPrime.l0 k p d) false := by
  intro n
  induction n with
  | zero =>
    intro d hd hp hn
    have : d = p := by omega
    subst this
    refine Ev.step (f := fun _ => some false) (fun k => ?_) (Ev.now _)
    simp only [impl_isPrime.l0]
    by_cases c : wrap64 (d * d) ≤ d
    · rw [if_pos c, if_neg (by omega), if_pos (Int.tmod_self)]
    · rw [if_neg c, within_, Option.bind_some]
      simp
      omega
  | succ n ih =>
    intro d hd hp hn
    by_cases c : wrap64 (d * d) ≤ p
    · by_cases c2 : Int.tmod p d = 0
      · refine Ev.step (f := fun _ => some false) (fun k => ?_) (Ev.now _)
        simp only [impl_isPrime.l0]
        rw [if_pos c, if_neg (by omega), if_pos c2]
      · refine Ev.step (fun k => ?_) (ih (d + 1) (by omega) (by omega) (by omega))
        simp only [impl_isPrime.l0]
        rw [if_pos c, if_neg (by omega), if_neg c2, w64 (by omega) (by omega)]
    · refine Ev.step (f := fun _ => some false) (fun k => ?_) (Ev.now _)
      simp only [impl_isPrime.l0]
      rw [if_neg c, within_, Option.bind_some]
      simp
      omega
theorem isPrime (p : Int) (h0 : -9223372036854775808 ≤ p) (h1 : p ≤ 9223372036854775807) : Ev (fun k => impl_isPrime.f k p) (pr p) := by
  by_cases c : 61 < p
  · have e : pr p = false := by
      cases h : pr p with
      | false => rfl
      | true => have := pr_bd h; omega
    rw [e]
    exact isPrime_big p c h1 _ 2 (by omega) (by omega) rfl
  · by_cases c2 : 0 ≤ p
    · have key : ∀ m : Nat, m < 62 → impl_isPrime.f 20 (m : Int) = some (pr m) := by decide +kernel
      exact Ev.of (impl_isPrime.mono p) (upto61 (P := fun p => impl_isPrime.f 20 p = some (pr p)) key p c2 (by omega))
    · have e : pr p = false := by
        cases h : pr p with
        | false => rfl
        | true => have := pr_bd h; omega
      rw [e]
      refine Ev.step (f := fun _ => some false) (fun k => ?_) (Ev.now _)
      simp only [impl_isPrime.f, impl_isPrime.l0]
      rw [if_neg (by rw [w64 (x := 2 * 2) (by omega) (by omega)]; omega), within_, Option.bind_some]
      simp
      omega
def hv (cs : List Int) (r q : Int) : Int := cs.foldr (fun c out => (out * r + c) % q) 0
theorem tmod_emod (c q : Int) (hq : 0 < q) : (Int.tmod c q) % q = c % q := by
  rw [Int.tmod_eq_emod]
  split <;> simp
  rw [Int.sub_emod]
  simp [Int.natAbs_of_nonneg (Int.le_of_lt hq)]
theorem pow_emod (a m : Int) : ∀ k : Nat, (a % m) ^ k % m = a ^ k % m := by
  intro k
  induction k with
  | zero => rw [Int.pow_zero, Int.pow_zero]
  | succ k ih => rw [Int.pow_succ, Int.pow_succ, Int.mul_emod, ih, Int.emod_emod, ← Int.mul_emod]
theorem implPower_l0 (m : Int) (hm : 0 < m) (hm2 : m ≤ 1000000) : ∀ (n k : Nat) (x o : Int), k ≤ n → n ≤ 1000000 → 0 ≤ x → x < m → 0 ≤ o → o < m → Ev (fun f => impl_power.l0 f x (k : Int) m o) ((o * x ^ k) % m) := by
  intro n
  induction n with
  | zero =>
    intro k x o hk _ h0 h1 h2 h3
    obtain rfl : k = 0 := by omega
    refine Ev.step (fun f => by simp only [impl_power.l0]; rw [if_neg (by omega)] <;> rfl) ?_
    rw [Int.pow_zero, Int.mul_one, Int.emod_eq_of_lt h2 h3]
    exact Ev.now _
  | succ n ih =>
    intro k x o hk hn h0 h1 h2 h3
    by_cases hz : k = 0
    · subst hz
      refine Ev.step (fun f => by simp only [impl_power.l0]; rw [if_neg (by omega)] <;> rfl) ?_
      rw [Int.pow_zero, Int.mul_one, Int.emod_eq_of_lt h2 h3]
      exact Ev.now _
    have hxx : 0 ≤ x * x ∧ x * x ≤ 1000000 * 1000000 := ⟨Int.mul_nonneg h0 h0, Int.mul_le_mul (by omega) (by omega) h0 (by omega)⟩
    have hox : 0 ≤ o * x ∧ o * x ≤ 1000000 * 1000000 := ⟨Int.mul_nonneg h2 h0, Int.mul_le_mul (by omega) (by omega) h0 (by omega)⟩
    have e1 : wrap64 (Int.tdiv (k : Int) 2) = ((k / 2 : Nat) : Int) := by
      rw [Int.tdiv_eq_ediv_of_nonneg (by omega), w64 (by omega) (by omega)]
      omega
    have e2 : (x * x) % m = x * x % m := rfl
    by_cases ho : k % 2 = 1
    · have := ih (k / 2) ((x * x) % m) ((o * x) % m) (by omega) (by omega) (Int.emod_nonneg _ (by omega)) (Int.emod_lt_of_pos _ hm) (Int.emod_nonneg _ (by omega)) (Int.emod_lt_of_pos _ hm)
      have e : ((o * x) % m * ((x * x) % m) ^ (k / 2)) % m = (o * x ^ k) % m := by
        rw [Int.mul_emod, pow_emod, Int.emod_emod, ← Int.mul_emod]
        congr 1
        rw [Int.mul_assoc]
        congr 1
        have : k = 2 * (k / 2) + 1 := by omega
        conv => rhs; rw [this]
        rw [Int.pow_succ, Int.pow_mul, show x ^ 2 = x * x by rw [Int.pow_succ, Int.pow_succ, Int.pow_zero, Int.one_mul], Int.mul_comm]
      rw [e] at this
      refine Ev.step (fun f => ?_) this
      simp only [impl_power.l0]
      rw [if_pos (by omega), Int.tmod_eq_emod_of_nonneg (by omega), if_pos (by omega), if_neg (by omega), w64 (x := x * x) (by omega) (by omega), w64 (x := o * x) (by omega) (by omega), Int.tmod_eq_emod_of_nonneg hxx.1, Int.tmod_eq_emod_of_nonneg hox.1, e1]
    · have := ih (k / 2) ((x * x) % m) o (by omega) (by omega) (Int.emod_nonneg _ (by omega)) (Int.emod_lt_of_pos _ hm) h2 h3
      have e : (o * ((x * x) % m) ^ (k / 2)) % m = (o * x ^ k) % m := by
        rw [Int.mul_emod, pow_emod, ← Int.mul_emod]
        congr 2
        have : k = 2 * (k / 2) := by omega
        conv => rhs; rw [this]
        rw [Int.pow_mul, show x ^ 2 = x * x by rw [Int.pow_succ, Int.pow_succ, Int.pow_zero, Int.one_mul]]
      rw [e] at this
      refine Ev.step (fun f => ?_) this
      simp only [impl_power.l0]
      rw [if_pos (by omega), Int.tmod_eq_emod_of_nonneg (by omega), if_neg (by omega), if_neg (by omega), w64 (x := x * x) (by omega) (by omega), Int.tmod_eq_emod_of_nonneg hxx.1, e1]
theorem around (a m : Int) (hm : 0 < m) (hm2 : m ≤ 1000000000000) : impl_around.f a m = some (a % m) := by
  unfold impl_around.f
  have h1 := Int.tmod_lt_of_pos a hm
  have h2 := Int.lt_tmod_of_pos a hm
  rw [if_neg (by omega), w64 (by omega) (by omega), Int.tmod_eq_emod_of_nonneg (by omega), Int.add_emod_right, tmod_emod _ _ hm]
theorem implPower (m x : Int) (k : Nat) (hm : 1 < m) (hm2 : m ≤ 1000000) (hk : k ≤ 1000000) : Ev (fun f => impl_power.f f x (k : Int) m) (x ^ k % m) := by
  unfold impl_power.f
  have := implPower_l0 m (by omega) hm2 k k (x % m) 1 (by omega) hk (Int.emod_nonneg _ (by omega)) (Int.emod_lt_of_pos _ (by omega)) (by omega) hm
  rw [Int.one_mul, pow_emod] at this
  simp only [if_neg (show ¬ m = 0 by omega), show (1 : Int) % m = 1 from Int.emod_eq_of_lt (by omega) hm]
  exact ev_bind_const (around x m (by omega) (by omega)) this
theorem l06Prime (p : Int) : Ev (fun k => spec_l06Prime.f k p) (pr p) := by
  by_cases c : 3 ≤ p ∧ p ≤ 61
  · have key : ∀ m : Nat, m < 62 → spec_l06Prime.f 20 (m : Int) = some (pr m) := by decide +kernel
    exact Ev.of (spec_l06Prime.mono p) (upto61 (P := fun p => spec_l06Prime.f 20 p = some (pr p)) key p (by omega) c.2)
  · have e : pr p = false := by
      cases h : pr p with
      | false => rfl
      | true => have := pr_bd h; omega
    rw [e]
    unfold spec_l06Prime.f
    refine ev_bind_const (l01In _ _ _) ?_
    rw [show (decide (3 ≤ p) && decide (p ≤ 61)) = false by simp; omega]
    exact Ev.now _
theorem own01 (l : List Int) (hl : l.length ≤ 1000) : spec_l01Own.f l = some l := by
  unfold spec_l01Own.f
  simp only [Option.bind_some, List.nil_append, List.length_nil, Nat.zero_add]
  rw [if_pos (by omega)]
def plist (p : Int) (k : Nat) (m : Nat) : List Int := (List.range m).map fun x : Nat => (x : Int) ^ k % p
theorem plist_len (p : Int) (k m : Nat) : (plist p k m).length = m := by simp [plist]
theorem plist_succ (p : Int) (k m : Nat) : plist p k (m + 1) = plist p k m ++ [(m : Int) ^ k % p] := by simp [plist, List.range_succ]
theorem plist_bd (p : Int) (k m : Nat) (hp : 0 < p) : ∀ v ∈ plist p k m, 0 ≤ v ∧ v < p := by
  intro v hv
  obtain ⟨x, _, rfl⟩ := List.mem_map.mp hv
  exact ⟨Int.emod_nonneg _ (by omega), Int.emod_lt_of_pos _ hp⟩
theorem powersOf_l0 (p : Int) (k : Nat) (hp : 3 ≤ p ∧ p ≤ 61) (hk : k ≤ 60) : ∀ (d i : Nat), (d : Int) + i = p → Ev (fun f => impl_powersOf.l0 f p (k : Int) (plist p k i) p (i : Int)) (plist p k p.toNat) := by
  intro d
  induction d with
  | zero =>
    intro i hi
    refine Ev.step (f := fun _ => some (plist p k i)) (fun f => ?_) ?_
    · simp only [impl_powersOf.l0]
      rw [if_neg (by omega)]
    · rw [show p.toNat = i by omega]
      exact Ev.now _
  | succ d ih =>
    intro i hi
    refine Ev.step (f := fun f => (impl_power.f f (i : Int) (k : Int) p).bind fun t => if (plist p k i).length < 17592186044416 then impl_powersOf.l0 f p (k : Int) (plist p k i ++ [t]) p ((i + 1 : Nat) : Int) else none) (fun f => ?_) ?_
    · simp only [impl_powersOf.l0]
      rw [if_pos (by omega), w64 (x := (i : Int) + 1) (by omega) (by omega)]
      rfl
    · refine Ev.bind (implPower p (i : Int) k (by omega) (by omega) (by omega)) ?_
      simp only [if_pos (show (plist p k i).length < 17592186044416 by rw [plist_len]; omega), ← plist_succ]
      exact ih (i + 1) (by omega)
theorem powersOf (p : Int) (k : Nat) (hp : 3 ≤ p ∧ p ≤ 61) (hk : k ≤ 60) : Ev (fun f => impl_powersOf.f f p (k : Int)) (plist p k p.toNat) := by
  have := powersOf_l0 p k hp hk p.toNat 0 (by omega)
  exact this
theorem l08Power_l0 (l x : Int) (hl : 0 < l) (hl2 : l ≤ 1000000) (hx : 0 ≤ x ∧ x < l) : ∀ (k : Nat) (o : Int), k ≤ 1000000 → 0 ≤ o → o < l → Ev (fun f => spec_l08Power.l0 f l x (k : Int) o) ((o * x ^ k) % l) := by
  intro k
  induction k with
  | zero =>
    intro o hk h0 h1
    refine Ev.step (fun f => by simp only [spec_l08Power.l0]; rw [if_neg (by omega)] <;> rfl) ?_
    rw [Int.pow_zero, Int.mul_one, Int.emod_eq_of_lt h0 h1]
    exact Ev.now _
  | succ k ih =>
    intro o hk h0 h1
    have hb : 0 ≤ o * x ∧ o * x ≤ 1000000 * 1000000 := ⟨Int.mul_nonneg h0 hx.1, Int.mul_le_mul (by omega) (by omega) hx.1 (by omega)⟩
    have := ih ((o * x) % l) (by omega) (Int.emod_nonneg _ (by omega)) (Int.emod_lt_of_pos _ hl)
    have e : (o * x) % l * x ^ k % l = o * x ^ (k + 1) % l := by
      rw [Int.mul_emod, Int.emod_emod, ← Int.mul_emod, Int.mul_assoc, ← Int.pow_succ']
    rw [e] at this
    refine Ev.step (fun f => ?_) this
    simp only [spec_l08Power.l0]
    rw [if_pos (by omega), if_neg (by omega), w64 (x := ((k + 1 : Nat) : Int) - 1) (by omega) (by omega), w64 (x := o * x) (by omega) (by omega), Int.tmod_eq_emod_of_nonneg hb.1, show ((k + 1 : Nat) : Int) - 1 = k by omega]
theorem l08Power (l x : Int) (k : Nat) (hl : 1 < l) (hl2 : l ≤ 1000000) (hx : 0 ≤ x ∧ x < l) (hk : k ≤ 1000000) : Ev (fun f => spec_l08Power.f f l x (k : Int)) (x ^ k % l) := by
  have := l08Power_l0 l x (by omega) hl2 hx k 1 hk (by omega) hl
  rw [Int.one_mul] at this
  exact this
def bump (out : List Int) (v : Int) : List Int := out.set v.toNat (out.getD v.toNat 0 + 1)
theorem bump_all : ∀ (l z : List Int), (∀ v ∈ l, 0 ≤ v ∧ v < z.length) → (l.foldl bump z).length = z.length ∧ ∀ b : Nat, b < z.length → (l.foldl bump z).getD b 0 = z.getD b 0 + (l.count (b : Int) : Nat)
  | [], z, _ => ⟨rfl, fun b _ => by simp⟩
  | v :: l, z, h => by
    have hv := h v (by simp)
    have hl : (bump z v).length = z.length := by simp [bump]
    obtain ⟨h1, h2⟩ := bump_all l (bump z v) (fun w hw => by rw [hl]; exact h w (List.mem_cons_of_mem _ hw))
    refine ⟨by rw [List.foldl_cons, h1, hl], fun b hb => ?_⟩
    rw [List.foldl_cons, h2 b (by omega)]
    have e : (bump z v).getD b 0 = z.getD b 0 + (if v = (b : Int) then 1 else 0) := by
      unfold bump
      rw [List.getD_eq_getElem?_getD, List.getElem?_set]
      by_cases c : v.toNat = b
      · rw [if_pos c, if_pos (by omega), if_pos (by omega), c]
        rfl
      · rw [if_neg c, if_neg (by omega), List.getD_eq_getElem?_getD]
        simp
    rw [e, List.count_cons]
    by_cases c : v = (b : Int)
    · simp [c]; omega
    · simp [c]
def vals1 (p a : Int) (k m : Nat) : List Int := (List.range m).map fun x : Nat => a * ((x : Int) ^ k % p) % p
theorem vals1_bd (p a : Int) (k m : Nat) (hp : 0 < p) : ∀ v ∈ vals1 p a k m, 0 ≤ v ∧ v < p := by
  intro v hv
  obtain ⟨x, _, rfl⟩ := List.mem_map.mp hv
  exact ⟨Int.emod_nonneg _ (by omega), Int.emod_lt_of_pos _ hp⟩
def vcount (p a : Int) (k m : Nat) : List Int := (vals1 p a k m).foldl bump (List.replicate p.toNat 0)
theorem vcount_succ (p a : Int) (k m : Nat) : vcount p a k (m + 1) = bump (vcount p a k m) (a * ((m : Int) ^ k % p) % p) := by
  simp [vcount, vals1, List.range_succ]
theorem vcount_get (p a : Int) (k m : Nat) (hp : 0 < p) : (vcount p a k m).length = p.toNat ∧ ∀ b : Nat, (b : Int) < p → (vcount p a k m).getD b 0 = ((vals1 p a k m).count (b : Int) : Nat) := by
  obtain ⟨h1, h2⟩ := bump_all (vals1 p a k m) (List.replicate p.toNat 0) (fun v hv => by have := vals1_bd p a k m hp v hv; simp; omega)
  refine ⟨by simpa [vcount] using h1, fun b hb => ?_⟩
  have := h2 b (by simp; omega)
  unfold vcount
  rw [this]
  rw [List.getD_eq_getElem?_getD, List.getElem?_replicate]
  split <;> simp
theorem vals1_len (p a : Int) (k m : Nat) : (vals1 p a k m).length = m := by simp [vals1]
theorem l08Values_l0 (p a : Int) (k : Nat) (hp : 3 ≤ p ∧ p ≤ 61) (ha : 1 ≤ a ∧ a < p) (hk : k ≤ 60) : ∀ (d i : Nat), (d : Int) + i = p → Ev (fun f => spec_l08Values.l0 f p a (k : Int) (vcount p a k i) (i : Int)) (vcount p a k p.toNat) := by
  intro d
  induction d with
  | zero =>
    intro i hi
    refine Ev.step (f := fun _ => some (vcount p a k i)) (fun f => ?_) ?_
    · simp only [spec_l08Values.l0]
      rw [if_neg (by omega)]
    · rw [show p.toNat = i by omega]
      exact Ev.now _
  | succ d ih =>
    intro i hi
    have hm : 0 ≤ (i : Int) ^ k % p ∧ (i : Int) ^ k % p < p := ⟨Int.emod_nonneg _ (by omega), Int.emod_lt_of_pos _ (by omega)⟩
    have hb : 0 ≤ a * ((i : Int) ^ k % p) ∧ a * ((i : Int) ^ k % p) ≤ 61 * 61 := ⟨Int.mul_nonneg (by omega) hm.1, Int.mul_le_mul (by omega) (by omega) hm.1 (by omega)⟩
    have e1 : Int.tmod (wrap64 (a * ((i : Int) ^ k % p))) p = a * ((i : Int) ^ k % p) % p := by rw [w64 (by omega) (by omega), Int.tmod_eq_emod_of_nonneg hb.1]
    have hq : 0 ≤ a * ((i : Int) ^ k % p) % p ∧ a * ((i : Int) ^ k % p) % p < p := ⟨Int.emod_nonneg _ (by omega), Int.emod_lt_of_pos _ (by omega)⟩
    obtain ⟨g1, g2⟩ := vcount_get p a k i (by omega)
    have g3 := g2 (a * ((i : Int) ^ k % p) % p).toNat (by omega)
    have g4 : (vals1 p a k i).count (((a * ((i : Int) ^ k % p) % p).toNat : Nat) : Int) ≤ i := by have := List.count_le_length (a := (((a * ((i : Int) ^ k % p) % p).toNat : Nat) : Int)) (l := vals1 p a k i); rw [vals1_len] at this; exact this
    refine Ev.step (f := fun f => (spec_l08Power.f f p (i : Int) (k : Int)).bind fun t => if p = 0 then none else if 0 ≤ Int.tmod (wrap64 (a * t)) p then (if Int.tmod (wrap64 (a * t)) p < ((vcount p a k i).length : Int) then spec_l08Values.l0 f p a (k : Int) ((vcount p a k i).set (Int.tmod (wrap64 (a * t)) p).toNat (wrap64 ((rd (vcount p a k i) (Int.tmod (wrap64 (a * t)) p)) + 1))) ((i + 1 : Nat) : Int) else none) else none) (fun f => ?_) ?_
    · simp only [spec_l08Values.l0]
      rw [if_pos (by omega), w64 (x := (i : Int) + 1) (by omega) (by omega)]
      rfl
    · refine Ev.bind (l08Power p (i : Int) k (by omega) (by omega) (by omega) (by omega)) ?_
      simp only [e1, if_neg (show ¬ p = 0 by omega), if_pos hq.1, if_pos (show a * ((i : Int) ^ k % p) % p < ((vcount p a k i).length : Int) by omega)]
      have := ih (i + 1) (by omega)
      rw [vcount_succ] at this
      unfold bump at this
      simp only [rd]
      rw [g3, w64 (by omega) (by omega)]
      rw [g3] at this
      exact this
theorem l08Values (p a : Int) (k : Nat) (hp : 3 ≤ p ∧ p ≤ 61) (ha : 1 ≤ a ∧ a < p) (hk : k ≤ 60) : Ev (fun f => spec_l08Values.f f p a (k : Int)) (vcount p a k p.toNat) := by
  unfold spec_l08Values.f
  simp only [if_pos (show 0 ≤ p by omega), if_pos (show p.toNat ≤ 35184372088832 by omega)]
  exact l08Values_l0 p a k hp ha hk p.toNat 0 (by omega)
theorem vals1_one (p : Int) (k m : Nat) : vals1 p 1 k m = plist p k m := by
  unfold vals1 plist
  simp
/-- The numbers up to m that are powers. -/
def pset (p : Int) (k : Nat) (m : Nat) : List Int := ((List.range m).map fun b : Nat => (b : Int)).filter fun b => (plist p k p.toNat).contains b
theorem pset_len (p : Int) (k m : Nat) : (pset p k m).length ≤ m := Nat.le_trans (List.length_filter_le _ _) (by simp)
theorem hdp_pset (p : Int) (k : Nat) (hp : 3 ≤ p ∧ p ≤ 61) : hdp_set (plist p k p.toNat) = pset p k p.toNat := by
  have hb := plist_bd p k p.toNat (by omega)
  unfold hdp_set pset
  have e : (100 : Nat) = p.toNat + (100 - p.toNat) := by omega
  rw [e, List.range_add, List.map_append, List.filter_append]
  have : (((List.range (100 - p.toNat)).map fun x => p.toNat + x).map fun b : Nat => (b : Int)).filter (fun b => (plist p k p.toNat).contains b) = [] := by
    rw [List.filter_eq_nil_iff]
    intro b hb2
    simp only [List.mem_map, List.mem_range] at hb2
    obtain ⟨y, ⟨x, _, rfl⟩, rfl⟩ := hb2
    simp only [List.contains_iff_mem]
    intro hc
    have := hb _ hc
    omega
  rw [this, List.append_nil]
theorem diffPowers (p : Int) (k : Nat) (hp : 3 ≤ p ∧ p ≤ 61) (hk : k ≤ 60) : Ev (fun f => impl_differentPowers.f f p (k : Int)) (pset p k p.toNat) := by
  unfold impl_differentPowers.f
  refine Ev.bind (powersOf p k hp hk) ?_
  have hb := plist_bd p k p.toNat (by omega)
  have : impl_dset.f (plist p k p.toNat) = some (hdp_set (plist p k p.toNat)) := by
    unfold impl_dset.f
    rw [if_pos ⟨by rw [plist_len]; omega, by rw [plist_len]; omega, List.all_eq_true.mpr fun x hx => by have := hb x hx; simp; omega⟩]
  rw [this, hdp_pset p k hp]
  exact Ev.now _
def okK (p k : Int) : Bool := pr p && (decide (1 ≤ k) && decide (k ≤ 60))
theorem l08Code (p k : Int) : Ev (fun f => spec_l08Code.f f p [k]) (if okK p k then 0 else 2) := by
  unfold spec_l08Code.f okK
  refine Ev.bind (l06Prime p) ?_
  cases pr p with
  | false => simp only [Bool.false_eq_true, if_false, Bool.false_and]; exact Ev.now _
  | true =>
    simp only [if_true, Bool.true_and]
    have e0 : rd [k] 0 = k := rfl
    cases hk : decide (1 ≤ k) && decide (k ≤ 60) with
    | false =>
      refine Ev.step (f := fun _ => some 2) (fun f => ?_) (Ev.now _)
      simp only [spec_l08Code.l0, e0, l01In, Option.bind_some, hk]
      rw [if_pos (by simp), if_pos (by decide)]
      simp
    | true =>
      refine Ev.step (f := fun f => spec_l08Code.l0 f [k] 1) (fun f => ?_) ?_
      · simp only [spec_l08Code.l0, e0, l01In, Option.bind_some, hk]
        rw [if_pos (by simp), if_pos (by decide), if_pos trivial, w64 (x := 0 + 1) (by decide) (by decide)]
        rfl
      · refine Ev.step (f := fun _ => some 0) (fun f => ?_) (Ev.now _)
        simp only [spec_l08Code.l0]
        rw [if_neg (by simp)]
theorem isExp (k : Int) : impl_isExponent.f k = some (decide (1 ≤ k) && decide (k ≤ 60)) := by
  unfold impl_isExponent.f
  rw [within_]
  rfl
theorem getD_set1 {α : Type} (z : List α) (m b : Nat) (v d : α) (h : m < z.length) : (z.set m v).getD b d = if m = b then v else z.getD b d := by
  rw [List.getD_eq_getElem?_getD, List.getElem?_set]
  by_cases c : m = b
  · rw [if_pos c, if_pos (by omega), if_pos c]
    rfl
  · rw [if_neg c, if_neg c, List.getD_eq_getElem?_getD]
def RepI (q : Nat) (z : List Int) (P : Nat → Prop) : Prop := z.length = q ∧ ∀ b, b < q → (0 < z.getD b 0 ↔ P b)
def RepB (q : Nat) (z : List Bool) (P : Nat → Prop) : Prop := z.length = q ∧ ∀ b, b < q → (z.getD b false = true ↔ P b)
theorem RepI.congr {q z P Q} (h : RepI q z P) (e : ∀ b, b < q → (P b ↔ Q b)) : RepI q z Q := ⟨h.1, fun b hb => (h.2 b hb).trans (e b hb)⟩
theorem RepB.congr {q z P Q} (h : RepB q z P) (e : ∀ b, b < q → (P b ↔ Q b)) : RepB q z Q := ⟨h.1, fun b hb => (h.2 b hb).trans (e b hb)⟩
theorem md (x y q : Nat) (h : 0 < q) (hx : x < 1000) (hy : y < 1000) : Int.tmod (wrap64 ((x : Int) + (y : Int))) (q : Int) = (((x + y) % q : Nat) : Int) := by
  rw [w64 (x := (x : Int) + (y : Int)) (by omega) (by omega), Int.tmod_eq_emod_of_nonneg (by omega)]
  push_cast
  rfl
theorem rd_nat (z : List Int) (b : Nat) : rd z (b : Int) = z.getD b 0 := by simp [rd]
theorem rdb_nat (z : List Bool) (b : Nat) : rdOf false z (b : Int) = z.getD b false := by simp [rdOf]
section
variable (q : Nat) (hq : 3 ≤ q ∧ q ≤ 61)
include hq
theorem sp_l3 (c now : List Int) (P S : Nat → Prop) (hc : RepI q c S) (hn : RepI q now P) (s : Int) (x : Nat) (hx : x < q) : ∀ (d j : Nat), d + j = q → ∀ z P0, RepI q z P0 → ∃ z', RepI q z' (fun b => P0 b ∨ ∃ y, j ≤ y ∧ y < q ∧ P x ∧ S y ∧ (x + y) % q = b) ∧ ∀ r, Ev (fun k => spec_PowerNumber.l2 k q c now s z' ((x + 1 : Nat) : Int)) r → Ev (fun k => spec_PowerNumber.l3 k q c now s z x j) r := by
  intro d
  induction d with
  | zero =>
    intro j hj z P0 hz
    refine ⟨z, hz.congr fun b hb => ⟨.inl, fun h => h.elim id fun ⟨y, h1, h2, _⟩ => by omega⟩, fun r hr => Ev.step (fun k => ?_) hr⟩
    simp only [spec_PowerNumber.l3]
    rw [if_neg (by omega), w64 (x := (x : Int) + 1) (by omega) (by omega)]
    rfl
  | succ d ih =>
    intro j hj z P0 hz
    have hj2 : j < q := by omega
    have hm := Nat.mod_lt (x + j) (show 0 < q by omega)
    have key : ∃ z1 : List Int, RepI q z1 (fun b => P0 b ∨ (P x ∧ S j ∧ (x + j) % q = b)) ∧ ∀ k, spec_PowerNumber.l3 (k + 1) q c now s z x j = spec_PowerNumber.l3 k q c now s z1 x ((j + 1 : Nat) : Int) := by
      have a1 := hn.2 x hx
      have a2 := hc.2 j hj2
      have l1 := hn.1
      have l2 := hc.1
      by_cases hp : P x
      · by_cases hs : S j
        · refine ⟨z.set ((x + j) % q) 1, ⟨by simp [hz.1], fun b hb => ?_⟩, fun k => ?_⟩
          · rw [getD_set1 _ _ _ _ _ (by rw [hz.1]; exact hm)]
            by_cases e : (x + j) % q = b
            · rw [if_pos e]; exact ⟨fun _ => .inr ⟨hp, hs, e⟩, fun _ => by decide⟩
            · rw [if_neg e, hz.2 b hb]; exact ⟨.inl, fun h => h.elim id fun h => absurd h.2.2 e⟩
          · simp only [spec_PowerNumber.l3, rd_nat, md x j q (by omega) (by omega) (by omega), Int.toNat_natCast]
            rw [if_pos (by omega), if_pos (by omega), if_pos (by omega), if_pos (a1.mpr hp), if_pos (by omega), if_pos (by omega), if_pos (a2.mpr hs), if_neg (by omega), if_pos (by omega), if_pos (by have := hz.1; omega), w64 (x := (j : Int) + 1) (by omega) (by omega)]
            rfl
        · refine ⟨z, hz.congr fun b hb => ⟨.inl, fun h => h.elim id fun h => absurd h.2.1 hs⟩, fun k => ?_⟩
          simp only [spec_PowerNumber.l3, rd_nat]
          rw [if_pos (by omega), if_pos (by omega), if_pos (by omega), if_pos (a1.mpr hp), if_pos (by omega), if_pos (by omega), if_neg (fun h => hs (a2.mp h)), w64 (x := (j : Int) + 1) (by omega) (by omega)]
          rfl
      · refine ⟨z, hz.congr fun b hb => ⟨.inl, fun h => h.elim id fun h => absurd h.1 hp⟩, fun k => ?_⟩
        simp only [spec_PowerNumber.l3, rd_nat]
        rw [if_pos (by omega), if_pos (by omega), if_pos (by omega), if_neg (fun h => hp (a1.mp h)), w64 (x := (j : Int) + 1) (by omega) (by omega)]
        rfl
    obtain ⟨z1, hz1, hk⟩ := key
    obtain ⟨z', h1, h2⟩ := ih (j + 1) (by omega) z1 _ hz1
    refine ⟨z', h1.congr fun b hb => ?_, fun r hr => Ev.step hk (h2 r hr)⟩
    constructor
    · rintro ((h | ⟨a, b2, e⟩) | ⟨y, y1, y2, h⟩)
      · exact .inl h
      · exact .inr ⟨j, Nat.le_refl _, hj2, a, b2, e⟩
      · exact .inr ⟨y, by omega, y2, h⟩
    · rintro (h | ⟨y, y1, y2, h⟩)
      · exact .inl (.inl h)
      · by_cases e : y = j
        · subst e; exact .inl (.inr h)
        · exact .inr ⟨y, by omega, y2, h⟩
theorem sp_l2 (c now : List Int) (P S : Nat → Prop) (hc : RepI q c S) (hn : RepI q now P) (s : Int) : ∀ (d x : Nat), d + x = q → ∀ z P0, RepI q z P0 → ∃ z', RepI q z' (fun b => P0 b ∨ ∃ u y, x ≤ u ∧ u < q ∧ y < q ∧ P u ∧ S y ∧ (u + y) % q = b) ∧ ∀ r, Ev (fun k => spec_PowerNumber.l0 k q c z' (wrap64 (s + 1))) r → Ev (fun k => spec_PowerNumber.l2 k q c now s z x) r := by
  intro d
  induction d with
  | zero =>
    intro x hx z P0 hz
    refine ⟨z, hz.congr fun b hb => ⟨.inl, fun h => h.elim id fun ⟨u, y, h1, h2, _⟩ => by omega⟩, fun r hr => Ev.step (fun k => ?_) hr⟩
    simp only [spec_PowerNumber.l2]
    rw [if_neg (by omega)]
  | succ d ih =>
    intro x hx z P0 hz
    obtain ⟨z1, h1, h2⟩ := sp_l3 q hq c now P S hc hn s x (by omega) q 0 (by omega) z P0 hz
    obtain ⟨z', h3, h4⟩ := ih (x + 1) (by omega) z1 _ h1
    refine ⟨z', h3.congr fun b hb => ?_, fun r hr => Ev.step (fun k => ?_) (h2 r (h4 r hr))⟩
    · constructor
      · rintro ((h | ⟨y, _, y2, a, b2, e⟩) | ⟨u, y, u1, h⟩)
        · exact .inl h
        · exact .inr ⟨x, y, Nat.le_refl _, by omega, y2, a, b2, e⟩
        · exact .inr ⟨u, y, by omega, h⟩
      · rintro (h | ⟨u, y, u1, u2, y2, h⟩)
        · exact .inl (.inl h)
        · by_cases e : u = x
          · subst e; exact .inl (.inr ⟨y, Nat.zero_le _, y2, h⟩)
          · exact .inr ⟨u, y, by omega, u2, y2, h⟩
    · simp only [spec_PowerNumber.l2]
      rw [if_pos (by omega)]
      rfl
theorem sp_l1 (c now : List Int) (P : Nat → Prop) (hn : RepI q now P) (s : Int) (r : Int × Int) : ∀ (d i : Nat), d + i = q → ∀ a : Bool, ((a = true ∧ ∀ b, i ≤ b → b < q → P b) → r = (s, 0)) → (¬ (a = true ∧ ∀ b, i ≤ b → b < q → P b) → Ev (fun k => spec_PowerNumber.l2 k q c now s (List.replicate q 0) 0) r) → Ev (fun k => spec_PowerNumber.l1 k q c now s a i) r := by
  intro d
  induction d with
  | zero =>
    intro i hi a k1 k2
    cases a with
    | true =>
      rw [k1 ⟨rfl, fun b h1 h2 => by omega⟩]
      refine Ev.step (f := fun _ => some (s, 0)) (fun k => ?_) (Ev.now _)
      simp only [spec_PowerNumber.l1]
      rw [if_neg (by omega)]
      rfl
    | false =>
      refine Ev.step (fun k => ?_) (k2 (by simp))
      simp only [spec_PowerNumber.l1]
      rw [if_neg (by omega), if_neg (by decide), if_pos (by omega), if_pos (by omega), Int.toNat_natCast]
  | succ d ih =>
    intro i hi a k1 k2
    have a1 := hn.2 i (by omega)
    have l1 := hn.1
    cases a with
    | true =>
      refine Ev.step (f := fun k => spec_PowerNumber.l1 k q c now s (decide (0 < now.getD i 0)) ((i + 1 : Nat) : Int)) (fun k => ?_) (ih (i + 1) (by omega) _ ?_ ?_)
      · simp only [spec_PowerNumber.l1, rd_nat]
        rw [if_pos (by omega), if_pos trivial, if_pos (by omega), if_pos (by omega), w64 (x := (i : Int) + 1) (by omega) (by omega)]
        rfl
      · rintro ⟨h1, h2⟩
        refine k1 ⟨rfl, fun b hb1 hb2 => ?_⟩
        by_cases e : b = i
        · subst e; exact a1.mp (of_decide_eq_true h1)
        · exact h2 b (by omega) hb2
      · intro h
        refine k2 fun h2 => h ⟨decide_eq_true (a1.mpr (h2.2 i (Nat.le_refl _) (by omega))), fun b hb1 hb2 => h2.2 b (by omega) hb2⟩
    | false =>
      refine Ev.step (f := fun k => spec_PowerNumber.l1 k q c now s false ((i + 1 : Nat) : Int)) (fun k => ?_) (ih (i + 1) (by omega) false (by simp) (fun _ => k2 (by simp)))
      simp only [spec_PowerNumber.l1]
      rw [if_pos (by omega), if_neg (by decide), w64 (x := (i : Int) + 1) (by omega) (by omega)]
      rfl
theorem im_l2 (L : List Int) (hL : ∀ v ∈ L, 0 ≤ v ∧ v < q) (hl : L.length ≤ 1000) (th : List Bool) (P : Nat → Prop) (s : Int) (x : Nat) (hx : x < q) (v : Bool) (hv : v = true ↔ P x) : ∀ (d j : Nat), d + j = L.length → ∀ z P0, RepB q z P0 → ∃ z', RepB q z' (fun b => P0 b ∨ ∃ n, j ≤ n ∧ n < L.length ∧ P x ∧ (x + (L.getD n 0).toNat) % q = b) ∧ ∀ r, Ev (fun k => impl_PowerNumber.l1 k q L th s z' q ((x + 1 : Nat) : Int)) r → Ev (fun k => impl_PowerNumber.l2 k q L th s z x v q x L.length j) r := by
  intro d
  induction d with
  | zero =>
    intro j hj z P0 hz
    refine ⟨z, hz.congr fun b hb => ⟨.inl, fun h => h.elim id fun ⟨n, h1, h2, _⟩ => by omega⟩, fun r hr => Ev.step (fun k => ?_) hr⟩
    simp only [impl_PowerNumber.l2]
    rw [if_neg (by omega), w64 (x := (x : Int) + 1) (by omega) (by omega)]
    rfl
  | succ d ih =>
    intro j hj z P0 hz
    have hj2 : j < L.length := by omega
    obtain ⟨y, hy⟩ : ∃ y : Nat, L.getD j 0 = y := by
      have := hL (L[j]) (List.getElem_mem _)
      refine ⟨L[j].toNat, ?_⟩
      rw [List.getD_eq_getElem?_getD, List.getElem?_eq_getElem hj2]
      show L[j] = _
      omega
    have hyq : y < q := by
      have := hL (L[j]) (List.getElem_mem _)
      rw [List.getD_eq_getElem?_getD, List.getElem?_eq_getElem hj2] at hy
      have hy2 : L[j] = (y : Int) := hy
      omega
    have hm := Nat.mod_lt (x + y) (show 0 < q by omega)
    have hz0 := hz.2 _ hm
    have key : ∃ z1 : List Bool, RepB q z1 (fun b => P0 b ∨ (P x ∧ (x + (L.getD j 0).toNat) % q = b)) ∧ ∀ k, impl_PowerNumber.l2 (k + 1) q L th s z x v q x L.length j = impl_PowerNumber.l2 k q L th s z1 x v q x L.length ((j + 1 : Nat) : Int) := by
      rw [hy, Int.toNat_natCast]
      by_cases t : z.getD ((x + y) % q) false = true
      · refine ⟨z.set ((x + y) % q) true, ⟨by simp [hz.1], fun b hb => ?_⟩, fun k => ?_⟩
        · rw [getD_set1 _ _ _ _ _ (by rw [hz.1]; exact hm)]
          by_cases e : (x + y) % q = b
          · rw [if_pos e, ← e]; exact ⟨fun _ => .inl (hz0.mp t), fun _ => rfl⟩
          · rw [if_neg e, hz.2 b hb]; exact ⟨.inl, fun h => h.elim id fun h => absurd h.2 e⟩
        · simp only [impl_PowerNumber.l2, rd_nat, hy, md x y q (by omega) (by omega) (by omega), Int.toNat_natCast, rdb_nat]
          rw [if_pos (by omega), if_pos (by omega), if_pos (by omega), if_neg (by omega), if_pos (by omega), if_pos (by have := hz.1; omega), if_pos t, w64 (x := (j : Int) + 1) (by omega) (by omega)]
          rfl
      · refine ⟨z.set ((x + y) % q) v, ⟨by simp [hz.1], fun b hb => ?_⟩, fun k => ?_⟩
        · rw [getD_set1 _ _ _ _ _ (by rw [hz.1]; exact hm)]
          by_cases e : (x + y) % q = b
          · rw [if_pos e, hv]; exact ⟨fun h => .inr ⟨h, e⟩, fun h => h.elim (fun h => absurd (hz0.mpr (e ▸ h)) t) fun h => h.1⟩
          · rw [if_neg e, hz.2 b hb]; exact ⟨.inl, fun h => h.elim id fun h => absurd h.2 e⟩
        · simp only [impl_PowerNumber.l2, rd_nat, hy, md x y q (by omega) (by omega) (by omega), Int.toNat_natCast, rdb_nat]
          rw [if_pos (by omega), if_pos (by omega), if_pos (by omega), if_neg (by omega), if_pos (by omega), if_pos (by have := hz.1; omega), if_neg t, w64 (x := (j : Int) + 1) (by omega) (by omega)]
          rfl
    obtain ⟨z1, hz1, hk⟩ := key
    obtain ⟨z', h1, h2⟩ := ih (j + 1) (by omega) z1 _ hz1
    refine ⟨z', h1.congr fun b hb => ?_, fun r hr => Ev.step hk (h2 r hr)⟩
    constructor
    · rintro ((h | ⟨a, e⟩) | ⟨n, n1, n2, h⟩)
      · exact .inl h
      · exact .inr ⟨j, Nat.le_refl _, hj2, a, e⟩
      · exact .inr ⟨n, by omega, n2, h⟩
    · rintro (h | ⟨n, n1, n2, h⟩)
      · exact .inl (.inl h)
      · by_cases e : n = j
        · subst e; exact .inl (.inr h)
        · exact .inr ⟨n, by omega, n2, h⟩
theorem im_l1 (L : List Int) (hL : ∀ v ∈ L, 0 ≤ v ∧ v < q) (hl : L.length ≤ 1000) (th : List Bool) (P : Nat → Prop) (ht : RepB q th P) (s : Int) : ∀ (d x : Nat), d + x = q → ∀ z P0, RepB q z P0 → ∃ z', RepB q z' (fun b => P0 b ∨ ∃ u n, x ≤ u ∧ u < q ∧ n < L.length ∧ P u ∧ (u + (L.getD n 0).toNat) % q = b) ∧ ∀ r, Ev (fun k => (slices_Contains_bool_bool.f k z' false).bind fun t => if t = true then impl_PowerNumber.l0 k q L z' (wrap64 (s + 1)) else some (s, 0)) r → Ev (fun k => impl_PowerNumber.l1 k q L th s z q x) r := by
  intro d
  induction d with
  | zero =>
    intro x hx z P0 hz
    refine ⟨z, hz.congr fun b hb => ⟨.inl, fun h => h.elim id fun ⟨u, n, h1, h2, _⟩ => by omega⟩, fun r hr => Ev.step (fun k => ?_) hr⟩
    simp only [impl_PowerNumber.l1]
    rw [if_neg (by omega)]
  | succ d ih =>
    intro x hx z P0 hz
    have lt := ht.1
    obtain ⟨z1, h1, h2⟩ := im_l2 q hq L hL hl th P s x (by omega) (th.getD x false) (ht.2 x (by omega)) L.length 0 (by omega) z P0 hz
    obtain ⟨z', h3, h4⟩ := ih (x + 1) (by omega) z1 _ h1
    refine ⟨z', h3.congr fun b hb => ?_, fun r hr => Ev.step (fun k => ?_) (h2 r (h4 r hr))⟩
    · constructor
      · rintro ((h | ⟨n, _, n2, a, e⟩) | ⟨u, n, u1, h⟩)
        · exact .inl h
        · exact .inr ⟨x, n, Nat.le_refl _, by omega, n2, a, e⟩
        · exact .inr ⟨u, n, by omega, h⟩
      · rintro (h | ⟨u, n, u1, u2, n2, h⟩)
        · exact .inl (.inl h)
        · by_cases e : u = x
          · subst e; exact .inl (.inr ⟨n, Nat.zero_le _, n2, h⟩)
          · exact .inr ⟨u, n, by omega, u2, n2, h⟩
    · simp only [impl_PowerNumber.l1, rdb_nat]
      rw [if_pos (by omega), if_pos (by omega), if_pos (by omega)]
      rfl
end
theorem index_b (l : List Bool) (v : Bool) (hl : l.length ≤ 1048576) : ∀ (d i : Nat), d + i = l.length → ∃ t : Int, Ev (fun k => slices_Index_bool_bool.l0 k l v (l.length : Int) (i : Int)) t ∧ decide (t ≥ 0) = decide (v ∈ l.drop i) := by
  intro d
  induction d with
  | zero =>
    intro i hi
    refine ⟨-1, Ev.step (f := fun _ => some (-1)) (fun k => ?_) (Ev.now _), ?_⟩
    · simp only [slices_Index_bool_bool.l0]
      rw [if_neg (by omega)]
    · rw [List.drop_of_length_le (by omega)]
      simp
  | succ d ih =>
    intro i hi
    have hi2 : i < l.length := by omega
    have e1 : rdOf false l (i : Int) = l[i] := by simp [rdOf, hi2]
    rw [List.drop_eq_getElem_cons hi2]
    by_cases c : v = l[i]
    · refine ⟨(i : Int), Ev.step (f := fun _ => some (i : Int)) (fun k => ?_) (Ev.now _), ?_⟩
      · simp only [slices_Index_bool_bool.l0, e1]
        rw [if_pos (by omega), if_pos (by omega), if_pos (by omega), if_pos (by simp [c])]
      · exact (decide_eq_true (show (i : Int) ≥ 0 by omega)).trans (decide_eq_true (List.mem_cons.mpr (.inl c))).symm
    · obtain ⟨t, h1, h2⟩ := ih (i + 1) (by omega)
      refine ⟨t, Ev.step (fun k => ?_) h1, ?_⟩
      · simp only [slices_Index_bool_bool.l0, e1]
        rw [if_pos (by omega), if_pos (by omega), if_pos (by omega), if_neg (by simpa using c), w64 (x := (i : Int) + 1) (by omega) (by omega)]
        rfl
      · rw [h2]
        simp only [List.mem_cons, c, false_or]
theorem contains_b (l : List Bool) (v : Bool) (hl : l.length ≤ 1048576) : Ev (fun k => slices_Contains_bool_bool.f k l v) (decide (v ∈ l)) := by
  obtain ⟨t, h1, h2⟩ := index_b l v hl l.length 0 (by omega)
  rw [List.drop_zero] at h2
  unfold slices_Contains_bool_bool.f
  refine Ev.bind (a := t) h1 ?_
  rw [h2]
  exact Ev.now _
theorem RepB.full {q z P} (h : RepB q z P) : false ∈ z ↔ ¬ ∀ b, b < q → P b := by
  constructor
  · intro hm hf
    obtain ⟨n, hn, e⟩ := List.getElem_of_mem hm
    have := (h.2 n (by rw [← h.1]; exact hn)).mpr (hf n (by rw [← h.1]; exact hn))
    rw [List.getD_eq_getElem?_getD, List.getElem?_eq_getElem hn] at this
    have h2 : z[n] = true := this
    rw [e] at h2
    cases h2
  · intro hf
    refine Classical.byContradiction fun hm => hf fun b hb => (h.2 b hb).mp ?_
    have hb2 : b < z.length := by rw [h.1]; exact hb
    rw [List.getD_eq_getElem?_getD, List.getElem?_eq_getElem hb2]
    show z[b] = true
    cases e : z[b] with
    | true => rfl
    | false => exact absurd (e ▸ List.getElem_mem hb2) hm
theorem both (q : Nat) (hq : 3 ≤ q ∧ q ≤ 61) (c L : List Int) (S : Nat → Prop) (hc : RepI q c S) (hL : ∀ v ∈ L, 0 ≤ v ∧ v < q) (hl : L.length ≤ 1000) (hS : ∀ y, y < q → (S y ↔ ∃ n, n < L.length ∧ (L.getD n 0).toNat = y)) (s0 : S 0) (s1 : S 1) :
    ∀ (d s : Nat) (P : Nat → Prop), s + d + 1 = q → (∀ x, x ≤ s → x < q → P x) → ∀ now th, RepI q now P → RepB q th P → ∃ r, Ev (fun k => spec_PowerNumber.l0 k q c now s) r ∧ Ev (fun k => (slices_Contains_bool_bool.f k th false).bind fun t => if t = true then impl_PowerNumber.l0 k q L th (wrap64 ((s : Int) + 1)) else some ((s : Int), 0)) r := by
  have lt : ∀ n, n < L.length → (L.getD n 0).toNat < q := by
    intro n hn
    have := hL (L[n]) (List.getElem_mem _)
    rw [List.getD_eq_getElem?_getD, List.getElem?_eq_getElem hn]
    show L[n].toNat < q
    omega
  intro d
  induction d with
  | zero =>
    intro s P hs hP now th h1 h2
    have full : ∀ b, b < q → P b := fun b hb => hP b (by omega) hb
    refine ⟨((s : Int), 0), ?_, Ev.bind (contains_b th false (by rw [h2.1]; omega)) ?_⟩
    · refine Ev.step (fun k => by simp only [spec_PowerNumber.l0] <;> rfl) (sp_l1 q hq c now P h1 s _ q 0 (by omega) true (fun _ => rfl) (fun h => absurd ⟨rfl, fun b _ hb => full b hb⟩ h))
    · rw [decide_eq_false (fun h => h2.full.mp h full)]
      exact Ev.now _
  | succ d ih =>
    intro s P hs hP now th h1 h2
    by_cases full : ∀ b, b < q → P b
    · refine ⟨((s : Int), 0), ?_, Ev.bind (contains_b th false (by rw [h2.1]; omega)) ?_⟩
      · refine Ev.step (fun k => by simp only [spec_PowerNumber.l0] <;> rfl) (sp_l1 q hq c now P h1 s _ q 0 (by omega) true (fun _ => rfl) (fun h => absurd ⟨rfl, fun b _ hb => full b hb⟩ h))
      · rw [decide_eq_false (fun h => h2.full.mp h full)]
        exact Ev.now _
    · obtain ⟨zi, i1, i2⟩ := sp_l2 q hq c now P S hc h1 s q 0 (by omega) (List.replicate q 0) (fun _ => False) ⟨by simp, fun b hb => by simp [List.getD_eq_getElem?_getD, List.getElem?_replicate, hb]⟩
      obtain ⟨zb, b1, b2⟩ := im_l1 q hq L hL hl th P h2 ((s + 1 : Nat) : Int) q 0 (by omega) (List.replicate q false) (fun _ => False) ⟨by simp, fun b hb => by simp [List.getD_eq_getElem?_getD, List.getElem?_replicate, hb]⟩
      let Q : Nat → Prop := fun b => ∃ u y, u < q ∧ y < q ∧ P u ∧ S y ∧ (u + y) % q = b
      have i3 : RepI q zi Q := i1.congr fun b hb => ⟨fun h => h.elim False.elim fun ⟨u, y, _, h⟩ => ⟨u, y, h⟩, fun ⟨u, y, h⟩ => .inr ⟨u, y, Nat.zero_le _, h⟩⟩
      have b3 : RepB q zb Q := b1.congr fun b hb => ⟨fun h => h.elim False.elim fun ⟨u, n, _, hu, hn, hp, e⟩ => ⟨u, _, hu, lt n hn, hp, (hS _ (lt n hn)).mpr ⟨n, hn, rfl⟩, e⟩, fun ⟨u, y, hu, hy, hp, hs, e⟩ => by
        obtain ⟨n, hn, rfl⟩ := (hS y hy).mp hs
        exact .inr ⟨u, n, Nat.zero_le _, hu, hn, hp, e⟩⟩
      have hQ : ∀ x, x ≤ s + 1 → x < q → Q x := by
        intro x hx hxq
        by_cases e : x ≤ s
        · exact ⟨x, 0, hxq, by omega, hP x e hxq, s0, by rw [Nat.add_zero, Nat.mod_eq_of_lt hxq]⟩
        · exact ⟨s, 1, by omega, by omega, hP s (Nat.le_refl _) (by omega), s1, by rw [Nat.mod_eq_of_lt (by omega)]; omega⟩
      obtain ⟨r, r1, r2⟩ := ih (s + 1) Q (by omega) hQ zi zb i3 b3
      have ws : wrap64 ((s : Int) + 1) = ((s + 1 : Nat) : Int) := by rw [w64 (x := (s : Int) + 1) (by omega) (by omega)]; rfl
      refine ⟨r, ?_, Ev.bind (contains_b th false (by rw [h2.1]; omega)) ?_⟩
      · refine Ev.step (fun k => by simp only [spec_PowerNumber.l0] <;> rfl) (sp_l1 q hq c now P h1 s _ q 0 (by omega) true (fun h => absurd (fun b hb => h.2 b (Nat.zero_le _) hb) full) (fun _ => i2 r ?_))
        rw [ws]
        exact r1
      · rw [decide_eq_true (h2.full.mpr full)]
        simp only [if_true]
        rw [ws]
        refine Ev.step (fun k => ?_) (b2 r r2)
        simp only [impl_PowerNumber.l0]
        rw [if_pos (by omega), if_pos (by omega), Int.toNat_natCast, h2.1]
        rfl
theorem pset_iff (p : Int) (k : Nat) (hp : 0 < p) (v : Int) : v ∈ pset p k p.toNat ↔ 0 ≤ v ∧ v < p ∧ v ∈ plist p k p.toNat := by
  unfold pset
  simp only [List.mem_filter, List.mem_map, List.mem_range, List.contains_iff_mem]
  constructor
  · rintro ⟨⟨n, hn, rfl⟩, h⟩
    exact ⟨by omega, by omega, h⟩
  · rintro ⟨h0, h1, h2⟩
    exact ⟨⟨v.toNat, by omega, by omega⟩, h2⟩
theorem FnExactPowerNumber : laws_FnExactPowerNumber.Pure := by
  intro p k hp _
  apply Ev.rounds
  have hp2 := wf64 hp
  have bad : Ev (fun f => impl_PowerNumber.j0 f p k true) (0, 2) := Ev.step (fun f => by simp only [impl_PowerNumber.j0, if_true] <;> rfl) (Ev.now _)
  have main : ∃ r, Ev (fun f => spec_PowerNumber.f f p k) r ∧ Ev (fun f => impl_PowerNumber.f f p k) r := by
    unfold spec_PowerNumber.f impl_PowerNumber.f
    cases h : okK p k with
    | false =>
      refine ⟨(0, 2), Ev.bind (l08Code p k) ?_, Ev.bind (isPrime p hp2.1 hp2.2) ?_⟩
      · simp only [h, Bool.false_eq_true, if_false, show ¬ (2 : Int) = 0 by decide]; exact Ev.now _
      · unfold okK at h
        cases hpr : pr p with
        | false => simp only [Bool.false_eq_true, if_false]; exact bad
        | true =>
          rw [hpr, Bool.true_and] at h
          simp only [if_true]
          refine ev_bind_const (isExp k) ?_
          rw [h]
          exact bad
    | true =>
      have h' := h
      simp only [okK, Bool.and_eq_true, decide_eq_true_eq] at h
      have hb := pr_bd h.1
      obtain ⟨m, rfl⟩ : ∃ m : Nat, k = m := ⟨k.toNat, by omega⟩
      obtain ⟨q, rfl⟩ : ∃ q : Nat, p = q := ⟨p.toNat, by omega⟩
      have hq : 3 ≤ q ∧ q ≤ 61 := by omega
      obtain ⟨g1, g2⟩ := vcount_get (q : Int) 1 m q (by omega)
      rw [Int.toNat_natCast] at g1
      have hc : RepI q (vcount (q : Int) 1 m q) (fun y => (y : Int) ∈ plist (q : Int) m q) := ⟨g1, fun b hb => by
        rw [g2 b (by omega), vals1_one]
        have := List.count_pos_iff (a := (b : Int)) (l := plist (q : Int) m q)
        show _ ↔ (b : Int) ∈ plist (q : Int) m q
        rw [← this]
        omega⟩
      have pi := pset_iff (q : Int) m (by omega)
      rw [Int.toNat_natCast] at pi
      have hl := pset_len (q : Int) m q
      have hS : ∀ y, y < q → ((y : Int) ∈ plist (q : Int) m q ↔ ∃ n, n < (pset (q : Int) m q).length ∧ ((pset (q : Int) m q).getD n 0).toNat = y) := by
        intro y hy
        constructor
        · intro hm
          obtain ⟨n, hn, e⟩ := List.getElem_of_mem ((pi y).mpr ⟨by omega, by omega, hm⟩)
          refine ⟨n, hn, ?_⟩
          rw [List.getD_eq_getElem?_getD, List.getElem?_eq_getElem hn]
          show ((pset (q : Int) m q)[n]).toNat = y
          rw [e, Int.toNat_natCast]
        · rintro ⟨n, hn, e⟩
          have h2 := (pi ((pset (q : Int) m q)[n])).mp (List.getElem_mem _)
          rw [List.getD_eq_getElem?_getD, List.getElem?_eq_getElem hn] at e
          have e2 : ((pset (q : Int) m q)[n]).toNat = y := e
          have e3 : (pset (q : Int) m q)[n] = (y : Int) := by omega
          rw [← e3]
          exact h2.2.2
      have s0 : ((0 : Nat) : Int) ∈ plist (q : Int) m q := List.mem_map.mpr ⟨0, List.mem_range.mpr (by omega), by rw [show ((0 : Nat) : Int) = 0 by rfl, Int.zero_pow (by omega), Int.zero_emod]⟩
      have s1 : ((1 : Nat) : Int) ∈ plist (q : Int) m q := List.mem_map.mpr ⟨1, List.mem_range.mpr (by omega), by rw [show ((1 : Nat) : Int) = 1 by rfl, Int.one_pow, Int.emod_eq_of_lt (by omega) (by omega)]⟩
      obtain ⟨zb, b1, b2⟩ := im_l1 q hq (pset (q : Int) m q) (fun v hv => ⟨((pi v).mp hv).1, ((pi v).mp hv).2.1⟩) (by omega) ((List.replicate q false).set 0 true) (fun b => b = 0) ⟨by simp, fun b hb => by
        rw [getD_set1 _ _ _ _ _ (by simp; omega)]
        by_cases e : b = 0
        · rw [if_pos e.symm]; exact ⟨fun _ => e, fun _ => rfl⟩
        · rw [if_neg (fun h => e h.symm)]; simp [List.getD_eq_getElem?_getD, List.getElem?_replicate, hb, e]⟩ 1 q 0 (by omega) (List.replicate q false) (fun _ => False) ⟨by simp, fun b hb => by simp [List.getD_eq_getElem?_getD, List.getElem?_replicate, hb]⟩
      have b3 : RepB q zb (fun y => (y : Int) ∈ plist (q : Int) m q) := b1.congr fun b hb => ⟨fun h => h.elim False.elim fun ⟨u, n, _, hu, hn, hu0, e⟩ => by
          subst hu0
          refine (hS b hb).mpr ⟨n, hn, ?_⟩
          have h2 := (pi ((pset (q : Int) m q)[n])).mp (List.getElem_mem _)
          have e2 : (pset (q : Int) m q).getD n 0 = (pset (q : Int) m q)[n] := by rw [List.getD_eq_getElem?_getD, List.getElem?_eq_getElem hn]; rfl
          rw [e2] at e ⊢
          rw [Nat.zero_add, Nat.mod_eq_of_lt (by omega)] at e
          exact e, fun h => by
          obtain ⟨n, hn, e⟩ := (hS b hb).mp h
          exact .inr ⟨0, n, Nat.zero_le _, by omega, hn, rfl, by rw [e, Nat.zero_add, Nat.mod_eq_of_lt hb]⟩⟩
      obtain ⟨r, r1, r2⟩ := both q hq (vcount (q : Int) 1 m q) (pset (q : Int) m q) _ hc (fun v hv => ⟨((pi v).mp hv).1, ((pi v).mp hv).2.1⟩) (by omega) hS s0 s1 (q - 2) 1 _ (by omega) (fun x hx hxq => by
        rcases (show x = 0 ∨ x = 1 by omega) with rfl | rfl
        · exact s0
        · exact s1) (vcount (q : Int) 1 m q) zb hc b3
      refine ⟨r, Ev.bind (l08Code (q : Int) m) ?_, Ev.bind (isPrime (q : Int) hp2.1 hp2.2) ?_⟩
      · simp only [h', if_true]
        refine Ev.bind (l08Values (q : Int) 1 m (by omega) ⟨by omega, by omega⟩ (by omega)) ?_
        rw [Int.toNat_natCast]
        refine ev_bind_const (own01 _ (by rw [g1]; omega)) ?_
        exact r1
      · simp only [h.1, if_true]
        refine ev_bind_const (isExp (m : Int)) ?_
        rw [show (decide ((1 : Int) ≤ (m : Int)) && decide ((m : Int) ≤ 60)) = true by simp only [Bool.and_eq_true, decide_eq_true_eq]; omega]
        simp only [Bool.not_true]
        refine Ev.step (fun f => by simp only [impl_PowerNumber.j0, Bool.false_eq_true, if_false] <;> rfl) ?_
        refine Ev.bind (diffPowers (q : Int) m (by omega) (by omega)) ?_
        rw [Int.toNat_natCast]
        simp only [Option.bind_some, List.length_replicate, if_pos (show (0 : Int) ≤ (q : Int) by omega), if_pos (show q ≤ 281474976710656 by omega), if_pos (show (0 : Int) < (q : Int) by omega)]
        refine Ev.step (fun f => ?_) (b2 r r2)
        simp only [impl_PowerNumber.l0]
        rw [if_pos (by omega), if_pos (by omega)]
        simp
  obtain ⟨r, r1, r2⟩ := main
  unfold laws_FnExactPowerNumber.f
  refine Ev.bind r1 (Ev.bind r2 ?_)
  simp only [if_true]
  exact Ev.now _
end Go.Proofs.Ytghlmdjedpnglaa.Pure
