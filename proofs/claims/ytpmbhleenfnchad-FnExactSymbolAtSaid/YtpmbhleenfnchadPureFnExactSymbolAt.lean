/- The program's SymbolAt returns what the reference's returns, for all arguments; no condition. -/
import Derived.Test.YtpmbhleenfnchadPFnExactSymbolAtx9
import Derived.OpenShut
namespace Go.Proofs.Ytpmbhleenfnchad.Pure
open Go.RowKit Go.Proofs.Ytpmbhleenfnchad.PFnExactSymbolAt Go.Proofs.YtpmbhleenfnchadW.PrintWords Go.Proofs.YtpmbhleenfnchadW.PrintLast Go.Proofs.YtpmbhleenfnchadW.PrintMore
set_option linter.unusedVariables false
set_option linter.unusedSimpArgs false
theorem w64 {x : Int} (h0 : -9223372036854775808 ≤ x) (h1 : x ≤ 9223372036854775807) : wrap64 x = x := by unfold wrap64; omega
theorem wf64 {x : Int} (h : (Lit.int .i64 x).wf = true) : -9223372036854775808 ≤ x ∧ x ≤ 9223372036854775807 := bounds_i64 h
theorem ev_bind_const {α β : Type} {o : Option α} {a : α} {f : Nat → α → Option β} {r : β} (h : o = some a) (k : Ev (fun n => f n a) r) : Ev (fun n => o.bind (f n)) r := by
  subst h; exact k
theorem toInts_l0 (l : List Int) (hl : l.length ≤ 1048576) : ∀ (d : Nat) (ys : List Int) (i : Nat), d + i = l.length → ys.length = l.length → ys.take i = l.take i → Ev (fun k => laws_toInt64S.l0 k l ys (i : Int)) l := by
  intro d
  induction d with
  | zero =>
    intro ys i hd hy ht
    have : i = l.length := by omega
    subst this
    refine Ev.step (f := fun _ => some l) (fun k => ?_) (Ev.now _)
    simp only [laws_toInt64S.l0]
    rw [if_neg (by omega)]
    rw [List.take_of_length_le (by omega), List.take_of_length_le (by omega)] at ht
    rw [ht]
  | succ d ih =>
    intro ys i hd hy ht
    refine Ev.step (f := fun k => laws_toInt64S.l0 k l (ys.set i (rd l (i : Int))) ((i + 1 : Nat) : Int)) (fun k => ?_) (ih _ _ (by omega) (by simp [hy]) ?_)
    · simp only [laws_toInt64S.l0]
      rw [if_pos (by omega), if_pos (by omega), if_pos (by omega), w64 (by omega) (by omega)]
      rfl
    · have hi : i < l.length := by omega
      rw [List.take_succ_eq_append_getElem (by simpa [hy] using hi), List.take_succ_eq_append_getElem hi, List.take_set_of_le (Nat.le_refl _), ht]
      simp [rd, hi]
theorem toInts (l : List Int) (hl : l.length ≤ 1048576) : Ev (fun k => laws_toInt64S.f k l) l := by
  have h := toInts_l0 l hl l.length (List.replicate l.length 0) 0 (by omega) (by simp) (by simp)
  refine Ev.congr (fun k => ?_) h
  unfold laws_toInt64S.f
  rw [if_pos (by omega), if_pos (by omega)]
  simp
theorem toCyclo (n : Int) (l : List Int) (hl : l.length ≤ 1048576) : Ev (fun k => laws_toCyclo.f k n l) (n, l) :=
  Ev.bind (toInts l hl) (Ev.now _)
theorem eqInts_l0 (l m : List Int) (hl : l.length ≤ 1048576) (hm : m.length = l.length) : ∀ (d i : Nat), d + i = l.length → Ev (fun k => laws_eqInt64S.l0 k l m (i : Int)) (decide (l.drop i = m.drop i)) := by
  intro d
  induction d with
  | zero =>
    intro i hd
    refine Ev.step (f := fun _ => some (decide (l.drop i = m.drop i))) (fun k => ?_) (Ev.now _)
    simp only [laws_eqInt64S.l0]
    rw [if_neg (by omega), List.drop_of_length_le (by omega), List.drop_of_length_le (by omega)]
    simp
  | succ d ih =>
    intro i hd
    have hi : i < l.length := by omega
    have hi2 : i < m.length := by omega
    have e1 : rd l (i : Int) = l[i] := by simp [rd, hi]
    have e2 : rd m (i : Int) = m[i] := by simp [rd, hi2]
    by_cases he : l[i] = m[i]
    · refine Ev.step (f := fun k => laws_eqInt64S.l0 k l m ((i + 1 : Nat) : Int)) (fun k => ?_) ?_
      · simp only [laws_eqInt64S.l0]
        rw [if_pos (by omega), if_pos (by omega), if_pos (by omega), e1, e2, if_pos he, w64 (by omega) (by omega)]
        rfl
      · have e : decide (l.drop i = m.drop i) = decide (l.drop (i + 1) = m.drop (i + 1)) := by
          rw [List.drop_eq_getElem_cons hi, List.drop_eq_getElem_cons hi2]
          simp only [List.cons.injEq, he, true_and]
        rw [e]
        exact ih (i + 1) (by omega)
    · refine Ev.step (f := fun _ => some false) (fun k => ?_) ?_
      · simp only [laws_eqInt64S.l0]
        rw [if_pos (by omega), if_pos (by omega), if_pos (by omega), e1, e2, if_neg he]
      · have e : decide (l.drop i = m.drop i) = false := by
          rw [List.drop_eq_getElem_cons hi, List.drop_eq_getElem_cons hi2]
          simp only [List.cons.injEq, he, false_and, decide_false]
        rw [e]
        exact Ev.now _
theorem eqInts (l m : List Int) (hl : l.length ≤ 1048576) : Ev (fun k => laws_eqInt64S.f k l m) (decide (l = m)) := by
  by_cases h : m.length = l.length
  · have := eqInts_l0 l m hl h l.length 0 (by omega)
    refine Ev.congr (fun k => ?_) (by simpa using this)
    unfold laws_eqInt64S.f
    rw [if_pos (by omega)]
  · have hne : l ≠ m := fun e => h (by rw [e])
    rw [decide_eq_false hne]
    refine Ev.congr (fun k => ?_) (Ev.now _)
    unfold laws_eqInt64S.f
    rw [if_neg (by omega)]
theorem eqCyclo (n n' : Int) (l l' : List Int) (hl : l.length ≤ 1048576) : Ev (fun k => laws_eqCyclo.f k n l n' l') (decide (n = n' ∧ l = l')) := by
  unfold laws_eqCyclo.f
  by_cases h : n = n'
  · simp only [if_pos h]
    refine Ev.bind (eqInts l l' hl) ?_
    by_cases h2 : l = l' <;> simp [h, h2] <;> exact Ev.now _
  · simp only [if_neg h]
    simp [h]
    exact Ev.now _
def phi (n : Int) : Int := [0, 1, 1, 2, 2, 4, 2, 6, 4, 6, 4, 10, 4, 12, 6, 8, 8].getD n.toNat 0
theorem orders {P : Int → Prop} (h : ∀ m : Nat, m < 17 → 1 ≤ m → P m) (n : Int) (h0 : 1 ≤ n) (h1 : n ≤ 16) : P n := by
  have := h n.toNat (by omega) (by omega)
  rwa [Int.toNat_of_nonneg (by omega)] at this
theorem phi_spec (n : Int) (h0 : 1 ≤ n) (h1 : n ≤ 16) : Ev (fun k => spec_l01Phi.f k n) (phi n) := by
  have key : ∀ m : Nat, m < 17 → 1 ≤ m → spec_l01Phi.f 60 (m : Int) = some (phi m) := by decide +kernel
  exact Ev.of (spec_l01Phi.mono n) (orders (P := fun n => spec_l01Phi.f 60 n = some (phi n)) key n h0 h1)
theorem phi_impl (n : Int) (h0 : 1 ≤ n) (h1 : n ≤ 16) : Ev (fun k => impl_totient.f k n) (phi n) := by
  have key : ∀ m : Nat, m < 17 → 1 ≤ m → impl_totient.f 60 (m : Int) = some (phi m) := by decide +kernel
  exact Ev.of (impl_totient.mono n) (orders (P := fun n => impl_totient.f 60 n = some (phi n)) key n h0 h1)
theorem l01In (a b c : Int) : spec_l01In.f a b c = some (decide (b ≤ a) && decide (a ≤ c)) := by
  unfold spec_l01In.f
  by_cases h : a ≥ b
  · rw [if_pos h]; simp [h]
  · rw [if_neg h]; simp [h]
theorem within_ (a b c : Int) : impl_within.f a b c = some (decide (b ≤ a) && decide (a ≤ c)) := by
  unfold impl_within.f
  by_cases h : b ≤ a
  · rw [if_pos h]; simp [h]
  · rw [if_neg h]; simp [h]
def inP (m : Int) (x : Int) : Bool := decide (-m ≤ x) && decide (x ≤ m)
theorem fits_l0 (n : Int) (l : List Int) (hl : l.length ≤ 1048576) : ∀ (d i : Nat), d + i = l.length → Ev (fun k => spec_l01Fits.l0 k (i : Int) n l) ((l.drop i).all (inP 1000000000)) := by
  intro d
  induction d with
  | zero =>
    intro i hd
    refine Ev.step (f := fun _ => some ((l.drop i).all (inP 1000000000))) (fun k => ?_) (Ev.now _)
    simp only [spec_l01Fits.l0]
    rw [if_neg (by omega), List.drop_of_length_le (by omega)]
    rfl
  | succ d ih =>
    intro i hd
    have hi : i < l.length := by omega
    have e1 : rd l (i : Int) = l[i] := by simp [rd, hi]
    rw [List.drop_eq_getElem_cons hi, List.all_cons]
    cases hp : inP 1000000000 l[i] with
    | true =>
      refine Ev.step (f := fun k => spec_l01Fits.l0 k ((i + 1 : Nat) : Int) n l) (fun k => ?_) (by simpa using ih (i + 1) (by omega))
      simp only [spec_l01Fits.l0]
      rw [if_pos (by omega), if_pos (by omega), e1, l01In, Option.bind_some, if_pos (by simpa [inP] using hp), w64 (by omega) (by omega)]
      rfl
    | false =>
      refine Ev.step (f := fun _ => some false) (fun k => ?_) (by simpa using Ev.now _)
      simp only [spec_l01Fits.l0]
      rw [if_pos (by omega), if_pos (by omega), e1, l01In, Option.bind_some, if_neg (by simp [inP] at hp ⊢; omega)]
theorem fits01 (n : Int) (l : List Int) (hl : l.length ≤ 1048576) : Ev (fun k => spec_l01Fits.f k n l) (l.all (inP 1000000000)) := by
  have := fits_l0 n l hl l.length 0 (by omega)
  unfold spec_l01Fits.f
  simpa using this
theorem areSmall (l : List Int) (m : Int) (h0 : 0 ≤ m) (h1 : m ≤ 9223372036854775807) : impl_areSmall.f l m = some (l.all (inP m)) := by
  unfold impl_areSmall.f
  rw [w64 (by omega) (by omega)]
  rfl
def isC (n : Int) (l : List Int) : Bool := decide (1 ≤ n) && decide (n ≤ 16) && decide ((l.length : Int) = phi n) && l.all (inP 1000000000)
theorem l01Is (n : Int) (l : List Int) (hl : l.length ≤ 1048576) : Ev (fun k => spec_l01Is.f k n l) (isC n l) := by
  unfold spec_l01Is.f
  refine ev_bind_const (l01In _ _ _) ?_
  by_cases h : 1 ≤ n ∧ n ≤ 16
  · rw [show (decide (1 ≤ n) && decide (n ≤ 16)) = true by simp [h]]
    simp only [if_true]
    refine Ev.bind (phi_spec n h.1 h.2) ?_
    by_cases h2 : (l.length : Int) = phi n
    · simp only [if_pos h2]
      refine Ev.bind (fits01 n l hl) ?_
      have : isC n l = l.all (inP 1000000000) := by simp [isC, h, h2]
      rw [this]
      exact Ev.now _
    · simp only [if_neg h2]
      have : isC n l = false := by simp [isC, h, h2]
      rw [this]
      exact Ev.now _
  · have e : (decide (1 ≤ n) && decide (n ≤ 16)) = false := by simp; omega
    rw [e]
    have : isC n l = false := by simp [isC, e]
    rw [this]
    exact Ev.now _
theorem isCyclo (n : Int) (l : List Int) : Ev (fun k => impl_IsCyclo.f k n l) (isC n l) := by
  unfold impl_IsCyclo.f impl_isOrder.f
  refine ev_bind_const (a := decide (1 ≤ n) && decide (n ≤ 16)) (by rw [within_]; rfl) ?_
  by_cases h : 1 ≤ n ∧ n ≤ 16
  · rw [show (decide (1 ≤ n) && decide (n ≤ 16)) = true by simp [h]]
    simp only [if_true]
    refine Ev.bind (phi_impl n h.1 h.2) ?_
    by_cases h2 : (l.length : Int) = phi n
    · simp only [if_pos h2]
      have : isC n l = l.all (inP 1000000000) := by simp [isC, h, h2]
      rw [this, areSmall _ _ (by omega) (by omega)]
      exact Ev.now _
    · simp only [if_neg h2]
      have : isC n l = false := by simp [isC, h, h2]
      rw [this]
      exact Ev.now _
  · have e : (decide (1 ≤ n) && decide (n ≤ 16)) = false := by simp; omega
    rw [e]
    have : isC n l = false := by simp [isC, e]
    rw [this]
    exact Ev.now _
def upTo (a : Int) (n : Nat) : List Int := (List.range n).map fun (j : Nat) => a + (j : Int)
theorem upTo_cons (a : Int) (n : Nat) : upTo a (n + 1) = a :: upTo (a + 1) n := by
  unfold upTo
  rw [List.range_succ_eq_map, List.map_cons, List.map_map]
  congr 1
  · simp
  · apply List.map_congr_left
    intro j _
    simp only [Function.comp, Nat.succ_eq_add_one]
    omega
theorem mem_upTo {a x : Int} {n : Nat} : x ∈ upTo a n ↔ a ≤ x ∧ x < a + n := by
  simp only [upTo, List.mem_map, List.mem_range]
  constructor
  · rintro ⟨j, hj, rfl⟩; omega
  · intro h; exact ⟨(x - a).toNat, by omega, by omega⟩
def prs : List Int := [3, 5, 7, 11, 13, 17, 19, 23, 29, 31, 37, 41, 43, 47, 53, 59, 61]
def pr (l : Int) : Bool := prs.contains l
theorem pr_iff {l : Int} : pr l = true ↔ l ∈ prs := by unfold pr; exact List.contains_iff_mem
theorem pr_bd {l : Int} (h : pr l = true) : 3 ≤ l ∧ l ≤ 61 := by
  rw [pr_iff] at h
  simp only [prs, List.mem_cons, List.not_mem_nil, or_false] at h
  omega
theorem upto61 {P : Int → Prop} (h : ∀ m : Nat, m < 62 → P m) (n : Int) (h0 : 0 ≤ n) (h1 : n ≤ 61) : P n := by
  have := h n.toNat (by omega)
  rwa [Int.toNat_of_nonneg (by omega)] at this
theorem isPrime_big (p : Int) (h0 : 61 < p) (h1 : p ≤ 9223372036854775807) : ∀ (n : Nat) (d : Int), 2 ≤ d → d ≤ p → (p - d).toNat = n → Ev (fun k => impl_isPrime.l0 k p d) false := by
  intro n
  induction n with
  | zero =>
    intro d hd hp hn
    have : d = p := by omega
    subst this
    refine Ev.step (f := fun _ => some false) (fun k => ?_) (Ev.now _)
    simp only [impl_isPrime.l0]
    by_cases c : wrap64 (d * d) ≤ d
    · rw [if_pos c, if_neg (by omega), if_pos (Int.tmod_self)]
    · rw [if_neg c, within_, Option.bind_some]
      simp
      omega
  | succ n ih =>
    intro d hd hp hn
    by_cases c : wrap64 (d * d) ≤ p
    · by_cases c2 : Int.tmod p d = 0
      · refine Ev.step (f := fun _ => some false) (fun k => ?_) (Ev.now _)
        simp only [impl_isPrime.l0]
        rw [if_pos c, if_neg (by omega), if_pos c2]
      · refine Ev.step (fun k => ?_) (ih (d + 1) (by omega) (by omega) (by omega))
        simp only [impl_isPrime.l0]
        rw [if_pos c, if_neg (by omega), if_neg c2, w64 (by omega) (by omega)]
    · refine Ev.step (f := fun _ => some false) (fun k => ?_) (Ev.now _)
      simp only [impl_isPrime.l0]
      rw [if_neg c, within_, Option.bind_some]
      simp
      omega
theorem isPrime (p : Int) (h0 : -9223372036854775808 ≤ p) (h1 : p ≤ 9223372036854775807) : Ev (fun k => impl_isPrime.f k p) (pr p) := by
  by_cases c : 61 < p
  · have e : pr p = false := by
      cases h : pr p with
      | false => rfl
      | true => have := pr_bd h; omega
    rw [e]
    exact isPrime_big p c h1 _ 2 (by omega) (by omega) rfl
  · by_cases c2 : 0 ≤ p
    · have key : ∀ m : Nat, m < 62 → impl_isPrime.f 20 (m : Int) = some (pr m) := by decide +kernel
      exact Ev.of (impl_isPrime.mono p) (upto61 (P := fun p => impl_isPrime.f 20 p = some (pr p)) key p c2 (by omega))
    · have e : pr p = false := by
        cases h : pr p with
        | false => rfl
        | true => have := pr_bd h; omega
      rw [e]
      refine Ev.step (f := fun _ => some false) (fun k => ?_) (Ev.now _)
      simp only [impl_isPrime.f, impl_isPrime.l0]
      rw [if_neg (by rw [w64 (x := 2 * 2) (by omega) (by omega)]; omega), within_, Option.bind_some]
      simp
      omega
theorem l03Prime (p : Int) : Ev (fun k => spec_l03Prime.f k p) (pr p) := by
  by_cases c : 3 ≤ p ∧ p ≤ 61
  · have key : ∀ m : Nat, m < 62 → spec_l03Prime.f 20 (m : Int) = some (pr m) := by decide +kernel
    exact Ev.of (spec_l03Prime.mono p) (upto61 (P := fun p => spec_l03Prime.f 20 p = some (pr p)) key p (by omega) c.2)
  · have e : pr p = false := by
      cases h : pr p with
      | false => rfl
      | true => have := pr_bd h; omega
    rw [e]
    unfold spec_l03Prime.f
    refine ev_bind_const (l01In _ _ _) ?_
    rw [show (decide (3 ≤ p) && decide (p ≤ 61)) = false by simp; omega]
    exact Ev.now _
def cyc (n : Int) : List Int := [[], [-1, 1], [1, 1], [1, 1, 1], [1, 0, 1], [1, 1, 1, 1, 1], [1, -1, 1], [1, 1, 1, 1, 1, 1, 1], [1, 0, 0, 0, 1], [1, 0, 0, 1, 0, 0, 1], [1, -1, 1, -1, 1], [1, 1, 1, 1, 1, 1, 1, 1, 1, 1, 1], [1, 0, -1, 0, 1], [1, 1, 1, 1, 1, 1, 1, 1, 1, 1, 1, 1, 1], [1, -1, 1, -1, 1, -1, 1], [1, -1, 0, 1, -1, 1, 0, -1, 1], [1, 0, 0, 0, 0, 0, 0, 0, 1]].getD n.toNat []
theorem cyc_impl (n : Int) (h0 : 1 ≤ n) (h1 : n ≤ 16) : Ev (fun k => impl_cyclotomic.f k n) (cyc n) := by
  have key : ∀ m : Nat, m < 17 → 1 ≤ m → impl_cyclotomic.f 400 (m : Int) = some (cyc m) := by decide +kernel
  exact Ev.of (impl_cyclotomic.mono n) (orders (P := fun n => impl_cyclotomic.f 400 n = some (cyc n)) key n h0 h1)
theorem cyc_spec (n : Int) (h0 : 1 ≤ n) (h1 : n ≤ 16) : Ev (fun k => spec_l01Cyclotomic.f k n) (cyc n) := by
  have key : ∀ m : Nat, m < 17 → 1 ≤ m → spec_l01Cyclotomic.f 400 (m : Int) = some (cyc m) := by decide +kernel
  exact Ev.of (spec_l01Cyclotomic.mono n) (orders (P := fun n => spec_l01Cyclotomic.f 400 n = some (cyc n)) key n h0 h1)
theorem cyc_small (n : Int) (h0 : 1 ≤ n) (h1 : n ≤ 16) : (cyc n).length ≤ 13 ∧ ∀ c ∈ cyc n, -1000000000 ≤ c ∧ c ≤ 1000000000 :=
  orders (P := fun n => (cyc n).length ≤ 13 ∧ ∀ c ∈ cyc n, -1000000000 ≤ c ∧ c ≤ 1000000000) (by decide +kernel) n h0 h1
def hv (cs : List Int) (r q : Int) : Int := cs.foldr (fun c out => (out * r + c) % q) 0
theorem hv_bd (cs : List Int) (r q : Int) (hq : 0 < q) : 0 ≤ hv cs r q ∧ hv cs r q < q := by
  cases cs with
  | nil => exact ⟨Int.le_refl 0, hq⟩
  | cons c cs => exact ⟨Int.emod_nonneg _ (by omega), Int.emod_lt_of_pos _ hq⟩
theorem hv_step (cs : List Int) (i : Nat) (hi : i < cs.length) (r q : Int) : hv (cs.drop i) r q = (hv (cs.drop (i + 1)) r q * r + cs[i]) % q := by
  rw [List.drop_eq_getElem_cons hi]
  rfl
theorem tmod_bd (c q : Int) (hq : 0 < q) : -q < Int.tmod c q ∧ Int.tmod c q < q := by
  have h1 := Int.tmod_lt_of_pos c hq
  have h2 := Int.lt_tmod_of_pos c hq
  omega
theorem tmod_emod (c q : Int) (hq : 0 < q) : (Int.tmod c q) % q = c % q := by
  rw [Int.tmod_eq_emod]
  split <;> simp
  rw [Int.sub_emod]
  simp [Int.natAbs_of_nonneg (Int.le_of_lt hq)]
theorem vstep (o r c q : Int) (hq : 0 < q) (hq2 : q ≤ 1000000000) (ho : 0 ≤ o ∧ o < q) (hr : 0 ≤ r ∧ r ≤ 1000000000) :
    wrap64 (wrap64 (o * r) + Int.tmod c q) = o * r + Int.tmod c q ∧ Int.tmod (wrap64 (Int.tmod (o * r + Int.tmod c q) q + q)) q = (o * r + c) % q ∧ Int.tmod (wrap64 (o * r + Int.tmod c q + q)) q = (o * r + c) % q := by
  have b1 := tmod_bd c q hq
  have b2 : 0 ≤ o * r ∧ o * r ≤ 1000000000 * 1000000000 := by
    refine ⟨Int.mul_nonneg ho.1 hr.1, Int.mul_le_mul (by omega) hr.2 hr.1 (by omega)⟩
  have b3 := tmod_bd (o * r + Int.tmod c q) q hq
  refine ⟨by rw [w64 (x := o * r) (by omega) (by omega), w64 (by omega) (by omega)], ?_, ?_⟩
  · rw [w64 (by omega) (by omega), Int.tmod_eq_emod_of_nonneg (by omega), Int.add_emod_right, tmod_emod _ _ hq, Int.add_emod, tmod_emod c q hq, ← Int.add_emod]
  · rw [w64 (by omega) (by omega), Int.tmod_eq_emod_of_nonneg (by omega), Int.add_emod_right, Int.add_emod, tmod_emod c q hq, ← Int.add_emod]
theorem valueAt_l0 (cs : List Int) (hl : cs.length ≤ 1000) (r q : Int) (hq : 0 < q) (hq2 : q ≤ 1000000000) (hr : 0 ≤ r ∧ r ≤ 1000000000) : ∀ (i : Nat), i ≤ cs.length → Ev (fun k => impl_valueAt.l0 k cs r q (hv (cs.drop i) r q) ((i : Int) - 1)) (hv cs r q) := by
  intro i
  induction i with
  | zero =>
    intro hi
    refine Ev.step (f := fun _ => some (hv cs r q)) (fun k => ?_) (Ev.now _)
    simp only [impl_valueAt.l0]
    rw [if_neg (by omega), List.drop_zero]
  | succ i ih =>
    intro hi
    have hlt : i < cs.length := by omega
    have e1 : rd cs (i : Int) = cs[i] := by simp [rd, hlt]
    have hv2 := vstep (hv (cs.drop (i + 1)) r q) r cs[i] q hq hq2 (hv_bd _ _ _ hq) hr
    refine Ev.step (fun k => ?_) (ih (by omega))
    simp only [impl_valueAt.l0]
    rw [show ((i + 1 : Nat) : Int) - 1 = i by omega, if_pos (by omega), if_pos (by omega), if_pos (by omega), if_neg (by omega), e1, w64 (x := (i : Int) - 1) (by omega) (by omega), hv2.1]
    simp only [impl_around.f]
    rw [if_neg (by omega), hv2.2.1, Option.bind_some, hv_step cs i hlt]
theorem valueAt (cs : List Int) (hl : cs.length ≤ 1000) (r q : Int) (hq : 0 < q) (hq2 : q ≤ 1000000000) (hr : 0 ≤ r ∧ r ≤ 1000000000) : Ev (fun k => impl_valueAt.f k cs r q) (hv cs r q) := by
  have := valueAt_l0 cs hl r q hq hq2 hr cs.length (by omega)
  rw [List.drop_of_length_le (by omega)] at this
  unfold impl_valueAt.f
  rw [w64 (by omega) (by omega)]
  exact this
theorem l07Value_l0 (cs : List Int) (hl : cs.length ≤ 1000) (r q : Int) (hq : 0 < q) (hq2 : q ≤ 1000000000) (hr : 0 ≤ r ∧ r ≤ 1000000000) : ∀ (i : Nat), i ≤ cs.length → Ev (fun k => spec_l07Value.l0 k cs r q (hv (cs.drop i) r q) ((i : Int) - 1)) (hv cs r q) := by
  intro i
  induction i with
  | zero =>
    intro hi
    refine Ev.step (f := fun _ => some (hv cs r q)) (fun k => ?_) (Ev.now _)
    simp only [spec_l07Value.l0]
    rw [if_neg (by omega), List.drop_zero]
  | succ i ih =>
    intro hi
    have hlt : i < cs.length := by omega
    have e1 : rd cs (i : Int) = cs[i] := by simp [rd, hlt]
    have hv2 := vstep (hv (cs.drop (i + 1)) r q) r cs[i] q hq hq2 (hv_bd _ _ _ hq) hr
    refine Ev.step (fun k => ?_) (ih (by omega))
    simp only [spec_l07Value.l0]
    rw [show ((i + 1 : Nat) : Int) - 1 = i by omega, if_pos (by omega), if_pos (by omega), if_pos (by omega), if_neg (by omega), e1, w64 (x := (i : Int) - 1) (by omega) (by omega), hv2.1, hv2.2.2, hv_step cs i hlt]
theorem l07Value (cs : List Int) (hl : cs.length ≤ 1000) (r q : Int) (hq : 0 < q) (hq2 : q ≤ 1000000000) (hr : 0 ≤ r ∧ r ≤ 1000000000) : Ev (fun k => spec_l07Value.f k cs r q) (hv cs r q) := by
  have := l07Value_l0 cs hl r q hq hq2 hr cs.length (by omega)
  rw [List.drop_of_length_le (by omega)] at this
  unfold spec_l07Value.f
  rw [w64 (by omega) (by omega)]
  exact this
def fully (n l : Int) : Bool := decide (n % l ≠ 0) && decide ((l - 1) % n = 0)
def okNL (n l : Int) : Bool := (decide (1 ≤ n) && decide (n ≤ 16)) && pr l && fully n l
theorem okNL_iff {n l : Int} : okNL n l = true ↔ (1 ≤ n ∧ n ≤ 16) ∧ pr l = true ∧ fully n l = true := by
  simp only [okNL, Bool.and_eq_true, decide_eq_true_eq, and_assoc]
theorem l07Fully (n l : Int) (hn : 1 ≤ n ∧ n ≤ 16) (hl : pr l = true) : spec_l07Fully.f n l = some (fully n l) := by
  have := pr_bd hl
  unfold spec_l07Fully.f
  rw [if_neg (show ¬ l = 0 by omega), Int.tmod_eq_emod_of_nonneg (show 0 ≤ n by omega)]
  by_cases h : n % l = 0
  · rw [if_pos h]
    simp [fully, h]
  · rw [if_neg h, if_neg (show ¬ n = 0 by omega), w64 (by omega) (by omega), Int.tmod_eq_emod_of_nonneg (by omega)]
    by_cases h2 : (l - 1) % n = 0 <;> simp [fully, h, h2]
theorem splits07 (n l : Int) (hn : 1 ≤ n ∧ n ≤ 16) (hl : pr l = true) : Ev (fun k => impl_splits.f k n l) (fully n l) := by
  have key : ∀ l ∈ prs, ∀ m : Nat, m < 17 → 1 ≤ m → impl_splits.f 100 (m : Int) l = some (fully m l) := by decide +kernel
  exact Ev.of (impl_splits.mono n l) (orders (P := fun n => impl_splits.f 100 n l = some (fully n l)) (key l (pr_iff.mp hl)) n hn.1 hn.2)
theorem l07Code (n l : Int) : Ev (fun k => spec_l07Code.f k n l) (if (decide (1 ≤ n) && decide (n ≤ 16)) && pr l then 0 else 2) := by
  unfold spec_l07Code.f
  refine ev_bind_const (l01In _ _ _) ?_
  cases h : (decide (1 ≤ n) && decide (n ≤ 16)) with
  | false => exact Ev.now _
  | true =>
    simp only [if_true, Bool.true_and]
    refine Ev.bind (l03Prime l) ?_
    cases pr l <;> exact Ev.now _
def roots (n l : Int) : List Int := (upTo 1 (l - 1).toNat).filter fun r => hv (cyc n) r l == 0
theorem mem_roots {n l r : Int} (hl : 1 ≤ l) : r ∈ roots n l ↔ (1 ≤ r ∧ r ≤ l - 1) ∧ hv (cyc n) r l = 0 := by
  unfold roots
  rw [List.mem_filter, mem_upTo, beq_iff_eq]
  constructor
  · rintro ⟨h1, h2⟩; exact ⟨by omega, h2⟩
  · rintro ⟨h1, h2⟩; exact ⟨by omega, h2⟩
theorem rootsFor_l0 (cs : List Int) (hc : cs.length ≤ 1000) (l : Int) (hl : 3 ≤ l ∧ l ≤ 61) : ∀ (d : Nat) (i : Int) (acc : List Int), (d : Int) + i = l → 1 ≤ i → (acc.length : Int) ≤ i → Ev (fun k => impl_rootsFor.l0 k l acc cs i) (acc ++ (upTo i d).filter (fun r => hv cs r l == 0), true) := by
  intro d
  induction d with
  | zero =>
    intro i acc hd hi ha
    refine Ev.step (fun k => by simp only [impl_rootsFor.l0]; rw [if_neg (by omega)]) ?_
    simpa [upTo] using Ev.now _
  | succ d ih =>
    intro i acc hd hi ha
    refine Ev.step (fun k => by simp only [impl_rootsFor.l0]; rw [if_pos (by omega), w64 (x := i + 1) (by omega) (by omega)]) ?_
    refine Ev.bind (valueAt cs hc i l (by omega) (by omega) (by omega)) ?_
    rw [upTo_cons, List.filter_cons]
    by_cases h : hv cs i l = 0
    · have h2 : (hv cs i l == 0) = true := by rw [h]; rfl
      simp only [if_pos h, h2, if_true]
      have := ih (i + 1) (acc ++ [i]) (by omega) (by omega) (by simp; omega)
      rw [List.append_assoc, List.singleton_append] at this
      simp only [if_pos (show acc.length < 17592186044416 by omega)]
      exact this
    · have h2 : (hv cs i l == 0) = false := by rw [beq_eq_false_iff_ne]; exact h
      simp only [if_neg h, h2, Bool.false_eq_true, if_false]
      exact ih (i + 1) acc (by omega) (by omega) (by omega)
theorem rootsFor (n l : Int) (h0 : -9223372036854775808 ≤ l) (h1 : l ≤ 9223372036854775807) : Ev (fun k => impl_rootsFor.f k n l) (if okNL n l then (roots n l, true) else ([], false)) := by
  unfold impl_rootsFor.f impl_isOrder.f
  refine ev_bind_const (a := decide (1 ≤ n) && decide (n ≤ 16)) (by rw [within_]; rfl) ?_
  have no : Ev (fun k => impl_rootsFor.j0 k n l true) (([] : List Int), false) := Ev.step (fun k => by simp only [impl_rootsFor.j0, if_true] <;> rfl) (Ev.now _)
  cases h : (decide (1 ≤ n) && decide (n ≤ 16)) with
  | false => simpa [okNL, h] using no
  | true =>
    have hn : 1 ≤ n ∧ n ≤ 16 := by simpa using h
    simp only [if_true]
    refine Ev.bind (isPrime l h0 h1) ?_
    cases hp : pr l with
    | false => simpa [okNL, h, hp] using no
    | true =>
      have hb := pr_bd hp
      simp only [if_true]
      refine Ev.bind (splits07 n l hn hp) ?_
      cases hs : fully n l with
      | false => simpa [okNL, h, hp, hs] using no
      | true =>
        have e : okNL n l = true := by simp [okNL, h, hp, hs]
        simp only [e, if_true]
        refine Ev.step (fun k => by simp only [impl_rootsFor.j0, Bool.not_true, Bool.false_eq_true, if_false]; rfl) ?_
        refine Ev.bind (cyc_impl n hn.1 hn.2) ?_
        have := rootsFor_l0 (cyc n) (by have := (cyc_small n hn.1 hn.2).1; omega) l hb (l - 1).toNat 1 [] (by omega) (by omega) (by simp)
        simpa [roots] using this
theorem indexInt_l0 (x : Int) (us : List Int) (hl : us.length ≤ 1000000) : ∀ (n i : Nat), n + i = us.length → ∃ r, Ev (fun k => slices_Index_int64_int64.l0 k us x (us.length : Int) (i : Int)) r ∧ decide (r ≥ 0) = (us.drop i).contains x := by
  intro n
  induction n with
  | zero =>
    intro i hd
    refine ⟨-1, Ev.step (fun k => by simp only [slices_Index_int64_int64.l0]; rw [if_neg (by omega)]) (Ev.now _), ?_⟩
    rw [List.drop_of_length_le (by omega)]
    rfl
  | succ n ih =>
    intro i hd
    have hi : i < us.length := by omega
    have e1 : rd us (i : Int) = us[i] := by simp [rd, hi]
    rw [List.drop_eq_getElem_cons hi, List.contains_cons]
    by_cases hp : x = us[i]
    · refine ⟨(i : Int), Ev.step (fun k => by simp only [slices_Index_int64_int64.l0]; rw [if_pos (by omega), if_pos (by omega), if_pos (by omega), e1, if_pos hp]) (Ev.now _), ?_⟩
      rw [beq_iff_eq.mpr hp]
      simp
    · obtain ⟨r, h1, h2⟩ := ih (i + 1) (by omega)
      refine ⟨r, Ev.step (fun k => ?_) h1, by rw [h2, beq_eq_false_iff_ne.mpr hp, Bool.false_or]⟩
      simp only [slices_Index_int64_int64.l0]
      rw [if_pos (by omega), if_pos (by omega), if_pos (by omega), e1, if_neg hp, w64 (by omega) (by omega)]
      rfl
theorem containsInt (x : Int) (us : List Int) (hl : us.length ≤ 1000000) : Ev (fun k => slices_Contains_int64_int64.f k us x) (us.contains x) := by
  obtain ⟨r, h1, h2⟩ := indexInt_l0 x us hl us.length 0 (by omega)
  rw [List.drop_zero] at h2
  rw [← h2]
  unfold slices_Contains_int64_int64.f slices_Index_int64_int64.f
  exact Ev.bind h1 (Ev.now _)
def okP (n l r : Int) : Bool := okNL n l && (roots n l).contains r
theorem okP_iff {n l r : Int} : okP n l r = true ↔ okNL n l = true ∧ (1 ≤ r ∧ r ≤ l - 1) ∧ hv (cyc n) r l = 0 := by
  unfold okP
  rw [Bool.and_eq_true]
  constructor
  · rintro ⟨h1, h2⟩
    have hb := pr_bd (okNL_iff.mp h1).2.1
    rw [List.contains_iff_mem, mem_roots (by omega)] at h2
    exact ⟨h1, h2⟩
  · rintro ⟨h1, h2⟩
    have hb := pr_bd (okNL_iff.mp h1).2.1
    rw [List.contains_iff_mem, mem_roots (by omega)]
    exact ⟨h1, h2⟩
theorem roots_len (n l : Int) (hl : l ≤ 61) : (roots n l).length ≤ 60 := by
  unfold roots
  refine Nat.le_trans (List.length_filter_le _ _) ?_
  simp [upTo]
  omega
theorem isPlace (n l r : Int) (h0 : -9223372036854775808 ≤ l) (h1 : l ≤ 9223372036854775807) : Ev (fun k => impl_isPlace.f k n l r) (okP n l r) := by
  unfold impl_isPlace.f
  refine Ev.bind (rootsFor n l h0 h1) ?_
  cases h : okNL n l with
  | false => simpa [okP, h] using Ev.now _
  | true =>
    have hb := pr_bd (okNL_iff.mp h).2.1
    simp only [if_true]
    refine Ev.bind (containsInt r (roots n l) (by have := roots_len n l hb.2; omega)) ?_
    simpa [okP, h] using Ev.now _
theorem l07Place (n l r : Int) : Ev (fun k => spec_l07Place.f k n l r) (okP n l r) := by
  unfold spec_l07Place.f
  refine Ev.bind (l07Code n l) ?_
  cases h : (decide (1 ≤ n) && decide (n ≤ 16)) && pr l with
  | false =>
    have e : okP n l r = false := by simp [okP, okNL, h]
    rw [e]
    exact Ev.now _
  | true =>
    rw [Bool.and_eq_true] at h
    obtain ⟨h, hp⟩ := h
    have hn : 1 ≤ n ∧ n ≤ 16 := by simpa using h
    have hb := pr_bd hp
    simp only [if_true]
    refine ev_bind_const (l07Fully n l hn hp) ?_
    cases hs : fully n l with
    | false =>
      have e : okP n l r = false := by simp [okP, okNL, h, hs]
      rw [e]
      exact Ev.now _
    | true =>
      have e0 : okNL n l = true := okNL_iff.mpr ⟨hn, hp, hs⟩
      simp only [if_true]
      rw [w64 (by omega) (by omega)]
      refine ev_bind_const (l01In _ _ _) ?_
      by_cases hr : 1 ≤ r ∧ r ≤ l - 1
      · have e1 : (decide (1 ≤ r) && decide (r ≤ l - 1)) = true := by simp; omega
        simp only [e1, if_true]
        refine Ev.bind (cyc_spec n hn.1 hn.2) ?_
        refine Ev.bind (l07Value (cyc n) (by have := (cyc_small n hn.1 hn.2).1; omega) r l (by omega) (by omega) (by omega)) ?_
        have e2 : (hv (cyc n) r l == 0) = okP n l r := by
          rw [Bool.eq_iff_iff, okP_iff, beq_iff_eq]
          exact ⟨fun h => ⟨e0, hr, h⟩, fun h => h.2.2⟩
        rw [e2]
        exact Ev.now _
      · have e1 : (decide (1 ≤ r) && decide (r ≤ l - 1)) = false := by simp; omega
        have e2 : okP n l r = false := by
          cases h : okP n l r with
          | false => rfl
          | true => exact absurd (okP_iff.mp h).2.1 hr
        simp only [e1, e2]
        exact Ev.now _
def gcode (n : Int) (x : List Int) (l r : Int) : Int := if isC n x then (if okP n l r then 0 else 2) else 1
theorem l07Given (n : Int) (x : List Int) (l r : Int) (hx : x.length ≤ 1048576) : Ev (fun k => spec_l07Given.f k n x l r) (gcode n x l r) := by
  unfold spec_l07Given.f gcode
  refine Ev.bind (l01Is n x hx) ?_
  cases isC n x with
  | false => exact Ev.now _
  | true =>
    simp only [if_true]
    refine Ev.bind (l07Place n l r) ?_
    cases okP n l r <;> exact Ev.now _
theorem placeCode (n : Int) (x : List Int) (l r : Int) (h0 : -9223372036854775808 ≤ l) (h1 : l ≤ 9223372036854775807) : Ev (fun k => impl_placeCode.f k n x l r) (gcode n x l r) := by
  unfold impl_placeCode.f gcode
  refine Ev.bind (isCyclo n x) ?_
  cases isC n x with
  | false => exact Ev.now _
  | true =>
    simp only [if_true]
    refine Ev.bind (isPlace n l r h0 h1) ?_
    cases okP n l r <;> exact Ev.now _
theorem gcode_iff {n : Int} {x : List Int} {l r : Int} : gcode n x l r = 0 ↔ isC n x = true ∧ okP n l r = true := by
  unfold gcode
  cases isC n x <;> cases okP n l r <;> simp
theorem phi_small (n : Int) (h0 : 1 ≤ n) (h1 : n ≤ 16) : 1 ≤ phi n ∧ phi n ≤ 12 := orders (P := fun n => 1 ≤ phi n ∧ phi n ≤ 12) (by decide +kernel) n h0 h1
theorem isC_len {n : Int} {x : List Int} (h : isC n x = true) : (1 ≤ n ∧ n ≤ 16) ∧ (x.length : Int) = phi n ∧ x.length ≤ 12 ∧ 1 ≤ x.length := by
  simp only [isC, Bool.and_eq_true, decide_eq_true_eq] at h
  have := phi_small n h.1.1.1 h.1.1.2
  exact ⟨h.1.1, h.1.2, by omega, by omega⟩
def outRes (n : Int) (x : List Int) (l r : Int) : Int × Int := if gcode n x l r = 0 then (hv x r l, 0) else (0, gcode n x l r)
theorem implRes (n : Int) (x : List Int) (l r : Int) (h0 : -9223372036854775808 ≤ l) (h1 : l ≤ 9223372036854775807) : Ev (fun k => impl_ResidueAt.f k n x l r) (outRes n x l r) := by
  unfold impl_ResidueAt.f outRes
  refine Ev.bind (placeCode n x l r h0 h1) ?_
  by_cases h : gcode n x l r = 0
  · simp only [if_pos h]
    obtain ⟨h1, h2⟩ := gcode_iff.mp h
    have h3 := okP_iff.mp h2
    have hb := pr_bd (okNL_iff.mp h3.1).2.1
    exact Ev.bind (valueAt x (by have := isC_len h1; omega) r l (by omega) (by omega) (by omega)) (Ev.now _)
  · simp only [if_neg h]
    exact Ev.now _
theorem pow_emod (a m : Int) : ∀ k : Nat, (a % m) ^ k % m = a ^ k % m := by
  intro k
  induction k with
  | zero => rw [Int.pow_zero, Int.pow_zero]
  | succ k ih => rw [Int.pow_succ, Int.pow_succ, Int.mul_emod, ih, Int.emod_emod, ← Int.mul_emod]
theorem l07Power_l0 (l x : Int) (hl : 0 < l) (hl2 : l ≤ 1000000) (hx : 0 ≤ x ∧ x < l) : ∀ (k : Nat) (o : Int), k ≤ 1000000 → 0 ≤ o → o < l → Ev (fun f => spec_l07Power.l0 f l x (k : Int) o) ((o * x ^ k) % l) := by
  intro k
  induction k with
  | zero =>
    intro o hk h0 h1
    refine Ev.step (fun f => by simp only [spec_l07Power.l0]; rw [if_neg (by omega)] <;> rfl) ?_
    rw [Int.pow_zero, Int.mul_one, Int.emod_eq_of_lt h0 h1]
    exact Ev.now _
  | succ k ih =>
    intro o hk h0 h1
    have hb : 0 ≤ o * x ∧ o * x ≤ 1000000 * 1000000 := ⟨Int.mul_nonneg h0 hx.1, Int.mul_le_mul (by omega) (by omega) hx.1 (by omega)⟩
    have := ih ((o * x) % l) (by omega) (Int.emod_nonneg _ (by omega)) (Int.emod_lt_of_pos _ hl)
    have e : (o * x) % l * x ^ k % l = o * x ^ (k + 1) % l := by
      rw [Int.mul_emod, Int.emod_emod, ← Int.mul_emod, Int.mul_assoc, ← Int.pow_succ']
    rw [e] at this
    refine Ev.step (fun f => ?_) this
    simp only [spec_l07Power.l0]
    rw [if_pos (by omega), if_neg (by omega), w64 (x := ((k + 1 : Nat) : Int) - 1) (by omega) (by omega), w64 (x := o * x) (by omega) (by omega), Int.tmod_eq_emod_of_nonneg hb.1, show ((k + 1 : Nat) : Int) - 1 = k by omega]
theorem l07Power (l x : Int) (k : Nat) (hl : 1 < l) (hl2 : l ≤ 1000000) (hx : 0 ≤ x ∧ x < l) (hk : k ≤ 1000000) : Ev (fun f => spec_l07Power.f f l x (k : Int)) (x ^ k % l) := by
  have := l07Power_l0 l x (by omega) hl2 hx k 1 hk (by omega) hl
  rw [Int.one_mul] at this
  exact this
theorem implPower_l0 (m : Int) (hm : 0 < m) (hm2 : m ≤ 1000000) : ∀ (n k : Nat) (x o : Int), k ≤ n → n ≤ 1000000 → 0 ≤ x → x < m → 0 ≤ o → o < m → Ev (fun f => impl_power.l0 f x (k : Int) m o) ((o * x ^ k) % m) := by
  intro n
  induction n with
  | zero =>
    intro k x o hk _ h0 h1 h2 h3
    obtain rfl : k = 0 := by omega
    refine Ev.step (fun f => by simp only [impl_power.l0]; rw [if_neg (by omega)] <;> rfl) ?_
    rw [Int.pow_zero, Int.mul_one, Int.emod_eq_of_lt h2 h3]
    exact Ev.now _
  | succ n ih =>
    intro k x o hk hn h0 h1 h2 h3
    by_cases hz : k = 0
    · subst hz
      refine Ev.step (fun f => by simp only [impl_power.l0]; rw [if_neg (by omega)] <;> rfl) ?_
      rw [Int.pow_zero, Int.mul_one, Int.emod_eq_of_lt h2 h3]
      exact Ev.now _
    have hxx : 0 ≤ x * x ∧ x * x ≤ 1000000 * 1000000 := ⟨Int.mul_nonneg h0 h0, Int.mul_le_mul (by omega) (by omega) h0 (by omega)⟩
    have hox : 0 ≤ o * x ∧ o * x ≤ 1000000 * 1000000 := ⟨Int.mul_nonneg h2 h0, Int.mul_le_mul (by omega) (by omega) h0 (by omega)⟩
    have e1 : wrap64 (Int.tdiv (k : Int) 2) = ((k / 2 : Nat) : Int) := by
      rw [Int.tdiv_eq_ediv_of_nonneg (by omega), w64 (by omega) (by omega)]
      omega
    have e2 : (x * x) % m = x * x % m := rfl
    by_cases ho : k % 2 = 1
    · have := ih (k / 2) ((x * x) % m) ((o * x) % m) (by omega) (by omega) (Int.emod_nonneg _ (by omega)) (Int.emod_lt_of_pos _ hm) (Int.emod_nonneg _ (by omega)) (Int.emod_lt_of_pos _ hm)
      have e : ((o * x) % m * ((x * x) % m) ^ (k / 2)) % m = (o * x ^ k) % m := by
        rw [Int.mul_emod, pow_emod, Int.emod_emod, ← Int.mul_emod]
        congr 1
        rw [Int.mul_assoc]
        congr 1
        have : k = 2 * (k / 2) + 1 := by omega
        conv => rhs; rw [this]
        rw [Int.pow_succ, Int.pow_mul, show x ^ 2 = x * x by rw [Int.pow_succ, Int.pow_succ, Int.pow_zero, Int.one_mul], Int.mul_comm]
      rw [e] at this
      refine Ev.step (fun f => ?_) this
      simp only [impl_power.l0]
      rw [if_pos (by omega), Int.tmod_eq_emod_of_nonneg (by omega), if_pos (by omega), if_neg (by omega), w64 (x := x * x) (by omega) (by omega), w64 (x := o * x) (by omega) (by omega), Int.tmod_eq_emod_of_nonneg hxx.1, Int.tmod_eq_emod_of_nonneg hox.1, e1]
    · have := ih (k / 2) ((x * x) % m) o (by omega) (by omega) (Int.emod_nonneg _ (by omega)) (Int.emod_lt_of_pos _ hm) h2 h3
      have e : (o * ((x * x) % m) ^ (k / 2)) % m = (o * x ^ k) % m := by
        rw [Int.mul_emod, pow_emod, ← Int.mul_emod]
        congr 2
        have : k = 2 * (k / 2) := by omega
        conv => rhs; rw [this]
        rw [Int.pow_mul, show x ^ 2 = x * x by rw [Int.pow_succ, Int.pow_succ, Int.pow_zero, Int.one_mul]]
      rw [e] at this
      refine Ev.step (fun f => ?_) this
      simp only [impl_power.l0]
      rw [if_pos (by omega), Int.tmod_eq_emod_of_nonneg (by omega), if_neg (by omega), if_neg (by omega), w64 (x := x * x) (by omega) (by omega), Int.tmod_eq_emod_of_nonneg hxx.1, e1]
theorem around (a m : Int) (hm : 0 < m) (hm2 : m ≤ 1000000000000) : impl_around.f a m = some (a % m) := by
  unfold impl_around.f
  have h1 := Int.tmod_lt_of_pos a hm
  have h2 := Int.lt_tmod_of_pos a hm
  rw [if_neg (by omega), w64 (by omega) (by omega), Int.tmod_eq_emod_of_nonneg (by omega), Int.add_emod_right, tmod_emod _ _ hm]
theorem implPower (m x : Int) (k : Nat) (hm : 1 < m) (hm2 : m ≤ 1000000) (hk : k ≤ 1000000) : Ev (fun f => impl_power.f f x (k : Int) m) (x ^ k % m) := by
  unfold impl_power.f
  have := implPower_l0 m (by omega) hm2 k k (x % m) 1 (by omega) hk (Int.emod_nonneg _ (by omega)) (Int.emod_lt_of_pos _ (by omega)) (by omega) hm
  rw [Int.one_mul, pow_emod] at this
  simp only [if_neg (show ¬ m = 0 by omega), show (1 : Int) % m = 1 from Int.emod_eq_of_lt (by omega) hm]
  exact ev_bind_const (around x m (by omega) (by omega)) this
theorem pow_nat (x l : Int) (k : Nat) (hx : 0 ≤ x) (hl : 0 ≤ l) : x ^ k % l = ((x.toNat ^ k % l.toNat : Nat) : Int) := by
  rw [Int.natCast_emod, Int.natCast_pow, Int.toNat_of_nonneg hx, Int.toNat_of_nonneg hl]
def tab (l n r : Nat) : Bool := (List.range l).all fun o => o == 0 || (List.range n).any fun k => r ^ k % l == o ^ ((l - 1) / n) % l
def tabs (l : Int) : Bool := (upTo 1 16).all fun n => !fully n l || (roots n l).all fun r => tab l.toNat n.toNat r.toNat
theorem tabs_ok (l : Int) (hl : pr l = true) : tabs l = true := by
  have key : ∀ l ∈ prs, tabs l = true := by decide +kernel
  exact key l (pr_iff.mp hl)
theorem tab_ok (n l r : Int) (h : okP n l r = true) : tab l.toNat n.toNat r.toNat = true := by
  obtain ⟨h1, h2⟩ := okP_iff.mp h
  obtain ⟨hn, hp, hf⟩ := okNL_iff.mp h1
  have hb := pr_bd hp
  have := tabs_ok l hp
  rw [tabs, List.all_eq_true] at this
  have h3 := this n (mem_upTo.mpr (by omega))
  rw [hf] at h3
  simp only [Bool.not_true, Bool.false_or, List.all_eq_true] at h3
  exact h3 r ((mem_roots (by omega)).mpr h2)
theorem tab_any {l n r o : Nat} (h : tab l n r = true) (h0 : 0 < o) (h1 : o < l) : ∃ k, k < n ∧ r ^ k % l = o ^ ((l - 1) / n) % l := by
  rw [tab, List.all_eq_true] at h
  have := h o (List.mem_range.mpr h1)
  rw [Bool.or_eq_true, beq_iff_eq, List.any_eq_true] at this
  rcases this with h2 | ⟨k, hk, e⟩
  · omega
  · exact ⟨k, List.mem_range.mp hk, by simpa using e⟩
theorem least {P : Nat → Prop} [DecidablePred P] : ∀ (n : Nat), (∃ k, k < n ∧ P k) → ∃ k, k < n ∧ P k ∧ ∀ j, j < k → ¬ P j := by
  intro n
  induction n with
  | zero => rintro ⟨k, hk, _⟩; omega
  | succ n ih =>
    rintro ⟨k, hk, hP⟩
    by_cases h : ∃ k, k < n ∧ P k
    · obtain ⟨k, hk, h1, h2⟩ := ih h
      exact ⟨k, by omega, h1, h2⟩
    · have : k = n := by
        rcases Nat.lt_or_ge k n with h3 | h3
        · exact absurd ⟨k, h3, hP⟩ h
        · omega
      subst this
      exact ⟨k, by omega, hP, fun j hj hp => h ⟨j, hj, hp⟩⟩
theorem spec_l0 (l r p : Int) (hl : 1 < l) (hl2 : l ≤ 1000000) (hr : 0 ≤ r ∧ r < l) (k : Nat) (hk : k ≤ 1000) (hP : r ^ k % l = p) (hN : ∀ j, j < k → ¬ r ^ j % l = p) : ∀ (d i : Nat), d + i = k → Ev (fun f => spec_SymbolAt.l0 f l r p (i : Int)) ((k : Int), 0) := by
  intro d
  induction d with
  | zero =>
    intro i hd
    obtain rfl : i = k := by omega
    refine Ev.step (fun f => by simp only [spec_SymbolAt.l0] <;> rfl) ?_
    refine Ev.bind (l07Power l r i hl hl2 hr (by omega)) ?_
    simp only [if_pos hP]
    exact Ev.now _
  | succ d ih =>
    intro i hd
    refine Ev.step (fun f => by simp only [spec_SymbolAt.l0] <;> rfl) ?_
    refine Ev.bind (l07Power l r i hl hl2 hr (by omega)) ?_
    simp only [if_neg (hN i (by omega))]
    rw [w64 (by omega) (by omega)]
    exact ih (i + 1) (by omega)
theorem impl_l0 (l r o : Int) (n : Nat) (x : List Int) (hl : 1 < l) (hl2 : l ≤ 1000000) (hr : 0 ≤ r ∧ r < l) (ho : ¬ o = 0) (hn0 : 0 < n) (m : Nat) (hm : wrap64 (Int.tdiv (wrap64 (l - 1)) (n : Int)) = (m : Int)) (hm2 : m ≤ 1000000) (k : Nat) (hk : k < n) (hn : n ≤ 1000) (hP : r ^ k % l = o ^ m % l) (hN : ∀ j, j < k → ¬ r ^ j % l = o ^ m % l) : ∀ (d i : Nat), d + i = k → Ev (fun f => impl_SymbolAt.l0 f l r o (n : Int) (i : Int) (n : Int) x) ((k : Int), 0) := by
  intro d
  induction d with
  | zero =>
    intro i hd
    obtain rfl : i = k := by omega
    refine Ev.step (fun f => by simp only [impl_SymbolAt.l0]; rw [if_pos (by omega), if_neg ho, if_neg (by omega), hm] <;> rfl) ?_
    refine Ev.bind (implPower l o m hl hl2 hm2) (Ev.bind (implPower l r i hl hl2 (by omega)) ?_)
    simp only [if_pos hP.symm]
    exact Ev.now _
  | succ d ih =>
    intro i hd
    refine Ev.step (fun f => by simp only [impl_SymbolAt.l0]; rw [if_pos (by omega), if_neg ho, if_neg (by omega), hm] <;> rfl) ?_
    refine Ev.bind (implPower l o m hl hl2 hm2) (Ev.bind (implPower l r i hl hl2 (by omega)) ?_)
    simp only [if_neg (fun e => hN i (by omega) (Eq.symm e))]
    rw [w64 (by omega) (by omega)]
    exact ih (i + 1) (by omega)
theorem impl_l0z (l r : Int) (n : Nat) (x : List Int) (hn : n ≤ 1000) : ∀ (d i : Nat), d + i = n → Ev (fun f => impl_SymbolAt.l0 f l r 0 (n : Int) (i : Int) (n : Int) x) (0, 5) := by
  intro d
  induction d with
  | zero =>
    intro i hd
    exact Ev.step (fun f => by simp only [impl_SymbolAt.l0]; rw [if_neg (by omega)] <;> rfl) (Ev.now _)
  | succ d ih =>
    intro i hd
    refine Ev.step (fun f => by simp only [impl_SymbolAt.l0]; rw [if_pos (by omega), if_true, w64 (by omega) (by omega)] <;> rfl) (ih (i + 1) (by omega))
theorem same_out (n : Int) (x : List Int) (l r : Int) (hx : x.length ≤ 1048576) (hb : -9223372036854775808 ≤ l ∧ l ≤ 9223372036854775807) (_ : -9223372036854775808 ≤ r ∧ r ≤ 9223372036854775807) : ∃ o : Int × Int, Ev (fun k => spec_SymbolAt.f k n x l r) o ∧ Ev (fun k => impl_SymbolAt.f k n x l r) o := by
  by_cases h : gcode n x l r = 0
  · obtain ⟨h1, h2⟩ := gcode_iff.mp h
    have h3 := okP_iff.mp h2
    have hp := pr_bd (okNL_iff.mp h3.1).2.1
    have hn := (okNL_iff.mp h3.1).1
    have hl2 := isC_len h1
    have hv0 := hv_bd x r l (by omega)
    have ei := implRes n x l r hb.1 hb.2
    simp only [outRes, if_pos h] at ei
    have es := l07Value x (by omega) r l (by omega) (by omega) (by omega)
    obtain ⟨N, rfl⟩ : ∃ N : Nat, n = (N : Int) := ⟨n.toNat, by omega⟩
    obtain ⟨m, hm⟩ : ∃ m : Nat, wrap64 (Int.tdiv (wrap64 (l - 1)) (N : Int)) = (m : Int) ∧ m = (l.toNat - 1) / N := by
      refine ⟨(l.toNat - 1) / N, ?_, rfl⟩
      have hd : (l - 1) / (N : Int) = (((l.toNat - 1) / N : Nat) : Int) := by
        rw [Int.natCast_ediv]
        congr 1
        omega
      have hle : ((l.toNat - 1) / N : Nat) ≤ l.toNat - 1 := Nat.div_le_self _ _
      generalize (l.toNat - 1) / N = z at hd hle ⊢
      rw [w64 (x := l - 1) (by omega) (by omega), Int.tdiv_eq_ediv_of_nonneg (by omega), hd]
      exact w64 (by omega) (by omega)
    have hmb : m ≤ 1000000 := by
      have : (l.toNat - 1) / N ≤ l.toNat - 1 := Nat.div_le_self _ _
      omega
    by_cases ho : hv x r l = 0
    · refine ⟨(0, 5), ?_, ?_⟩
      · unfold spec_SymbolAt.f
        refine Ev.bind (l07Given (N : Int) x l r hx) ?_
        simp only [if_pos h]
        refine Ev.bind es ?_
        simp only [if_pos ho]
        exact Ev.now _
      · unfold impl_SymbolAt.f
        refine Ev.bind ei ?_
        simp only [if_true, ho]
        exact impl_l0z l r N x (by omega) N 0 (by omega)
    · have ht := tab_any (tab_ok _ _ _ h2) (o := (hv x r l).toNat) (by omega) (by omega)
      simp only [Int.toNat_natCast] at ht
      rw [← hm.2] at ht
      obtain ⟨k, hk, hP, hN⟩ := least N ht
      have eP : ∀ j : Nat, r ^ j % l = (hv x r l) ^ m % l ↔ r.toNat ^ j % l.toNat = (hv x r l).toNat ^ m % l.toNat := by
        intro j
        rw [pow_nat r l j (by omega) (by omega), pow_nat _ l m (by omega) (by omega)]
        omega
      refine ⟨((k : Int), 0), ?_, ?_⟩
      · unfold spec_SymbolAt.f
        refine Ev.bind (l07Given (N : Int) x l r hx) ?_
        simp only [if_pos h]
        refine Ev.bind es ?_
        simp only [if_neg ho, if_neg (show ¬ (N : Int) = 0 by omega), hm.1]
        refine Ev.bind (l07Power l (hv x r l) m (by omega) (by omega) hv0 hmb) ?_
        exact spec_l0 l r _ (by omega) (by omega) (by omega) k (by omega) ((eP k).mpr hP) (fun j hj e => hN j hj ((eP j).mp e)) k 0 (by omega)
      · unfold impl_SymbolAt.f
        refine Ev.bind ei ?_
        simp only [if_true]
        exact impl_l0 l r _ N x (by omega) (by omega) (by omega) ho (by omega) m hm.1 hmb k hk (by omega) ((eP k).mpr hP) (fun j hj e => hN j hj ((eP j).mp e)) k 0 (by omega)
  · refine ⟨(0, gcode n x l r), ?_, ?_⟩
    · unfold spec_SymbolAt.f
      refine Ev.bind (l07Given n x l r hx) ?_
      simp only [if_neg h]
      exact Ev.now _
    · unfold impl_SymbolAt.f
      have ei := implRes n x l r hb.1 hb.2
      simp only [outRes, if_neg h] at ei
      refine Ev.bind ei ?_
      simp only [if_neg h]
      exact Ev.now _
theorem FnExactSymbolAt : laws_FnExactSymbolAt.Pure := by
  intro n l a1 a2 _ hm hw hl1 hl2
  apply Ev.rounds
  have hb1 := wf64 hl1
  have hb2 := wf64 hl2
  have hm2 : l.length ≤ 9223372036854775807 := by simpa [maxLen] using hm
  unfold laws_FnExactSymbolAt.f laws_szCyclo.f laws_szInt64S.f
  rw [w64 (by omega) (by omega)]
  by_cases h1 : (1048576 : Int) - (l.length : Int) < 0
  · simp only [if_pos h1, Option.bind_some]
    exact Ev.now _
  simp only [if_neg h1, Option.bind_some]
  have hl : l.length ≤ 1048576 := by omega
  obtain ⟨⟨g, c⟩, hs, hi⟩ := same_out n l a1 a2 hl hb1 hb2
  have at1 := toCyclo n l hl
  refine Ev.bind at1 (Ev.bind hs (Ev.bind at1 (Ev.bind hi ?_)))
  simp only [if_true, bne_self_eq_false]
  refine Ev.step (fun k => by simp only [laws_FnExactSymbolAt.j0, Bool.false_eq_true, if_false] <;> rfl) ?_
  refine Ev.bind at1 (Ev.bind (eqCyclo _ _ _ _ hl) ?_)
  simp only [and_self, decide_true, if_true]
  exact Ev.now _
end Go.Proofs.Ytpmbhleenfnchad.Pure
