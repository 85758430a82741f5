/- The program's LiftedRoot returns what the reference's returns, for all arguments; no condition. -/
import Derived.Test.YtcfpdjhiagfgaaaPFnExactLiftedRootx6
import Derived.OpenShut
namespace Go.Proofs.Ytcfpdjhiagfgaaa.Pure
open Go.RowKit Go.Proofs.Ytcfpdjhiagfgaaa.PFnExactLiftedRoot Go.Proofs.YtcfpdjhiagfgaaaW.PrintWords Go.Proofs.YtcfpdjhiagfgaaaW.PrintLast Go.Proofs.YtcfpdjhiagfgaaaW.PrintMore
set_option linter.unusedVariables false
set_option linter.unusedSimpArgs false
theorem w64 {x : Int} (h0 : -9223372036854775808 ≤ x) (h1 : x ≤ 9223372036854775807) : wrap64 x = x := by unfold wrap64; omega
theorem wf64 {x : Int} (h : (Lit.int .i64 x).wf = true) : -9223372036854775808 ≤ x ∧ x ≤ 9223372036854775807 := bounds_i64 h
theorem ev_bind_const {α β : Type} {o : Option α} {a : α} {f : Nat → α → Option β} {r : β} (h : o = some a) (k : Ev (fun n => f n a) r) : Ev (fun n => o.bind (f n)) r := by
  subst h; exact k
theorem orders {P : Int → Prop} (h : ∀ m : Nat, m < 17 → 1 ≤ m → P m) (n : Int) (h0 : 1 ≤ n) (h1 : n ≤ 16) : P n := by
  have := h n.toNat (by omega) (by omega)
  rwa [Int.toNat_of_nonneg (by omega)] at this
theorem l01In (a b c : Int) : spec_l01In.f a b c = some (decide (b ≤ a) && decide (a ≤ c)) := by
  unfold spec_l01In.f
  by_cases h : a ≥ b
  · rw [if_pos h]; simp [h]
  · rw [if_neg h]; simp [h]
theorem within_ (a b c : Int) : impl_within.f a b c = some (decide (b ≤ a) && decide (a ≤ c)) := by
  unfold impl_within.f
  by_cases h : b ≤ a
  · rw [if_pos h]; simp [h]
  · rw [if_neg h]; simp [h]
def prs : List Int := [3, 5, 7, 11, 13, 17, 19, 23, 29, 31, 37, 41, 43, 47, 53, 59, 61]
def pr (l : Int) : Bool := prs.contains l
theorem pr_iff {l : Int} : pr l = true ↔ l ∈ prs := by unfold pr; exact List.contains_iff_mem
theorem pr_bd {l : Int} (h : pr l = true) : 3 ≤ l ∧ l ≤ 61 := by
  rw [pr_iff] at h
  simp only [prs, List.mem_cons, List.not_mem_nil, or_false] at h
  omega
theorem upto61 {P : Int → Prop} (h : ∀ m : Nat, m < 62 → P m) (n : Int) (h0 : 0 ≤ n) (h1 : n ≤ 61) : P n := by
  have := h n.toNat (by omega)
  rwa [Int.toNat_of_nonneg (by omega)] at this
theorem primes {P : Int → Prop} (h : ∀ l ∈ prs, P l) (l : Int) (hl : pr l = true) : P l := h l (pr_iff.mp hl)
theorem isPrime_big (p : Int) (h0 : 61 < p) (h1 : p ≤ 9223372036854775807) : ∀ (n : Nat) (d : Int), 2 ≤ d → d ≤ p → (p - d).toNat = n → Ev (fun k => impl_isPrime.l0 k p d) false := by
  intro n
  induction n with
  | zero =>
    intro d hd hp hn
    have : d = p := by omega
    subst this
    refine Ev.step (f := fun _ => some false) (fun k => ?_) (Ev.now _)
    simp only [impl_isPrime.l0]
    by_cases c : wrap64 (d * d) ≤ d
    · rw [if_pos c, if_neg (by omega), if_pos (Int.tmod_self)]
    · rw [if_neg c, within_, Option.bind_some]
      simp
      omega
  | succ n ih =>
    intro d hd hp hn
    by_cases c : wrap64 (d * d) ≤ p
    · by_cases c2 : Int.tmod p d = 0
      · refine Ev.step (f := fun _ => some false) (fun k => ?_) (Ev.now _)
        simp only [impl_isPrime.l0]
        rw [if_pos c, if_neg (by omega), if_pos c2]
      · refine Ev.step (fun k => ?_) (ih (d + 1) (by omega) (by omega) (by omega))
        simp only [impl_isPrime.l0]
        rw [if_pos c, if_neg (by omega), if_neg c2, w64 (by omega) (by omega)]
    · refine Ev.step (f := fun _ => some false) (fun k => ?_) (Ev.now _)
      simp only [impl_isPrime.l0]
      rw [if_neg c, within_, Option.bind_some]
      simp
      omega
theorem isPrime (p : Int) (h0 : -9223372036854775808 ≤ p) (h1 : p ≤ 9223372036854775807) : Ev (fun k => impl_isPrime.f k p) (pr p) := by
  by_cases c : 61 < p
  · have e : pr p = false := by
      cases h : pr p with
      | false => rfl
      | true => have := pr_bd h; omega
    rw [e]
    exact isPrime_big p c h1 _ 2 (by omega) (by omega) rfl
  · by_cases c2 : 0 ≤ p
    · have key : ∀ m : Nat, m < 62 → impl_isPrime.f 20 (m : Int) = some (pr m) := by decide +kernel
      exact Ev.of (impl_isPrime.mono p) (upto61 (P := fun p => impl_isPrime.f 20 p = some (pr p)) key p c2 (by omega))
    · have e : pr p = false := by
        cases h : pr p with
        | false => rfl
        | true => have := pr_bd h; omega
      rw [e]
      refine Ev.step (f := fun _ => some false) (fun k => ?_) (Ev.now _)
      simp only [impl_isPrime.f, impl_isPrime.l0]
      rw [if_neg (by rw [w64 (x := 2 * 2) (by omega) (by omega)]; omega), within_, Option.bind_some]
      simp
      omega
theorem l03Prime (p : Int) : Ev (fun k => spec_l03Prime.f k p) (pr p) := by
  by_cases c : 3 ≤ p ∧ p ≤ 61
  · have key : ∀ m : Nat, m < 62 → spec_l03Prime.f 20 (m : Int) = some (pr m) := by decide +kernel
    exact Ev.of (spec_l03Prime.mono p) (upto61 (P := fun p => spec_l03Prime.f 20 p = some (pr p)) key p (by omega) c.2)
  · have e : pr p = false := by
      cases h : pr p with
      | false => rfl
      | true => have := pr_bd h; omega
    rw [e]
    unfold spec_l03Prime.f
    refine ev_bind_const (l01In _ _ _) ?_
    rw [show (decide (3 ≤ p) && decide (p ≤ 61)) = false by simp; omega]
    exact Ev.now _
def cyc (n : Int) : List Int := [[], [-1, 1], [1, 1], [1, 1, 1], [1, 0, 1], [1, 1, 1, 1, 1], [1, -1, 1], [1, 1, 1, 1, 1, 1, 1], [1, 0, 0, 0, 1], [1, 0, 0, 1, 0, 0, 1], [1, -1, 1, -1, 1], [1, 1, 1, 1, 1, 1, 1, 1, 1, 1, 1], [1, 0, -1, 0, 1], [1, 1, 1, 1, 1, 1, 1, 1, 1, 1, 1, 1, 1], [1, -1, 1, -1, 1, -1, 1], [1, -1, 0, 1, -1, 1, 0, -1, 1], [1, 0, 0, 0, 0, 0, 0, 0, 1]].getD n.toNat []
theorem cyc_impl (n : Int) (h0 : 1 ≤ n) (h1 : n ≤ 16) : Ev (fun k => impl_cyclotomic.f k n) (cyc n) := by
  have key : ∀ m : Nat, m < 17 → 1 ≤ m → impl_cyclotomic.f 400 (m : Int) = some (cyc m) := by decide +kernel
  exact Ev.of (impl_cyclotomic.mono n) (orders (P := fun n => impl_cyclotomic.f 400 n = some (cyc n)) key n h0 h1)
theorem cyc_spec (n : Int) (h0 : 1 ≤ n) (h1 : n ≤ 16) : Ev (fun k => spec_l01Cyclotomic.f k n) (cyc n) := by
  have key : ∀ m : Nat, m < 17 → 1 ≤ m → spec_l01Cyclotomic.f 400 (m : Int) = some (cyc m) := by decide +kernel
  exact Ev.of (spec_l01Cyclotomic.mono n) (orders (P := fun n => spec_l01Cyclotomic.f 400 n = some (cyc n)) key n h0 h1)
theorem cyc_small (n : Int) (h0 : 1 ≤ n) (h1 : n ≤ 16) : (cyc n).length ≤ 13 ∧ ∀ c ∈ cyc n, -1000000000 ≤ c ∧ c ≤ 1000000000 :=
  orders (P := fun n => (cyc n).length ≤ 13 ∧ ∀ c ∈ cyc n, -1000000000 ≤ c ∧ c ≤ 1000000000) (by decide +kernel) n h0 h1
def hv (cs : List Int) (r q : Int) : Int := cs.foldr (fun c out => (out * r + c) % q) 0
theorem hv_bd (cs : List Int) (r q : Int) (hq : 0 < q) : 0 ≤ hv cs r q ∧ hv cs r q < q := by
  cases cs with
  | nil => exact ⟨Int.le_refl 0, hq⟩
  | cons c cs => exact ⟨Int.emod_nonneg _ (by omega), Int.emod_lt_of_pos _ hq⟩
theorem hv_step (cs : List Int) (i : Nat) (hi : i < cs.length) (r q : Int) : hv (cs.drop i) r q = (hv (cs.drop (i + 1)) r q * r + cs[i]) % q := by
  rw [List.drop_eq_getElem_cons hi]
  rfl
theorem tmod_bd (c q : Int) (hq : 0 < q) : -q < Int.tmod c q ∧ Int.tmod c q < q := by
  have h1 := Int.tmod_lt_of_pos c hq
  have h2 := Int.lt_tmod_of_pos c hq
  omega
theorem tmod_emod (c q : Int) (hq : 0 < q) : (Int.tmod c q) % q = c % q := by
  rw [Int.tmod_eq_emod]
  split <;> simp
  rw [Int.sub_emod]
  simp [Int.natAbs_of_nonneg (Int.le_of_lt hq)]
theorem vstep (o r c q : Int) (hq : 0 < q) (hq2 : q ≤ 1000000000) (ho : 0 ≤ o ∧ o < q) (hr : 0 ≤ r ∧ r ≤ 1000000000) :
    wrap64 (wrap64 (o * r) + Int.tmod c q) = o * r + Int.tmod c q ∧ Int.tmod (wrap64 (Int.tmod (o * r + Int.tmod c q) q + q)) q = (o * r + c) % q ∧ Int.tmod (wrap64 (o * r + Int.tmod c q + q)) q = (o * r + c) % q := by
  have b1 := tmod_bd c q hq
  have b2 : 0 ≤ o * r ∧ o * r ≤ 1000000000 * 1000000000 := by
    refine ⟨Int.mul_nonneg ho.1 hr.1, Int.mul_le_mul (by omega) hr.2 hr.1 (by omega)⟩
  have b3 := tmod_bd (o * r + Int.tmod c q) q hq
  refine ⟨by rw [w64 (x := o * r) (by omega) (by omega), w64 (by omega) (by omega)], ?_, ?_⟩
  · rw [w64 (by omega) (by omega), Int.tmod_eq_emod_of_nonneg (by omega), Int.add_emod_right, tmod_emod _ _ hq, Int.add_emod, tmod_emod c q hq, ← Int.add_emod]
  · rw [w64 (by omega) (by omega), Int.tmod_eq_emod_of_nonneg (by omega), Int.add_emod_right, Int.add_emod, tmod_emod c q hq, ← Int.add_emod]
theorem valueAt_l0 (cs : List Int) (hl : cs.length ≤ 1000) (r q : Int) (hq : 0 < q) (hq2 : q ≤ 1000000000) (hr : 0 ≤ r ∧ r ≤ 1000000000) : ∀ (i : Nat), i ≤ cs.length → Ev (fun k => impl_valueAt.l0 k cs r q (hv (cs.drop i) r q) ((i : Int) - 1)) (hv cs r q) := by
  intro i
  induction i with
  | zero =>
    intro hi
    refine Ev.step (f := fun _ => some (hv cs r q)) (fun k => ?_) (Ev.now _)
    simp only [impl_valueAt.l0]
    rw [if_neg (by omega), List.drop_zero]
  | succ i ih =>
    intro hi
    have hlt : i < cs.length := by omega
    have e1 : rd cs (i : Int) = cs[i] := by simp [rd, hlt]
    have hv2 := vstep (hv (cs.drop (i + 1)) r q) r cs[i] q hq hq2 (hv_bd _ _ _ hq) hr
    refine Ev.step (fun k => ?_) (ih (by omega))
    simp only [impl_valueAt.l0]
    rw [show ((i + 1 : Nat) : Int) - 1 = i by omega, if_pos (by omega), if_pos (by omega), if_pos (by omega), if_neg (by omega), e1, w64 (x := (i : Int) - 1) (by omega) (by omega), hv2.1]
    simp only [impl_around.f]
    rw [if_neg (by omega), hv2.2.1, Option.bind_some, hv_step cs i hlt]
theorem valueAt (cs : List Int) (hl : cs.length ≤ 1000) (r q : Int) (hq : 0 < q) (hq2 : q ≤ 1000000000) (hr : 0 ≤ r ∧ r ≤ 1000000000) : Ev (fun k => impl_valueAt.f k cs r q) (hv cs r q) := by
  have := valueAt_l0 cs hl r q hq hq2 hr cs.length (by omega)
  rw [List.drop_of_length_le (by omega)] at this
  unfold impl_valueAt.f
  rw [w64 (by omega) (by omega)]
  exact this
theorem l07Value_l0 (cs : List Int) (hl : cs.length ≤ 1000) (r q : Int) (hq : 0 < q) (hq2 : q ≤ 1000000000) (hr : 0 ≤ r ∧ r ≤ 1000000000) : ∀ (i : Nat), i ≤ cs.length → Ev (fun k => spec_l07Value.l0 k cs r q (hv (cs.drop i) r q) ((i : Int) - 1)) (hv cs r q) := by
  intro i
  induction i with
  | zero =>
    intro hi
    refine Ev.step (f := fun _ => some (hv cs r q)) (fun k => ?_) (Ev.now _)
    simp only [spec_l07Value.l0]
    rw [if_neg (by omega), List.drop_zero]
  | succ i ih =>
    intro hi
    have hlt : i < cs.length := by omega
    have e1 : rd cs (i : Int) = cs[i] := by simp [rd, hlt]
    have hv2 := vstep (hv (cs.drop (i + 1)) r q) r cs[i] q hq hq2 (hv_bd _ _ _ hq) hr
    refine Ev.step (fun k => ?_) (ih (by omega))
    simp only [spec_l07Value.l0]
    rw [show ((i + 1 : Nat) : Int) - 1 = i by omega, if_pos (by omega), if_pos (by omega), if_pos (by omega), if_neg (by omega), e1, w64 (x := (i : Int) - 1) (by omega) (by omega), hv2.1, hv2.2.2, hv_step cs i hlt]
theorem l07Value (cs : List Int) (hl : cs.length ≤ 1000) (r q : Int) (hq : 0 < q) (hq2 : q ≤ 1000000000) (hr : 0 ≤ r ∧ r ≤ 1000000000) : Ev (fun k => spec_l07Value.f k cs r q) (hv cs r q) := by
  have := l07Value_l0 cs hl r q hq hq2 hr cs.length (by omega)
  rw [List.drop_of_length_le (by omega)] at this
  unfold spec_l07Value.f
  rw [w64 (by omega) (by omega)]
  exact this
def fully (n l : Int) : Bool := decide (n % l ≠ 0) && decide ((l - 1) % n = 0)
def okNL (n l : Int) : Bool := (decide (1 ≤ n) && decide (n ≤ 16)) && pr l && fully n l
theorem okNL_iff {n l : Int} : okNL n l = true ↔ (1 ≤ n ∧ n ≤ 16) ∧ pr l = true ∧ fully n l = true := by
  simp only [okNL, Bool.and_eq_true, decide_eq_true_eq, and_assoc]
theorem l07Fully (n l : Int) (hn : 1 ≤ n ∧ n ≤ 16) (hl : pr l = true) : spec_l07Fully.f n l = some (fully n l) := by
  have := pr_bd hl
  unfold spec_l07Fully.f
  rw [if_neg (show ¬ l = 0 by omega), Int.tmod_eq_emod_of_nonneg (show 0 ≤ n by omega)]
  by_cases h : n % l = 0
  · rw [if_pos h]
    simp [fully, h]
  · rw [if_neg h, if_neg (show ¬ n = 0 by omega), w64 (by omega) (by omega), Int.tmod_eq_emod_of_nonneg (by omega)]
    by_cases h2 : (l - 1) % n = 0 <;> simp [fully, h, h2]
theorem splits07 (n l : Int) (hn : 1 ≤ n ∧ n ≤ 16) (hl : pr l = true) : Ev (fun k => impl_splits.f k n l) (fully n l) := by
  have key : ∀ l ∈ prs, ∀ m : Nat, m < 17 → 1 ≤ m → impl_splits.f 100 (m : Int) l = some (fully m l) := by decide +kernel
  exact Ev.of (impl_splits.mono n l) (orders (P := fun n => impl_splits.f 100 n l = some (fully n l)) (key l (pr_iff.mp hl)) n hn.1 hn.2)
theorem l07Code (n l : Int) : Ev (fun k => spec_l07Code.f k n l) (if (decide (1 ≤ n) && decide (n ≤ 16)) && pr l then 0 else 2) := by
  unfold spec_l07Code.f
  refine ev_bind_const (l01In _ _ _) ?_
  cases h : (decide (1 ≤ n) && decide (n ≤ 16)) with
  | false => exact Ev.now _
  | true =>
    simp only [if_true, Bool.true_and]
    refine Ev.bind (l03Prime l) ?_
    cases pr l <;> exact Ev.now _
def upTo (a : Int) (n : Nat) : List Int := (List.range n).map fun (j : Nat) => a + (j : Int)
theorem upTo_cons (a : Int) (n : Nat) : upTo a (n + 1) = a :: upTo (a + 1) n := by
  unfold upTo
  rw [List.range_succ_eq_map, List.map_cons, List.map_map]
  congr 1
  · simp
  · apply List.map_congr_left
    intro j _
    simp only [Function.comp, Nat.succ_eq_add_one]
    omega
theorem mem_upTo {a x : Int} {n : Nat} : x ∈ upTo a n ↔ a ≤ x ∧ x < a + n := by
  simp only [upTo, List.mem_map, List.mem_range]
  constructor
  · rintro ⟨j, hj, rfl⟩; omega
  · intro h; exact ⟨(x - a).toNat, by omega, by omega⟩
def roots (n l : Int) : List Int := (upTo 1 (l - 1).toNat).filter fun r => hv (cyc n) r l == 0
theorem mem_roots {n l r : Int} (hl : 1 ≤ l) : r ∈ roots n l ↔ (1 ≤ r ∧ r ≤ l - 1) ∧ hv (cyc n) r l = 0 := by
  unfold roots
  rw [List.mem_filter, mem_upTo, beq_iff_eq]
  constructor
  · rintro ⟨h1, h2⟩; exact ⟨by omega, h2⟩
  · rintro ⟨h1, h2⟩; exact ⟨by omega, h2⟩
theorem rootsFor_l0 (cs : List Int) (hc : cs.length ≤ 1000) (l : Int) (hl : 3 ≤ l ∧ l ≤ 61) : ∀ (d : Nat) (i : Int) (acc : List Int), (d : Int) + i = l → 1 ≤ i → (acc.length : Int) ≤ i → Ev (fun k => impl_rootsFor.l0 k l acc cs i) (acc ++ (upTo i d).filter (fun r => hv cs r l == 0), true) := by
  intro d
  induction d with
  | zero =>
    intro i acc hd hi ha
    refine Ev.step (fun k => by simp only [impl_rootsFor.l0]; rw [if_neg (by omega)]) ?_
    simpa [upTo] using Ev.now _
  | succ d ih =>
    intro i acc hd hi ha
    refine Ev.step (fun k => by simp only [impl_rootsFor.l0]; rw [if_pos (by omega), w64 (x := i + 1) (by omega) (by omega)]) ?_
    refine Ev.bind (valueAt cs hc i l (by omega) (by omega) (by omega)) ?_
    rw [upTo_cons, List.filter_cons]
    by_cases h : hv cs i l = 0
    · have h2 : (hv cs i l == 0) = true := by rw [h]; rfl
      simp only [if_pos h, h2, if_true]
      have := ih (i + 1) (acc ++ [i]) (by omega) (by omega) (by simp; omega)
      rw [List.append_assoc, List.singleton_append] at this
      simp only [if_pos (show acc.length < 17592186044416 by omega)]
      exact this
    · have h2 : (hv cs i l == 0) = false := by rw [beq_eq_false_iff_ne]; exact h
      simp only [if_neg h, h2, Bool.false_eq_true, if_false]
      exact ih (i + 1) acc (by omega) (by omega) (by omega)
theorem rootsFor (n l : Int) (h0 : -9223372036854775808 ≤ l) (h1 : l ≤ 9223372036854775807) : Ev (fun k => impl_rootsFor.f k n l) (if okNL n l then (roots n l, true) else ([], false)) := by
  unfold impl_rootsFor.f impl_isOrder.f
  refine ev_bind_const (a := decide (1 ≤ n) && decide (n ≤ 16)) (by rw [within_]; rfl) ?_
  have no : Ev (fun k => impl_rootsFor.j0 k n l true) (([] : List Int), false) := Ev.step (fun k => by simp only [impl_rootsFor.j0, if_true] <;> rfl) (Ev.now _)
  cases h : (decide (1 ≤ n) && decide (n ≤ 16)) with
  | false => simpa [okNL, h] using no
  | true =>
    have hn : 1 ≤ n ∧ n ≤ 16 := by simpa using h
    simp only [if_true]
    refine Ev.bind (isPrime l h0 h1) ?_
    cases hp : pr l with
    | false => simpa [okNL, h, hp] using no
    | true =>
      have hb := pr_bd hp
      simp only [if_true]
      refine Ev.bind (splits07 n l hn hp) ?_
      cases hs : fully n l with
      | false => simpa [okNL, h, hp, hs] using no
      | true =>
        have e : okNL n l = true := by simp [okNL, h, hp, hs]
        simp only [e, if_true]
        refine Ev.step (fun k => by simp only [impl_rootsFor.j0, Bool.not_true, Bool.false_eq_true, if_false]; rfl) ?_
        refine Ev.bind (cyc_impl n hn.1 hn.2) ?_
        have := rootsFor_l0 (cyc n) (by have := (cyc_small n hn.1 hn.2).1; omega) l hb (l - 1).toNat 1 [] (by omega) (by omega) (by simp)
        simpa [roots] using this
theorem indexInt_l0 (x : Int) (us : List Int) (hl : us.length ≤ 1000000) : ∀ (n i : Nat), n + i = us.length → ∃ r, Ev (fun k => slices_Index_int64_int64.l0 k us x (us.length : Int) (i : Int)) r ∧ decide (r ≥ 0) = (us.drop i).contains x := by
  intro n
  induction n with
  | zero =>
    intro i hd
    refine ⟨-1, Ev.step (fun k => by simp only [slices_Index_int64_int64.l0]; rw [if_neg (by omega)]) (Ev.now _), ?_⟩
    rw [List.drop_of_length_le (by omega)]
    rfl
  | succ n ih =>
    intro i hd
    have hi : i < us.length := by omega
    have e1 : rd us (i : Int) = us[i] := by simp [rd, hi]
    rw [List.drop_eq_getElem_cons hi, List.contains_cons]
    by_cases hp : x = us[i]
    · refine ⟨(i : Int), Ev.step (fun k => by simp only [slices_Index_int64_int64.l0]; rw [if_pos (by omega), if_pos (by omega), if_pos (by omega), e1, if_pos hp]) (Ev.now _), ?_⟩
      rw [beq_iff_eq.mpr hp]
      simp
    · obtain ⟨r, h1, h2⟩ := ih (i + 1) (by omega)
      refine ⟨r, Ev.step (fun k => ?_) h1, by rw [h2, beq_eq_false_iff_ne.mpr hp, Bool.false_or]⟩
      simp only [slices_Index_int64_int64.l0]
      rw [if_pos (by omega), if_pos (by omega), if_pos (by omega), e1, if_neg hp, w64 (by omega) (by omega)]
      rfl
theorem containsInt (x : Int) (us : List Int) (hl : us.length ≤ 1000000) : Ev (fun k => slices_Contains_int64_int64.f k us x) (us.contains x) := by
  obtain ⟨r, h1, h2⟩ := indexInt_l0 x us hl us.length 0 (by omega)
  rw [List.drop_zero] at h2
  rw [← h2]
  unfold slices_Contains_int64_int64.f slices_Index_int64_int64.f
  exact Ev.bind h1 (Ev.now _)
def okP (n l r : Int) : Bool := okNL n l && (roots n l).contains r
theorem okP_iff {n l r : Int} : okP n l r = true ↔ okNL n l = true ∧ (1 ≤ r ∧ r ≤ l - 1) ∧ hv (cyc n) r l = 0 := by
  unfold okP
  rw [Bool.and_eq_true]
  constructor
  · rintro ⟨h1, h2⟩
    have hb := pr_bd (okNL_iff.mp h1).2.1
    rw [List.contains_iff_mem, mem_roots (by omega)] at h2
    exact ⟨h1, h2⟩
  · rintro ⟨h1, h2⟩
    have hb := pr_bd (okNL_iff.mp h1).2.1
    rw [List.contains_iff_mem, mem_roots (by omega)]
    exact ⟨h1, h2⟩
theorem roots_len (n l : Int) (hl : l ≤ 61) : (roots n l).length ≤ 60 := by
  unfold roots
  refine Nat.le_trans (List.length_filter_le _ _) ?_
  simp [upTo]
  omega
theorem isPlace (n l r : Int) (h0 : -9223372036854775808 ≤ l) (h1 : l ≤ 9223372036854775807) : Ev (fun k => impl_isPlace.f k n l r) (okP n l r) := by
  unfold impl_isPlace.f
  refine Ev.bind (rootsFor n l h0 h1) ?_
  cases h : okNL n l with
  | false => simpa [okP, h] using Ev.now _
  | true =>
    have hb := pr_bd (okNL_iff.mp h).2.1
    simp only [if_true]
    refine Ev.bind (containsInt r (roots n l) (by have := roots_len n l hb.2; omega)) ?_
    simpa [okP, h] using Ev.now _
theorem l07Place (n l r : Int) : Ev (fun k => spec_l07Place.f k n l r) (okP n l r) := by
  unfold spec_l07Place.f
  refine Ev.bind (l07Code n l) ?_
  cases h : (decide (1 ≤ n) && decide (n ≤ 16)) && pr l with
  | false =>
    have e : okP n l r = false := by simp [okP, okNL, h]
    rw [e]
    exact Ev.now _
  | true =>
    rw [Bool.and_eq_true] at h
    obtain ⟨h, hp⟩ := h
    have hn : 1 ≤ n ∧ n ≤ 16 := by simpa using h
    have hb := pr_bd hp
    simp only [if_true]
    refine ev_bind_const (l07Fully n l hn hp) ?_
    cases hs : fully n l with
    | false =>
      have e : okP n l r = false := by simp [okP, okNL, h, hs]
      rw [e]
      exact Ev.now _
    | true =>
      have e0 : okNL n l = true := okNL_iff.mpr ⟨hn, hp, hs⟩
      simp only [if_true]
      rw [w64 (by omega) (by omega)]
      refine ev_bind_const (l01In _ _ _) ?_
      by_cases hr : 1 ≤ r ∧ r ≤ l - 1
      · have e1 : (decide (1 ≤ r) && decide (r ≤ l - 1)) = true := by simp; omega
        simp only [e1, if_true]
        refine Ev.bind (cyc_spec n hn.1 hn.2) ?_
        refine Ev.bind (l07Value (cyc n) (by have := (cyc_small n hn.1 hn.2).1; omega) r l (by omega) (by omega) (by omega)) ?_
        have e2 : (hv (cyc n) r l == 0) = okP n l r := by
          rw [Bool.eq_iff_iff, okP_iff, beq_iff_eq]
          exact ⟨fun h => ⟨e0, hr, h⟩, fun h => h.2.2⟩
        rw [e2]
        exact Ev.now _
      · have e1 : (decide (1 ≤ r) && decide (r ≤ l - 1)) = false := by simp; omega
        have e2 : okP n l r = false := by
          cases h : okP n l r with
          | false => rfl
          | true => exact absurd (okP_iff.mp h).2.1 hr
        simp only [e1, e2]
        exact Ev.now _
def mo (l : Int) : Int := [0, 0, 0, 18, 0, 12, 0, 10, 0, 0, 0, 8, 0, 8, 0, 0, 0, 7, 0, 7, 0, 0, 0, 6, 0, 0, 0, 0, 0, 6, 0, 6, 0, 0, 0, 0, 0, 5, 0, 0, 0, 5, 0, 5, 0, 0, 0, 5, 0, 0, 0, 0, 0, 5, 0, 0, 0, 0, 0, 5, 0, 5].getD l.toNat 0
theorem mostPower (l : Int) (hl : pr l = true) : Ev (fun k => impl_mostPower.f k l) (mo l) := by
  have key : ∀ l ∈ prs, impl_mostPower.f 30 l = some (mo l) := by decide +kernel
  exact Ev.of (impl_mostPower.mono l) (key l (pr_iff.mp hl))
theorem l07Most (l : Int) (hl : pr l = true) : Ev (fun k => spec_l07Most.f k l) (mo l) := by
  have key : ∀ l ∈ prs, spec_l07Most.f 30 l = some (mo l) := by decide +kernel
  exact Ev.of (spec_l07Most.mono l) (key l (pr_iff.mp hl))
def nxt (cs : List Int) (m q : Int) : Nat → Int → Option Int
  | 0, _ => none
  | j + 1, r => if hv cs r q = 0 then some r else nxt cs m q j (r + m)
def chain (cs : List Int) (l : Int) : Nat → Int → Int → Bool
  | 0, _, _ => true
  | j + 1, m, r => match nxt cs m (m * l) 62 r with
    | none => false
    | some r' => decide (r' < m * l) && decide (m * l ≤ 1000000000) && chain cs l j (m * l) r'
theorem nxt_ge (cs : List Int) (m q : Int) (hm : 0 < m) : ∀ (j : Nat) (r r' : Int), nxt cs m q j r = some r' → r ≤ r' ∧ hv cs r' q = 0 := by
  intro j
  induction j with
  | zero => intro r r' h; simp [nxt] at h
  | succ j ih =>
    intro r r' h
    simp only [nxt] at h
    by_cases c : hv cs r q = 0
    · rw [if_pos c] at h
      obtain rfl := Option.some.inj h
      exact ⟨Int.le_refl _, c⟩
    · rw [if_neg c] at h
      have := ih _ _ h
      exact ⟨by omega, this.2⟩
def lst (cs : List Int) (l : Int) : Nat → Int → Int → Int
  | 0, _, r => r
  | j + 1, m, r => match nxt cs m (m * l) 62 r with
    | none => r
    | some r' => lst cs l j (m * l) r'
theorem impl_search (cs : List Int) (hc : cs.length ≤ 1000) (l m k : Int) (hm : 0 < m) (hq : m * l ≤ 1000000000) (hq0 : 0 < m * l) (X : Int × Int) : ∀ (j : Nat) (r r' : Int), 0 ≤ r → r' ≤ 1000000000 → nxt cs m (m * l) j r = some r' →
    Ev (fun n => impl_lifted.l0 n l r' (wrap64 (k - 1)) cs (m * l)) X → Ev (fun n => impl_lifted.l1 n l r k cs m) X := by
  intro j
  induction j with
  | zero => intro r r' _ _ h; simp [nxt] at h
  | succ j ih =>
    intro r r' h0 h1 h H
    have hg := (nxt_ge cs m (m * l) hm _ _ _ h).1
    simp only [nxt] at h
    refine Ev.step (fun n => by simp only [impl_lifted.l1]; rw [w64 (x := m * l) (by omega) (by omega)]) ?_
    refine Ev.bind (valueAt cs hc r (m * l) hq0 hq (by omega)) ?_
    by_cases c : hv cs r (m * l) = 0
    · rw [if_pos c] at h
      obtain rfl := Option.some.inj h
      simp only [if_pos c]
      exact H
    · rw [if_neg c] at h
      have hg2 := (nxt_ge cs m (m * l) hm _ _ _ h).1
      simp only [if_neg c]
      rw [w64 (x := r + m) (by omega) (by omega)]
      exact ih _ _ (by omega) h1 h H
theorem spec_search (cs : List Int) (hc : cs.length ≤ 1000) (l m k : Int) (hm : 0 < m) (hq : m * l ≤ 1000000000) (hq0 : 0 < m * l) (X : Int) : ∀ (j : Nat) (r r' : Int), 0 ≤ r → r' ≤ 1000000000 → nxt cs m (m * l) j r = some r' →
    Ev (fun n => spec_l07Lift.l0 n l (wrap64 (k - 1)) cs (m * l) r') X → Ev (fun n => spec_l07Lift.l1 n l k cs m r (m * l)) X := by
  intro j
  induction j with
  | zero => intro r r' _ _ h; simp [nxt] at h
  | succ j ih =>
    intro r r' h0 h1 h H
    have hg := (nxt_ge cs m (m * l) hm _ _ _ h).1
    simp only [nxt] at h
    refine Ev.step (fun n => by simp only [spec_l07Lift.l1] <;> rfl) ?_
    refine Ev.bind (l07Value cs hc r (m * l) hq0 hq (by omega)) ?_
    by_cases c : hv cs r (m * l) = 0
    · rw [if_pos c] at h
      obtain rfl := Option.some.inj h
      simp only [if_pos c]
      exact H
    · rw [if_neg c] at h
      have hg2 := (nxt_ge cs m (m * l) hm _ _ _ h).1
      simp only [if_neg c]
      rw [w64 (x := r + m) (by omega) (by omega)]
      exact ih _ _ (by omega) h1 h H
theorem chain_cut (cs : List Int) (l : Int) : ∀ (j i : Nat) (m r : Int), chain cs l j m r = true → i ≤ j → chain cs l i m r = true := by
  intro j
  induction j with
  | zero => intro i m r h hi; obtain rfl : i = 0 := by omega
            exact h
  | succ j ih =>
    intro i m r h hi
    cases i with
    | zero => rfl
    | succ i =>
      simp only [chain] at h ⊢
      cases hn : nxt cs m (m * l) 62 r with
      | none => rw [hn] at h; cases h
      | some r' =>
        rw [hn] at h
        simp only [Bool.and_eq_true] at h ⊢
        exact ⟨h.1, ih i _ _ h.2 (by omega)⟩
theorem impl_chain (cs : List Int) (hc : cs.length ≤ 1000) (l : Int) (hl : 0 < l) : ∀ (j : Nat) (m r : Int), 0 < m → 0 ≤ r → j ≤ 100 → chain cs l j m r = true → ∃ m', Ev (fun n => impl_lifted.l0 n l r ((j : Int) + 1) cs m) (lst cs l j m r, m') := by
  intro j
  induction j with
  | zero =>
    intro m r hm hr hj h
    exact ⟨m, Ev.step (fun n => by simp only [impl_lifted.l0]; rw [if_neg (by omega)]; rfl) (Ev.now _)⟩
  | succ j ih =>
    intro m r hm hr hj h
    simp only [chain] at h
    simp only [lst]
    cases hn : nxt cs m (m * l) 62 r with
    | none => rw [hn] at h; cases h
    | some r' =>
      rw [hn] at h
      simp only [Bool.and_eq_true, decide_eq_true_eq] at h
      have hq0 := Int.mul_pos hm hl
      have hg := (nxt_ge cs m (m * l) hm _ _ _ hn).1
      obtain ⟨m', H⟩ := ih (m * l) r' hq0 (by omega) (by omega) h.2
      refine ⟨m', Ev.step (fun n => by simp only [impl_lifted.l0]; rw [if_pos (by omega)]) ?_⟩
      refine impl_search cs hc l m _ hm h.1.2 hq0 _ 62 r r' hr (by omega) hn ?_
      rw [w64 (by omega) (by omega), show ((j + 1 : Nat) : Int) + 1 - 1 = (j : Int) + 1 by omega]
      exact H
theorem spec_chain (cs : List Int) (hc : cs.length ≤ 1000) (l : Int) (hl : 0 < l) : ∀ (j : Nat) (m r : Int), 0 < m → 0 ≤ r → j ≤ 100 → chain cs l j m r = true → Ev (fun n => spec_l07Lift.l0 n l ((j : Int) + 1) cs m r) (lst cs l j m r) := by
  intro j
  induction j with
  | zero =>
    intro m r hm hr hj h
    exact Ev.step (fun n => by simp only [spec_l07Lift.l0]; rw [if_neg (by omega)]; rfl) (Ev.now _)
  | succ j ih =>
    intro m r hm hr hj h
    simp only [chain] at h
    simp only [lst]
    cases hn : nxt cs m (m * l) 62 r with
    | none => rw [hn] at h; cases h
    | some r' =>
      rw [hn] at h
      simp only [Bool.and_eq_true, decide_eq_true_eq] at h
      have hq0 := Int.mul_pos hm hl
      have hg := (nxt_ge cs m (m * l) hm _ _ _ hn).1
      have H := ih (m * l) r' hq0 (by omega) (by omega) h.2
      refine Ev.step (fun n => by simp only [spec_l07Lift.l0]; rw [if_pos (by omega), w64 (x := m * l) (by omega) (by omega)]) ?_
      refine spec_search cs hc l m _ hm h.1.2 hq0 _ 62 r r' hr (by omega) hn ?_
      rw [w64 (by omega) (by omega), show ((j + 1 : Nat) : Int) + 1 - 1 = (j : Int) + 1 by omega]
      exact H
def allChains (l : Int) : Bool := (upTo 1 16).all fun n => !fully n l || (roots n l).all fun r => chain (cyc n) l ((mo l).toNat - 1) l r
theorem chains_ok (l : Int) (hl : pr l = true) : allChains l = true := by
  have key : ∀ l ∈ prs, allChains l = true := by decide +kernel
  exact key l (pr_iff.mp hl)
theorem chain_ok (n l r : Int) (h : okP n l r = true) : chain (cyc n) l ((mo l).toNat - 1) l r = true := by
  obtain ⟨h1, h2⟩ := okP_iff.mp h
  obtain ⟨hn, hp, hf⟩ := okNL_iff.mp h1
  have hb := pr_bd hp
  have := chains_ok l hp
  rw [allChains, List.all_eq_true] at this
  have h3 := this n (mem_upTo.mpr (by omega))
  rw [hf] at h3
  simp only [Bool.not_true, Bool.false_or, List.all_eq_true] at h3
  exact h3 r ((mem_roots (by omega)).mpr h2)
theorem mo_bd (l : Int) (hl : pr l = true) : 1 ≤ mo l ∧ mo l ≤ 18 := primes (P := fun l => 1 ≤ mo l ∧ mo l ≤ 18) (by decide) l hl
def out (n l r k : Int) : Int × Int := if okP n l r && (decide (1 ≤ k) && decide (k ≤ mo l)) then (lst (cyc n) l (k.toNat - 1) l r, 0) else (0, 2)
theorem spec_out (n l r k : Int) : Ev (fun f => spec_LiftedRoot.f f n l r k) (out n l r k) := by
  unfold spec_LiftedRoot.f
  refine Ev.bind (l07Place n l r) ?_
  cases h : okP n l r with
  | false => simpa [out, h] using Ev.now _
  | true =>
    obtain ⟨h1, h2⟩ := okP_iff.mp h
    obtain ⟨hn, hp, hf⟩ := okNL_iff.mp h1
    have hb := pr_bd hp
    have hm := mo_bd l hp
    simp only [if_true]
    refine Ev.bind (l07Most l hp) ?_
    refine ev_bind_const (l01In _ _ _) ?_
    cases hk : (decide (1 ≤ k) && decide (k ≤ mo l)) with
    | false => simpa [out, h, hk] using Ev.now _
    | true =>
      have hk' : 1 ≤ k ∧ k ≤ mo l := by simpa using hk
      simp only [out, h, hk, if_true, Bool.true_and]
      unfold spec_l07Lift.f
      have := spec_chain (cyc n) (by have := (cyc_small n hn.1 hn.2).1; omega) l (by omega) (k.toNat - 1) l r (by omega) (by omega) (by omega) (chain_cut _ _ _ _ _ _ (chain_ok n l r h) (by omega))
      rw [show ((k.toNat - 1 : Nat) : Int) + 1 = k by omega] at this
      exact Ev.bind (Ev.bind (cyc_spec n hn.1 hn.2) this) (Ev.now _)
theorem impl_out (n l r k : Int) (h0 : -9223372036854775808 ≤ l) (h1 : l ≤ 9223372036854775807) : Ev (fun f => impl_LiftedRoot.f f n l r k) (out n l r k) := by
  unfold impl_LiftedRoot.f
  refine Ev.bind (isPlace n l r h0 h1) ?_
  cases h : okP n l r with
  | false => simpa [out, h] using Ev.now _
  | true =>
    obtain ⟨h1, h2⟩ := okP_iff.mp h
    obtain ⟨hn, hp, hf⟩ := okNL_iff.mp h1
    have hb := pr_bd hp
    have hm := mo_bd l hp
    simp only [if_true]
    refine Ev.bind (mostPower l hp) ?_
    refine ev_bind_const (within_ _ _ _) ?_
    cases hk : (decide (1 ≤ k) && decide (k ≤ mo l)) with
    | false => simpa [out, h, hk] using Ev.now _
    | true =>
      have hk' : 1 ≤ k ∧ k ≤ mo l := by simpa using hk
      simp only [out, h, hk, if_true, Bool.true_and]
      unfold impl_lifted.f
      obtain ⟨m', this⟩ := impl_chain (cyc n) (by have := (cyc_small n hn.1 hn.2).1; omega) l (by omega) (k.toNat - 1) l r (by omega) (by omega) (by omega) (chain_cut _ _ _ _ _ _ (chain_ok n l r h) (by omega))
      rw [show ((k.toNat - 1 : Nat) : Int) + 1 = k by omega] at this
      exact Ev.bind (Ev.bind (cyc_impl n hn.1 hn.2) this) (Ev.now _)
theorem FnExactLiftedRoot : laws_FnExactLiftedRoot.Pure := by
  intro n l r k _ hl _ _
  apply Ev.rounds
  have hb := wf64 hl
  unfold laws_FnExactLiftedRoot.f
  refine Ev.bind (spec_out n l r k) (Ev.bind (impl_out n l r k hb.1 hb.2) ?_)
  simp only [if_true]
  exact Ev.now _
end Go.Proofs.Ytcfpdjhiagfgaaa.Pure
