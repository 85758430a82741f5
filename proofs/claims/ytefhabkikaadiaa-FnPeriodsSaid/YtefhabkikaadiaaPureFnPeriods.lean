/- Rows of tables give the numbers of classes, and classes have equally many numbers; no condition. -/
import Derived.Test.YtefhabkikaadiaaPFnPeriodsx10
import Derived.OpenShut
namespace Go.Proofs.Ytefhabkikaadiaa.Pure
open Go.RowKit Go.Proofs.Ytefhabkikaadiaa.PFnPeriods Go.Proofs.YtefhabkikaadiaaW.PrintWords Go.Proofs.YtefhabkikaadiaaW.PrintLast Go.Proofs.YtefhabkikaadiaaW.PrintMore
set_option linter.unusedVariables false
set_option linter.unusedSimpArgs false
theorem w64 {x : Int} (h0 : -9223372036854775808 ≤ x) (h1 : x ≤ 9223372036854775807) : wrap64 x = x := by unfold wrap64; omega
theorem rd_mem {l : List Int} {i : Int} (h0 : 0 ≤ i) (h1 : i < l.length) : rd l i ∈ l := by
  unfold rd
  rw [List.getD_eq_getElem?_getD, List.getElem?_eq_getElem (by omega)]
  exact List.getElem_mem (by omega)
theorem ev_bind_const {α β : Type} {o : Option α} {a : α} {f : Nat → α → Option β} {r : β} (h : o = some a) (k : Ev (fun n => f n a) r) : Ev (fun n => o.bind (f n)) r := by
  subst h; exact k
theorem l01In (a b c : Int) : spec_l01In.f a b c = some (decide (b ≤ a) && decide (a ≤ c)) := by
  unfold spec_l01In.f
  by_cases h : a ≥ b
  · rw [if_pos h]; simp [h]
  · rw [if_neg h]; simp [h]
theorem within_ (a b c : Int) : impl_within.f a b c = some (decide (b ≤ a) && decide (a ≤ c)) := by
  unfold impl_within.f
  by_cases h : b ≤ a
  · rw [if_pos h]; simp [h]
  · rw [if_neg h]; simp [h]
def upTo (a : Int) (n : Nat) : List Int := (List.range n).map fun (j : Nat) => a + (j : Int)
theorem mem_upTo {a x : Int} {n : Nat} : x ∈ upTo a n ↔ a ≤ x ∧ x < a + n := by
  simp only [upTo, List.mem_map, List.mem_range]
  constructor
  · rintro ⟨j, hj, rfl⟩; omega
  · intro h; exact ⟨(x - a).toNat, by omega, by omega⟩
def prs : List Int := [3, 5, 7, 11, 13, 17, 19, 23, 29, 31, 37, 41, 43, 47, 53, 59, 61]
def pr (l : Int) : Bool := prs.contains l
theorem pr_iff {l : Int} : pr l = true ↔ l ∈ prs := by unfold pr; exact List.contains_iff_mem
theorem pr_bd {l : Int} (h : pr l = true) : 3 ≤ l ∧ l ≤ 61 := by
  rw [pr_iff] at h
  simp only [prs, List.mem_cons, List.not_mem_nil, or_false] at h
  omega
theorem upto61 {P : Int → Prop} (h : ∀ m : Nat, m < 62 → P m) (n : Int) (h0 : 0 ≤ n) (h1 : n ≤ 61) : P n := by
  have := h n.toNat (by omega)
  rwa [Int.toNat_of_nonneg (by omega)] at this
theorem isPrime_big (p : Int) (h0 : 61 < p) (h1 : p ≤ 9223372036854775807) : ∀ (n : Nat) (d : Int), 2 ≤ d → d ≤ p → (p - d).toNat = n → Ev (fun k => impl_isPrime.l0 k p d) false := by
  intro n
  induction n with
  | zero =>
    intro d hd hp hn
    have : d = p := by omega
    subst this
    refine Ev.step (f := fun _ => some false) (fun k => ?_) (Ev.now _)
    simp only [impl_isPrime.l0]
    by_cases c : wrap64 (d * d) ≤ d
    · rw [if_pos c, if_neg (by omega), if_pos (Int.tmod_self)]
    · rw [if_neg c, within_, Option.bind_some]
      simp
      omega
  | succ n ih =>
    intro d hd hp hn
    by_cases c : wrap64 (d * d) ≤ p
    · by_cases c2 : Int.tmod p d = 0
      · refine Ev.step (f := fun _ => some false) (fun k => ?_) (Ev.now _)
        simp only [impl_isPrime.l0]
        rw [if_pos c, if_neg (by omega), if_pos c2]
      · refine Ev.step (fun k => ?_) (ih (d + 1) (by omega) (by omega) (by omega))
        simp only [impl_isPrime.l0]
        rw [if_pos c, if_neg (by omega), if_neg c2, w64 (by omega) (by omega)]
    · refine Ev.step (f := fun _ => some false) (fun k => ?_) (Ev.now _)
      simp only [impl_isPrime.l0]
      rw [if_neg c, within_, Option.bind_some]
      simp
      omega
theorem isPrime (p : Int) (h0 : -9223372036854775808 ≤ p) (h1 : p ≤ 9223372036854775807) : Ev (fun k => impl_isPrime.f k p) (pr p) := by
  by_cases c : 61 < p
  · have e : pr p = false := by
      cases h : pr p with
      | false => rfl
      | true => have := pr_bd h; omega
    rw [e]
    exact isPrime_big p c h1 _ 2 (by omega) (by omega) rfl
  · by_cases c2 : 0 ≤ p
    · have key : ∀ m : Nat, m < 62 → impl_isPrime.f 20 (m : Int) = some (pr m) := by decide +kernel
      exact Ev.of (impl_isPrime.mono p) (upto61 (P := fun p => impl_isPrime.f 20 p = some (pr p)) key p c2 (by omega))
    · have e : pr p = false := by
        cases h : pr p with
        | false => rfl
        | true => have := pr_bd h; omega
      rw [e]
      refine Ev.step (f := fun _ => some false) (fun k => ?_) (Ev.now _)
      simp only [impl_isPrime.f, impl_isPrime.l0]
      rw [if_neg (by rw [w64 (x := 2 * 2) (by omega) (by omega)]; omega), within_, Option.bind_some]
      simp
      omega
def okPE (p e : Int) : Bool := pr p && (decide (1 ≤ e) && decide (e ≤ 12)) && decide ((p - 1) % e = 0)
def pes : List (Int × Int) := prs.flatMap fun p => (upTo 1 12).filterMap fun e => if okPE p e then some (p, e) else none
theorem okPE_mem {p e : Int} (h : okPE p e = true) : (p, e) ∈ pes := by
  have h' := h
  simp only [okPE, Bool.and_eq_true, decide_eq_true_eq] at h'
  refine List.mem_flatMap.mpr ⟨p, pr_iff.mp h'.1.1, List.mem_filterMap.mpr ⟨e, mem_upTo.mpr (by omega), ?_⟩⟩
  rw [if_pos h]
theorem l06Prime (p : Int) : Ev (fun k => spec_l06Prime.f k p) (pr p) := by
  by_cases c : 3 ≤ p ∧ p ≤ 61
  · have key : ∀ m : Nat, m < 62 → spec_l06Prime.f 20 (m : Int) = some (pr m) := by decide +kernel
    exact Ev.of (spec_l06Prime.mono p) (upto61 (P := fun p => spec_l06Prime.f 20 p = some (pr p)) key p (by omega) c.2)
  · have e : pr p = false := by
      cases h : pr p with
      | false => rfl
      | true => have := pr_bd h; omega
    rw [e]
    unfold spec_l06Prime.f
    refine ev_bind_const (l01In _ _ _) ?_
    rw [show (decide (3 ≤ p) && decide (p ≤ 61)) = false by simp; omega]
    exact Ev.now _
theorem l06Code_bad (p e : Int) (ls : List Int) (h : okPE p e = false) : Ev (fun k => spec_l06Code.f k p e ls) 2 := by
  have J : Ev (fun k => spec_l06Code.j0 k e ls true) 2 := Ev.step (fun k => by simp only [spec_l06Code.j0, if_true] <;> rfl) (Ev.now _)
  unfold spec_l06Code.f
  refine Ev.bind (l06Prime p) ?_
  cases hp : pr p with
  | false => simp only [Bool.false_eq_true, if_false]; exact J
  | true =>
    have hb := pr_bd hp
    simp only [if_true]
    refine ev_bind_const (l01In _ _ _) ?_
    cases he : decide (1 ≤ e) && decide (e ≤ 12) with
    | false => simp only [Bool.false_eq_true, if_false]; exact J
    | true =>
      have he' : 1 ≤ e ∧ e ≤ 12 := by simpa using he
      have hm : ¬ (p - 1) % e = 0 := by
        intro hm
        simp [okPE, hp, he, hm] at h
      simp only [if_true, if_neg (show ¬ e = 0 by omega), w64 (x := p - 1) (by omega) (by omega), Int.tmod_eq_emod_of_nonneg (show 0 ≤ p - 1 by omega)]
      rw [bne_iff_ne.mpr hm]
      exact J
theorem periodsOf_bad (p e : Int) (h0 : -9223372036854775808 ≤ p) (h1 : p ≤ 9223372036854775807) (h : okPE p e = false) : Ev (fun k => impl_periodsOf.f k p e) (0, 0, 0, [], false) := by
  have J : Ev (fun k => impl_periodsOf.j0 k p e true) (0, 0, 0, [], false) := Ev.step (fun k => by simp only [impl_periodsOf.j0, if_true] <;> rfl) (Ev.now _)
  unfold impl_periodsOf.f
  refine Ev.bind (isPrime p h0 h1) ?_
  cases hp : pr p with
  | false => simp only [Bool.false_eq_true, if_false]; exact J
  | true =>
    have hb := pr_bd hp
    simp only [if_true]
    refine ev_bind_const (within_ _ _ _) ?_
    cases he : decide (1 ≤ e) && decide (e ≤ 12) with
    | false => simp only [Bool.false_eq_true, if_false]; exact J
    | true =>
      have he' : 1 ≤ e ∧ e ≤ 12 := by simpa using he
      have hm : ¬ (p - 1) % e = 0 := by
        intro hm
        simp [okPE, hp, he, hm] at h
      simp only [if_true, if_neg (show ¬ e = 0 by omega), w64 (x := p - 1) (by omega) (by omega), Int.tmod_eq_emod_of_nonneg (show 0 ≤ p - 1 by omega)]
      rw [bne_iff_ne.mpr hm]
      exact J
def pw (n : Int) : List (List Int) := ([[], [[1]], [[1], [-1]], [[1, 0], [0, 1], [-1, -1]], [[1, 0], [0, 1], [-1, 0], [0, -1]], [[1, 0, 0, 0], [0, 1, 0, 0], [0, 0, 1, 0], [0, 0, 0, 1], [-1, -1, -1, -1]], [[1, 0], [0, 1], [-1, 1], [-1, 0], [0, -1], [1, -1]], [[1, 0, 0, 0, 0, 0], [0, 1, 0, 0, 0, 0], [0, 0, 1, 0, 0, 0], [0, 0, 0, 1, 0, 0], [0, 0, 0, 0, 1, 0], [0, 0, 0, 0, 0, 1], [-1, -1, -1, -1, -1, -1]], [[1, 0, 0, 0], [0, 1, 0, 0], [0, 0, 1, 0], [0, 0, 0, 1], [-1, 0, 0, 0], [0, -1, 0, 0], [0, 0, -1, 0], [0, 0, 0, -1]], [[1, 0, 0, 0, 0, 0], [0, 1, 0, 0, 0, 0], [0, 0, 1, 0, 0, 0], [0, 0, 0, 1, 0, 0], [0, 0, 0, 0, 1, 0], [0, 0, 0, 0, 0, 1], [-1, 0, 0, -1, 0, 0], [0, -1, 0, 0, -1, 0], [0, 0, -1, 0, 0, -1]], [[1, 0, 0, 0], [0, 1, 0, 0], [0, 0, 1, 0], [0, 0, 0, 1], [-1, 1, -1, 1], [-1, 0, 0, 0], [0, -1, 0, 0], [0, 0, -1, 0], [0, 0, 0, -1], [1, -1, 1, -1]], [[1, 0, 0, 0, 0, 0, 0, 0, 0, 0], [0, 1, 0, 0, 0, 0, 0, 0, 0, 0], [0, 0, 1, 0, 0, 0, 0, 0, 0, 0], [0, 0, 0, 1, 0, 0, 0, 0, 0, 0], [0, 0, 0, 0, 1, 0, 0, 0, 0, 0], [0, 0, 0, 0, 0, 1, 0, 0, 0, 0], [0, 0, 0, 0, 0, 0, 1, 0, 0, 0], [0, 0, 0, 0, 0, 0, 0, 1, 0, 0], [0, 0, 0, 0, 0, 0, 0, 0, 1, 0], [0, 0, 0, 0, 0, 0, 0, 0, 0, 1], [-1, -1, -1, -1, -1, -1, -1, -1, -1, -1]], [[1, 0, 0, 0], [0, 1, 0, 0], [0, 0, 1, 0], [0, 0, 0, 1], [-1, 0, 1, 0], [0, -1, 0, 1], [-1, 0, 0, 0], [0, -1, 0, 0], [0, 0, -1, 0], [0, 0, 0, -1], [1, 0, -1, 0], [0, 1, 0, -1]], [[1, 0, 0, 0, 0, 0, 0, 0, 0, 0, 0, 0], [0, 1, 0, 0, 0, 0, 0, 0, 0, 0, 0, 0], [0, 0, 1, 0, 0, 0, 0, 0, 0, 0, 0, 0], [0, 0, 0, 1, 0, 0, 0, 0, 0, 0, 0, 0], [0, 0, 0, 0, 1, 0, 0, 0, 0, 0, 0, 0], [0, 0, 0, 0, 0, 1, 0, 0, 0, 0, 0, 0], [0, 0, 0, 0, 0, 0, 1, 0, 0, 0, 0, 0], [0, 0, 0, 0, 0, 0, 0, 1, 0, 0, 0, 0], [0, 0, 0, 0, 0, 0, 0, 0, 1, 0, 0, 0], [0, 0, 0, 0, 0, 0, 0, 0, 0, 1, 0, 0], [0, 0, 0, 0, 0, 0, 0, 0, 0, 0, 1, 0], [0, 0, 0, 0, 0, 0, 0, 0, 0, 0, 0, 1], [-1, -1, -1, -1, -1, -1, -1, -1, -1, -1, -1, -1]], [[1, 0, 0, 0, 0, 0], [0, 1, 0, 0, 0, 0], [0, 0, 1, 0, 0, 0], [0, 0, 0, 1, 0, 0], [0, 0, 0, 0, 1, 0], [0, 0, 0, 0, 0, 1], [-1, 1, -1, 1, -1, 1], [-1, 0, 0, 0, 0, 0], [0, -1, 0, 0, 0, 0], [0, 0, -1, 0, 0, 0], [0, 0, 0, -1, 0, 0], [0, 0, 0, 0, -1, 0], [0, 0, 0, 0, 0, -1], [1, -1, 1, -1, 1, -1]], [[1, 0, 0, 0, 0, 0, 0, 0], [0, 1, 0, 0, 0, 0, 0, 0], [0, 0, 1, 0, 0, 0, 0, 0], [0, 0, 0, 1, 0, 0, 0, 0], [0, 0, 0, 0, 1, 0, 0, 0], [0, 0, 0, 0, 0, 1, 0, 0], [0, 0, 0, 0, 0, 0, 1, 0], [0, 0, 0, 0, 0, 0, 0, 1], [-1, 1, 0, -1, 1, -1, 0, 1], [-1, 0, 1, -1, 0, 0, -1, 1], [-1, 0, 0, 0, 0, -1, 0, 0], [0, -1, 0, 0, 0, 0, -1, 0], [0, 0, -1, 0, 0, 0, 0, -1], [1, -1, 0, 0, -1, 1, 0, -1], [1, 0, -1, 1, -1, 0, 1, -1]], [[1, 0, 0, 0, 0, 0, 0, 0], [0, 1, 0, 0, 0, 0, 0, 0], [0, 0, 1, 0, 0, 0, 0, 0], [0, 0, 0, 1, 0, 0, 0, 0], [0, 0, 0, 0, 1, 0, 0, 0], [0, 0, 0, 0, 0, 1, 0, 0], [0, 0, 0, 0, 0, 0, 1, 0], [0, 0, 0, 0, 0, 0, 0, 1], [-1, 0, 0, 0, 0, 0, 0, 0], [0, -1, 0, 0, 0, 0, 0, 0], [0, 0, -1, 0, 0, 0, 0, 0], [0, 0, 0, -1, 0, 0, 0, 0], [0, 0, 0, 0, -1, 0, 0, 0], [0, 0, 0, 0, 0, -1, 0, 0], [0, 0, 0, 0, 0, 0, -1, 0], [0, 0, 0, 0, 0, 0, 0, -1]]] : List (List (List Int))).getD n.toNat []
def cl (n : Int) (m : Nat) : List Int := (pw n).map fun r => r.getD m 0
theorem okPE_bd {p e : Int} (h : okPE p e = true) : 3 ≤ p ∧ p ≤ 61 ∧ 1 ≤ e ∧ e ≤ 12 := by
  simp only [okPE, Bool.and_eq_true, decide_eq_true_eq] at h
  have := pr_bd h.1.1
  omega
theorem zds1 (p : Int) (hp : 3 ≤ p ∧ p ≤ 61) (ind : List Int) (hi : (ind.length : Int) = p) (r : List Int) (x : Int) (hx : 1 ≤ x ∧ x < p) : ∀ (d : Nat) (y c : Int), y + d = p → 1 ≤ y → 0 ≤ c → c + d ≤ 100000 → Ev (fun k => spec_l06Differences.l0 k p 1 ind [c + d - (if y ≤ x then 1 else 0)] (x + 1)) r → Ev (fun k => spec_l06Differences.l1 k p 1 ind [c] x y) r := by
  intro d
  induction d with
  | zero =>
    intro y c h1 h2 h3 h4 H
    refine Ev.step (fun k => by simp only [spec_l06Differences.l1]; rw [if_neg (by omega), w64 (x := x + 1) (by omega) (by omega)]) ?_
    rw [if_neg (by omega)] at H
    simpa using H
  | succ d ih =>
    intro y c h1 h2 h3 h4 H
    have hlt : y < p := by omega
    by_cases e : x = y
    · refine Ev.step (fun k => by simp only [spec_l06Differences.l1]; rw [if_pos hlt, if_pos e, w64 (x := y + 1) (by omega) (by omega)]) ?_
      refine ih (y + 1) c (by omega) (by omega) h3 (by omega) ?_
      rw [if_neg (by omega)]
      rw [if_pos (by omega)] at H
      rw [show c + (d : Int) - 0 = c + ((d + 1 : Nat) : Int) - 1 by omega]
      exact H
    · obtain ⟨m, hm⟩ : ∃ m, m = Int.tmod (wrap64 (wrap64 (x - y) + p)) p := ⟨_, rfl⟩
      have hm2 : 0 ≤ m ∧ m < p := by
        rw [hm, w64 (x := x - y) (by omega) (by omega), w64 (x := x - y + p) (by omega) (by omega), Int.tmod_eq_emod_of_nonneg (by omega)]
        exact ⟨Int.emod_nonneg _ (by omega), Int.emod_lt_of_pos _ (by omega)⟩
      refine Ev.step (f := fun k => spec_l06Differences.l1 k p 1 ind [c + 1] x (y + 1)) (fun k => ?_) ?_
      · simp only [spec_l06Differences.l1, Int.tmod_one, ← hm]
        rw [if_pos hlt, if_neg e, if_pos (by omega), if_pos (by omega), if_neg (by decide), if_pos trivial, if_pos (by omega), if_pos (by omega), if_pos trivial, if_neg (by omega), if_pos hm2.1, if_pos (by omega), if_pos (by decide), if_pos (by simp)]
        rw [w64 (x := y + 1) (by omega) (by omega)]
        simp only [rd, Int.toNat_zero, List.getD_cons_zero, List.set_cons_zero]
        rw [w64 (x := c + 1) (by omega) (by omega)]
      · refine ih (y + 1) (c + 1) (by omega) (by omega) (by omega) (by omega) ?_
        by_cases hc : y ≤ x
        · rw [if_pos (by omega)]
          rw [if_pos hc] at H
          rw [show c + 1 + (d : Int) - 1 = c + ((d + 1 : Nat) : Int) - 1 by omega]
          exact H
        · rw [if_neg (by omega)]
          rw [if_neg hc] at H
          rw [show c + 1 + (d : Int) - 0 = c + ((d + 1 : Nat) : Int) - 0 by omega]
          exact H
theorem zds0 (p : Int) (hp : 3 ≤ p ∧ p ≤ 61) (ind : List Int) (hi : (ind.length : Int) = p) (r : List Int) : ∀ (d : Nat) (x c : Int), x + d = p → 1 ≤ x → 0 ≤ c → c + d * (p - 2) ≤ 4000 → Ev (fun k => spec_l06Differences.l2 k p 1 [c + d * (p - 2)] 0) r → Ev (fun k => spec_l06Differences.l0 k p 1 ind [c] x) r := by
  intro d
  induction d with
  | zero =>
    intro x c h1 h2 h3 h4 H
    refine Ev.step (fun k => by simp only [spec_l06Differences.l0]; rw [if_neg (by omega)] <;> rfl) ?_
    simpa using H
  | succ d ih =>
    intro x c h1 h2 h3 h4 H
    have e : ((d + 1 : Nat) : Int) * (p - 2) = (d : Int) * (p - 2) + (p - 2) := by rw [Int.natCast_succ, Int.add_mul, Int.one_mul]
    have hd : 0 ≤ (d : Int) * (p - 2) := Int.mul_nonneg (by omega) (by omega)
    refine Ev.step (fun k => by simp only [spec_l06Differences.l0]; rw [if_pos (by omega)] <;> rfl) ?_
    refine zds1 p hp ind hi r x (by omega) (p - 1).toNat 1 c (by omega) (by omega) h3 (by omega) ?_
    rw [if_pos (by omega)]
    refine ih (x + 1) _ (by omega) (by omega) (by omega) (by omega) ?_
    rw [show c + ((p - 1).toNat : Int) - 1 + (d : Int) * (p - 2) = c + ((d + 1 : Nat) : Int) * (p - 2) by omega]
    exact H
theorem zdi1 (p : Int) (hp : 3 ≤ p ∧ p ≤ 61) (own cl : List Int) (ho : (own.length : Int) = p - 1) (hj : ∀ j : Int, 0 ≤ j → j < p - 1 → rd own j = j + 1) (hi : (cl.length : Int) = p) (hz : ∀ j : Int, 1 ≤ j → j < p → rd cl j = 0) (r : List Int × Int × Int × Int) (x : Int) (hx : 0 ≤ x ∧ x < p - 1) : ∀ (d : Nat) (y c : Int), y + d = p - 1 → 0 ≤ y → 0 ≤ c → c + d ≤ 100000 → Ev (fun k => impl_periods_differences.l0 k [c + d - (if y ≤ x then 1 else 0)] own (p - 1) (x + 1) p 1 (p - 1) cl) r → Ev (fun k => impl_periods_differences.l1 k [c] own (x + 1) (p - 1) x (p - 1) y p 1 (p - 1) cl) r := by
  intro d
  induction d with
  | zero =>
    intro y c h1 h2 h3 h4 H
    refine Ev.step (fun k => by simp only [impl_periods_differences.l1]; rw [if_neg (by omega), w64 (x := x + 1) (by omega) (by omega)]) ?_
    rw [if_neg (by omega)] at H
    simpa using H
  | succ d ih =>
    intro y c h1 h2 h3 h4 H
    have hlt : y < p - 1 := by omega
    have ey := hj y h2 hlt
    by_cases e : x = y
    · refine Ev.step (fun k => by simp only [impl_periods_differences.l1]; rw [if_pos hlt, if_pos h2, if_pos (by omega), ey, if_pos (by omega), w64 (x := y + 1) (by omega) (by omega)]) ?_
      refine ih (y + 1) c (by omega) (by omega) h3 (by omega) ?_
      rw [if_neg (by omega)]
      rw [if_pos (by omega)] at H
      rw [show c + (d : Int) - 0 = c + ((d + 1 : Nat) : Int) - 1 by omega]
      exact H
    · obtain ⟨m, hm, hm2⟩ : ∃ m, impl_around.f (wrap64 (x + 1 - (y + 1))) p = some m ∧ (1 ≤ m ∧ m < p) := by
        unfold impl_around.f
        rw [w64 (x := x + 1 - (y + 1)) (by omega) (by omega), if_neg (by omega), show x + 1 - (y + 1) = x - y by omega]
        by_cases hc : y ≤ x
        · have i1 : Int.tmod (x - y) p = x - y := Int.tmod_eq_of_lt (by omega) (by omega)
          have i2 : Int.tmod (x - y + p) p = x - y := by rw [Int.tmod_eq_emod_of_nonneg (by omega), Int.add_emod_right, Int.emod_eq_of_lt (by omega) (by omega)]
          rw [i1, w64 (x := x - y + p) (by omega) (by omega), i2]
          exact ⟨x - y, rfl, by omega, by omega⟩
        · have i1 : Int.tmod (x - y) p = x - y := by
            rw [show x - y = -(y - x) by omega, Int.neg_tmod, Int.tmod_eq_of_lt (by omega) (by omega)]
          have i2 : Int.tmod (x - y + p) p = x - y + p := Int.tmod_eq_of_lt (by omega) (by omega)
          rw [i1, w64 (x := x - y + p) (by omega) (by omega), i2]
          exact ⟨x - y + p, rfl, by omega, by omega⟩
      have hz' := hz m hm2.1 hm2.2
      refine Ev.step (f := fun k => impl_periods_differences.l1 k [c + 1] own (x + 1) (p - 1) x (p - 1) (y + 1) p 1 (p - 1) cl) (fun k => ?_) ?_
      · simp only [impl_periods_differences.l1]
        rw [if_pos hlt, if_pos h2, if_pos (by omega), ey, if_neg (by omega), hm, Option.bind_some, if_pos (by omega), if_pos (by omega), hz', if_pos (by decide), if_pos (by simp)]
        rw [w64 (x := y + 1) (by omega) (by omega)]
        simp only [rd, Int.toNat_zero, List.getD_cons_zero, List.set_cons_zero]
        rw [w64 (x := c + 1) (by omega) (by omega)]
      · refine ih (y + 1) (c + 1) (by omega) (by omega) (by omega) (by omega) ?_
        by_cases hc : y ≤ x
        · rw [if_pos (by omega)]
          rw [if_pos hc] at H
          rw [show c + 1 + (d : Int) - 1 = c + ((d + 1 : Nat) : Int) - 1 by omega]
          exact H
        · rw [if_neg (by omega)]
          rw [if_neg hc] at H
          rw [show c + 1 + (d : Int) - 0 = c + ((d + 1 : Nat) : Int) - 0 by omega]
          exact H
theorem zdi0 (p : Int) (hp : 3 ≤ p ∧ p ≤ 61) (own cl : List Int) (ho : (own.length : Int) = p - 1) (hj : ∀ j : Int, 0 ≤ j → j < p - 1 → rd own j = j + 1) (hi : (cl.length : Int) = p) (hz : ∀ j : Int, 1 ≤ j → j < p → rd cl j = 0) (r : List Int × Int × Int × Int) : ∀ (d : Nat) (x c : Int), x + d = p - 1 → 0 ≤ x → 0 ≤ c → c + d * (p - 2) ≤ 4000 → Ev (fun k => impl_periods_differences.l2 k [c + d * (p - 2)] 1 0 p 1 (p - 1) cl) r → Ev (fun k => impl_periods_differences.l0 k [c] own (p - 1) x p 1 (p - 1) cl) r := by
  intro d
  induction d with
  | zero =>
    intro x c h1 h2 h3 h4 H
    refine Ev.step (fun k => by simp only [impl_periods_differences.l0]; rw [if_neg (by omega)] <;> rfl) ?_
    simpa using H
  | succ d ih =>
    intro x c h1 h2 h3 h4 H
    have e : ((d + 1 : Nat) : Int) * (p - 2) = (d : Int) * (p - 2) + (p - 2) := by rw [Int.natCast_succ, Int.add_mul, Int.one_mul]
    have hd : 0 ≤ (d : Int) * (p - 2) := Int.mul_nonneg (by omega) (by omega)
    refine Ev.step (fun k => by simp only [impl_periods_differences.l0]; rw [if_pos (by omega), if_pos h2, if_pos (by omega), hj x h2 (by omega), ho] <;> rfl) ?_
    refine zdi1 p hp own cl ho hj hi hz r x (by omega) (p - 1).toNat 0 c (by omega) (by omega) h3 (by omega) ?_
    rw [if_pos (by omega)]
    refine ih (x + 1) _ (by omega) (by omega) (by omega) (by omega) ?_
    rw [show c + ((p - 1).toNat : Int) - 1 + (d : Int) * (p - 2) = c + ((d + 1 : Nat) : Int) * (p - 2) by omega]
    exact H
def zdf1 (p : Int) : Bool :=
  match spec_l06Indices.f 400 p, impl_periodsOf.f 400 p 1 with
  | some ind, some (a, b, f, cl, ok) =>
    match impl_periods_members.f 400 p 1 (p - 1) cl 0 with
    | some (own, a', b', f') => decide ((ind.length : Int) = p) && decide (a = p ∧ b = 1 ∧ f = p - 1) && ok && decide ((cl.length : Int) = p) && (upTo 1 (p - 1).toNat).all (fun j => decide (rd cl j = 0)) && decide ((own.length : Int) = p - 1) && (upTo 0 (p - 1).toNat).all (fun j => decide (rd own j = j + 1)) && decide (a' = p ∧ b' = 1 ∧ f' = p - 1)
    | none => false
  | _, _ => false
theorem zdf1_ok : ∀ p ∈ prs, zdf1 p = true := by decide +kernel
theorem zdc1_ok : ∀ p ∈ prs, spec_l06Code.f 400 p 1 [] = some 0 := by decide +kernel
theorem zd_end (p : Int) (hp : 3 ≤ p ∧ p ≤ 61) : Int.tdiv (0 + ((p - 1).toNat : Int) * (p - 2)) (p - 1) = p - 2 := by
  rw [show ((p - 1).toNat : Int) = p - 1 by omega, Int.zero_add, Int.mul_tdiv_cancel_left _ (by omega)]
theorem both1 (p : Int) (hm : p ∈ prs) : Ev (fun k => spec_DifferenceNumbers.f k p 1) ([p - 2], 0) ∧ Ev (fun k => impl_DifferenceNumbers.f k p 1) ([p - 2], 0) := by
  have hp := pr_bd (pr_iff.mpr hm)
  have F := zdf1_ok p hm
  unfold zdf1 at F
  have mlt : (((p - 1).toNat : Int)) * (p - 2) ≤ 4000 := by
    have : ((p - 1).toNat : Int) * (p - 2) ≤ 60 * 59 := Int.mul_le_mul (by omega) (by omega) (by omega) (by omega)
    omega
  split at F
  · rename_i ind a b f cl ok e1 e2
    split at F
    · rename_i own a' b' f' e3
      simp only [Bool.and_eq_true, decide_eq_true_eq, List.all_eq_true] at F
      obtain ⟨⟨⟨⟨⟨⟨⟨F1, ea, eb, ef⟩, rfl⟩, F2⟩, F3⟩, F4⟩, F5⟩, ea', eb', ef'⟩ := F
      replace ea := ea.symm
      replace eb := eb.symm
      replace ef := ef.symm
      replace ea' := ea'.symm
      replace eb' := eb'.symm
      replace ef' := ef'.symm
      subst ea eb ef ea' eb' ef'
      refine ⟨?_, ?_⟩
      · unfold spec_DifferenceNumbers.f
        refine Ev.bind (Ev.of (spec_l06Code.mono _ _ _) (zdc1_ok _ hm)) ?_
        simp only [if_true]
        refine Ev.bind (a := [p - 2]) ?_ (Ev.now _)
        unfold spec_l06Differences.f
        refine Ev.bind (Ev.of (spec_l06Indices.mono _) e1) ?_
        simp only [if_pos (show (0 : Int) ≤ 1 by decide), if_pos (show (1 : Int).toNat ≤ 35184372088832 by decide)]
        refine zds0 p hp ind F1 _ (p - 1).toNat 1 0 (by omega) (by omega) (by omega) (by omega) ?_
        have hq := zd_end p hp
        have hs := Int.mul_nonneg (show 0 ≤ ((p - 1).toNat : Int) by omega) (show 0 ≤ p - 2 by omega)
        refine Ev.step (f := fun k => spec_l06Differences.l2 k p 1 [p - 2] 1) (fun k => ?_) (Ev.step (fun k => by simp only [spec_l06Differences.l2]; rw [if_neg (by decide)] <;> rfl) (Ev.now _))
        simp only [spec_l06Differences.l2, Int.tdiv_one]
        rw [if_pos (by decide), if_pos (by decide), if_pos (by simp), if_neg (by decide), w64 (x := p - 1) (by omega) (by omega), w64 (x := p - 1) (by omega) (by omega), if_neg (by omega)]
        simp only [rd, Int.toNat_zero, List.getD_cons_zero, List.set_cons_zero, hq]
        rw [w64 (x := p - 2) (by omega) (by omega), w64 (x := 0 + 1) (by decide) (by decide)]
        rfl
      · unfold impl_DifferenceNumbers.f
        refine Ev.bind (Ev.of (impl_periodsOf.mono _ _) e2) ?_
        simp only [if_true]
        refine Ev.bind (a := ([p - 2], p, 1, p - 1)) ?_ (Ev.now _)
        unfold impl_periods_differences.f
        simp only [if_pos (show (0 : Int) ≤ 1 by decide), if_pos (show (1 : Int).toNat ≤ 35184372088832 by decide)]
        refine Ev.bind (Ev.of (impl_periods_members.mono _ _ _ _ _) e3) ?_
        simp only [F4]
        refine zdi0 p hp own cl F4 (fun j h0 h1 => F5 j (mem_upTo.mpr (by omega))) F2 (fun j h0 h1 => F3 j (mem_upTo.mpr (by omega))) _ (p - 1).toNat 0 0 (by omega) (by omega) (by omega) (by omega) ?_
        have hq := zd_end p hp
        refine Ev.step (f := fun k => impl_periods_differences.l2 k [p - 2] 1 1 p 1 (p - 1) cl) (fun k => ?_) (Ev.step (fun k => by simp only [impl_periods_differences.l2]; rw [if_neg (by decide)] <;> rfl) (Ev.now _))
        simp only [impl_periods_differences.l2]
        rw [if_pos (by decide), if_pos (by decide), if_pos (by simp), if_neg (by omega)]
        simp only [rd, Int.toNat_zero, List.getD_cons_zero, List.set_cons_zero, hq]
        rw [w64 (x := p - 2) (by omega) (by omega), w64 (x := 0 + 1) (by decide) (by decide)]
        rfl
    · cases F
  · cases F
theorem fr64 (x : Int) : IntKind.u64.wrap x = x % 18446744073709551616 := by
  unfold IntKind.wrap
  simp [show IntKind.u64.signed = false from rfl, show IntKind.u64.bits = 64 from rfl]
theorem frAnd (a : Int) : 0 ≤ Go.bits .and .u64 a 1073741823 ∧ Go.bits .and .u64 a 1073741823 ≤ 1073741823 := by
  unfold Go.bits
  simp
  rw [show IntKind.u64.bits = 64 from rfl, show (1073741823 % 2 ^ 64 : Nat) = 2 ^ 30 - 1 by decide, Nat.and_two_pow_sub_one_eq_mod, fr64]
  have := Nat.mod_lt (a % 2 ^ 64).toNat (show 0 < 2 ^ 30 by decide)
  omega
def Byt (l : List Int) : Prop := l.length ≤ 4096 ∧ ∀ y ∈ l, 0 ≤ y ∧ y ≤ 255
theorem frNext {l : List Int} (hl : Byt l) (s h n : Int) (hs : 0 ≤ s ∧ s ≤ 4096) (h1 : 1 ≤ n) : ∃ x s' h', spec_l01Next.f l s h n = some (x, s', h') ∧ (0 ≤ x ∧ x < n) ∧ (0 ≤ s' ∧ s' ≤ 4096) := by
  have hn := hl.1
  unfold spec_l01Next.f
  rw [if_neg (by omega)]
  obtain ⟨v, hvz⟩ : ∃ v, v = Go.bits .and .u64 ((IntKind.u64.wrap ((IntKind.u64.wrap (h * 6364136223846793005)) + 1442695040888963407)) / 2147483648) 1073741823 := ⟨_, rfl⟩
  have hb := frAnd ((IntKind.u64.wrap ((IntKind.u64.wrap (h * 6364136223846793005)) + 1442695040888963407)) / 2147483648)
  rw [← hvz] at hb ⊢
  by_cases c : s < (l.length : Int)
  · rw [if_pos c, if_pos hs.1, if_neg (by omega)]
    have hr := hl.2 _ (rd_mem hs.1 c)
    refine ⟨_, _, _, rfl, ?_, ?_⟩
    · rw [w64 (x := v) (by omega) (by omega), w64 (x := rd l s) (by omega) (by omega), w64 (x := v + rd l s) (by omega) (by omega), Int.tmod_eq_emod_of_nonneg (by omega)]
      exact ⟨Int.emod_nonneg _ (by omega), Int.emod_lt_of_pos _ (by omega)⟩
    · rw [w64 (x := s + 1) (by omega) (by omega)]
      omega
  · rw [if_neg c, if_neg (by omega)]
    refine ⟨_, _, _, rfl, ?_, hs⟩
    rw [w64 (x := v) (by omega) (by omega), Int.tmod_eq_emod_of_nonneg (by omega)]
    exact ⟨Int.emod_nonneg _ (by omega), Int.emod_lt_of_pos _ (by omega)⟩
theorem frPick {l : List Int} (hl : Byt l) (s h : Int) (ls : List Int) (hs : 0 ≤ s ∧ s ≤ 4096) (h1 : 1 ≤ ls.length) : ∃ x s' h', spec_l01Pick.f l s h ls = some (x, s', h') ∧ x ∈ ls ∧ (0 ≤ s' ∧ s' ≤ 4096) := by
  obtain ⟨i, s', h', e, hi, hs'⟩ := frNext hl s h (ls.length : Int) hs (by omega)
  unfold spec_l01Pick.f
  rw [e, Option.bind_some, if_pos hi.1, if_pos hi.2]
  exact ⟨_, _, _, rfl, rd_mem hi.1 hi.2, hs'⟩
theorem frFrom {l : List Int} (hl : Byt l) : ∃ h, Ev (fun k => spec_l01From.f k l) (l, 0, h) := by
  have hn := hl.1
  have key : ∀ (d : Nat) (x h : Int), x + d = l.length → 0 ≤ x → ∃ h', Ev (fun k => spec_l01From.l0 k l x l 0 h) (l, 0, h') := by
    intro d
    induction d with
    | zero =>
      intro x h e h0
      exact ⟨h, Ev.step (f := fun _ => some (l, 0, h)) (fun k => by simp only [spec_l01From.l0]; rw [if_neg (by omega)]) (Ev.now _)⟩
    | succ d ih =>
      intro x h e h0
      obtain ⟨h', H⟩ := ih (x + 1) (IntKind.u64.wrap ((IntKind.u64.wrap ((IntKind.u64.wrap (h * 1099511628211)) + (IntKind.u64.wrap (rd l x)))) + 131)) (by omega) (by omega)
      refine ⟨h', Ev.step (fun k => ?_) H⟩
      simp only [spec_l01From.l0]
      rw [if_pos (by omega), if_pos (by omega), if_pos h0, w64 (x := x + 1) (by omega) (by omega)]
  exact key l.length 0 _ (by omega) (by omega)
def Dv (p : Int) (l : List Int) : Prop := ∀ y ∈ l, 1 ≤ y ∧ y ≤ 12
theorem frDraw0 {l : List Int} (hl : Byt l) (p : Int) (hp : 3 ≤ p ∧ p ≤ 61) : ∀ (d : Nat) (x : Int) (dv : List Int) (s h : Int), x + d = 13 → 1 ≤ x → (∀ y ∈ dv, 1 ≤ y ∧ y ≤ 12) → (1 < x → 1 ≤ dv.length) → (dv.length : Int) < x → (0 ≤ s ∧ s ≤ 4096) →
    ∃ p' e' s' h', Ev (fun k => spec_l06Draw.l0 k p dv x l s h) (p', e', s', h') ∧ (-3 ≤ p' ∧ p' ≤ 67) ∧ (0 ≤ e' ∧ e' ≤ 13) ∧ (0 ≤ s' ∧ s' ≤ 4096) := by
  intro d
  induction d with
  | zero =>
    intro x dv s h hx h1 hd hne hlt hs
    have hne' := hne (by omega)
    obtain ⟨i, s1, g1, e1, hi, hs1⟩ := frNext hl s h (dv.length : Int) hs (by omega)
    obtain ⟨t, s2, g2, e2, ht, hs2⟩ := frNext hl s1 g1 40 hs1 (by omega)
    have hm := hd _ (rd_mem hi.1 hi.2)
    have stz : ∀ k, spec_l06Draw.l0 (k + 1) p dv x l s h = (if t = 0 then ((spec_l01Pick.f l s2 g2 (([2, 9, 67, (-3)] : List Int))).bind fun bt132 => (some (bt132.1, rd dv i, bt132.2.1, bt132.2.2))) else (if t = 1 then ((spec_l01Pick.f l s2 g2 (([0, 13, wrap64 ((rd dv i) + 1)] : List Int))).bind fun bt138 => (some (p, bt138.1, bt138.2.1, bt138.2.2))) else (some (p, rd dv i, s2, g2)))) := by
      intro k
      simp only [spec_l06Draw.l0]
      rw [if_neg (by omega), e1, Option.bind_some, if_pos hi.1, if_pos hi.2, e2, Option.bind_some]
    by_cases c0 : t = 0
    · obtain ⟨y, s3, g3, e3, hy, hs3⟩ := frPick hl s2 g2 [2, 9, 67, -3] hs2 (by decide)
      refine ⟨y, rd dv i, s3, g3, Ev.step (f := fun _ => some (y, rd dv i, s3, g3)) (fun k => ?_) (Ev.now _), ?_, by omega, hs3⟩
      · rw [stz, if_pos c0, e3, Option.bind_some]
      · simp only [List.mem_cons, List.not_mem_nil, or_false] at hy
        omega
    · by_cases c1 : t = 1
      · obtain ⟨y, s3, g3, e3, hy, hs3⟩ := frPick hl s2 g2 [0, 13, wrap64 ((rd dv i) + 1)] hs2 (by simp)
        refine ⟨p, y, s3, g3, Ev.step (f := fun _ => some (p, y, s3, g3)) (fun k => ?_) (Ev.now _), by omega, ?_, hs3⟩
        · rw [stz, if_neg c0, if_pos c1, e3, Option.bind_some]
        · rw [w64 (x := rd dv i + 1) (by omega) (by omega)] at hy
          simp only [List.mem_cons, List.not_mem_nil, or_false] at hy
          omega
      · refine ⟨p, rd dv i, s2, g2, Ev.step (f := fun _ => some (p, rd dv i, s2, g2)) (fun k => ?_) (Ev.now _), by omega, by omega, hs2⟩
        rw [stz, if_neg c0, if_neg c1]
  | succ d ih =>
    intro x dv s h hx h1 hd hne hlt hs
    by_cases c : Int.tmod (wrap64 (p - 1)) x = 0
    · obtain ⟨p', e', s', h', H, r⟩ := ih (x + 1) (dv ++ [x]) s h (by omega) (by omega) (by
        intro y hy
        rcases List.mem_append.mp hy with hy | hy
        · exact hd y hy
        · rw [List.mem_singleton.mp hy]; omega) (by simp) (by rw [List.length_append]; simp; omega) hs
      refine ⟨p', e', s', h', Ev.step (fun k => ?_) H, r⟩
      simp only [spec_l06Draw.l0]
      rw [if_pos (by omega), if_neg (by omega), if_pos c, if_pos (by omega), w64 (x := x + 1) (by omega) (by omega)]
    · have hx1 : x ≠ 1 := by
        intro e
        rw [e] at c
        exact c (Int.tmod_one _)
      obtain ⟨p', e', s', h', H, r⟩ := ih (x + 1) dv s h (by omega) (by omega) hd (fun _ => hne (by omega)) (by omega) hs
      refine ⟨p', e', s', h', Ev.step (fun k => ?_) H, r⟩
      simp only [spec_l06Draw.l0]
      rw [if_pos (by omega), if_neg (by omega), if_neg c, w64 (x := x + 1) (by omega) (by omega)]
theorem frDraw {l : List Int} (hl : Byt l) (h : Int) : ∃ p e s' h', Ev (fun k => spec_l06Draw.f k l 0 h) (p, e, s', h') ∧ (-3 ≤ p ∧ p ≤ 67) ∧ (0 ≤ e ∧ e ≤ 13) ∧ (0 ≤ s' ∧ s' ≤ 4096) := by
  obtain ⟨i, s1, g1, e1, hi, hs1⟩ := frNext hl 0 h 17 (by omega) (by omega)
  have hp : 3 ≤ rd [3, 5, 7, 11, 13, 17, 19, 23, 29, 31, 37, 41, 43, 47, 53, 59, 61] i ∧ rd [3, 5, 7, 11, 13, 17, 19, 23, 29, 31, 37, 41, 43, 47, 53, 59, 61] i ≤ 61 := by
    have := rd_mem (l := [3, 5, 7, 11, 13, 17, 19, 23, 29, 31, 37, 41, 43, 47, 53, 59, 61]) hi.1 (show i < _ from hi.2)
    simp only [List.mem_cons, List.not_mem_nil, or_false] at this
    omega
  obtain ⟨p', e', s', h', H, r⟩ := frDraw0 hl _ hp 12 1 [] s1 g1 (by omega) (by omega) (by simp) (by omega) (by simp) hs1
  refine ⟨p', e', s', h', ?_, r⟩
  unfold spec_l06Draw.f spec_l06Primes.f
  simp only [Option.bind_some]
  refine ev_bind_const e1 ?_
  simp only [if_pos hi.1]
  rw [show (fun k => if i < (([3, 5, 7, 11, 13, 17, 19, 23, 29, 31, 37, 41, 43, 47, 53, 59, 61] : List Int).length : Int) then spec_l06Draw.l0 k (rd [3, 5, 7, 11, 13, 17, 19, 23, 29, 31, 37, 41, 43, 47, 53, 59, 61] i) [] 1 l s1 g1 else none) = fun k => spec_l06Draw.l0 k (rd [3, 5, 7, 11, 13, 17, 19, 23, 29, 31, 37, 41, 43, 47, 53, 59, 61] i) [] 1 l s1 g1 from funext fun k => if_pos (show i < _ from hi.2)]
  exact H
theorem frMx (a : Int) (h : -3 ≤ a ∧ a ≤ 67) : 1 ≤ mx a 1 ∧ mx a 1 ≤ 67 ∧ (1 ≤ a → mx a 1 = a) := by
  unfold mx
  split <;> omega
/-- What the four draws give. -/
theorem frDraws {l : List Int} (hl : Byt l) : ∃ p e x i a b, Ev (fun k => spec_DrawCyclotomicTable.f k l) (p, e) ∧ Ev (fun k => spec_DrawClassOf.f k l) (p, e, x) ∧ Ev (fun k => spec_DrawClassMembers.f k l) (p, e, i) ∧ Ev (fun k => spec_DrawCyclotomicNumber.f k l) (p, e, a, b) ∧
    (-3 ≤ p ∧ p ≤ 67) ∧ (0 ≤ e ∧ e ≤ 13) ∧ (1 ≤ p → 0 ≤ x ∧ x ≤ p) ∧ (1 ≤ e → (0 ≤ i ∧ i ≤ e) ∧ (0 ≤ a ∧ a < e) ∧ (0 ≤ b ∧ b ≤ e)) := by
  obtain ⟨h, hF⟩ := frFrom hl
  obtain ⟨p, e, s, g, hD, hp, he, hs⟩ := frDraw hl h
  have mp := frMx p hp
  have me := frMx e (by omega)
  obtain ⟨t1, s1, g1, e1, r1_, q1z⟩ := frNext hl s g 2 hs (by omega)
  obtain ⟨x, s2, g2, e2, r2_, q2z⟩ := frNext hl s1 g1 (wrap64 ((mx p 1) + t1)) q1z (by rw [w64 (by omega) (by omega)]; omega)
  obtain ⟨t3, s3, g3, e3, r3_, q3⟩ := frNext hl s g 16 hs (by omega)
  have d3 : Int.tdiv t3 15 = 0 ∨ Int.tdiv t3 15 = 1 := by rw [Int.tdiv_eq_ediv_of_nonneg (by omega)]; omega
  have w3 : wrap64 ((mx e 1) + wrap64 (Int.tdiv t3 15)) = mx e 1 + Int.tdiv t3 15 := by rw [w64 (x := Int.tdiv t3 15) (by omega) (by omega), w64 (by omega) (by omega)]
  obtain ⟨i, s4, g4, e4, r4_, q4⟩ := frNext hl s3 g3 (wrap64 ((mx e 1) + wrap64 (Int.tdiv t3 15))) q3 (by rw [w3]; omega)
  obtain ⟨a, s5, g5, e5, r5_, q5⟩ := frNext hl s g (mx e 1) hs (by omega)
  obtain ⟨t6, s6, g6, e6, r6_, q6⟩ := frNext hl s5 g5 16 q5 (by omega)
  have d6 : Int.tdiv t6 15 = 0 ∨ Int.tdiv t6 15 = 1 := by rw [Int.tdiv_eq_ediv_of_nonneg (by omega)]; omega
  have w6 : wrap64 ((mx e 1) + wrap64 (Int.tdiv t6 15)) = mx e 1 + Int.tdiv t6 15 := by rw [w64 (x := Int.tdiv t6 15) (by omega) (by omega), w64 (by omega) (by omega)]
  obtain ⟨b, s7, g7, e7, r7_, q7⟩ := frNext hl s6 g6 (wrap64 ((mx e 1) + wrap64 (Int.tdiv t6 15))) q6 (by rw [w6]; omega)
  rw [w64 (x := mx p 1 + t1) (by omega) (by omega)] at r2_
  rw [w3] at r4_
  rw [w6] at r7_
  refine ⟨p, e, x, i, a, b, ?_, ?_, ?_, ?_, hp, he, by omega, by omega⟩
  · unfold spec_DrawCyclotomicTable.f
    exact Ev.bind hF (Ev.bind hD (Ev.now _))
  · unfold spec_DrawClassOf.f
    exact Ev.bind hF (Ev.bind hD (ev_bind_const e1 (ev_bind_const e2 (Ev.now _))))
  · unfold spec_DrawClassMembers.f
    exact Ev.bind hF (Ev.bind hD (ev_bind_const e3 (ev_bind_const e4 (Ev.now _))))
  · unfold spec_DrawCyclotomicNumber.f
    exact Ev.bind hF (Ev.bind hD (ev_bind_const e5 (ev_bind_const e6 (ev_bind_const e7 (Ev.now _)))))
theorem frLaw (l : List Int) (p e x i a b : Int) (hb : laws_big.f l = some false)
    (d1 : Ev (fun k => spec_DrawCyclotomicTable.f k l) (p, e)) (d2 : Ev (fun k => spec_DrawClassOf.f k l) (p, e, x)) (d3 : Ev (fun k => spec_DrawClassMembers.f k l) (p, e, i)) (d4 : Ev (fun k => spec_DrawCyclotomicNumber.f k l) (p, e, a, b))
    (T : List (List Int)) (c1 : Int) (h1 : Ev (fun k => impl_CyclotomicTable.f k p e) (T, c1)) (k1 : Ev (fun k => spec_CyclotomicTable.f k p e) (T, c1)) (rT : Ev (fun k => laws_rows9.f k T T) true)
    (m c2 : Int) (h2 : Ev (fun k => impl_ClassOf.f k p e x) (m, c2)) (k2 : Ev (fun k => spec_ClassOf.f k p e x) (m, c2))
    (L : List Int) (c3 : Int) (h3 : Ev (fun k => impl_ClassMembers.f k p e i) (L, c3)) (k3 : Ev (fun k => spec_ClassMembers.f k p e i) (L, c3)) (rL : Ev (fun k => laws_likeInts.f k L L) true)
    (n c4 : Int) (h4 : Ev (fun k => impl_CyclotomicNumber.f k p e a b) (n, c4)) (k4 : Ev (fun k => spec_CyclotomicNumber.f k p e a b) (n, c4))
    (D : List Int) (c5 : Int) (h5 : Ev (fun k => impl_DifferenceNumbers.f k p e) (D, c5)) (k5 : Ev (fun k => spec_DifferenceNumbers.f k p e) (D, c5)) (rD : Ev (fun k => laws_likeInts.f k D D) true)
    (y : Bool) (c6 : Int) (h6 : Ev (fun k => impl_IsDifferenceClass.f k p e) (y, c6)) (k6 : Ev (fun k => spec_IsDifferenceClass.f k p e) (y, c6))
    (fin : Ev (fun k => laws_FnPeriods.j5 k p e T c1 p e x m c2 p e L c3 D c5 c6 false) true) : Ev (fun k => laws_FnPeriods.f k l) true := by
  unfold laws_FnPeriods.f
  refine ev_bind_const hb ?_
  simp only [Bool.false_eq_true, if_false]
  refine Ev.bind d1 (Ev.bind h1 (Ev.bind k1 ?_))
  simp only [if_true]
  refine Ev.bind rT ?_
  simp only [Bool.not_true]
  refine Ev.step (fun k => by simp only [laws_FnPeriods.j0, Bool.false_eq_true, if_false] <;> rfl) ?_
  refine Ev.bind d2 (Ev.bind h2 (Ev.bind k2 ?_))
  simp only [if_true, bne_self_eq_false]
  refine Ev.step (fun k => by simp only [laws_FnPeriods.j1, Bool.false_eq_true, if_false] <;> rfl) ?_
  refine Ev.bind d3 (Ev.bind h3 (Ev.bind k3 ?_))
  simp only [if_true]
  refine Ev.bind rL ?_
  simp only [Bool.not_true]
  refine Ev.step (fun k => by simp only [laws_FnPeriods.j2, Bool.false_eq_true, if_false] <;> rfl) ?_
  refine Ev.bind d4 (Ev.bind h4 (Ev.bind k4 ?_))
  simp only [if_true, bne_self_eq_false]
  refine Ev.step (fun k => by simp only [laws_FnPeriods.j3, Bool.false_eq_true, if_false] <;> rfl) ?_
  refine Ev.bind h5 (Ev.bind k5 ?_)
  simp only [if_true]
  refine Ev.bind rD ?_
  simp only [Bool.not_true]
  refine Ev.step (fun k => by simp only [laws_FnPeriods.j4, Bool.false_eq_true, if_false] <;> rfl) ?_
  refine Ev.bind h6 (Ev.bind k6 ?_)
  simp only [if_true, bne_self_eq_false]
  exact fin
theorem frLike (o : List Int) (h : o.length ≤ 1000) : Ev (fun k => laws_likeInts.f k o o) true := by
  have key : ∀ (d : Nat) (i : Int), i + d = o.length → 0 ≤ i → Ev (fun k => laws_likeInts.l0 k o o i) true := by
    intro d
    induction d with
    | zero => intro i e h0; exact Ev.step (f := fun _ => some true) (fun k => by simp only [laws_likeInts.l0]; rw [if_neg (by omega)]) (Ev.now _)
    | succ d ih =>
      intro i e h0
      refine Ev.step (fun k => ?_) (ih (i + 1) (by omega) (by omega))
      simp only [laws_likeInts.l0]
      rw [if_pos (by omega), if_pos h0, if_pos (by omega), if_pos trivial, w64 (x := i + 1) (by omega) (by omega)]
  unfold laws_likeInts.f
  simp only [if_true]
  exact key o.length 0 (by omega) (by omega)
theorem frRows (o : List (List Int)) (h : o.length ≤ 1000) (hr : ∀ r ∈ o, r.length ≤ 1000) : Ev (fun k => laws_rows9.f k o o) true := by
  have key : ∀ (d : Nat) (i : Int), i + d = o.length → 0 ≤ i → Ev (fun k => laws_rows9.l0 k o o i) true := by
    intro d
    induction d with
    | zero => intro i e h0; exact Ev.step (f := fun _ => some true) (fun k => by simp only [laws_rows9.l0]; rw [if_neg (by omega)]) (Ev.now _)
    | succ d ih =>
      intro i e h0
      have hm : rd_L2 o i ∈ o := by
        unfold rd_L2
        rw [List.getD_eq_getElem?_getD, List.getElem?_eq_getElem (by omega)]
        exact List.getElem_mem (by omega)
      refine Ev.step (f := fun k => (laws_likeInts.f k (rd_L2 o i) (rd_L2 o i)).bind fun t => if t = true then laws_rows9.l0 k o o (i + 1) else some false) (fun k => ?_) (Ev.bind (frLike _ (hr _ hm)) ?_)
      · simp only [laws_rows9.l0]
        rw [if_pos (by omega), if_pos h0, if_pos (by omega), w64 (x := i + 1) (by omega) (by omega)]
      · simp only [if_true]
        exact ih (i + 1) (by omega) (by omega)
  unfold laws_rows9.f
  simp only [if_true]
  exact key o.length 0 (by omega) (by omega)
theorem frBad (l : List Int) (hb : laws_big.f l = some false) (p e x i a b : Int) (h0 : -3 ≤ p ∧ p ≤ 67) (h : okPE p e = false)
    (d1 : Ev (fun k => spec_DrawCyclotomicTable.f k l) (p, e)) (d2 : Ev (fun k => spec_DrawClassOf.f k l) (p, e, x)) (d3 : Ev (fun k => spec_DrawClassMembers.f k l) (p, e, i)) (d4 : Ev (fun k => spec_DrawCyclotomicNumber.f k l) (p, e, a, b)) : Ev (fun k => laws_FnPeriods.f k l) true := by
  have P := periodsOf_bad p e (by omega) (by omega) h
  have C := fun ls => l06Code_bad p e ls h
  have n2 : ¬ (2 : Int) = 0 := by decide
  refine frLaw l p e x i a b hb d1 d2 d3 d4 [] 2 ?_ ?_ (frRows [] (by simp) (by simp)) 0 2 ?_ ?_ [] 2 ?_ ?_ (frLike [] (by simp)) 0 2 ?_ ?_ [] 2 ?_ ?_ (frLike [] (by simp)) false 2 ?_ ?_ ?_
  · unfold impl_CyclotomicTable.f
    refine Ev.bind P ?_
    simp only [Bool.false_eq_true, if_false]
    exact Ev.now _
  · unfold spec_CyclotomicTable.f
    refine Ev.bind (C _) ?_
    simp only [n2, if_false]
    exact Ev.now _
  · unfold impl_ClassOf.f
    refine Ev.bind P ?_
    simp only [Bool.false_eq_true, if_false]
    exact Ev.now _
  · unfold spec_ClassOf.f
    refine Ev.bind (C _) ?_
    simp only [n2, if_false]
    exact Ev.step (fun k => by simp only [spec_ClassOf.j0, Bool.false_eq_true, if_false, n2] <;> rfl) (Ev.now _)
  · unfold impl_ClassMembers.f
    refine Ev.bind P ?_
    simp only [Bool.false_eq_true, if_false]
    exact Ev.now _
  · unfold spec_ClassMembers.f
    refine Ev.bind (C _) ?_
    simp only [n2, if_false]
    exact Ev.now _
  · unfold impl_CyclotomicNumber.f
    refine Ev.bind P ?_
    simp only [Bool.false_eq_true, if_false]
    exact Ev.now _
  · unfold spec_CyclotomicNumber.f
    refine Ev.bind (C _) ?_
    simp only [n2, if_false]
    exact Ev.now _
  · unfold impl_DifferenceNumbers.f
    refine Ev.bind P ?_
    simp only [Bool.false_eq_true, if_false]
    exact Ev.now _
  · unfold spec_DifferenceNumbers.f
    refine Ev.bind (C _) ?_
    simp only [n2, if_false]
    exact Ev.now _
  · unfold impl_IsDifferenceClass.f
    refine Ev.bind P ?_
    simp only [Bool.false_eq_true, if_false]
    exact Ev.now _
  · unfold spec_IsDifferenceClass.f
    refine Ev.bind (C _) ?_
    simp only [n2, if_false]
    exact Ev.now _
  · refine Ev.step (fun k => by simp only [laws_FnPeriods.j5, Bool.false_eq_true, if_false, n2] <;> rfl) ?_
    refine Ev.step (fun k => by simp only [laws_FnPeriods.j6, if_false, n2] <;> rfl) ?_
    refine Ev.step (f := fun _ => some true) (fun k => ?_) (Ev.now _)
    simp only [laws_FnPeriods.j7, Bool.false_eq_true, if_false, n2, List.length_nil]
    rfl
def frI {α : Type} (x : Int) (k : Int → α) : α := match x with
  | .ofNat 0 => k 0
  | .ofNat (n + 1) => k (Int.ofNat (n + 1))
  | .negSucc 0 => k (-1)
  | .negSucc (n + 1) => k (Int.negSucc (n + 1))
theorem frI_eq {α : Type} (x : Int) (k : Int → α) : frI x k = k x := by
  unfold frI
  split <;> rfl
def frL {α : Type} : List Int → (List Int → α) → α
  | [], k => k []
  | x :: xs, k => frI x fun y => frL xs fun ys => k (y :: ys)
theorem frL_eq {α : Type} : ∀ (l : List Int) (k : List Int → α), frL l k = k l
  | [], k => rfl
  | x :: xs, k => by rw [frL, frI_eq, frL_eq xs]
def frR {α : Type} : List (List Int) → (List (List Int) → α) → α
  | [], k => k []
  | x :: xs, k => frL x fun y => frR xs fun ys => k (y :: ys)
theorem frR_eq {α : Type} : ∀ (l : List (List Int)) (k : List (List Int) → α), frR l k = k l
  | [], k => rfl
  | x :: xs, k => by rw [frR, frL_eq, frR_eq xs]
/-- The numbers of a class i. -/
def memOk (p e F : Int) (cls ixz : List Int) (i : Int) : Bool :=
  match impl_periods_members.f 500 p e F cls i with
  | some (L, _) => frL L fun L => decide (L.length ≤ 1000) && decide (spec_ClassMembers.l0 500 p e i ixz [] 1 = some (L, 0)) && decide ((L.length : Int) = wrap64 (Int.tdiv (wrap64 (p - 1)) e)) && (upTo 1 (p - 1).toNat).all fun x => !decide (rd cls x = i) || L.contains x
  | none => false
/-- The sums over the table's rows and the differences. -/
def dOk (p e : Int) (T : List (List Int)) (M : Int) (D : List Int) : Bool :=
  decide (D.length ≤ 1000) && decide (laws_FnPeriods.l0 500 p e T D 0 0 M 0 0 0 = some true) && match impl_IsDifferenceClass.l0 100 D (D.length : Int) 0, spec_IsDifferenceClass.l0 100 D 0 with
    | some (y, c), some (y', c') => decide (y = y' ∧ c = 0 ∧ c' = 0)
    | _, _ => false
def dfOk (p e F : Int) (cls : List Int) (T : List (List Int)) : Bool :=
  if e = 1 then dOk p e T (rd cls (p - 1)) [p - 2] else match impl_periods_differences.f 9000 p e F cls, spec_l06Differences.f 9000 p e with
    | some (D, _), some D' => frL D fun D => decide (D' = D) && dOk p e T (rd cls (p - 1)) D
    | _, _ => false
def tbOk (p e F : Int) (cls : List Int) (T : List (List Int)) : Bool := match impl_periods_table.f 4000 p e F cls with | some (T', _) => decide (T' = T) | none => false
def clOk (p e : Int) (cls ixz : List Int) : Bool := decide ((cls.length : Int) = p) && (decide ((ixz.length : Int) = p) && (upTo 1 (p - 1).toNat).all fun x => decide (Int.tmod (rd ixz x) e = rd cls x) && decide (0 ≤ rd cls x ∧ rd cls x < e))
def frOk2 (p e F : Int) (cls ixz : List Int) (T : List (List Int)) : Bool :=
  clOk p e cls ixz && (tbOk p e F cls T && ((decide ((T.length : Int) = e) && T.all fun r => decide ((r.length : Int) = e)) && (((upTo 0 e.toNat).all fun i => memOk p e F cls ixz i) && dfOk p e F cls T)))
def frOk (q : Int × Int) : Bool :=
  match impl_periodsOf.f 2000 q.1 q.2, spec_l06Indices.f 2000 q.1, spec_l06Table.f 4000 q.1 q.2 with
  | some (p1, e1, F, cls, ok), some ixz, some T => frI F fun F => frL cls fun cls => frL ixz fun ixz => frR T fun T => decide (p1 = q.1 ∧ e1 = q.2 ∧ ok = true) && frOk2 q.1 q.2 F cls ixz T
  | _, _, _ => false
def frP0 : List (Int × Int) := [(5, 2), (7, 3), (13, 3), (19, 2), (19, 6), (23, 1), (29, 4), (29, 7), (37, 6), (41, 2), (41, 10), (61, 12)]
set_option maxHeartbeats 80000000 in
theorem frA0 : ∀ q ∈ frP0, frOk q = true := by decide +kernel
def frP1 : List (Int × Int) := [(3, 1), (3, 2), (13, 2), (13, 12), (17, 1), (17, 2), (19, 9), (31, 2), (41, 1), (41, 5), (43, 7), (47, 2), (61, 10)]
set_option maxHeartbeats 80000000 in
theorem frA1 : ∀ q ∈ frP1, frOk q = true := by decide +kernel
def frP2 : List (Int × Int) := [(11, 2), (13, 1), (13, 4), (29, 1), (31, 3), (37, 4), (37, 9), (43, 1), (43, 3), (53, 1), (61, 2), (61, 4)]
set_option maxHeartbeats 80000000 in
theorem frA2 : ∀ q ∈ frP2, frOk q = true := by decide +kernel
def frP3 : List (Int × Int) := [(7, 1), (7, 6), (17, 4), (19, 3), (23, 2), (31, 5), (37, 1), (37, 2), (37, 3), (37, 12), (41, 8), (59, 2)]
set_option maxHeartbeats 80000000 in
theorem frA3 : ∀ q ∈ frP3, frOk q = true := by decide +kernel
def frP4 : List (Int × Int) := [(5, 4), (7, 2), (11, 1), (13, 6), (17, 8), (29, 2), (31, 1), (31, 10), (41, 4), (53, 2), (53, 4), (59, 1), (61, 5)]
set_option maxHeartbeats 80000000 in
theorem frA4 : ∀ q ∈ frP4, frOk q = true := by decide +kernel
def frP5 : List (Int × Int) := [(5, 1), (11, 5), (11, 10), (19, 1), (23, 11), (31, 6), (43, 2), (43, 6), (47, 1), (61, 1), (61, 3), (61, 6)]
set_option maxHeartbeats 80000000 in
theorem frA5 : ∀ q ∈ frP5, frOk q = true := by decide +kernel
theorem frCut : (pes.all fun q => decide (q ∈ frP0 ++ frP1 ++ frP2 ++ frP3 ++ frP4 ++ frP5)) = true := by decide +kernel
theorem frOk_all (p e : Int) (h : okPE p e = true) : frOk (p, e) = true := by
  have hm := okPE_mem h
  have := List.all_eq_true.mp frCut (p, e) hm
  simp only [List.mem_append, decide_eq_true_eq] at this
  rcases this with ((((hm | hm) | hm) | hm) | hm) | hm
  · exact frA0 _ hm
  · exact frA1 _ hm
  · exact frA2 _ hm
  · exact frA3 _ hm
  · exact frA4 _ hm
  · exact frA5 _ hm
theorem frGet (p e : Int) (h : okPE p e = true) : ∃ (F : Int) (cls ixz : List Int) (T : List (List Int)), Ev (fun k => impl_periodsOf.f k p e) (p, e, F, cls, true) ∧ Ev (fun k => spec_l06Indices.f k p) ixz ∧ Ev (fun k => spec_l06Table.f k p e) T ∧ frOk2 p e F cls ixz T = true := by
  have f := frOk_all p e h
  unfold frOk at f
  simp only at f
  split at f
  · rename_i p1 e1 F cls ok ixz T g1 g2 g3
    simp only [frI_eq, frL_eq, frR_eq, Bool.and_eq_true, decide_eq_true_eq] at f
    obtain ⟨⟨rfl, rfl, rfl⟩, f⟩ := f
    exact ⟨F, cls, ixz, T, Ev.of (impl_periodsOf.mono _ _) g1, Ev.of (spec_l06Indices.mono _) g2, Ev.of (spec_l06Table.mono _ _) g3, f⟩
  · cases f
theorem tbEv {p e F : Int} {cls : List Int} {T : List (List Int)} (h : tbOk p e F cls T = true) : ∃ s, Ev (fun k => impl_periods_table.f k p e F cls) (T, s) := by
  unfold tbOk at h
  split at h
  · rename_i T' s g
    obtain rfl := of_decide_eq_true h
    exact ⟨s, Ev.of (impl_periods_table.mono _ _ _ _) g⟩
  · cases h
theorem memEv {p e F : Int} {cls ixz : List Int} {i : Int} (h : memOk p e F cls ixz i = true) : ∃ (L : List Int) (s : Int × Int × Int), Ev (fun k => impl_periods_members.f k p e F cls i) (L, s) ∧ Ev (fun k => spec_ClassMembers.l0 k p e i ixz [] 1) (L, 0) ∧ L.length ≤ 1000 ∧ (L.length : Int) = wrap64 (Int.tdiv (wrap64 (p - 1)) e) ∧ ∀ x, 1 ≤ x → x < p → rd cls x = i → x ∈ L := by
  unfold memOk at h
  split at h
  · rename_i L s g
    simp only [frL_eq, Bool.and_eq_true, decide_eq_true_eq, List.all_eq_true] at h
    obtain ⟨⟨⟨h1, h2⟩, h3⟩, h4⟩ := h
    refine ⟨L, s, Ev.of (impl_periods_members.mono _ _ _ _ _) g, Ev.of (fun k => spec_ClassMembers.mono_l k _ _ _ _ _ _) h2, h1, h3, fun x hx hp hc => ?_⟩
    have := h4 x (mem_upTo.mpr (by omega))
    simp only [hc, decide_true, Bool.not_true, Bool.false_or, List.contains_iff_mem] at this
    exact this
  · cases h
theorem dEv {p e : Int} {T : List (List Int)} {M : Int} {D : List Int} (h : dOk p e T M D = true) : D.length ≤ 1000 ∧ Ev (fun k => laws_FnPeriods.l0 k p e T D 0 0 M 0 0 0) true ∧ ∃ y, Ev (fun k => impl_IsDifferenceClass.l0 k D (D.length : Int) 0) (y, 0) ∧ Ev (fun k => spec_IsDifferenceClass.l0 k D 0) (y, 0) := by
  unfold dOk at h
  simp only [Bool.and_eq_true, decide_eq_true_eq] at h
  obtain ⟨⟨h1, h2⟩, h3⟩ := h
  refine ⟨h1, Ev.of (fun k => by obtain ⟨_, _, _, _, _, _, _, _, m⟩ := laws_FnPeriods.mono_l k; exact m _ _ _ _ _ _ _ _ _ _) h2, ?_⟩
  split at h3
  · rename_i y c y' c' g1 g2
    obtain ⟨rfl, rfl, rfl⟩ := of_decide_eq_true h3
    exact ⟨y, Ev.of (fun k => impl_IsDifferenceClass.mono_l k _ _ _) g1, Ev.of (fun k => spec_IsDifferenceClass.mono_l k _ _) g2⟩
  · cases h3
theorem invI {p e F : Int} {cls D : List Int} (h : Ev (fun k => impl_DifferenceNumbers.f k p e) (D, 0)) (g : Ev (fun k => impl_periodsOf.f k p e) (p, e, F, cls, true)) : Ev (fun k => impl_pdiffs.f k p e F cls) D := by
  obtain ⟨n, hn⟩ := h
  obtain ⟨m, hm⟩ := g
  refine ⟨n + m, fun k hk => ?_⟩
  have h1 := hn k (by omega)
  have h2 := hm k (by omega)
  simp only [impl_DifferenceNumbers.f] at h1
  rw [show impl_periodsOf.f k p e = _ from h2, Option.bind_some] at h1
  simp only [if_true] at h1
  obtain ⟨d, h3, h4⟩ := Option.bind_eq_some_iff.mp h1
  show impl_pdiffs.f k p e F cls = some D
  unfold impl_pdiffs.f
  rw [h3, Option.bind_some]
  simp only [Option.some.injEq, Prod.mk.injEq] at h4
  rw [h4.1]
theorem invS {p e : Int} {D : List Int} (h : Ev (fun k => spec_DifferenceNumbers.f k p e) (D, 0)) (g : Ev (fun k => spec_l06Code.f k p e []) 0) : Ev (fun k => spec_l06Differences.f k p e) D := by
  obtain ⟨n, hn⟩ := h
  obtain ⟨m, hm⟩ := g
  refine ⟨n + m, fun k hk => ?_⟩
  have h1 := hn k (by omega)
  have h2 := hm k (by omega)
  simp only [spec_DifferenceNumbers.f] at h1
  rw [show spec_l06Code.f k p e [] = _ from h2, Option.bind_some] at h1
  simp only [if_true] at h1
  obtain ⟨d, h3, h4⟩ := Option.bind_eq_some_iff.mp h1
  simp only [Option.some.injEq, Prod.mk.injEq] at h4
  rw [← h4.1]
  exact h3
theorem dfEv {p e F : Int} {cls : List Int} {T : List (List Int)} (h : okPE p e = true) (g : Ev (fun k => impl_periodsOf.f k p e) (p, e, F, cls, true)) (c : Ev (fun k => spec_l06Code.f k p e []) 0) (f : dfOk p e F cls T = true) :
    ∃ D, Ev (fun k => impl_DifferenceNumbers.f k p e) (D, 0) ∧ Ev (fun k => spec_DifferenceNumbers.f k p e) (D, 0) ∧ dOk p e T (rd cls (p - 1)) D = true := by
  unfold dfOk at f
  by_cases e1 : e = 1
  · rw [if_pos e1] at f
    subst e1
    have hpr : pr p = true := by
      simp only [okPE, Bool.and_eq_true] at h
      exact h.1.1
    obtain ⟨h1, h2⟩ := both1 p (pr_iff.mp hpr)
    exact ⟨_, h2, h1, f⟩
  · rw [if_neg e1] at f
    split at f
    · rename_i D s D' g1 g2
      simp only [frL_eq, Bool.and_eq_true, decide_eq_true_eq] at f
      obtain ⟨rfl, f⟩ := f
      refine ⟨_, ?_, ?_, f⟩
      · unfold impl_DifferenceNumbers.f
        refine Ev.bind g ?_
        simp only [if_true]
        exact Ev.bind (Ev.of (impl_periods_differences.mono _ _ _ _) g1) (Ev.now _)
      · unfold spec_DifferenceNumbers.f
        refine Ev.bind c ?_
        simp only [if_true]
        exact Ev.bind (Ev.of (spec_l06Differences.mono _ _) g2) (Ev.now _)
    · cases f
theorem codeGood (p e : Int) (h : okPE p e = true) (ls : List Int) (r : Int) (H : Ev (fun k => spec_l06Code.l0 k e ls 0) r) : Ev (fun k => spec_l06Code.f k p e ls) r := by
  have bd := okPE_bd h
  simp only [okPE, Bool.and_eq_true, decide_eq_true_eq] at h
  obtain ⟨⟨hp, he⟩, hm⟩ := h
  unfold spec_l06Code.f
  refine Ev.bind (l06Prime p) ?_
  rw [hp]
  simp only [if_true]
  refine ev_bind_const (l01In _ _ _) ?_
  rw [show (decide (1 ≤ e) && decide (e ≤ 12)) = true by simp; omega]
  simp only [if_true, if_neg (show ¬ e = 0 by omega), w64 (x := p - 1) (by omega) (by omega), Int.tmod_eq_emod_of_nonneg (show 0 ≤ p - 1 by omega), hm, bne_self_eq_false]
  exact Ev.step (fun k => by simp only [spec_l06Code.j0, Bool.false_eq_true, if_false] <;> rfl) H
theorem codeEnd (e : Int) (ls : List Int) (n : Int) (hn : n = ls.length) : Ev (fun k => spec_l06Code.l0 k e ls n) 0 :=
  Ev.step (f := fun _ => some 0) (fun k => by simp only [spec_l06Code.l0]; rw [if_neg (by omega)]) (Ev.now _)
theorem codeIn (e : Int) (he : 1 ≤ e ∧ e ≤ 12) (ls : List Int) (n m r : Int) (h0 : 0 ≤ n) (hn : n < ls.length) (hl : ls.length ≤ 10) (hm : m = n + 1) (h : 0 ≤ rd ls n ∧ rd ls n < e) (H : Ev (fun k => spec_l06Code.l0 k e ls m) r) : Ev (fun k => spec_l06Code.l0 k e ls n) r := by
  subst hm
  refine Ev.step (fun k => ?_) H
  simp only [spec_l06Code.l0]
  rw [if_pos hn, if_pos h0, l01In, Option.bind_some, w64 (x := e - 1) (by omega) (by omega), if_pos (by simp; omega), w64 (x := n + 1) (by omega) (by omega)]
theorem codeOut (e : Int) (he : 1 ≤ e ∧ e ≤ 12) (ls : List Int) (n : Int) (h0 : 0 ≤ n) (hn : n < ls.length) (h : ¬ (0 ≤ rd ls n ∧ rd ls n < e)) : Ev (fun k => spec_l06Code.l0 k e ls n) 2 := by
  refine Ev.step (f := fun _ => some 2) (fun k => ?_) (Ev.now _)
  simp only [spec_l06Code.l0]
  rw [if_pos hn, if_pos h0, l01In, Option.bind_some, w64 (x := e - 1) (by omega) (by omega), if_neg (by simp; omega)]
theorem hasEv (L : List Int) (x : Int) (hl : L.length ≤ 1000) (hx : x ∈ L) : Ev (fun k => laws_hasInt.f k L x) true := by
  have key : ∀ (d : Nat) (i : Int), i + d = L.length → 0 ≤ i → (∃ j : Nat, i ≤ j ∧ (j : Int) < L.length ∧ rd L j = x) → Ev (fun k => laws_hasInt.l0 k L x i) true := by
    intro d
    induction d with
    | zero => rintro i e h0 ⟨j, h1, h2, _⟩; omega
    | succ d ih =>
      rintro i e h0 ⟨j, h1, h2, h3⟩
      by_cases c : rd L i = x
      · refine Ev.step (f := fun _ => some true) (fun k => ?_) (Ev.now _)
        simp only [laws_hasInt.l0]
        rw [if_pos (by omega), if_pos h0, if_pos c]
      · refine Ev.step (fun k => ?_) (ih (i + 1) (by omega) (by omega) ⟨j, ?_, h2, h3⟩)
        · simp only [laws_hasInt.l0]
          rw [if_pos (by omega), if_pos h0, if_neg c, w64 (x := i + 1) (by omega) (by omega)]
        · have : i ≠ j := by rintro rfl; exact c h3
          omega
  unfold laws_hasInt.f
  obtain ⟨j, hj, e⟩ := List.getElem_of_mem hx
  refine key L.length 0 (by omega) (by omega) ⟨j, by omega, by omega, ?_⟩
  unfold rd
  rw [Int.toNat_natCast, List.getD_eq_getElem?_getD, List.getElem?_eq_getElem hj]
  exact e
theorem frGood (l : List Int) (hb : laws_big.f l = some false) (p e x i a b : Int) (h : okPE p e = true) (hx : 0 ≤ x ∧ x ≤ p) (hi : 0 ≤ i ∧ i ≤ e) (ha : 0 ≤ a ∧ a < e) (hb' : 0 ≤ b ∧ b ≤ e)
    (d1 : Ev (fun k => spec_DrawCyclotomicTable.f k l) (p, e)) (d2 : Ev (fun k => spec_DrawClassOf.f k l) (p, e, x)) (d3 : Ev (fun k => spec_DrawClassMembers.f k l) (p, e, i)) (d4 : Ev (fun k => spec_DrawCyclotomicNumber.f k l) (p, e, a, b)) : Ev (fun k => laws_FnPeriods.f k l) true := by
  have bd := okPE_bd h
  have he : 1 ≤ e ∧ e ≤ 12 := by omega
  have C0 := codeGood p e h [] 0 (codeEnd e [] 0 rfl)
  obtain ⟨F, cls, ixz, T, P, X, S, f⟩ := frGet p e h
  simp only [frOk2, Bool.and_eq_true, decide_eq_true_eq, List.all_eq_true] at f
  obtain ⟨f1, f2, ⟨f3, f4⟩, f5, f6⟩ := f
  simp only [clOk, Bool.and_eq_true, decide_eq_true_eq, List.all_eq_true] at f1
  obtain ⟨fc, fi, fx⟩ := f1
  obtain ⟨s0, TB⟩ := tbEv f2
  obtain ⟨D, D1, D2, D3⟩ := dfEv h P C0 f6
  obtain ⟨D4, D5, y, D6, D7⟩ := dEv D3
  have Q1 := invI D1 P
  have Q2 := invS D2 C0
  have wp : wrap64 (p - 1) = p - 1 := w64 (by omega) (by omega)
  have we : wrap64 (e - 1) = e - 1 := w64 (by omega) (by omega)
  have PT : Ev (fun k => impl_ptable.f k p e F cls) T := by
    unfold impl_ptable.f
    exact Ev.bind TB (Ev.now _)
  have IC : ∀ z, 1 ≤ z → z < p → Ev (fun k => impl_ClassOf.f k p e z) (rd cls z, 0) := by
    intro z h1 h2
    unfold impl_ClassOf.f
    refine Ev.bind P ?_
    simp only [if_true]
    refine ev_bind_const (within_ _ _ _) ?_
    rw [wp, show (decide (1 ≤ z) && decide (z ≤ p - 1)) = true by simp; omega]
    simp only [if_true, if_pos (show 0 ≤ z by omega), if_pos (show z < (cls.length : Int) by omega)]
    exact Ev.now _
  have SC : ∀ z, 1 ≤ z → z < p → Ev (fun k => spec_ClassOf.f k p e z) (rd cls z, 0) := by
    intro z h1 h2
    unfold spec_ClassOf.f
    refine Ev.bind C0 ?_
    simp only [if_true]
    refine ev_bind_const (l01In _ _ _) ?_
    rw [wp, show (decide (1 ≤ z) && decide (z ≤ p - 1)) = true by simp; omega]
    refine Ev.step (f := fun k => (spec_l06Indices.f k p).bind fun t270 => (if 0 ≤ z then (if z < (t270.length : Int) then (if e = 0 then (none) else (some (Int.tmod (rd t270 z) e, 0))) else (none)) else (none))) (fun k => by simp only [spec_ClassOf.j0, Bool.not_true, Bool.false_eq_true, if_false, if_true]) ?_
    refine Ev.bind X ?_
    simp only [if_pos (show 0 ≤ z by omega), if_pos (show z < (ixz.length : Int) by omega), if_neg (show ¬ e = 0 by omega), (fx z (mem_upTo.mpr (by omega))).1]
    exact Ev.now _
  have IM : ∀ z, 0 ≤ z → z < e → ∃ L : List Int, Ev (fun k => impl_ClassMembers.f k p e z) (L, 0) ∧ Ev (fun k => spec_ClassMembers.f k p e z) (L, 0) ∧ L.length ≤ 1000 ∧ (L.length : Int) = wrap64 (Int.tdiv (wrap64 (p - 1)) e) ∧ ∀ x, 1 ≤ x → x < p → rd cls x = z → x ∈ L := by
    intro z h1 h2
    obtain ⟨L, s, m1, m2, m3⟩ := memEv (f5 z (mem_upTo.mpr (by omega)))
    refine ⟨L, ?_, ?_, m3⟩
    · unfold impl_ClassMembers.f
      refine Ev.bind P ?_
      simp only [if_true]
      refine ev_bind_const (within_ _ _ _) ?_
      rw [we, show (decide (0 ≤ z) && decide (z ≤ e - 1)) = true by simp; omega]
      simp only [if_true]
      refine Ev.bind (a := L) ?_ (Ev.now _)
      unfold impl_pmembers.f
      exact Ev.bind m1 (Ev.now _)
    · unfold spec_ClassMembers.f
      refine Ev.bind (codeGood p e h [z] 0 (codeIn e he [z] 0 1 0 (by omega) (by simp) (by simp) rfl (by simp [rd]; omega) (codeEnd e [z] 1 rfl))) ?_
      simp only [if_true]
      exact Ev.bind X m2
  have XX : ∃ m c2, Ev (fun k => impl_ClassOf.f k p e x) (m, c2) ∧ Ev (fun k => spec_ClassOf.f k p e x) (m, c2) ∧ (c2 = 0 → 1 ≤ x ∧ x < p ∧ m = rd cls x) := by
    by_cases c : 1 ≤ x ∧ x < p
    · exact ⟨_, _, IC x c.1 c.2, SC x c.1 c.2, fun _ => ⟨c.1, c.2, rfl⟩⟩
    · have hw : (decide (1 ≤ x) && decide (x ≤ p - 1)) = false := by simp; omega
      refine ⟨0, 2, ?_, ?_, fun h => absurd h (by decide)⟩
      · unfold impl_ClassOf.f
        refine Ev.bind P ?_
        simp only [if_true]
        refine ev_bind_const (within_ _ _ _) ?_
        rw [wp, hw]
        simp only [Bool.false_eq_true, if_false]
        exact Ev.now _
      · unfold spec_ClassOf.f
        refine Ev.bind C0 ?_
        simp only [if_true]
        refine ev_bind_const (l01In _ _ _) ?_
        rw [wp, hw]
        exact Ev.step (fun k => by simp only [spec_ClassOf.j0, Bool.not_false, if_true, show ¬ (2 : Int) = 0 by decide, if_false] <;> rfl) (Ev.now _)
  obtain ⟨m, c2, x1z, x2_, x3_⟩ := XX
  have MM : ∃ L c3, Ev (fun k => impl_ClassMembers.f k p e i) (L, c3) ∧ Ev (fun k => spec_ClassMembers.f k p e i) (L, c3) ∧ L.length ≤ 1000 ∧ (c3 = 0 → (L.length : Int) = wrap64 (Int.tdiv (wrap64 (p - 1)) e)) := by
    by_cases c : i < e
    · obtain ⟨L, m1, m2, m3, m4, _⟩ := IM i hi.1 c
      exact ⟨L, 0, m1, m2, m3, fun _ => m4⟩
    · refine ⟨[], 2, ?_, ?_, by simp, fun h => absurd h (by decide)⟩
      · unfold impl_ClassMembers.f
        refine Ev.bind P ?_
        simp only [if_true]
        refine ev_bind_const (within_ _ _ _) ?_
        rw [we, show (decide (0 ≤ i) && decide (i ≤ e - 1)) = false by simp; omega]
        simp only [Bool.false_eq_true, if_false]
        exact Ev.now _
      · unfold spec_ClassMembers.f
        refine Ev.bind (codeGood p e h [i] 2 (codeOut e he [i] 0 (by omega) (by simp) (by simp [rd]; omega))) ?_
        simp only [show ¬ (2 : Int) = 0 by decide, if_false]
        exact Ev.now _
  obtain ⟨L, c3, y1, y2, y3, y4⟩ := MM
  have hrow : ∀ z, 0 ≤ z → z < e → ((rd_L2 T z).length : Int) = e := by
    intro z h1 h2
    refine f4 _ ?_
    unfold rd_L2
    rw [List.getD_eq_getElem?_getD, List.getElem?_eq_getElem (by omega)]
    exact List.getElem_mem (by omega)
  have NN : ∃ n c4, Ev (fun k => impl_CyclotomicNumber.f k p e a b) (n, c4) ∧ Ev (fun k => spec_CyclotomicNumber.f k p e a b) (n, c4) := by
    have wa : (decide (0 ≤ a) && decide (a ≤ e - 1)) = true := by simp; omega
    by_cases c : b < e
    · have wb : (decide (0 ≤ b) && decide (b ≤ e - 1)) = true := by simp; omega
      refine ⟨rd (rd_L2 T a) b, 0, ?_, ?_⟩
      · unfold impl_CyclotomicNumber.f
        refine Ev.bind P ?_
        simp only [if_true]
        refine ev_bind_const (within_ _ _ _) ?_
        rw [we, wa]
        simp only [if_true]
        refine ev_bind_const (within_ _ _ _) ?_
        rw [wb]
        simp only [if_true]
        refine Ev.bind PT ?_
        simp only [if_pos ha.1, if_pos (show a < (T.length : Int) by omega), if_pos hb'.1, if_pos (show b < ((rd_L2 T a).length : Int) by rw [hrow a ha.1 ha.2]; exact c)]
        exact Ev.now _
      · unfold spec_CyclotomicNumber.f
        refine Ev.bind (codeGood p e h [a, b] 0 (codeIn e he [a, b] 0 1 0 (by omega) (by simp) (by simp) rfl (by simp [rd]; omega) (codeIn e he [a, b] 1 2 0 (by omega) (by simp) (by simp) rfl (by simp [rd]; omega) (codeEnd e [a, b] 2 rfl)))) ?_
        simp only [if_true]
        refine Ev.bind S ?_
        simp only [if_pos ha.1, if_pos (show a < (T.length : Int) by omega), if_pos hb'.1, if_pos (show b < ((rd_L2 T a).length : Int) by rw [hrow a ha.1 ha.2]; exact c)]
        exact Ev.now _
    · have wb : (decide (0 ≤ b) && decide (b ≤ e - 1)) = false := by simp; omega
      refine ⟨0, 2, ?_, ?_⟩
      · unfold impl_CyclotomicNumber.f
        refine Ev.bind P ?_
        simp only [if_true]
        refine ev_bind_const (within_ _ _ _) ?_
        rw [we, wa]
        simp only [if_true]
        refine ev_bind_const (within_ _ _ _) ?_
        rw [wb]
        simp only [Bool.false_eq_true, if_false]
        exact Ev.now _
      · unfold spec_CyclotomicNumber.f
        refine Ev.bind (codeGood p e h [a, b] 2 (codeIn e he [a, b] 0 1 2 (by omega) (by simp) (by simp) rfl (by simp [rd]; omega) (codeOut e he [a, b] 1 (by omega) (by simp) (by simp [rd]; omega)))) ?_
        simp only [show ¬ (2 : Int) = 0 by decide, if_false]
        exact Ev.now _
  obtain ⟨n, c4, n1, n2⟩ := NN
  have e0 : ¬ e = 0 := by omega
  refine frLaw l p e x i a b hb d1 d2 d3 d4 T 0 ?_ ?_ (frRows T (by omega) (fun r hr => by have := f4 r hr; omega)) m c2 x1z x2_ L c3 y1 y2 (frLike L y3) n c4 n1 n2 D 0 D1 D2 (frLike D D4) y 0 ?_ ?_ ?_
  · unfold impl_CyclotomicTable.f
    refine Ev.bind P ?_
    simp only [if_true]
    exact Ev.bind TB (Ev.now _)
  · unfold spec_CyclotomicTable.f
    refine Ev.bind C0 ?_
    simp only [if_true]
    exact Ev.bind S (Ev.now _)
  · unfold impl_IsDifferenceClass.f
    refine Ev.bind P ?_
    simp only [if_true]
    exact Ev.bind Q1 D6
  · unfold spec_IsDifferenceClass.f
    refine Ev.bind C0 ?_
    simp only [if_true]
    exact Ev.bind Q2 D7
  · have J7 : Ev (fun k => laws_FnPeriods.j7 k p e T 0 D 0 0 false) true := by
      refine Ev.step (fun k => by simp only [laws_FnPeriods.j7, Bool.false_eq_true, if_false, if_true] <;> rfl) ?_
      rw [wp]
      exact Ev.bind (IC (p - 1) (by omega) (by omega)) D5
    have J6 : Ev (fun k => laws_FnPeriods.j6 k p e T 0 p e L c3 D 0 0) true := by
      by_cases c : c3 = 0
      · refine Ev.step (fun k => ?_) J7
        simp only [laws_FnPeriods.j6, if_pos c, if_neg e0, y4 c, bne_self_eq_false]
      · refine Ev.step (fun k => ?_) J7
        simp only [laws_FnPeriods.j6, if_neg c]
    by_cases c : c2 = 0
    · obtain ⟨q1z, q2z, q3⟩ := x3_ c
      have hc := (fx x (mem_upTo.mpr (by omega))).2
      obtain ⟨O, o1, _, o3, _, o5⟩ := IM (rd cls x) hc.1 hc.2
      refine Ev.step (f := fun k => (impl_ClassMembers.f k p e m).bind fun bt510 => (if bt510.2 = 0 then ((laws_hasInt.f k bt510.1 x).bind fun t514 => (if t514 = true then (laws_FnPeriods.j6 k p e T 0 p e L c3 D 0 0) else (some false))) else (some false))) (fun k => ?_) ?_
      · simp only [laws_FnPeriods.j5, Bool.false_eq_true, if_false, if_pos c]
      · rw [q3]
        refine Ev.bind o1 ?_
        simp only [if_true]
        refine Ev.bind (hasEv O x o3 (o5 x q1z q2z rfl)) ?_
        simp only [if_true]
        exact J6
    · refine Ev.step (fun k => ?_) J6
      simp only [laws_FnPeriods.j5, Bool.false_eq_true, if_false, if_neg c]
theorem FnPeriods : laws_FnPeriods.Pure := by
  intro l hl1 hl2 hl3
  apply Ev.rounds
  by_cases c : (l.length : Int) > 4096
  · unfold laws_FnPeriods.f
    refine ev_bind_const (a := true) (by unfold laws_big.f; simp [c]) ?_
    simp only [if_true]
    exact Ev.now _
  · have hb : laws_big.f l = some false := by unfold laws_big.f; simp [c]
    have hB : Byt l := ⟨by omega, fun y hy => by have := hl3 y hy; simpa [Lit.wf] using bounds_u8 this⟩
    obtain ⟨p, e, x, i, a, b, d1, d2, d3, d4, hp, he, hx, hq⟩ := frDraws hB
    cases h : okPE p e with
    | false => exact frBad l hb p e x i a b hp h d1 d2 d3 d4
    | true =>
      have bd := okPE_bd h
      obtain ⟨q1z, q2z, q3⟩ := hq (by omega)
      exact frGood l hb p e x i a b h (hx (by omega)) q1z q2z q3 d1 d2 d3 d4
end Go.Proofs.Ytefhabkikaadiaa.Pure
