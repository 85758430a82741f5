/- The program's CyclotomicTable returns what the reference's returns, for all arguments; no condition. -/
import Derived.Test.YthdpdiahkphklaaPFnExactCyclotomicTablex5
import Derived.OpenShut
namespace Go.Proofs.Ythdpdiahkphklaa.Pure
open Go.RowKit Go.Proofs.Ythdpdiahkphklaa.PFnExactCyclotomicTable Go.Proofs.YthdpdiahkphklaaW.PrintWords Go.Proofs.YthdpdiahkphklaaW.PrintLast Go.Proofs.YthdpdiahkphklaaW.PrintMore
set_option linter.unusedVariables false
set_option linter.unusedSimpArgs false
theorem w64 {x : Int} (h0 : -9223372036854775808 ≤ x) (h1 : x ≤ 9223372036854775807) : wrap64 x = x := by unfold wrap64; omega
theorem wf64 {x : Int} (h : (Lit.int .i64 x).wf = true) : -9223372036854775808 ≤ x ∧ x ≤ 9223372036854775807 := bounds_i64 h
theorem ev_bind_const {α β : Type} {o : Option α} {a : α} {f : Nat → α → Option β} {r : β} (h : o = some a) (k : Ev (fun n => f n a) r) : Ev (fun n => o.bind (f n)) r := by
  subst h; exact k
theorem l01In (a b c : Int) : spec_l01In.f a b c = some (decide (b ≤ a) && decide (a ≤ c)) := by
  unfold spec_l01In.f
  by_cases h : a ≥ b
  · rw [if_pos h]; simp [h]
  · rw [if_neg h]; simp [h]
theorem within_ (a b c : Int) : impl_within.f a b c = some (decide (b ≤ a) && decide (a ≤ c)) := by
  unfold impl_within.f
  by_cases h : b ≤ a
  · rw [if_pos h]; simp [h]
  · rw [if_neg h]; simp [h]
def upTo (a : Int) (n : Nat) : List Int := (List.range n).map fun (j : Nat) => a + (j : Int)
theorem mem_upTo {a x : Int} {n : Nat} : x ∈ upTo a n ↔ a ≤ x ∧ x < a + n := by
  simp only [upTo, List.mem_map, List.mem_range]
  constructor
  · rintro ⟨j, hj, rfl⟩; omega
  · intro h; exact ⟨(x - a).toNat, by omega, by omega⟩
def prs : List Int := [3, 5, 7, 11, 13, 17, 19, 23, 29, 31, 37, 41, 43, 47, 53, 59, 61]
def pr (l : Int) : Bool := prs.contains l
theorem pr_iff {l : Int} : pr l = true ↔ l ∈ prs := by unfold pr; exact List.contains_iff_mem
theorem pr_bd {l : Int} (h : pr l = true) : 3 ≤ l ∧ l ≤ 61 := by
  rw [pr_iff] at h
  simp only [prs, List.mem_cons, List.not_mem_nil, or_false] at h
  omega
theorem upto61 {P : Int → Prop} (h : ∀ m : Nat, m < 62 → P m) (n : Int) (h0 : 0 ≤ n) (h1 : n ≤ 61) : P n := by
  have := h n.toNat (by omega)
  rwa [Int.toNat_of_nonneg (by omega)] at this
theorem isPrime_big (p : Int) (h0 : 61 < p) (h1 : p ≤ 9223372036854775807) : ∀ (n : Nat) (d : Int), 2 ≤ d → d ≤ p → (p - d).toNat = n → Ev (fun k => impl_isPrime.l0 k p d) false := by
  intro n
  induction n with
  | zero =>
    intro d hd hp hn
    have : d = p := by omega
    subst this
    refine Ev.step (f := fun _ => some false) (fun k => ?_) (Ev.now _)
    simp only [impl_isPrime.l0]
    by_cases c : wrap64 (d * d) ≤ d
    · rw [if_pos c, if_neg (by omega), if_pos (Int.tmod_self)]
    · rw [if_neg c, within_, Option.bind_some]
      simp
      omega
  | succ n ih =>
    intro d hd hp hn
    by_cases c : wrap64 (d * d) ≤ p
    · by_cases c2 : Int.tmod p d = 0
      · refine Ev.step (f := fun _ => some false) (fun k => ?_) (Ev.now _)
        simp only [impl_isPrime.l0]
        rw [if_pos c, if_neg (by omega), if_pos c2]
      · refine Ev.step (fun k => ?_) (ih (d + 1) (by omega) (by omega) (by omega))
        simp only [impl_isPrime.l0]
        rw [if_pos c, if_neg (by omega), if_neg c2, w64 (by omega) (by omega)]
    · refine Ev.step (f := fun _ => some false) (fun k => ?_) (Ev.now _)
      simp only [impl_isPrime.l0]
      rw [if_neg c, within_, Option.bind_some]
      simp
      omega
theorem isPrime (p : Int) (h0 : -9223372036854775808 ≤ p) (h1 : p ≤ 9223372036854775807) : Ev (fun k => impl_isPrime.f k p) (pr p) := by
  by_cases c : 61 < p
  · have e : pr p = false := by
      cases h : pr p with
      | false => rfl
      | true => have := pr_bd h; omega
    rw [e]
    exact isPrime_big p c h1 _ 2 (by omega) (by omega) rfl
  · by_cases c2 : 0 ≤ p
    · have key : ∀ m : Nat, m < 62 → impl_isPrime.f 20 (m : Int) = some (pr m) := by decide +kernel
      exact Ev.of (impl_isPrime.mono p) (upto61 (P := fun p => impl_isPrime.f 20 p = some (pr p)) key p c2 (by omega))
    · have e : pr p = false := by
        cases h : pr p with
        | false => rfl
        | true => have := pr_bd h; omega
      rw [e]
      refine Ev.step (f := fun _ => some false) (fun k => ?_) (Ev.now _)
      simp only [impl_isPrime.f, impl_isPrime.l0]
      rw [if_neg (by rw [w64 (x := 2 * 2) (by omega) (by omega)]; omega), within_, Option.bind_some]
      simp
      omega
def okPE (p e : Int) : Bool := pr p && (decide (1 ≤ e) && decide (e ≤ 12)) && decide ((p - 1) % e = 0)
def pes : List (Int × Int) := prs.flatMap fun p => (upTo 1 12).filterMap fun e => if okPE p e then some (p, e) else none
theorem okPE_mem {p e : Int} (h : okPE p e = true) : (p, e) ∈ pes := by
  have h' := h
  simp only [okPE, Bool.and_eq_true, decide_eq_true_eq] at h'
  refine List.mem_flatMap.mpr ⟨p, pr_iff.mp h'.1.1, List.mem_filterMap.mpr ⟨e, mem_upTo.mpr (by omega), ?_⟩⟩
  rw [if_pos h]
theorem l06Prime (p : Int) : Ev (fun k => spec_l06Prime.f k p) (pr p) := by
  by_cases c : 3 ≤ p ∧ p ≤ 61
  · have key : ∀ m : Nat, m < 62 → spec_l06Prime.f 20 (m : Int) = some (pr m) := by decide +kernel
    exact Ev.of (spec_l06Prime.mono p) (upto61 (P := fun p => spec_l06Prime.f 20 p = some (pr p)) key p (by omega) c.2)
  · have e : pr p = false := by
      cases h : pr p with
      | false => rfl
      | true => have := pr_bd h; omega
    rw [e]
    unfold spec_l06Prime.f
    refine ev_bind_const (l01In _ _ _) ?_
    rw [show (decide (3 ≤ p) && decide (p ≤ 61)) = false by simp; omega]
    exact Ev.now _
theorem l06Code_bad (p e : Int) (ls : List Int) (h : okPE p e = false) : Ev (fun k => spec_l06Code.f k p e ls) 2 := by
  have J : Ev (fun k => spec_l06Code.j0 k e ls true) 2 := Ev.step (fun k => by simp only [spec_l06Code.j0, if_true] <;> rfl) (Ev.now _)
  unfold spec_l06Code.f
  refine Ev.bind (l06Prime p) ?_
  cases hp : pr p with
  | false => simp only [Bool.false_eq_true, if_false]; exact J
  | true =>
    have hb := pr_bd hp
    simp only [if_true]
    refine ev_bind_const (l01In _ _ _) ?_
    cases he : decide (1 ≤ e) && decide (e ≤ 12) with
    | false => simp only [Bool.false_eq_true, if_false]; exact J
    | true =>
      have he' : 1 ≤ e ∧ e ≤ 12 := by simpa using he
      have hm : ¬ (p - 1) % e = 0 := by
        intro hm
        simp [okPE, hp, he, hm] at h
      simp only [if_true, if_neg (show ¬ e = 0 by omega), w64 (x := p - 1) (by omega) (by omega), Int.tmod_eq_emod_of_nonneg (show 0 ≤ p - 1 by omega)]
      rw [bne_iff_ne.mpr hm]
      exact J
theorem periodsOf_bad (p e : Int) (h0 : -9223372036854775808 ≤ p) (h1 : p ≤ 9223372036854775807) (h : okPE p e = false) : Ev (fun k => impl_periodsOf.f k p e) (0, 0, 0, [], false) := by
  have J : Ev (fun k => impl_periodsOf.j0 k p e true) (0, 0, 0, [], false) := Ev.step (fun k => by simp only [impl_periodsOf.j0, if_true] <;> rfl) (Ev.now _)
  unfold impl_periodsOf.f
  refine Ev.bind (isPrime p h0 h1) ?_
  cases hp : pr p with
  | false => simp only [Bool.false_eq_true, if_false]; exact J
  | true =>
    have hb := pr_bd hp
    simp only [if_true]
    refine ev_bind_const (within_ _ _ _) ?_
    cases he : decide (1 ≤ e) && decide (e ≤ 12) with
    | false => simp only [Bool.false_eq_true, if_false]; exact J
    | true =>
      have he' : 1 ≤ e ∧ e ≤ 12 := by simpa using he
      have hm : ¬ (p - 1) % e = 0 := by
        intro hm
        simp [okPE, hp, he, hm] at h
      simp only [if_true, if_neg (show ¬ e = 0 by omega), w64 (x := p - 1) (by omega) (by omega), Int.tmod_eq_emod_of_nonneg (show 0 ≤ p - 1 by omega)]
      rw [bne_iff_ne.mpr hm]
      exact J
theorem tab_good : ∀ q ∈ pes, laws_FnExactCyclotomicTable.f 2000 q.1 q.2 = some true := by decide +kernel
theorem tab_bad (p e : Int) (hs : Ev (fun k => spec_CyclotomicTable.f k p e) (([] : List (List Int)), 2)) (hi : Ev (fun k => impl_CyclotomicTable.f k p e) (([] : List (List Int)), 2)) : Ev (fun k => laws_FnExactCyclotomicTable.f k p e) true := by
  have eq0 : Ev (fun k => laws_eqInt64SS.f k [] []) true := Ev.of (laws_eqInt64SS.mono _ _) (show laws_eqInt64SS.f 3 [] [] = some true by decide +kernel)
  have hl0 : Ev (fun k => laws_heldInt64SS.f k [] 1) 1 := Ev.of (laws_heldInt64SS.mono _ _) (show laws_heldInt64SS.f 3 [] 1 = some 1 by decide +kernel)
  unfold laws_FnExactCyclotomicTable.f
  refine Ev.bind hs (Ev.bind hi (Ev.bind eq0 ?_))
  simp only [if_true, bne_self_eq_false]
  refine Ev.step (fun k => by simp only [laws_FnExactCyclotomicTable.j0, Bool.false_eq_true, if_false] <;> rfl) ?_
  refine ev_bind_const (show laws_markSS_B.f [] 1 = some 1 by decide +kernel) (ev_bind_const (show laws_markSS_A.f [] 1 = some [] by decide +kernel) (Ev.bind hl0 ?_))
  simp only [show ¬ (1 : Int) < 0 by decide, if_false, if_true]
  refine Ev.bind hi (Ev.bind eq0 ?_)
  simp only [if_true, bne_self_eq_false]
  refine Ev.step (fun k => by simp only [laws_FnExactCyclotomicTable.j1, Bool.false_eq_true, if_false] <;> rfl) ?_
  refine Ev.bind hl0 ?_
  simp only [show ¬ (1 : Int) < 0 by decide, if_false, if_true]
  exact Ev.now _
theorem FnExactCyclotomicTable : laws_FnExactCyclotomicTable.Pure := by
  intro p e hp he
  apply Ev.rounds
  cases h : okPE p e with
  | true => exact Ev.of (laws_FnExactCyclotomicTable.mono _ _) (tab_good (p, e) (okPE_mem h))
  | false =>
    have hb := wf64 hp
    refine tab_bad p e ?_ ?_
    · unfold spec_CyclotomicTable.f
      refine Ev.bind (l06Code_bad p e [] h) ?_
      simp only [show ¬ (2 : Int) = 0 by decide, if_false]
      exact Ev.now _
    · unfold impl_CyclotomicTable.f
      refine Ev.bind (periodsOf_bad p e hb.1 hb.2 h) ?_
      simp only [Bool.false_eq_true, if_false]
      exact Ev.now _
end Go.Proofs.Ythdpdiahkphklaa.Pure
