/- The program's ShiftPeriods returns what the reference's returns, for all arguments; no condition. -/
import Derived.Test.YtghlmdjedpnglaaPFnExactShiftPeriodsx5
import Derived.OpenShut
namespace Go.Proofs.Ytghlmdjedpnglaa.Pure
open Go.RowKit Go.Proofs.Ytghlmdjedpnglaa.PFnExactShiftPeriods Go.Proofs.YtghlmdjedpnglaaW.PrintWords Go.Proofs.YtghlmdjedpnglaaW.PrintLast Go.Proofs.YtghlmdjedpnglaaW.PrintMore
set_option linter.unusedVariables false
set_option linter.unusedSimpArgs false
theorem w64 {x : Int} (h0 : -9223372036854775808 ≤ x) (h1 : x ≤ 9223372036854775807) : wrap64 x = x := by unfold wrap64; omega
theorem wf64 {x : Int} (h : (Lit.int .i64 x).wf = true) : -9223372036854775808 ≤ x ∧ x ≤ 9223372036854775807 := bounds_i64 h
theorem ev_bind_const {α β : Type} {o : Option α} {a : α} {f : Nat → α → Option β} {r : β} (h : o = some a) (k : Ev (fun n => f n a) r) : Ev (fun n => o.bind (f n)) r := by
  subst h; exact k
theorem toInts_l0 (l : List Int) (hl : l.length ≤ 1048576) : ∀ (d : Nat) (ys : List Int) (i : Nat), d + i = l.length → ys.length = l.length → ys.take i = l.take i → Ev (fun k => laws_toInt64S.l0 k l ys (i : Int)) l := by
  intro d
  induction d with
  | zero =>
    intro ys i hd hy ht
    have : i = l.length := by omega
    subst this
    refine Ev.step (f := fun _ => some l) (fun k => ?_) (Ev.now _)
    simp only [laws_toInt64S.l0]
    rw [if_neg (by omega)]
    rw [List.take_of_length_le (by omega), List.take_of_length_le (by omega)] at ht
    rw [ht]
  | succ d ih =>
    intro ys i hd hy ht
    refine Ev.step (f := fun k => laws_toInt64S.l0 k l (ys.set i (rd l (i : Int))) ((i + 1 : Nat) : Int)) (fun k => ?_) (ih _ _ (by omega) (by simp [hy]) ?_)
    · simp only [laws_toInt64S.l0]
      rw [if_pos (by omega), if_pos (by omega), if_pos (by omega), w64 (by omega) (by omega)]
      rfl
    · have hi : i < l.length := by omega
      rw [List.take_succ_eq_append_getElem (by simpa [hy] using hi), List.take_succ_eq_append_getElem hi, List.take_set_of_le (Nat.le_refl _), ht]
      simp [rd, hi]
theorem toInts (l : List Int) (hl : l.length ≤ 1048576) : Ev (fun k => laws_toInt64S.f k l) l := by
  have h := toInts_l0 l hl l.length (List.replicate l.length 0) 0 (by omega) (by simp) (by simp)
  refine Ev.congr (fun k => ?_) h
  unfold laws_toInt64S.f
  rw [if_pos (by omega), if_pos (by omega)]
  simp
theorem eqInts_l0 (l m : List Int) (hl : l.length ≤ 1048576) (hm : m.length = l.length) : ∀ (d i : Nat), d + i = l.length → Ev (fun k => laws_eqInt64S.l0 k l m (i : Int)) (decide (l.drop i = m.drop i)) := by
  intro d
  induction d with
  | zero =>
    intro i hd
    refine Ev.step (f := fun _ => some (decide (l.drop i = m.drop i))) (fun k => ?_) (Ev.now _)
    simp only [laws_eqInt64S.l0]
    rw [if_neg (by omega), List.drop_of_length_le (by omega), List.drop_of_length_le (by omega)]
    simp
  | succ d ih =>
    intro i hd
    have hi : i < l.length := by omega
    have hi2 : i < m.length := by omega
    have e1 : rd l (i : Int) = l[i] := by simp [rd, hi]
    have e2 : rd m (i : Int) = m[i] := by simp [rd, hi2]
    by_cases he : l[i] = m[i]
    · refine Ev.step (f := fun k => laws_eqInt64S.l0 k l m ((i + 1 : Nat) : Int)) (fun k => ?_) ?_
      · simp only [laws_eqInt64S.l0]
        rw [if_pos (by omega), if_pos (by omega), if_pos (by omega), e1, e2, if_pos he, w64 (by omega) (by omega)]
        rfl
      · have e : decide (l.drop i = m.drop i) = decide (l.drop (i + 1) = m.drop (i + 1)) := by
          rw [List.drop_eq_getElem_cons hi, List.drop_eq_getElem_cons hi2]
          simp only [List.cons.injEq, he, true_and]
        rw [e]
        exact ih (i + 1) (by omega)
    · refine Ev.step (f := fun _ => some false) (fun k => ?_) ?_
      · simp only [laws_eqInt64S.l0]
        rw [if_pos (by omega), if_pos (by omega), if_pos (by omega), e1, e2, if_neg he]
      · have e : decide (l.drop i = m.drop i) = false := by
          rw [List.drop_eq_getElem_cons hi, List.drop_eq_getElem_cons hi2]
          simp only [List.cons.injEq, he, false_and, decide_false]
        rw [e]
        exact Ev.now _
theorem eqInts (l m : List Int) (hl : l.length ≤ 1048576) : Ev (fun k => laws_eqInt64S.f k l m) (decide (l = m)) := by
  by_cases h : m.length = l.length
  · have := eqInts_l0 l m hl h l.length 0 (by omega)
    refine Ev.congr (fun k => ?_) (by simpa using this)
    unfold laws_eqInt64S.f
    rw [if_pos (by omega)]
  · have hne : l ≠ m := fun e => h (by rw [e])
    rw [decide_eq_false hne]
    refine Ev.congr (fun k => ?_) (Ev.now _)
    unfold laws_eqInt64S.f
    rw [if_neg (by omega)]
theorem l01In (a b c : Int) : spec_l01In.f a b c = some (decide (b ≤ a) && decide (a ≤ c)) := by
  unfold spec_l01In.f
  by_cases h : a ≥ b
  · rw [if_pos h]; simp [h]
  · rw [if_neg h]; simp [h]
theorem within_ (a b c : Int) : impl_within.f a b c = some (decide (b ≤ a) && decide (a ≤ c)) := by
  unfold impl_within.f
  by_cases h : b ≤ a
  · rw [if_pos h]; simp [h]
  · rw [if_neg h]; simp [h]
def inP (m : Int) (x : Int) : Bool := decide (-m ≤ x) && decide (x ≤ m)
theorem areSmall (l : List Int) (m : Int) (h0 : 0 ≤ m) (h1 : m ≤ 9223372036854775807) : impl_areSmall.f l m = some (l.all (inP m)) := by
  unfold impl_areSmall.f
  rw [w64 (by omega) (by omega)]
  rfl
def upTo (a : Int) (n : Nat) : List Int := (List.range n).map fun (j : Nat) => a + (j : Int)
theorem mem_upTo {a x : Int} {n : Nat} : x ∈ upTo a n ↔ a ≤ x ∧ x < a + n := by
  simp only [upTo, List.mem_map, List.mem_range]
  constructor
  · rintro ⟨j, hj, rfl⟩; omega
  · intro h; exact ⟨(x - a).toNat, by omega, by omega⟩
theorem upTo_len (a : Int) (n : Nat) : (upTo a n).length = n := by simp [upTo]
theorem upTo_get (a : Int) (n i : Nat) (hi : i < n) : (upTo a n)[i]'(by rw [upTo_len]; exact hi) = a + (i : Int) := by simp [upTo]
theorem upTo_snoc (a : Int) (n : Nat) : upTo a (n + 1) = upTo a n ++ [a + (n : Int)] := by
  unfold upTo
  rw [List.range_succ, List.map_append]
  rfl
theorem markInts_l0 : ∀ (d i : Nat) (ys : List Int), d + i = ys.length → ys.length ≤ 1048576 → ys.take i = upTo 1 i → Ev (fun k => laws_markInt64S.l0 k ys (1 + (i : Int)) (i : Int)) (1 + (ys.length : Int), upTo 1 ys.length) := by
  intro d
  induction d with
  | zero =>
    intro i ys hd hl ht
    obtain rfl : i = ys.length := by omega
    refine Ev.step (fun k => by simp only [laws_markInt64S.l0]; rw [if_neg (by omega)] <;> rfl) ?_
    rw [List.take_length] at ht
    rw [← ht]
    exact Ev.now _
  | succ d ih =>
    intro i ys hd hl ht
    have hi : i < ys.length := by omega
    have := ih (i + 1) (ys.set i (1 + (i : Int))) (by simp; omega) (by simpa using hl) (by
      rw [List.take_succ_eq_append_getElem (by simpa using hi), List.take_set_of_le (Nat.le_refl _), ht, upTo_snoc]
      simp)
    refine Ev.step (fun k => ?_) (by simpa using this)
    simp only [laws_markInt64S.l0]
    rw [if_pos (by omega), if_pos (by omega), w64 (x := 1 + (i : Int) + 1) (by omega) (by omega), w64 (x := (i : Int) + 1) (by omega) (by omega), show 1 + (i : Int) + 1 = 1 + ((i : Int) + 1) by omega]
    rfl
theorem markInts (l : List Int) (hl : l.length ≤ 1048576) : Ev (fun k => laws_markInt64S.f k l 1) (1 + (l.length : Int), upTo 1 l.length) := by
  have := markInts_l0 l.length 0 l (by omega) hl (by simp [upTo])
  unfold laws_markInt64S.f
  simpa using this
theorem heldInts_l0 (n : Nat) (hn : n ≤ 1048576) : ∀ (d i : Nat), d + i = n → Ev (fun k => laws_heldInt64S.l0 k (upTo 1 n) (1 + (i : Int)) (i : Int)) (1 + (n : Int)) := by
  intro d
  induction d with
  | zero =>
    intro i hd
    obtain rfl : i = n := by omega
    exact Ev.step (fun k => by simp only [laws_heldInt64S.l0]; rw [if_neg (by rw [upTo_len]; omega)] <;> rfl) (Ev.now _)
  | succ d ih =>
    intro i hd
    have hi : i < (upTo 1 n).length := by rw [upTo_len]; omega
    have e1 : rd (upTo 1 n) (i : Int) = 1 + (i : Int) := by
      have := upTo_get 1 n i (by omega)
      simp only [rd, Int.toNat_natCast, List.getD_eq_getElem?_getD, List.getElem?_eq_getElem hi, Option.getD_some, this]
    refine Ev.step (fun k => ?_) (ih (i + 1) (by omega))
    simp only [laws_heldInt64S.l0]
    rw [if_pos (by omega), if_pos (by omega), if_pos e1, w64 (x := 1 + (i : Int) + 1) (by omega) (by omega), w64 (x := (i : Int) + 1) (by omega) (by omega), show 1 + (i : Int) + 1 = 1 + ((i : Int) + 1) by omega]
    rfl
theorem heldInts (n : Nat) (hn : n ≤ 1048576) : Ev (fun k => laws_heldInt64S.f k (upTo 1 n) 1) (1 + (n : Int)) := by
  have := heldInts_l0 n hn n 0 (by omega)
  unfold laws_heldInt64S.f
  simpa using this
def prs : List Int := [3, 5, 7, 11, 13, 17, 19, 23, 29, 31, 37, 41, 43, 47, 53, 59, 61]
def pr (l : Int) : Bool := prs.contains l
theorem pr_iff {l : Int} : pr l = true ↔ l ∈ prs := by unfold pr; exact List.contains_iff_mem
theorem pr_bd {l : Int} (h : pr l = true) : 3 ≤ l ∧ l ≤ 61 := by
  rw [pr_iff] at h
  simp only [prs, List.mem_cons, List.not_mem_nil, or_false] at h
  omega
theorem upto61 {P : Int → Prop} (h : ∀ m : Nat, m < 62 → P m) (n : Int) (h0 : 0 ≤ n) (h1 : n ≤ 61) : P n := by
  have := h n.toNat (by omega)
  rwa [Int.toNat_of_nonneg (by omega)] at this
theorem isPrime_big (p : Int) (h0 : 61 < p) (h1 : p ≤ 9223372036854775807) : ∀ (n : Nat) (d : Int), 2 ≤ d → d ≤ p → (p - d).toNat = n → Ev (fun k => impl_isPrime.l0 k p d) false := by
  intro n
  induction n with
  | zero =>
    intro d hd hp hn
    have : d = p := by omega
    subst this
    refine Ev.step (f := fun _ => some false) (fun k => ?_) (Ev.now _)
    simp only [impl_isPrime.l0]
    by_cases c : wrap64 (d * d) ≤ d
    · rw [if_pos c, if_neg (by omega), if_pos (Int.tmod_self)]
    · rw [if_neg c, within_, Option.bind_some]
      simp
      omega
  | succ n ih =>
    intro d hd hp hn
    by_cases c : wrap64 (d * d) ≤ p
    · by_cases c2 : Int.tmod p d = 0
      · refine Ev.step (f := fun _ => some false) (fun k => ?_) (Ev.now _)
        simp only [impl_isPrime.l0]
        rw [if_pos c, if_neg (by omega), if_pos c2]
      · refine Ev.step (fun k => ?_) (ih (d + 1) (by omega) (by omega) (by omega))
        simp only [impl_isPrime.l0]
        rw [if_pos c, if_neg (by omega), if_neg c2, w64 (by omega) (by omega)]
    · refine Ev.step (f := fun _ => some false) (fun k => ?_) (Ev.now _)
      simp only [impl_isPrime.l0]
      rw [if_neg c, within_, Option.bind_some]
      simp
      omega
theorem isPrime (p : Int) (h0 : -9223372036854775808 ≤ p) (h1 : p ≤ 9223372036854775807) : Ev (fun k => impl_isPrime.f k p) (pr p) := by
  by_cases c : 61 < p
  · have e : pr p = false := by
      cases h : pr p with
      | false => rfl
      | true => have := pr_bd h; omega
    rw [e]
    exact isPrime_big p c h1 _ 2 (by omega) (by omega) rfl
  · by_cases c2 : 0 ≤ p
    · have key : ∀ m : Nat, m < 62 → impl_isPrime.f 20 (m : Int) = some (pr m) := by decide +kernel
      exact Ev.of (impl_isPrime.mono p) (upto61 (P := fun p => impl_isPrime.f 20 p = some (pr p)) key p c2 (by omega))
    · have e : pr p = false := by
        cases h : pr p with
        | false => rfl
        | true => have := pr_bd h; omega
      rw [e]
      refine Ev.step (f := fun _ => some false) (fun k => ?_) (Ev.now _)
      simp only [impl_isPrime.f, impl_isPrime.l0]
      rw [if_neg (by rw [w64 (x := 2 * 2) (by omega) (by omega)]; omega), within_, Option.bind_some]
      simp
      omega
def okPE (p e : Int) : Bool := pr p && (decide (1 ≤ e) && decide (e ≤ 12)) && decide ((p - 1) % e = 0)
def pes : List (Int × Int) := prs.flatMap fun p => (upTo 1 12).filterMap fun e => if okPE p e then some (p, e) else none
theorem okPE_mem {p e : Int} (h : okPE p e = true) : (p, e) ∈ pes := by
  have h' := h
  simp only [okPE, Bool.and_eq_true, decide_eq_true_eq] at h'
  refine List.mem_flatMap.mpr ⟨p, pr_iff.mp h'.1.1, List.mem_filterMap.mpr ⟨e, mem_upTo.mpr (by omega), ?_⟩⟩
  rw [if_pos h]
theorem l06Prime (p : Int) : Ev (fun k => spec_l06Prime.f k p) (pr p) := by
  by_cases c : 3 ≤ p ∧ p ≤ 61
  · have key : ∀ m : Nat, m < 62 → spec_l06Prime.f 20 (m : Int) = some (pr m) := by decide +kernel
    exact Ev.of (spec_l06Prime.mono p) (upto61 (P := fun p => spec_l06Prime.f 20 p = some (pr p)) key p (by omega) c.2)
  · have e : pr p = false := by
      cases h : pr p with
      | false => rfl
      | true => have := pr_bd h; omega
    rw [e]
    unfold spec_l06Prime.f
    refine ev_bind_const (l01In _ _ _) ?_
    rw [show (decide (3 ≤ p) && decide (p ≤ 61)) = false by simp; omega]
    exact Ev.now _
theorem l06Code_bad (p e : Int) (ls : List Int) (h : okPE p e = false) : Ev (fun k => spec_l06Code.f k p e ls) 2 := by
  have J : Ev (fun k => spec_l06Code.j0 k e ls true) 2 := Ev.step (fun k => by simp only [spec_l06Code.j0, if_true] <;> rfl) (Ev.now _)
  unfold spec_l06Code.f
  refine Ev.bind (l06Prime p) ?_
  cases hp : pr p with
  | false => simp only [Bool.false_eq_true, if_false]; exact J
  | true =>
    have hb := pr_bd hp
    simp only [if_true]
    refine ev_bind_const (l01In _ _ _) ?_
    cases he : decide (1 ≤ e) && decide (e ≤ 12) with
    | false => simp only [Bool.false_eq_true, if_false]; exact J
    | true =>
      have he' : 1 ≤ e ∧ e ≤ 12 := by simpa using he
      have hm : ¬ (p - 1) % e = 0 := by
        intro hm
        simp [okPE, hp, he, hm] at h
      simp only [if_true, if_neg (show ¬ e = 0 by omega), w64 (x := p - 1) (by omega) (by omega), Int.tmod_eq_emod_of_nonneg (show 0 ≤ p - 1 by omega)]
      rw [bne_iff_ne.mpr hm]
      exact J
theorem periodsOf_bad (p e : Int) (h0 : -9223372036854775808 ≤ p) (h1 : p ≤ 9223372036854775807) (h : okPE p e = false) : Ev (fun k => impl_periodsOf.f k p e) (0, 0, 0, [], false) := by
  have J : Ev (fun k => impl_periodsOf.j0 k p e true) (0, 0, 0, [], false) := Ev.step (fun k => by simp only [impl_periodsOf.j0, if_true] <;> rfl) (Ev.now _)
  unfold impl_periodsOf.f
  refine Ev.bind (isPrime p h0 h1) ?_
  cases hp : pr p with
  | false => simp only [Bool.false_eq_true, if_false]; exact J
  | true =>
    have hb := pr_bd hp
    simp only [if_true]
    refine ev_bind_const (within_ _ _ _) ?_
    cases he : decide (1 ≤ e) && decide (e ≤ 12) with
    | false => simp only [Bool.false_eq_true, if_false]; exact J
    | true =>
      have he' : 1 ≤ e ∧ e ≤ 12 := by simpa using he
      have hm : ¬ (p - 1) % e = 0 := by
        intro hm
        simp [okPE, hp, he, hm] at h
      simp only [if_true, if_neg (show ¬ e = 0 by omega), w64 (x := p - 1) (by omega) (by omega), Int.tmod_eq_emod_of_nonneg (show 0 ≤ p - 1 by omega)]
      rw [bne_iff_ne.mpr hm]
      exact J
def okS (e : Int) (l : List Int) : Bool := decide ((l.length : Int) = e) && l.all (inP 1000)
theorem code_ok : ∀ q ∈ pes, spec_l06Code.f 40 q.1 q.2 [] = some 0 := by decide +kernel
theorem per_ok : ∀ q ∈ pes, (impl_periodsOf.f 4000 q.1 q.2).map (fun r => r.2.2.2.2) = some true := by decide +kernel
theorem l06Code (p e : Int) : Ev (fun k => spec_l06Code.f k p e []) (if okPE p e then 0 else 2) := by
  cases h : okPE p e with
  | true => simp only [if_true]; exact Ev.of (spec_l06Code.mono _ _ _) (code_ok (p, e) (okPE_mem h))
  | false => simp only [Bool.false_eq_true, if_false]; exact l06Code_bad p e [] h
theorem periods_flag (p e : Int) (h0 : -9223372036854775808 ≤ p) (h1 : p ≤ 9223372036854775807) : ∃ r : Int × Int × Int × List Int × Bool, r.2.2.2.2 = okPE p e ∧ Ev (fun k => impl_periodsOf.f k p e) r := by
  cases h : okPE p e with
  | true =>
    have := per_ok (p, e) (okPE_mem h)
    obtain ⟨r, hr, hf⟩ := Option.map_eq_some_iff.mp this
    exact ⟨r, hf, Ev.of (impl_periodsOf.mono _ _) hr⟩
  | false => exact ⟨_, rfl, periodsOf_bad p e h0 h1 h⟩
theorem okPE_bd {p e : Int} (h : okPE p e = true) : 3 ≤ p ∧ p ≤ 61 ∧ 1 ≤ e ∧ e ≤ 12 := by
  simp only [okPE, Bool.and_eq_true, decide_eq_true_eq] at h
  have := pr_bd h.1.1
  omega
theorem l06Sum_l1 (e : Int) (l : List Int) (hl : l.length ≤ 1048576) : ∀ (d i : Nat), d + i = l.length → Ev (fun k => spec_l06Sum.l1 k e [l] 0 (i : Int)) (if (l.drop i).all (inP 1000) then 0 else 2) := by
  have e0 : rd_L1 [l] 0 = l := rfl
  intro d
  induction d with
  | zero =>
    intro i hi
    refine Ev.step (f := fun k => spec_l06Sum.l0 k e [l] 1) (fun k => ?_) ?_
    · simp only [spec_l06Sum.l1, e0]
      rw [if_pos (by decide), if_pos (by simp), if_neg (by omega), w64 (x := 0 + 1) (by decide) (by decide)]
      rfl
    · rw [List.drop_of_length_le (by omega)]
      refine Ev.step (f := fun _ => some 0) (fun k => ?_) (Ev.now _)
      simp only [spec_l06Sum.l0]
      rw [if_neg (by simp)]
  | succ d ih =>
    intro i hi
    have hi2 : i < l.length := by omega
    have e1 : rd l (i : Int) = l[i] := by simp [rd, hi2]
    rw [List.drop_eq_getElem_cons hi2, List.all_cons]
    cases hp : inP 1000 l[i] with
    | true =>
      refine Ev.step (f := fun k => spec_l06Sum.l1 k e [l] 0 ((i + 1 : Nat) : Int)) (fun k => ?_) (by simpa using ih (i + 1) (by omega))
      simp only [spec_l06Sum.l1, e0, e1, l01In, Option.bind_some]
      rw [if_pos (by decide), if_pos (by simp), if_pos (by omega), if_pos (by omega), if_pos (by simpa [inP] using hp), w64 (x := (i : Int) + 1) (by omega) (by omega)]
      rfl
    | false =>
      refine Ev.step (f := fun _ => some 2) (fun k => ?_) (by simpa using Ev.now _)
      simp only [spec_l06Sum.l1, e0, e1, l01In, Option.bind_some]
      rw [if_pos (by decide), if_pos (by simp), if_pos (by omega), if_pos (by omega), if_neg (by simp [inP] at hp ⊢; omega)]
theorem l06Sum (p e : Int) (l : List Int) (hl : l.length ≤ 1048576) : Ev (fun k => spec_l06Sum.f k p e [l]) (if okPE p e && okS e l then 0 else 2) := by
  have e0 : rd_L1 [l] 0 = l := rfl
  unfold spec_l06Sum.f
  refine Ev.bind (l06Code p e) ?_
  cases h : okPE p e with
  | false =>
    simp only [Bool.false_eq_true, if_false, Bool.false_and, show ¬ (2 : Int) = 0 by decide]
    exact Ev.now _
  | true =>
    simp only [if_true, Bool.true_and]
    by_cases hle : (l.length : Int) = e
    · refine Ev.step (f := fun k => spec_l06Sum.l1 k e [l] 0 0) (fun k => ?_) ?_
      · simp only [spec_l06Sum.l0, e0]
        rw [if_pos (by simp), if_pos (by decide), if_pos hle]
      · have := l06Sum_l1 e l hl l.length 0 (by omega)
        simpa [okS, hle] using this
    · refine Ev.step (f := fun _ => some 2) (fun k => ?_) (by simpa [okS, hle] using Ev.now _)
      simp only [spec_l06Sum.l0, e0]
      rw [if_pos (by simp), if_pos (by decide), if_neg hle]
theorem isSum (e : Int) (l : List Int) : Ev (fun k => impl_isPeriodSum.f k e [l]) (okS e l) := by
  have e0 : rd_L1 [l] 0 = l := rfl
  unfold impl_isPeriodSum.f
  by_cases hle : (l.length : Int) = e
  · cases ha : l.all (inP 1000) with
    | true =>
      refine Ev.step (f := fun k => impl_isPeriodSum.l0 k e [l] 1 1) (fun k => ?_) ?_
      · simp only [impl_isPeriodSum.l0, e0, areSmall l 1000 (by decide) (by decide), Option.bind_some, ha]
        rw [if_pos (by simp), if_pos (by decide), if_pos (by simp), if_pos hle, if_pos trivial, w64 (x := 0 + 1) (by decide) (by decide)]
        rfl
      · refine Ev.step (f := fun _ => some true) (fun k => ?_) (by simpa [okS, hle, ha] using Ev.now _)
        simp only [impl_isPeriodSum.l0]
        rw [if_neg (by decide)]
    | false =>
      refine Ev.step (f := fun _ => some false) (fun k => ?_) (by simpa [okS, hle, ha] using Ev.now _)
      simp only [impl_isPeriodSum.l0, e0, areSmall l 1000 (by decide) (by decide), Option.bind_some, ha]
      rw [if_pos (by simp), if_pos (by decide), if_pos (by simp), if_pos hle]
      rfl
  · refine Ev.step (f := fun _ => some false) (fun k => ?_) (by simpa [okS, hle] using Ev.now _)
    simp only [impl_isPeriodSum.l0, e0]
    rw [if_pos (by simp), if_pos (by decide), if_pos (by simp), if_neg hle]
def shf (e q : Int) (a : List Int) : Nat → Nat → List Int → List Int
  | 0, _, out => out
  | d + 1, i, out => shf e q a d (i + 1) (out.set (((i : Int) + q) % e).toNat (a.getD i 0))
theorem shf_len (e q : Int) (a : List Int) : ∀ (d i : Nat) (out : List Int), (shf e q a d i out).length = out.length
  | 0, _, _ => rfl
  | d + 1, i, out => by simp [shf, shf_len e q a d]
theorem idx {e q : Int} {i : Nat} (he : 1 ≤ e ∧ e ≤ 12) (hq : 0 ≤ q ∧ q < e) (hi : (i : Int) < e) : Int.tmod (wrap64 ((i : Int) + q)) e = ((i : Int) + q) % e ∧ 0 ≤ ((i : Int) + q) % e ∧ ((i : Int) + q) % e < e := by
  refine ⟨?_, Int.emod_nonneg _ (by omega), Int.emod_lt_of_pos _ (by omega)⟩
  rw [w64 (by omega) (by omega), Int.tmod_eq_emod_of_nonneg (by omega)]
theorem rdn (a : List Int) (i : Nat) : rd a (i : Int) = a.getD i 0 := by simp [rd]
theorem sp_shf (e q : Int) (a : List Int) (he : 1 ≤ e ∧ e ≤ 12) (hq : 0 ≤ q ∧ q < e) (ha : (a.length : Int) = e) : ∀ (d i : Nat) (out : List Int), (d : Int) + i = e → (out.length : Int) = e → Ev (fun k => spec_ShiftPeriods.l0 k e a q out (i : Int)) (shf e q a d i out, 0) := by
  intro d
  induction d with
  | zero =>
    intro i out hi ho
    refine Ev.step (f := fun _ => some (out, 0)) (fun k => ?_) (Ev.now _)
    simp only [spec_ShiftPeriods.l0]
    rw [if_neg (by omega)]
  | succ d ih =>
    intro i out hi ho
    obtain ⟨e1, e2, e3⟩ := idx he hq (show (i : Int) < e by omega)
    refine Ev.step (f := fun k => spec_ShiftPeriods.l0 k e a q (out.set (((i : Int) + q) % e).toNat (a.getD i 0)) ((i + 1 : Nat) : Int)) (fun k => ?_) (ih (i + 1) _ (by omega) (by simpa using ho))
    simp only [spec_ShiftPeriods.l0, e1, rdn]
    rw [if_pos (by omega), if_neg (by omega), if_pos (by omega), if_pos (by omega), if_pos e2, if_pos (by omega), w64 (x := (i : Int) + 1) (by omega) (by omega)]
    rfl
theorem im_shf (e q : Int) (a : List Int) (he : 1 ≤ e ∧ e ≤ 12) (hq : 0 ≤ q ∧ q < e) (ha : (a.length : Int) = e) : ∀ (d i : Nat) (out : List Int), (d : Int) + i = e → (out.length : Int) = e → Ev (fun k => impl_ShiftPeriods.l0 k e a q out e (i : Int)) (shf e q a d i out, 0) := by
  intro d
  induction d with
  | zero =>
    intro i out hi ho
    refine Ev.step (f := fun _ => some (out, 0)) (fun k => ?_) (Ev.now _)
    simp only [impl_ShiftPeriods.l0]
    rw [if_neg (by omega)]
  | succ d ih =>
    intro i out hi ho
    obtain ⟨e1, e2, e3⟩ := idx he hq (show (i : Int) < e by omega)
    refine Ev.step (f := fun k => impl_ShiftPeriods.l0 k e a q (out.set (((i : Int) + q) % e).toNat (a.getD i 0)) e ((i + 1 : Nat) : Int)) (fun k => ?_) (ih (i + 1) _ (by omega) (by simpa using ho))
    simp only [impl_ShiftPeriods.l0, e1, rdn]
    rw [if_pos (by omega), if_pos (by omega), if_pos (by omega), if_neg (by omega), if_pos e2, if_pos (by omega), w64 (x := (i : Int) + 1) (by omega) (by omega)]
    rfl
def okQ (e q : Int) : Bool := decide (0 ≤ q) && decide (q ≤ e - 1)
def out (p e : Int) (a : List Int) (q : Int) : List Int × Int := if okPE p e && okS e a && okQ e q then (shf e q a e.toNat 0 (List.replicate e.toNat 0), 0) else ([], 2)
theorem spec_out (p e : Int) (a : List Int) (q : Int) (hl : a.length ≤ 1048576) : Ev (fun k => spec_ShiftPeriods.f k p e a q) (out p e a q) := by
  unfold spec_ShiftPeriods.f out
  refine Ev.bind (l06Sum p e a hl) ?_
  cases h : okPE p e && okS e a with
  | false =>
    simp only [Bool.false_eq_true, if_false, Bool.false_and, show ¬ (2 : Int) = 0 by decide]
    refine Ev.step (fun k => by simp only [spec_ShiftPeriods.j0, Bool.false_eq_true, if_false] <;> rfl) ?_
    exact Ev.step (fun k => by simp only [spec_ShiftPeriods.j1, if_neg (show ¬ (2 : Int) = 0 by decide)] <;> rfl) (Ev.now _)
  | true =>
    simp only [Bool.and_eq_true] at h
    obtain ⟨hb1, hb2, he1, he2⟩ := okPE_bd h.1
    have ha : (a.length : Int) = e := by have := h.2; simp only [okS, Bool.and_eq_true, decide_eq_true_eq] at this; exact this.1
    simp only [if_true, Bool.true_and]
    refine ev_bind_const (l01In _ _ _) ?_
    rw [w64 (x := e - 1) (by omega) (by omega)]
    rw [show (decide (0 ≤ q) && decide (q ≤ e - 1)) = okQ e q from rfl]
    cases hq : okQ e q with
    | false =>
      simp only [Bool.not_false, Bool.false_eq_true, if_false]
      refine Ev.step (fun k => by simp only [spec_ShiftPeriods.j0, if_true] <;> rfl) ?_
      exact Ev.step (fun k => by simp only [spec_ShiftPeriods.j1, if_neg (show ¬ (2 : Int) = 0 by decide)] <;> rfl) (Ev.now _)
    | true =>
      have hq2 : 0 ≤ q ∧ q ≤ e - 1 := by simpa [okQ] using hq
      simp only [Bool.not_true, if_true]
      refine Ev.step (fun k => by simp only [spec_ShiftPeriods.j0, Bool.false_eq_true, if_false] <;> rfl) ?_
      refine Ev.step (fun k => by simp only [spec_ShiftPeriods.j1, if_true]; rw [if_pos (by omega), if_pos (by omega)] <;> rfl) ?_
      exact sp_shf e q a ⟨he1, he2⟩ ⟨hq2.1, by omega⟩ ha e.toNat 0 _ (by omega) (by simp; omega)
theorem impl_out (p e : Int) (a : List Int) (q : Int) (h0 : -9223372036854775808 ≤ p) (h1 : p ≤ 9223372036854775807) (g0 : -9223372036854775808 ≤ e) (g1 : e ≤ 9223372036854775807) : Ev (fun k => impl_ShiftPeriods.f k p e a q) (out p e a q) := by
  obtain ⟨r, hr, hev⟩ := periods_flag p e h0 h1
  unfold impl_ShiftPeriods.f out
  refine Ev.bind hev ?_
  rw [hr]
  cases h : okPE p e with
  | false =>
    simp only [Bool.false_eq_true, if_false, Bool.false_and]
    exact Ev.step (fun k => by simp only [impl_ShiftPeriods.j0, if_true] <;> rfl) (Ev.now _)
  | true =>
    obtain ⟨hb1, hb2, he1, he2⟩ := okPE_bd h
    simp only [if_true, Bool.true_and]
    refine Ev.bind (isSum e a) ?_
    cases hs : okS e a with
    | false =>
      simp only [Bool.false_eq_true, if_false, Bool.false_and]
      exact Ev.step (fun k => by simp only [impl_ShiftPeriods.j0, if_true] <;> rfl) (Ev.now _)
    | true =>
      have ha : (a.length : Int) = e := by have := hs; simp only [okS, Bool.and_eq_true, decide_eq_true_eq] at this; exact this.1
      simp only [if_true, Bool.true_and]
      refine ev_bind_const (within_ _ _ _) ?_
      rw [w64 (x := e - 1) (by omega) (by omega)]
      rw [show (decide (0 ≤ q) && decide (q ≤ e - 1)) = okQ e q from rfl]
      cases hq : okQ e q with
      | false =>
        simp only [Bool.not_false, Bool.false_eq_true, if_false]
        exact Ev.step (fun k => by simp only [impl_ShiftPeriods.j0, if_true] <;> rfl) (Ev.now _)
      | true =>
        have hq2 : 0 ≤ q ∧ q ≤ e - 1 := by simpa [okQ] using hq
        simp only [Bool.not_true, if_true]
        refine Ev.step (fun k => by simp only [impl_ShiftPeriods.j0, Bool.false_eq_true, if_false]; rw [if_pos (by omega), if_pos (by omega), ha] <;> rfl) ?_
        exact im_shf e q a ⟨he1, he2⟩ ⟨hq2.1, by omega⟩ ha e.toNat 0 _ (by omega) (by simp; omega)
theorem out_len (p e : Int) (a : List Int) (q : Int) : (out p e a q).1.length ≤ 1000 := by
  unfold out
  split
  · rename_i h
    simp only [Bool.and_eq_true] at h
    have := okPE_bd h.1.1
    rw [shf_len]
    simp
    omega
  · simp
theorem FnExactShiftPeriods : laws_FnExactShiftPeriods.Pure := by
  intro p e a q hp he _ _ _ hq
  apply Ev.rounds
  have hp2 := wf64 hp
  have he2 := wf64 he
  obtain ⟨⟨l, cd⟩, ho⟩ : ∃ o, o = out p e a q := ⟨_, rfl⟩
  have hi := impl_out p e a q hp2.1 hp2.2 he2.1 he2.2
  have hl : (out p e a q).1.length ≤ 1000 := out_len p e a q
  unfold laws_FnExactShiftPeriods.f
  by_cases hb : (a.length : Int) > 1048576
  · simp only [if_pos hb]
    exact Ev.now _
  have htl : a.length ≤ 1048576 := by omega
  have hs := spec_out p e a q htl
  rw [← ho] at hs hi hl
  replace hl : l.length ≤ 1000 := hl
  have ht := toInts a htl
  have hq := eqInts l l (by omega)
  have hh := heldInts l.length (by omega)
  simp only [if_neg hb]
  refine Ev.bind ht (Ev.bind hs (Ev.bind ht (Ev.bind hi (Ev.bind hq ?_))))
  simp only [decide_true, if_true, bne_self_eq_false]
  refine Ev.step (fun k => by simp only [laws_FnExactShiftPeriods.j0, Bool.false_eq_true, if_false] <;> rfl) ?_
  refine Ev.bind ht (Ev.bind (eqInts a a htl) ?_)
  simp only [decide_true, if_true]
  refine Ev.bind (markInts a htl) ?_
  simp only [if_neg (show ¬ (1 + (a.length : Int) < 0) by omega)]
  refine Ev.bind hq ?_
  simp only [decide_true, if_true, bne_self_eq_false]
  refine Ev.step (fun k => by simp only [laws_FnExactShiftPeriods.j1, Bool.false_eq_true, if_false] <;> rfl) ?_
  refine Ev.bind (markInts l (by omega)) (Ev.bind hh ?_)
  simp only [if_neg (show ¬ (1 + (l.length : Int) < 0) by omega), if_true]
  refine Ev.bind ht (Ev.bind hi (Ev.bind hq ?_))
  simp only [decide_true, if_true, bne_self_eq_false]
  refine Ev.step (fun k => by simp only [laws_FnExactShiftPeriods.j2, Bool.false_eq_true, if_false] <;> rfl) ?_
  refine Ev.bind hh ?_
  simp only [if_neg (show ¬ (1 + (l.length : Int) < 0) by omega), if_true]
  exact Ev.now _
end Go.Proofs.Ytghlmdjedpnglaa.Pure
