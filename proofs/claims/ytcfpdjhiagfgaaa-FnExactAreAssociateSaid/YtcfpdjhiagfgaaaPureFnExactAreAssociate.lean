/- The program's AreAssociate returns what the reference's returns, for all arguments; no condition. -/
import Derived.Test.YtcfpdjhiagfgaaaPFnExactAreAssociatex10
import Derived.OpenShut
namespace Go.Proofs.Ytcfpdjhiagfgaaa.Pure
open Go.RowKit Go.Proofs.Ytcfpdjhiagfgaaa.PFnExactAreAssociate Go.Proofs.YtcfpdjhiagfgaaaW.PrintWords Go.Proofs.YtcfpdjhiagfgaaaW.PrintLast Go.Proofs.YtcfpdjhiagfgaaaW.PrintMore
set_option linter.unusedVariables false
set_option linter.unusedSimpArgs false
theorem w64 {x : Int} (h0 : -9223372036854775808 ≤ x) (h1 : x ≤ 9223372036854775807) : wrap64 x = x := by unfold wrap64; omega
theorem ev_bind_const {α β : Type} {o : Option α} {a : α} {f : Nat → α → Option β} {r : β} (h : o = some a) (k : Ev (fun n => f n a) r) : Ev (fun n => o.bind (f n)) r := by
  subst h; exact k
theorem toInts_l0 (l : List Int) (hl : l.length ≤ 1048576) : ∀ (d : Nat) (ys : List Int) (i : Nat), d + i = l.length → ys.length = l.length → ys.take i = l.take i → Ev (fun k => laws_toInt64S.l0 k l ys (i : Int)) l := by
  intro d
  induction d with
  | zero =>
    intro ys i hd hy ht
    have : i = l.length := by omega
    subst this
    refine Ev.step (f := fun _ => some l) (fun k => ?_) (Ev.now _)
    simp only [laws_toInt64S.l0]
    rw [if_neg (by omega)]
    rw [List.take_of_length_le (by omega), List.take_of_length_le (by omega)] at ht
    rw [ht]
  | succ d ih =>
    intro ys i hd hy ht
    refine Ev.step (f := fun k => laws_toInt64S.l0 k l (ys.set i (rd l (i : Int))) ((i + 1 : Nat) : Int)) (fun k => ?_) (ih _ _ (by omega) (by simp [hy]) ?_)
    · simp only [laws_toInt64S.l0]
      rw [if_pos (by omega), if_pos (by omega), if_pos (by omega), w64 (by omega) (by omega)]
      rfl
    · have hi : i < l.length := by omega
      rw [List.take_succ_eq_append_getElem (by simpa [hy] using hi), List.take_succ_eq_append_getElem hi, List.take_set_of_le (Nat.le_refl _), ht]
      simp [rd, hi]
theorem toInts (l : List Int) (hl : l.length ≤ 1048576) : Ev (fun k => laws_toInt64S.f k l) l := by
  have h := toInts_l0 l hl l.length (List.replicate l.length 0) 0 (by omega) (by simp) (by simp)
  refine Ev.congr (fun k => ?_) h
  unfold laws_toInt64S.f
  rw [if_pos (by omega), if_pos (by omega)]
  simp
theorem toCyclo (n : Int) (l : List Int) (hl : l.length ≤ 1048576) : Ev (fun k => laws_toCyclo.f k n l) (n, l) :=
  Ev.bind (toInts l hl) (Ev.now _)
theorem eqInts_l0 (l m : List Int) (hl : l.length ≤ 1048576) (hm : m.length = l.length) : ∀ (d i : Nat), d + i = l.length → Ev (fun k => laws_eqInt64S.l0 k l m (i : Int)) (decide (l.drop i = m.drop i)) := by
  intro d
  induction d with
  | zero =>
    intro i hd
    refine Ev.step (f := fun _ => some (decide (l.drop i = m.drop i))) (fun k => ?_) (Ev.now _)
    simp only [laws_eqInt64S.l0]
    rw [if_neg (by omega), List.drop_of_length_le (by omega), List.drop_of_length_le (by omega)]
    simp
  | succ d ih =>
    intro i hd
    have hi : i < l.length := by omega
    have hi2 : i < m.length := by omega
    have e1 : rd l (i : Int) = l[i] := by simp [rd, hi]
    have e2 : rd m (i : Int) = m[i] := by simp [rd, hi2]
    by_cases he : l[i] = m[i]
    · refine Ev.step (f := fun k => laws_eqInt64S.l0 k l m ((i + 1 : Nat) : Int)) (fun k => ?_) ?_
      · simp only [laws_eqInt64S.l0]
        rw [if_pos (by omega), if_pos (by omega), if_pos (by omega), e1, e2, if_pos he, w64 (by omega) (by omega)]
        rfl
      · have e : decide (l.drop i = m.drop i) = decide (l.drop (i + 1) = m.drop (i + 1)) := by
          rw [List.drop_eq_getElem_cons hi, List.drop_eq_getElem_cons hi2]
          simp only [List.cons.injEq, he, true_and]
        rw [e]
        exact ih (i + 1) (by omega)
    · refine Ev.step (f := fun _ => some false) (fun k => ?_) ?_
      · simp only [laws_eqInt64S.l0]
        rw [if_pos (by omega), if_pos (by omega), if_pos (by omega), e1, e2, if_neg he]
      · have e : decide (l.drop i = m.drop i) = false := by
          rw [List.drop_eq_getElem_cons hi, List.drop_eq_getElem_cons hi2]
          simp only [List.cons.injEq, he, false_and, decide_false]
        rw [e]
        exact Ev.now _
theorem eqInts (l m : List Int) (hl : l.length ≤ 1048576) : Ev (fun k => laws_eqInt64S.f k l m) (decide (l = m)) := by
  by_cases h : m.length = l.length
  · have := eqInts_l0 l m hl h l.length 0 (by omega)
    refine Ev.congr (fun k => ?_) (by simpa using this)
    unfold laws_eqInt64S.f
    rw [if_pos (by omega)]
  · have hne : l ≠ m := fun e => h (by rw [e])
    rw [decide_eq_false hne]
    refine Ev.congr (fun k => ?_) (Ev.now _)
    unfold laws_eqInt64S.f
    rw [if_neg (by omega)]
theorem eqCyclo (n n' : Int) (l l' : List Int) (hl : l.length ≤ 1048576) : Ev (fun k => laws_eqCyclo.f k n l n' l') (decide (n = n' ∧ l = l')) := by
  unfold laws_eqCyclo.f
  by_cases h : n = n'
  · simp only [if_pos h]
    refine Ev.bind (eqInts l l' hl) ?_
    by_cases h2 : l = l' <;> simp [h, h2] <;> exact Ev.now _
  · simp only [if_neg h]
    simp [h]
    exact Ev.now _
def phi (n : Int) : Int := [0, 1, 1, 2, 2, 4, 2, 6, 4, 6, 4, 10, 4, 12, 6, 8, 8].getD n.toNat 0
theorem orders {P : Int → Prop} (h : ∀ m : Nat, m < 17 → 1 ≤ m → P m) (n : Int) (h0 : 1 ≤ n) (h1 : n ≤ 16) : P n := by
  have := h n.toNat (by omega) (by omega)
  rwa [Int.toNat_of_nonneg (by omega)] at this
theorem phi_spec (n : Int) (h0 : 1 ≤ n) (h1 : n ≤ 16) : Ev (fun k => spec_l01Phi.f k n) (phi n) := by
  have key : ∀ m : Nat, m < 17 → 1 ≤ m → spec_l01Phi.f 60 (m : Int) = some (phi m) := by decide +kernel
  exact Ev.of (spec_l01Phi.mono n) (orders (P := fun n => spec_l01Phi.f 60 n = some (phi n)) key n h0 h1)
theorem phi_impl (n : Int) (h0 : 1 ≤ n) (h1 : n ≤ 16) : Ev (fun k => impl_totient.f k n) (phi n) := by
  have key : ∀ m : Nat, m < 17 → 1 ≤ m → impl_totient.f 60 (m : Int) = some (phi m) := by decide +kernel
  exact Ev.of (impl_totient.mono n) (orders (P := fun n => impl_totient.f 60 n = some (phi n)) key n h0 h1)
theorem l01In (a b c : Int) : spec_l01In.f a b c = some (decide (b ≤ a) && decide (a ≤ c)) := by
  unfold spec_l01In.f
  by_cases h : a ≥ b
  · rw [if_pos h]; simp [h]
  · rw [if_neg h]; simp [h]
theorem within_ (a b c : Int) : impl_within.f a b c = some (decide (b ≤ a) && decide (a ≤ c)) := by
  unfold impl_within.f
  by_cases h : b ≤ a
  · rw [if_pos h]; simp [h]
  · rw [if_neg h]; simp [h]
def inP (m : Int) (x : Int) : Bool := decide (-m ≤ x) && decide (x ≤ m)
theorem fits_l0 (n : Int) (l : List Int) (hl : l.length ≤ 1048576) : ∀ (d i : Nat), d + i = l.length → Ev (fun k => spec_l01Fits.l0 k (i : Int) n l) ((l.drop i).all (inP 1000000000)) := by
  intro d
  induction d with
  | zero =>
    intro i hd
    refine Ev.step (f := fun _ => some ((l.drop i).all (inP 1000000000))) (fun k => ?_) (Ev.now _)
    simp only [spec_l01Fits.l0]
    rw [if_neg (by omega), List.drop_of_length_le (by omega)]
    rfl
  | succ d ih =>
    intro i hd
    have hi : i < l.length := by omega
    have e1 : rd l (i : Int) = l[i] := by simp [rd, hi]
    rw [List.drop_eq_getElem_cons hi, List.all_cons]
    cases hp : inP 1000000000 l[i] with
    | true =>
      refine Ev.step (f := fun k => spec_l01Fits.l0 k ((i + 1 : Nat) : Int) n l) (fun k => ?_) (by simpa using ih (i + 1) (by omega))
      simp only [spec_l01Fits.l0]
      rw [if_pos (by omega), if_pos (by omega), e1, l01In, Option.bind_some, if_pos (by simpa [inP] using hp), w64 (by omega) (by omega)]
      rfl
    | false =>
      refine Ev.step (f := fun _ => some false) (fun k => ?_) (by simpa using Ev.now _)
      simp only [spec_l01Fits.l0]
      rw [if_pos (by omega), if_pos (by omega), e1, l01In, Option.bind_some, if_neg (by simp [inP] at hp ⊢; omega)]
theorem fits (n : Int) (l : List Int) (hl : l.length ≤ 1048576) : Ev (fun k => spec_l01Fits.f k n l) (l.all (inP 1000000000)) := by
  have := fits_l0 n l hl l.length 0 (by omega)
  unfold spec_l01Fits.f
  simpa using this
theorem areSmall (l : List Int) (m : Int) (h0 : 0 ≤ m) (h1 : m ≤ 9223372036854775807) : impl_areSmall.f l m = some (l.all (inP m)) := by
  unfold impl_areSmall.f
  rw [w64 (by omega) (by omega)]
  rfl
def isC (n : Int) (l : List Int) : Bool := decide (1 ≤ n) && decide (n ≤ 16) && decide ((l.length : Int) = phi n) && l.all (inP 1000000000)
theorem l01Is (n : Int) (l : List Int) (hl : l.length ≤ 1048576) : Ev (fun k => spec_l01Is.f k n l) (isC n l) := by
  unfold spec_l01Is.f
  refine ev_bind_const (l01In _ _ _) ?_
  by_cases h : 1 ≤ n ∧ n ≤ 16
  · rw [show (decide (1 ≤ n) && decide (n ≤ 16)) = true by simp [h]]
    simp only [if_true]
    refine Ev.bind (phi_spec n h.1 h.2) ?_
    by_cases h2 : (l.length : Int) = phi n
    · simp only [if_pos h2]
      refine Ev.bind (fits n l hl) ?_
      have : isC n l = l.all (inP 1000000000) := by simp [isC, h, h2]
      rw [this]
      exact Ev.now _
    · simp only [if_neg h2]
      have : isC n l = false := by simp [isC, h, h2]
      rw [this]
      exact Ev.now _
  · have e : (decide (1 ≤ n) && decide (n ≤ 16)) = false := by simp; omega
    rw [e]
    have : isC n l = false := by simp [isC, e]
    rw [this]
    exact Ev.now _
theorem isCyclo (n : Int) (l : List Int) : Ev (fun k => impl_IsCyclo.f k n l) (isC n l) := by
  unfold impl_IsCyclo.f impl_isOrder.f
  refine ev_bind_const (a := decide (1 ≤ n) && decide (n ≤ 16)) (by rw [within_]; rfl) ?_
  by_cases h : 1 ≤ n ∧ n ≤ 16
  · rw [show (decide (1 ≤ n) && decide (n ≤ 16)) = true by simp [h]]
    simp only [if_true]
    refine Ev.bind (phi_impl n h.1 h.2) ?_
    by_cases h2 : (l.length : Int) = phi n
    · simp only [if_pos h2]
      have : isC n l = l.all (inP 1000000000) := by simp [isC, h, h2]
      rw [this, areSmall _ _ (by omega) (by omega)]
      exact Ev.now _
    · simp only [if_neg h2]
      have : isC n l = false := by simp [isC, h, h2]
      rw [this]
      exact Ev.now _
  · have e : (decide (1 ≤ n) && decide (n ≤ 16)) = false := by simp; omega
    rw [e]
    have : isC n l = false := by simp [isC, e]
    rw [this]
    exact Ev.now _
def is9 (n : Int) (l : List Int) : Bool := decide (n = 3) && isC n l && l.all (inP 10000)
theorem inP_iff {m x : Int} : inP m x = true ↔ -m ≤ x ∧ x ≤ m := by simp [inP]
theorem isC3 {l : List Int} (h : isC 3 l = true) : ∃ a b, l = [a, b] := by
  simp only [isC, Bool.and_eq_true, decide_eq_true_eq] at h
  have h2 : l.length = 2 := by
    have h3 : ((l.length : Nat) : Int) = phi 3 := h.1.2
    have h4 : phi 3 = 2 := by decide
    omega
  match l, h2 with
  | [a, b], _ => exact ⟨a, b, rfl⟩
theorem is9_form {n : Int} {l : List Int} (h : is9 n l = true) : n = 3 ∧ ∃ a b, l = [a, b] ∧ -10000 ≤ a ∧ a ≤ 10000 ∧ -10000 ≤ b ∧ b ≤ 10000 := by
  simp only [is9, Bool.and_eq_true, decide_eq_true_eq] at h
  obtain ⟨⟨rfl, h2⟩, h3⟩ := h
  obtain ⟨a, b, rfl⟩ := isC3 h2
  simp only [List.all_cons, List.all_nil, Bool.and_true, Bool.and_eq_true, inP_iff] at h3
  exact ⟨rfl, a, b, rfl, h3.1.1, h3.1.2, h3.2.1, h3.2.2⟩
theorem l09Fits (n a b : Int) : spec_l09Fits.f n [a, b] = some (inP 10000 a && inP 10000 b) := by
  unfold spec_l09Fits.f
  rw [if_pos (by simp), l01In, Option.bind_some]
  by_cases h : inP 10000 a = true
  · rw [if_pos (by simpa [inP, rd] using h), if_pos (by simp), l01In, h, Bool.true_and]
    rfl
  · have h' : inP 10000 a = false := by simpa using h
    rw [if_neg (by simpa [inP, rd] using h), h']
    rfl
theorem l09Is (n : Int) (l : List Int) (hl : l.length ≤ 1048576) : Ev (fun k => spec_l09Is.f k n l) (is9 n l) := by
  unfold spec_l09Is.f
  by_cases h : n = 3
  · subst h
    simp only [if_true]
    refine Ev.bind (l01Is 3 l hl) ?_
    cases hc : isC 3 l with
    | true =>
      obtain ⟨a, b, rfl⟩ := isC3 hc
      simp only [if_true, l09Fits, Option.bind_some]
      simp only [is9, hc, decide_true, Bool.and_true, Bool.true_and, List.all_cons, List.all_nil]
      exact Ev.now _
    | false =>
      simp only [is9, hc]
      exact Ev.now _
  · simp only [if_neg h, is9, decide_eq_false h]
    exact Ev.now _
theorem isCubic (n : Int) (l : List Int) : Ev (fun k => impl_IsCubicNumber.f k n l) (is9 n l) := by
  unfold impl_IsCubicNumber.f
  refine Ev.bind (isCyclo n l) ?_
  by_cases h : n = 3
  · subst h
    cases hc : isC 3 l with
    | true =>
      simp only [if_true, areSmall l 10000 (by omega) (by omega), Option.bind_some, is9, hc, decide_true, Bool.true_and]
      exact Ev.now _
    | false =>
      simp only [is9, hc]
      exact Ev.now _
  · have e : is9 n l = false := by simp [is9, h]
    rw [e]
    cases hc : isC n l with
    | true => simp only [if_true, if_neg h]; exact Ev.now _
    | false => exact Ev.now _
def is9s (x : S28) : Bool := is9 x.f0 x.f1
theorem l09Code_l0 (xs : List S28) (hx : ∀ x ∈ xs, x.f1.length ≤ 1048576) (hl : xs.length ≤ 1000) : ∀ (d i : Nat), d + i = xs.length → Ev (fun k => spec_l09Code.l0 k xs (i : Int)) (if (xs.drop i).all is9s then 0 else 1) := by
  intro d
  induction d with
  | zero =>
    intro i hd
    refine Ev.step (f := fun _ => some (if (xs.drop i).all is9s then 0 else 1)) (fun k => ?_) (Ev.now _)
    simp only [spec_l09Code.l0]
    rw [if_neg (by omega), List.drop_of_length_le (by omega)]
    rfl
  | succ d ih =>
    intro i hd
    have hi : i < xs.length := by omega
    have e1 : rd_T28 xs (i : Int) = xs[i] := by simp [rd_T28, hi]
    refine Ev.step (fun k => by simp only [spec_l09Code.l0]; rw [if_pos (by omega), if_pos (by omega), e1, w64 (by omega) (by omega)]) ?_
    refine Ev.bind (l09Is _ _ (hx _ (List.getElem_mem hi))) ?_
    rw [List.drop_eq_getElem_cons hi, List.all_cons]
    cases hp : is9s xs[i] with
    | true =>
      rw [show is9 xs[i].f0 xs[i].f1 = true from hp]
      simpa using ih (i + 1) (by omega)
    | false =>
      rw [show is9 xs[i].f0 xs[i].f1 = false from hp]
      exact Ev.now _
theorem l09Code (xs : List S28) (hx : ∀ x ∈ xs, x.f1.length ≤ 1048576) (hl : xs.length ≤ 1000) : Ev (fun k => spec_l09Code.f k xs) (if xs.all is9s then 0 else 1) := by
  have := l09Code_l0 xs hx hl xs.length 0 (by omega)
  unfold spec_l09Code.f
  simpa using this
def pr9 (x : S28) : S45 := ⟨rd x.f1 0, rd x.f1 1⟩
theorem cubicsOf_l0 (xs : List S28) (hl : xs.length ≤ 1000) : ∀ (d i : Nat) (acc : List S45), d + i = xs.length → acc.length ≤ i → Ev (fun k => impl_cubicsOf.l0 k acc xs (xs.length : Int) (i : Int)) (if (xs.drop i).all is9s then (acc ++ (xs.drop i).map pr9, true) else ([], false)) := by
  intro d
  induction d with
  | zero =>
    intro i acc hd ha
    refine Ev.step (fun k => by simp only [impl_cubicsOf.l0]; rw [if_neg (by omega)]) ?_
    rw [List.drop_of_length_le (by omega)]
    simpa using Ev.now _
  | succ d ih =>
    intro i acc hd ha
    have hi : i < xs.length := by omega
    have e1 : rd_T28 xs (i : Int) = xs[i] := by simp [rd_T28, hi]
    refine Ev.step (fun k => by simp only [impl_cubicsOf.l0]; rw [if_pos (by omega), if_pos (by omega), if_pos (by omega), e1, w64 (by omega) (by omega)]) ?_
    refine Ev.bind (isCubic _ _) ?_
    rw [List.drop_eq_getElem_cons hi, List.all_cons, List.map_cons]
    cases hp : is9s xs[i] with
    | true =>
      rw [show is9 xs[i].f0 xs[i].f1 = true from hp]
      obtain ⟨_, a, b, hab, _⟩ := is9_form hp
      have c0 : (0 : Int) < (([a, b] : List Int).length : Int) := by simp
      have c1 : (1 : Int) < (([a, b] : List Int).length : Int) := by simp
      have c2 : acc.length < 8796093022208 := by omega
      have := ih (i + 1) (acc ++ [pr9 xs[i]]) (by omega) (by simp; omega)
      simp only [List.append_assoc, List.singleton_append] at this
      have e2 : pr9 xs[i] = (⟨rd [a, b] 0, rd [a, b] 1⟩ : S45) := by simp [pr9, hab]
      rw [e2] at this ⊢
      simp only [if_true, hab, if_pos c0, if_pos c1, if_pos c2, Bool.true_and]
      exact this
    | false =>
      rw [show is9 xs[i].f0 xs[i].f1 = false from hp]
      exact Ev.now _
theorem cubicsOf (xs : List S28) (hl : xs.length ≤ 1000) : Ev (fun k => impl_cubicsOf.f k xs) (if xs.all is9s then (xs.map pr9, true) else ([], false)) := by
  have := cubicsOf_l0 xs hl xs.length 0 [] (by omega) (by simp)
  unfold impl_cubicsOf.f
  simpa using this
theorem mul_bd {a b A B : Int} (ha : -A ≤ a ∧ a ≤ A) (hb : -B ≤ b ∧ b ≤ B) : -(A * B) ≤ a * b ∧ a * b ≤ A * B := by
  have h : (a * b).natAbs ≤ A.toNat * B.toNat := by rw [Int.natAbs_mul]; exact Nat.mul_le_mul (by omega) (by omega)
  have h2 : ((A.toNat * B.toNat : Nat) : Int) = A * B := by rw [Int.natCast_mul, Int.toNat_of_nonneg (by omega), Int.toNat_of_nonneg (by omega)]
  omega
theorem l09Norm (n a b : Int) (ha : -100000 ≤ a ∧ a ≤ 100000) (hb : -100000 ≤ b ∧ b ≤ 100000) : spec_l09Norm.f n [a, b] = some (a * a - a * b + b * b) := by
  have h1 := mul_bd ha ha
  have h2 := mul_bd ha hb
  have h3 := mul_bd hb hb
  unfold spec_l09Norm.f
  rw [if_pos (by simp), if_pos (by simp)]
  simp only [rd, Int.toNat_zero, Int.toNat_one, List.getD_cons_zero, List.getD_cons_succ]
  rw [w64 (x := a * a) (by omega) (by omega), w64 (x := a * b) (by omega) (by omega), w64 (x := b * b) (by omega) (by omega), w64 (x := a * a - a * b) (by omega) (by omega), w64 (by omega) (by omega)]
def isCh (a b : Int) : Prop := 1 ≤ a ∧ 0 ≤ b ∧ b < a
instance (a b : Int) : Decidable (isCh a b) := by unfold isCh; infer_instance
def ch (a b : Int) : Int × Int :=
  if isCh a b then (a, b) else if isCh (a - b) a then (a - b, a) else if isCh (-b) (a - b) then (-b, a - b) else if isCh (-a) (-b) then (-a, -b) else if isCh (b - a) (-a) then (b - a, -a) else (b, b - a)
theorem ch_stop (n a b : Int) (h : isCh a b) : Ev (fun k => spec_l09Chosen.l0 k n [a, b]) (3, [a, b]) := by
  obtain ⟨h1, h2, h3⟩ := h
  refine Ev.step (f := fun k => spec_l09Chosen.j1 k false n [a, b]) (fun k => ?_) ?_
  · simp only [spec_l09Chosen.l0]
    rw [if_pos (by simp)]
    simp only [rd, Int.toNat_zero, Int.toNat_one, List.getD_cons_zero, List.getD_cons_succ]
    rw [if_neg (by omega), if_pos (by simp), if_neg (by omega), decide_eq_false (by omega)]
  · refine Ev.step (f := fun _ => some (3, [a, b])) (fun k => ?_) (Ev.now _)
    simp only [spec_l09Chosen.j1]
    rw [if_neg (by simp), if_pos (by simp), if_pos (by simp)]
    simp [spec_l09Of.f, rd]
theorem ch_step (n a b : Int) (ha : -100000 ≤ a ∧ a ≤ 100000) (hb : -100000 ≤ b ∧ b ≤ 100000) (h : ¬ isCh a b) (r : Int × List Int) (H : Ev (fun k => spec_l09Chosen.l0 k 3 [a - b, a]) r) : Ev (fun k => spec_l09Chosen.l0 k n [a, b]) r := by
  refine Ev.step (f := fun k => spec_l09Chosen.j1 k true n [a, b]) (fun k => ?_) ?_
  · simp only [spec_l09Chosen.l0]
    rw [if_pos (by simp)]
    simp only [rd, Int.toNat_zero, Int.toNat_one, List.getD_cons_zero, List.getD_cons_succ]
    by_cases h1 : a < 1
    · rw [if_pos h1]
    · rw [if_neg h1, if_pos (by simp)]
      by_cases h2 : b < 0
      · rw [if_pos h2]
      · rw [if_neg h2, decide_eq_true (by unfold isCh at h; omega)]
  · refine Ev.step (f := fun k => spec_l09Chosen.l0 k 3 [a - b, a]) (fun k => ?_) H
    simp only [spec_l09Chosen.j1, if_true]
    simp only [spec_l09Of.f, Option.bind_some, spec_l09Times.f]
    rw [if_pos (by simp), if_pos (by simp), if_pos (by simp), if_pos (by simp)]
    simp only [rd, Int.toNat_zero, Int.toNat_one, List.getD_cons_zero, List.getD_cons_succ, Option.bind_some, Int.mul_one]
    rw [w64 (x := a) (by omega) (by omega), w64 (x := b) (by omega) (by omega), w64 (x := a - b) (by omega) (by omega), w64 (x := a + b) (by omega) (by omega), w64 (x := a + b - b) (by omega) (by omega), show a + b - b = a by omega]
theorem chosen (n a b : Int) (ha : -20000 ≤ a ∧ a ≤ 20000) (hb : -20000 ≤ b ∧ b ≤ 20000) (h : ¬ (a = 0 ∧ b = 0)) : Ev (fun k => spec_l09Chosen.f k n [a, b]) (3, [(ch a b).1, (ch a b).2]) := by
  unfold spec_l09Chosen.f
  by_cases c1 : isCh a b
  · simp only [ch, if_pos c1]; exact ch_stop _ _ _ c1
  refine ch_step _ _ _ (by omega) (by omega) c1 _ ?_
  by_cases c2 : isCh (a - b) a
  · simp only [ch, if_neg c1, if_pos c2]; exact ch_stop _ _ _ c2
  refine ch_step _ _ _ (by omega) (by omega) c2 _ ?_
  rw [show a - b - a = -b by omega]
  by_cases c3 : isCh (-b) (a - b)
  · simp only [ch, if_neg c1, if_neg c2, if_pos c3]; exact ch_stop _ _ _ c3
  refine ch_step _ _ _ (by omega) (by omega) c3 _ ?_
  rw [show -b - (a - b) = -a by omega]
  by_cases c4 : isCh (-a) (-b)
  · simp only [ch, if_neg c1, if_neg c2, if_neg c3, if_pos c4]; exact ch_stop _ _ _ c4
  refine ch_step _ _ _ (by omega) (by omega) c4 _ ?_
  rw [show -a - -b = b - a by omega]
  by_cases c5 : isCh (b - a) (-a)
  · simp only [ch, if_neg c1, if_neg c2, if_neg c3, if_neg c4, if_pos c5]; exact ch_stop _ _ _ c5
  refine ch_step _ _ _ (by omega) (by omega) c5 _ ?_
  rw [show b - a - -a = b by omega]
  simp only [ch, if_neg c1, if_neg c2, if_neg c3, if_neg c4, if_neg c5]
  exact ch_stop _ _ _ (by unfold isCh at *; omega)
theorem ch_cases (a b : Int) (h : ¬ (a = 0 ∧ b = 0)) : (isCh a b ∧ ch a b = (a, b)) ∨ (isCh (a - b) a ∧ ch a b = (a - b, a)) ∨ (isCh (-b) (a - b) ∧ ch a b = (-b, a - b)) ∨ (isCh (-a) (-b) ∧ ch a b = (-a, -b)) ∨ (isCh (b - a) (-a) ∧ ch a b = (b - a, -a)) ∨ (isCh b (b - a) ∧ ch a b = (b, b - a)) := by
  unfold ch
  by_cases c1 : isCh a b
  · exact .inl ⟨c1, if_pos c1⟩
  rw [if_neg c1]
  by_cases c2 : isCh (a - b) a
  · exact .inr (.inl ⟨c2, if_pos c2⟩)
  rw [if_neg c2]
  by_cases c3 : isCh (-b) (a - b)
  · exact .inr (.inr (.inl ⟨c3, if_pos c3⟩))
  rw [if_neg c3]
  by_cases c4 : isCh (-a) (-b)
  · exact .inr (.inr (.inr (.inl ⟨c4, if_pos c4⟩)))
  rw [if_neg c4]
  by_cases c5 : isCh (b - a) (-a)
  · exact .inr (.inr (.inr (.inr (.inl ⟨c5, if_pos c5⟩))))
  rw [if_neg c5]
  exact .inr (.inr (.inr (.inr (.inr ⟨by unfold isCh at *; omega, rfl⟩))))
theorem ch_same (a b c d : Int) (h : ¬ (a = 0 ∧ b = 0)) (h' : ¬ (c = 0 ∧ d = 0)) :
    ch a b = ch c d ↔ (c = a ∧ d = b) ∨ (c = -a ∧ d = -b) ∨ (c = -b ∧ d = a - b) ∨ (c = b ∧ d = b - a) ∨ (c = b - a ∧ d = -a) ∨ (c = a - b ∧ d = a) := by
  rcases ch_cases a b h with ⟨h1, e1⟩ | ⟨h1, e1⟩ | ⟨h1, e1⟩ | ⟨h1, e1⟩ | ⟨h1, e1⟩ | ⟨h1, e1⟩ <;> rcases ch_cases c d h' with ⟨h2, e2⟩ | ⟨h2, e2⟩ | ⟨h2, e2⟩ | ⟨h2, e2⟩ | ⟨h2, e2⟩ | ⟨h2, e2⟩ <;> rw [e1, e2, Prod.mk.injEq] <;> unfold isCh at h1 h2 <;> clear e1 e2 <;> omega
def tm (a b : Int) (u : S45) : S45 := ⟨wrap64 ((wrap64 (a * u.f0)) - (wrap64 (b * u.f1))), wrap64 ((wrap64 ((wrap64 (a * u.f1)) + (wrap64 (b * u.f0)))) - (wrap64 (b * u.f1)))⟩
theorem assoc_l0 (a b : Int) (us : List S45) (hl : us.length ≤ 1000) : ∀ (d i : Nat) (acc : List S45), d + i = us.length → acc.length ≤ i → Ev (fun k => impl_cubic_associates.l0 k acc us (us.length : Int) (i : Int) a b) (acc ++ (us.drop i).map (tm a b)) := by
  intro d
  induction d with
  | zero =>
    intro i acc hd ha
    refine Ev.step (fun k => by simp only [impl_cubic_associates.l0]; rw [if_neg (by omega)]) ?_
    rw [List.drop_of_length_le (by omega)]
    simpa using Ev.now _
  | succ d ih =>
    intro i acc hd ha
    have hi : i < us.length := by omega
    have e1 : rd_T45 us (i : Int) = us[i] := by simp [rd_T45, hi]
    have := ih (i + 1) (acc ++ [tm a b us[i]]) (by omega) (by simp; omega)
    rw [List.append_assoc, List.singleton_append] at this
    rw [List.drop_eq_getElem_cons hi, List.map_cons]
    refine Ev.step (fun k => ?_) this
    simp only [impl_cubic_associates.l0]
    rw [if_pos (by omega), if_pos (by omega), if_pos (by omega), e1, w64 (by omega) (by omega)]
    simp only [impl_cubic_times.f, Option.bind_some]
    rw [if_pos (by omega)]
    rfl
theorem assoc (a b : Int) (ha : -100000 ≤ a ∧ a ≤ 100000) (hb : -100000 ≤ b ∧ b ≤ 100000) :
    Ev (fun k => impl_cubic_associates.f k a b) [(⟨a, b⟩ : S45), ⟨-a, -b⟩, ⟨-b, a - b⟩, ⟨b, b - a⟩, ⟨b - a, -a⟩, ⟨a - b, a⟩] := by
  have := assoc_l0 a b [(⟨1, 0⟩ : S45), (⟨(-1), 0⟩ : S45), (⟨0, 1⟩ : S45), (⟨0, (-1)⟩ : S45), (⟨(-1), (-1)⟩ : S45), (⟨1, 1⟩ : S45)] (by simp) 6 0 [] (by simp) (by simp)
  unfold impl_cubic_associates.f
  refine Ev.congr (fun k => by rw [Option.bind_some]) ?_
  have e : [(⟨a, b⟩ : S45), ⟨-a, -b⟩, ⟨-b, a - b⟩, ⟨b, b - a⟩, ⟨b - a, -a⟩, ⟨a - b, a⟩] = [] ++ (List.drop 0 [(⟨1, 0⟩ : S45), (⟨(-1), 0⟩ : S45), (⟨0, 1⟩ : S45), (⟨0, (-1)⟩ : S45), (⟨(-1), (-1)⟩ : S45), (⟨1, 1⟩ : S45)]).map (tm a b) := by
    simp only [List.nil_append, List.drop_zero, List.map_cons, List.map_nil, tm, List.cons.injEq, S45.mk.injEq, and_true]
    unfold wrap64
    omega
  rw [e]
  exact this
def hit (c d : Int) (u : S45) : Bool := c == u.f0 && (d == u.f1)
theorem index_l0 (c d : Int) (us : List S45) (hl : us.length ≤ 1000) : ∀ (n i : Nat), n + i = us.length → ∃ r, Ev (fun k => impl_cubic_34.l0 k us (us.length : Int) (i : Int) c d) r ∧ decide (r ≥ 0) = (us.drop i).any (hit c d) := by
  intro n
  induction n with
  | zero =>
    intro i hd
    refine ⟨-1, Ev.step (fun k => by simp only [impl_cubic_34.l0]; rw [if_neg (by omega)]) (Ev.now _), ?_⟩
    rw [List.drop_of_length_le (by omega)]
    rfl
  | succ n ih =>
    intro i hd
    have hi : i < us.length := by omega
    have e1 : rd_T45 us (i : Int) = us[i] := by simp [rd_T45, hi]
    rw [List.drop_eq_getElem_cons hi, List.any_cons]
    cases hp : hit c d us[i] with
    | true =>
      refine ⟨(i : Int), Ev.step (fun k => by simp only [impl_cubic_34.l0]; rw [if_pos (by omega), if_pos (by omega), if_pos (by omega), e1]; exact if_pos hp) (Ev.now _), by simp⟩
    | false =>
      obtain ⟨r, h1, h2⟩ := ih (i + 1) (by omega)
      refine ⟨r, Ev.step (fun k => ?_) h1, by rw [h2, Bool.false_or]⟩
      simp only [impl_cubic_34.l0]
      rw [if_pos (by omega), if_pos (by omega), if_pos (by omega), e1, w64 (by omega) (by omega)]
      exact if_neg (fun e => by rw [show hit c d us[i] = true from e] at hp; cases hp)
theorem contains (c d : Int) (us : List S45) (hl : us.length ≤ 1000) : Ev (fun k => impl_cubic_19.f k us c d) (us.any (hit c d)) := by
  obtain ⟨r, h1, h2⟩ := index_l0 c d us hl us.length 0 (by omega)
  rw [List.drop_zero] at h2
  rw [← h2]
  unfold impl_cubic_19.f impl_cubic_34.f
  exact Ev.bind h1 (Ev.now _)
theorem same_l0 (n n' : Int) (l m : List Int) (hl : l.length ≤ 1048576) (hm : m.length = l.length) : ∀ (d i : Nat), d + i = l.length → Ev (fun k => spec_l01Same.l0 k (i : Int) n l n' m) (decide (l.drop i = m.drop i)) := by
  intro d
  induction d with
  | zero =>
    intro i hd
    refine Ev.step (f := fun _ => some (decide (l.drop i = m.drop i))) (fun k => ?_) (Ev.now _)
    simp only [spec_l01Same.l0]
    rw [if_neg (by omega), List.drop_of_length_le (by omega), List.drop_of_length_le (by omega)]
    simp
  | succ d ih =>
    intro i hd
    have hi : i < l.length := by omega
    have hi2 : i < m.length := by omega
    have e1 : rd l (i : Int) = l[i] := by simp [rd, hi]
    have e2 : rd m (i : Int) = m[i] := by simp [rd, hi2]
    by_cases he : l[i] = m[i]
    · refine Ev.step (f := fun k => spec_l01Same.l0 k ((i + 1 : Nat) : Int) n l n' m) (fun k => ?_) ?_
      · simp only [spec_l01Same.l0]
        rw [if_pos (by omega), if_pos (by omega), if_pos (by omega), e1, e2, if_pos he, w64 (by omega) (by omega)]
        rfl
      · have e : decide (l.drop i = m.drop i) = decide (l.drop (i + 1) = m.drop (i + 1)) := by
          rw [List.drop_eq_getElem_cons hi, List.drop_eq_getElem_cons hi2]
          simp only [List.cons.injEq, he, true_and]
        rw [e]
        exact ih (i + 1) (by omega)
    · refine Ev.step (f := fun _ => some false) (fun k => ?_) ?_
      · simp only [spec_l01Same.l0]
        rw [if_pos (by omega), if_pos (by omega), if_pos (by omega), e1, e2, if_neg he]
      · have e : decide (l.drop i = m.drop i) = false := by
          rw [List.drop_eq_getElem_cons hi, List.drop_eq_getElem_cons hi2]
          simp only [List.cons.injEq, he, false_and, decide_false]
        rw [e]
        exact Ev.now _
theorem same (n n' : Int) (l m : List Int) (hl : l.length ≤ 1048576) : Ev (fun k => spec_l01Same.f k n l n' m) (decide (n = n' ∧ l = m)) := by
  unfold spec_l01Same.f
  by_cases hn : n = n'
  · by_cases h : m.length = l.length
    · have := same_l0 n n' l m hl h l.length 0 (by omega)
      simp only [if_pos hn]
      refine Ev.step (fun k => ?_) (show Ev (fun k => spec_l01Same.l0 k 0 n l n' m) (decide (n = n' ∧ l = m)) by simpa [hn] using this)
      simp only [spec_l01Same.j0]
      rw [if_neg (by simp [h])]
    · have e : decide (n = n' ∧ l = m) = false := by
        rw [decide_eq_false]
        rintro ⟨_, rfl⟩
        exact h rfl
      rw [e]
      simp only [if_pos hn]
      refine Ev.step (fun k => ?_) (Ev.now _)
      simp only [spec_l01Same.j0]
      rw [if_pos (by simp; omega)]
  · have e : decide (n = n' ∧ l = m) = false := by simp [hn]
    rw [e]
    simp only [if_neg hn]
    refine Ev.step (fun k => ?_) (Ev.now _)
    simp only [spec_l01Same.j0, if_true]
theorem sq_nn (a : Int) : 0 ≤ a * a := by
  rw [← Int.natAbs_mul_self]
  exact Int.natCast_nonneg _
theorem norm0 {a b : Int} : a * a - a * b + b * b = 0 ↔ a = 0 ∧ b = 0 := by
  constructor
  · intro h
    have h1 : 0 ≤ (2 * a - b) * (2 * a - b) := sq_nn _
    have h2 : 0 ≤ b * b := sq_nn _
    have h3 : (2 * a - b) * (2 * a - b) + 3 * (b * b) = 4 * (a * a - a * b + b * b) := by
      simp only [Int.sub_mul, Int.mul_sub, Int.mul_assoc, Int.mul_left_comm _ (2 : Int), Int.mul_comm b a]
      omega
    have h4 : b * b = 0 := by omega
    have h5 : b = 0 := (Int.mul_eq_zero.mp h4).elim id id
    subst h5
    have h6 : a * a = 0 := by omega
    exact ⟨(Int.mul_eq_zero.mp h6).elim id id, rfl⟩
  · rintro ⟨rfl, rfl⟩
    rfl
def rels (a b c d : Int) : Bool := [(⟨a, b⟩ : S45), ⟨-a, -b⟩, ⟨-b, a - b⟩, ⟨b, b - a⟩, ⟨b - a, -a⟩, ⟨a - b, a⟩].any (hit c d)
theorem rels_iff (a b c d : Int) : rels a b c d = true ↔ (c = a ∧ d = b) ∨ (c = -a ∧ d = -b) ∨ (c = -b ∧ d = a - b) ∨ (c = b ∧ d = b - a) ∨ (c = b - a ∧ d = -a) ∨ (c = a - b ∧ d = a) := by
  simp [rels, hit]
def out (n : Int) (l : List Int) (n' : Int) (l' : List Int) : Bool × Int := if is9 n l && is9 n' l' then (rels (rd l 0) (rd l 1) (rd l' 0) (rd l' 1), 0) else (false, 1)
theorem spec_out (n : Int) (l : List Int) (n' : Int) (l' : List Int) (hl : l.length ≤ 1048576) (hl' : l'.length ≤ 1048576) : Ev (fun k => spec_AreAssociate.f k n l n' l') (out n l n' l') := by
  unfold spec_AreAssociate.f
  refine Ev.bind (l09Code [⟨n, l⟩, ⟨n', l'⟩] (by simp [hl, hl']) (by simp)) ?_
  simp only [List.all_cons, List.all_nil, Bool.and_true, is9s, out]
  cases h : is9 n l && is9 n' l' with
  | false =>
    simp only [Bool.false_eq_true, if_false, if_neg (show ¬ ((1 : Int) = 0) by decide)]
    exact Ev.now _
  | true =>
    rw [Bool.and_eq_true] at h
    obtain ⟨rfl, a, b, rfl, ha⟩ := is9_form h.1
    obtain ⟨rfl, c, d, rfl, hc⟩ := is9_form h.2
    simp only [if_true, rd, Int.toNat_zero, Int.toNat_one, List.getD_cons_zero, List.getD_cons_succ]
    refine ev_bind_const (l09Norm _ a b (by omega) (by omega)) ?_
    by_cases h0 : a = 0 ∧ b = 0
    · obtain ⟨rfl, rfl⟩ := h0
      simp only [Int.mul_zero, Int.sub_zero, Int.add_zero, if_true]
      refine Ev.step (fun k => by simp only [spec_AreAssociate.j0, if_true]; rfl) ?_
      refine ev_bind_const (l09Norm _ 0 0 (by omega) (by omega)) (ev_bind_const (l09Norm _ c d (by omega) (by omega)) ?_)
      have e : (0 * 0 - 0 * 0 + 0 * 0 == c * c - c * d + d * d) = rels 0 0 c d := by
        rw [Bool.eq_iff_iff, rels_iff, beq_iff_eq, show (0 * 0 - 0 * 0 + 0 * 0 : Int) = 0 from rfl, eq_comm, norm0]
        omega
      rw [e]
      exact Ev.now _
    · have h1 : ¬ (a * a - a * b + b * b = 0) := fun e => h0 (norm0.mp e)
      simp only [if_neg h1]
      refine ev_bind_const (l09Norm _ c d (by omega) (by omega)) ?_
      by_cases h2 : c = 0 ∧ d = 0
      · obtain ⟨rfl, rfl⟩ := h2
        refine Ev.step (fun k => by simp only [show ((0 : Int) * 0 - 0 * 0 + 0 * 0 == 0) = true from rfl, spec_AreAssociate.j0, if_true]; rfl) ?_
        refine ev_bind_const (l09Norm _ a b (by omega) (by omega)) (ev_bind_const (l09Norm _ 0 0 (by omega) (by omega)) ?_)
        have e : (a * a - a * b + b * b == 0 * 0 - 0 * 0 + 0 * 0) = rels a b 0 0 := by
          rw [Bool.eq_iff_iff, rels_iff, beq_iff_eq, show (0 * 0 - 0 * 0 + 0 * 0 : Int) = 0 from rfl, norm0]
          omega
        rw [e]
        exact Ev.now _
      · have h3 : (c * c - c * d + d * d == 0) = false := by rw [beq_eq_false_iff_ne]; exact fun e => h2 (norm0.mp e)
        refine Ev.step (fun k => by simp only [h3, spec_AreAssociate.j0, Bool.false_eq_true, if_false]; rfl) ?_
        refine Ev.bind (chosen _ a b (by omega) (by omega) h0) (Ev.bind (chosen _ c d (by omega) (by omega) h2) (Ev.bind (same _ _ _ _ (by simp)) ?_))
        have e : decide ((3 : Int) = 3 ∧ [(ch a b).1, (ch a b).2] = [(ch c d).1, (ch c d).2]) = rels a b c d := by
          rw [Bool.eq_iff_iff, rels_iff, ← ch_same a b c d h0 h2]
          simp [Prod.ext_iff]
        rw [e]
        exact Ev.now _
theorem impl_out (n : Int) (l : List Int) (n' : Int) (l' : List Int) : Ev (fun k => impl_AreAssociate.f k n l n' l') (out n l n' l') := by
  unfold impl_AreAssociate.f
  refine Ev.bind (cubicsOf [⟨n, l⟩, ⟨n', l'⟩] (by simp)) ?_
  simp only [List.all_cons, List.all_nil, Bool.and_true, is9s, out]
  cases h : is9 n l && is9 n' l' with
  | false =>
    simp only [Bool.false_eq_true, if_false]
    exact Ev.now _
  | true =>
    rw [Bool.and_eq_true] at h
    obtain ⟨rfl, a, b, rfl, ha⟩ := is9_form h.1
    obtain ⟨rfl, c, d, rfl, hc⟩ := is9_form h.2
    simp only [if_true, List.map_cons, List.map_nil, pr9, rd, rd_T45, Int.toNat_zero, Int.toNat_one, List.getD_cons_zero, List.getD_cons_succ]
    simp only [if_pos (show (0 : Int) < (([⟨a, b⟩, ⟨c, d⟩] : List S45).length : Int) by simp), if_pos (show (1 : Int) < (([⟨a, b⟩, ⟨c, d⟩] : List S45).length : Int) by simp)]
    refine Ev.bind (assoc a b (by omega) (by omega)) (Ev.bind (contains c d _ (by simp)) (Ev.now _))
theorem FnExactAreAssociate : laws_FnExactAreAssociate.Pure := by
  intro n l n' l' _ hm _ _ hm' _
  apply Ev.rounds
  have hm2 : l.length ≤ 9223372036854775807 := by simpa [maxLen] using hm
  have hm3 : l'.length ≤ 9223372036854775807 := by simpa [maxLen] using hm'
  unfold laws_FnExactAreAssociate.f laws_szCyclo.f laws_szInt64S.f
  rw [w64 (by omega) (by omega)]
  by_cases h1 : (1048576 : Int) - (l.length : Int) < 0
  · simp only [if_pos h1, Option.bind_some]
    exact Ev.now _
  simp only [if_neg h1, Option.bind_some]
  rw [w64 (by omega) (by omega)]
  by_cases h2 : (1048576 : Int) - (l.length : Int) - (l'.length : Int) < 0
  · simp only [if_pos h2, Option.bind_some]
    exact Ev.now _
  simp only [if_neg h2, Option.bind_some]
  have a1 := toCyclo n l (by omega)
  have a2 := toCyclo n' l' (by omega)
  refine Ev.bind a1 (Ev.bind a2 (Ev.bind (spec_out n l n' l' (by omega) (by omega)) (Ev.bind a1 (Ev.bind a2 (Ev.bind (impl_out n l n' l') ?_)))))
  simp only [bne_self_eq_false, Bool.false_eq_true, if_false]
  refine Ev.step (fun k => by simp only [laws_FnExactAreAssociate.j0, Bool.false_eq_true, if_false]; rfl) ?_
  refine Ev.bind a1 (Ev.bind (eqCyclo _ _ _ _ (by omega)) ?_)
  simp only [and_self, decide_true, if_true]
  refine Ev.bind a2 (Ev.bind (eqCyclo _ _ _ _ (by omega)) ?_)
  simp only [and_self, decide_true, if_true]
  exact Ev.now _
end Go.Proofs.Ytcfpdjhiagfgaaa.Pure
