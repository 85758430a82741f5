/- The program's GcdOfCubics returns what the reference's returns, for all arguments; no condition. -/
import Derived.Test.YtejpliodhnglbaaPFnExactGcdOfCubicsx13
import Derived.OpenShut
namespace Go.Proofs.Ytejpliodhnglbaa.Pure
open Go.RowKit Go.Proofs.Ytejpliodhnglbaa.PFnExactGcdOfCubics Go.Proofs.YtejpliodhnglbaaW.PrintWords Go.Proofs.YtejpliodhnglbaaW.PrintLast Go.Proofs.YtejpliodhnglbaaW.PrintMore
set_option linter.unusedVariables false
set_option linter.unusedSimpArgs false
theorem w64 {x : Int} (h0 : -9223372036854775808 ≤ x) (h1 : x ≤ 9223372036854775807) : wrap64 x = x := by unfold wrap64; omega
theorem ev_bind_const {α β : Type} {o : Option α} {a : α} {f : Nat → α → Option β} {r : β} (h : o = some a) (k : Ev (fun n => f n a) r) : Ev (fun n => o.bind (f n)) r := by
  subst h; exact k
theorem toInts_l0 (l : List Int) (hl : l.length ≤ 1048576) : ∀ (d : Nat) (ys : List Int) (i : Nat), d + i = l.length → ys.length = l.length → ys.take i = l.take i → Ev (fun k => laws_toInt64S.l0 k l ys (i : Int)) l := by
  intro d
  induction d with
  | zero =>
    intro ys i hd hy ht
    have : i = l.length := by omega
    subst this
    refine Ev.step (f := fun _ => some l) (fun k => ?_) (Ev.now _)
    simp only [laws_toInt64S.l0]
    rw [if_neg (by omega)]
    rw [List.take_of_length_le (by omega), List.take_of_length_le (by omega)] at ht
    rw [ht]
  | succ d ih =>
    intro ys i hd hy ht
    refine Ev.step (f := fun k => laws_toInt64S.l0 k l (ys.set i (rd l (i : Int))) ((i + 1 : Nat) : Int)) (fun k => ?_) (ih _ _ (by omega) (by simp [hy]) ?_)
    · simp only [laws_toInt64S.l0]
      rw [if_pos (by omega), if_pos (by omega), if_pos (by omega), w64 (by omega) (by omega)]
      rfl
    · have hi : i < l.length := by omega
      rw [List.take_succ_eq_append_getElem (by simpa [hy] using hi), List.take_succ_eq_append_getElem hi, List.take_set_of_le (Nat.le_refl _), ht]
      simp [rd, hi]
theorem toInts (l : List Int) (hl : l.length ≤ 1048576) : Ev (fun k => laws_toInt64S.f k l) l := by
  have h := toInts_l0 l hl l.length (List.replicate l.length 0) 0 (by omega) (by simp) (by simp)
  refine Ev.congr (fun k => ?_) h
  unfold laws_toInt64S.f
  rw [if_pos (by omega), if_pos (by omega)]
  simp
theorem toCyclo (n : Int) (l : List Int) (hl : l.length ≤ 1048576) : Ev (fun k => laws_toCyclo.f k n l) (n, l) :=
  Ev.bind (toInts l hl) (Ev.now _)
theorem eqInts_l0 (l m : List Int) (hl : l.length ≤ 1048576) (hm : m.length = l.length) : ∀ (d i : Nat), d + i = l.length → Ev (fun k => laws_eqInt64S.l0 k l m (i : Int)) (decide (l.drop i = m.drop i)) := by
  intro d
  induction d with
  | zero =>
    intro i hd
    refine Ev.step (f := fun _ => some (decide (l.drop i = m.drop i))) (fun k => ?_) (Ev.now _)
    simp only [laws_eqInt64S.l0]
    rw [if_neg (by omega), List.drop_of_length_le (by omega), List.drop_of_length_le (by omega)]
    simp
  | succ d ih =>
    intro i hd
    have hi : i < l.length := by omega
    have hi2 : i < m.length := by omega
    have e1 : rd l (i : Int) = l[i] := by simp [rd, hi]
    have e2 : rd m (i : Int) = m[i] := by simp [rd, hi2]
    by_cases he : l[i] = m[i]
    · refine Ev.step (f := fun k => laws_eqInt64S.l0 k l m ((i + 1 : Nat) : Int)) (fun k => ?_) ?_
      · simp only [laws_eqInt64S.l0]
        rw [if_pos (by omega), if_pos (by omega), if_pos (by omega), e1, e2, if_pos he, w64 (by omega) (by omega)]
        rfl
      · have e : decide (l.drop i = m.drop i) = decide (l.drop (i + 1) = m.drop (i + 1)) := by
          rw [List.drop_eq_getElem_cons hi, List.drop_eq_getElem_cons hi2]
          simp only [List.cons.injEq, he, true_and]
        rw [e]
        exact ih (i + 1) (by omega)
    · refine Ev.step (f := fun _ => some false) (fun k => ?_) ?_
      · simp only [laws_eqInt64S.l0]
        rw [if_pos (by omega), if_pos (by omega), if_pos (by omega), e1, e2, if_neg he]
      · have e : decide (l.drop i = m.drop i) = false := by
          rw [List.drop_eq_getElem_cons hi, List.drop_eq_getElem_cons hi2]
          simp only [List.cons.injEq, he, false_and, decide_false]
        rw [e]
        exact Ev.now _
theorem eqInts (l m : List Int) (hl : l.length ≤ 1048576) : Ev (fun k => laws_eqInt64S.f k l m) (decide (l = m)) := by
  by_cases h : m.length = l.length
  · have := eqInts_l0 l m hl h l.length 0 (by omega)
    refine Ev.congr (fun k => ?_) (by simpa using this)
    unfold laws_eqInt64S.f
    rw [if_pos (by omega)]
  · have hne : l ≠ m := fun e => h (by rw [e])
    rw [decide_eq_false hne]
    refine Ev.congr (fun k => ?_) (Ev.now _)
    unfold laws_eqInt64S.f
    rw [if_neg (by omega)]
theorem eqCyclo (n n' : Int) (l l' : List Int) (hl : l.length ≤ 1048576) : Ev (fun k => laws_eqCyclo.f k n l n' l') (decide (n = n' ∧ l = l')) := by
  unfold laws_eqCyclo.f
  by_cases h : n = n'
  · simp only [if_pos h]
    refine Ev.bind (eqInts l l' hl) ?_
    by_cases h2 : l = l' <;> simp [h, h2] <;> exact Ev.now _
  · simp only [if_neg h]
    simp [h]
    exact Ev.now _
def phi (n : Int) : Int := [0, 1, 1, 2, 2, 4, 2, 6, 4, 6, 4, 10, 4, 12, 6, 8, 8].getD n.toNat 0
theorem orders {P : Int → Prop} (h : ∀ m : Nat, m < 17 → 1 ≤ m → P m) (n : Int) (h0 : 1 ≤ n) (h1 : n ≤ 16) : P n := by
  have := h n.toNat (by omega) (by omega)
  rwa [Int.toNat_of_nonneg (by omega)] at this
theorem phi_spec (n : Int) (h0 : 1 ≤ n) (h1 : n ≤ 16) : Ev (fun k => spec_l01Phi.f k n) (phi n) := by
  have key : ∀ m : Nat, m < 17 → 1 ≤ m → spec_l01Phi.f 60 (m : Int) = some (phi m) := by decide +kernel
  exact Ev.of (spec_l01Phi.mono n) (orders (P := fun n => spec_l01Phi.f 60 n = some (phi n)) key n h0 h1)
theorem phi_impl (n : Int) (h0 : 1 ≤ n) (h1 : n ≤ 16) : Ev (fun k => impl_totient.f k n) (phi n) := by
  have key : ∀ m : Nat, m < 17 → 1 ≤ m → impl_totient.f 60 (m : Int) = some (phi m) := by decide +kernel
  exact Ev.of (impl_totient.mono n) (orders (P := fun n => impl_totient.f 60 n = some (phi n)) key n h0 h1)
theorem l01In (a b c : Int) : spec_l01In.f a b c = some (decide (b ≤ a) && decide (a ≤ c)) := by
  unfold spec_l01In.f
  by_cases h : a ≥ b
  · rw [if_pos h]; simp [h]
  · rw [if_neg h]; simp [h]
theorem within_ (a b c : Int) : impl_within.f a b c = some (decide (b ≤ a) && decide (a ≤ c)) := by
  unfold impl_within.f
  by_cases h : b ≤ a
  · rw [if_pos h]; simp [h]
  · rw [if_neg h]; simp [h]
def inP (m : Int) (x : Int) : Bool := decide (-m ≤ x) && decide (x ≤ m)
theorem fits_l0 (n : Int) (l : List Int) (hl : l.length ≤ 1048576) : ∀ (d i : Nat), d + i = l.length → Ev (fun k => spec_l01Fits.l0 k (i : Int) n l) ((l.drop i).all (inP 1000000000)) := by
  intro d
  induction d with
  | zero =>
    intro i hd
    refine Ev.step (f := fun _ => some ((l.drop i).all (inP 1000000000))) (fun k => ?_) (Ev.now _)
    simp only [spec_l01Fits.l0]
    rw [if_neg (by omega), List.drop_of_length_le (by omega)]
    rfl
  | succ d ih =>
    intro i hd
    have hi : i < l.length := by omega
    have e1 : rd l (i : Int) = l[i] := by simp [rd, hi]
    rw [List.drop_eq_getElem_cons hi, List.all_cons]
    cases hp : inP 1000000000 l[i] with
    | true =>
      refine Ev.step (f := fun k => spec_l01Fits.l0 k ((i + 1 : Nat) : Int) n l) (fun k => ?_) (by simpa using ih (i + 1) (by omega))
      simp only [spec_l01Fits.l0]
      rw [if_pos (by omega), if_pos (by omega), e1, l01In, Option.bind_some, if_pos (by simpa [inP] using hp), w64 (by omega) (by omega)]
      rfl
    | false =>
      refine Ev.step (f := fun _ => some false) (fun k => ?_) (by simpa using Ev.now _)
      simp only [spec_l01Fits.l0]
      rw [if_pos (by omega), if_pos (by omega), e1, l01In, Option.bind_some, if_neg (by simp [inP] at hp ⊢; omega)]
theorem fits01 (n : Int) (l : List Int) (hl : l.length ≤ 1048576) : Ev (fun k => spec_l01Fits.f k n l) (l.all (inP 1000000000)) := by
  have := fits_l0 n l hl l.length 0 (by omega)
  unfold spec_l01Fits.f
  simpa using this
theorem areSmall (l : List Int) (m : Int) (h0 : 0 ≤ m) (h1 : m ≤ 9223372036854775807) : impl_areSmall.f l m = some (l.all (inP m)) := by
  unfold impl_areSmall.f
  rw [w64 (by omega) (by omega)]
  rfl
def isC (n : Int) (l : List Int) : Bool := decide (1 ≤ n) && decide (n ≤ 16) && decide ((l.length : Int) = phi n) && l.all (inP 1000000000)
theorem l01Is (n : Int) (l : List Int) (hl : l.length ≤ 1048576) : Ev (fun k => spec_l01Is.f k n l) (isC n l) := by
  unfold spec_l01Is.f
  refine ev_bind_const (l01In _ _ _) ?_
  by_cases h : 1 ≤ n ∧ n ≤ 16
  · rw [show (decide (1 ≤ n) && decide (n ≤ 16)) = true by simp [h]]
    simp only [if_true]
    refine Ev.bind (phi_spec n h.1 h.2) ?_
    by_cases h2 : (l.length : Int) = phi n
    · simp only [if_pos h2]
      refine Ev.bind (fits01 n l hl) ?_
      have : isC n l = l.all (inP 1000000000) := by simp [isC, h, h2]
      rw [this]
      exact Ev.now _
    · simp only [if_neg h2]
      have : isC n l = false := by simp [isC, h, h2]
      rw [this]
      exact Ev.now _
  · have e : (decide (1 ≤ n) && decide (n ≤ 16)) = false := by simp; omega
    rw [e]
    have : isC n l = false := by simp [isC, e]
    rw [this]
    exact Ev.now _
theorem isCyclo (n : Int) (l : List Int) : Ev (fun k => impl_IsCyclo.f k n l) (isC n l) := by
  unfold impl_IsCyclo.f impl_isOrder.f
  refine ev_bind_const (a := decide (1 ≤ n) && decide (n ≤ 16)) (by rw [within_]; rfl) ?_
  by_cases h : 1 ≤ n ∧ n ≤ 16
  · rw [show (decide (1 ≤ n) && decide (n ≤ 16)) = true by simp [h]]
    simp only [if_true]
    refine Ev.bind (phi_impl n h.1 h.2) ?_
    by_cases h2 : (l.length : Int) = phi n
    · simp only [if_pos h2]
      have : isC n l = l.all (inP 1000000000) := by simp [isC, h, h2]
      rw [this, areSmall _ _ (by omega) (by omega)]
      exact Ev.now _
    · simp only [if_neg h2]
      have : isC n l = false := by simp [isC, h, h2]
      rw [this]
      exact Ev.now _
  · have e : (decide (1 ≤ n) && decide (n ≤ 16)) = false := by simp; omega
    rw [e]
    have : isC n l = false := by simp [isC, e]
    rw [this]
    exact Ev.now _
def is9 (n : Int) (l : List Int) : Bool := decide (n = 3) && isC n l && l.all (inP 10000)
theorem inP_iff {m x : Int} : inP m x = true ↔ -m ≤ x ∧ x ≤ m := by simp [inP]
theorem isC3 {l : List Int} (h : isC 3 l = true) : ∃ a b, l = [a, b] := by
  simp only [isC, Bool.and_eq_true, decide_eq_true_eq] at h
  have h2 : l.length = 2 := by
    have h3 : ((l.length : Nat) : Int) = phi 3 := h.1.2
    have h4 : phi 3 = 2 := by decide
    omega
  match l, h2 with
  | [a, b], _ => exact ⟨a, b, rfl⟩
theorem is9_form {n : Int} {l : List Int} (h : is9 n l = true) : n = 3 ∧ ∃ a b, l = [a, b] ∧ -10000 ≤ a ∧ a ≤ 10000 ∧ -10000 ≤ b ∧ b ≤ 10000 := by
  simp only [is9, Bool.and_eq_true, decide_eq_true_eq] at h
  obtain ⟨⟨rfl, h2⟩, h3⟩ := h
  obtain ⟨a, b, rfl⟩ := isC3 h2
  simp only [List.all_cons, List.all_nil, Bool.and_true, Bool.and_eq_true, inP_iff] at h3
  exact ⟨rfl, a, b, rfl, h3.1.1, h3.1.2, h3.2.1, h3.2.2⟩
theorem l09Fits (n a b : Int) : spec_l09Fits.f n [a, b] = some (inP 10000 a && inP 10000 b) := by
  unfold spec_l09Fits.f
  rw [if_pos (by simp), l01In, Option.bind_some]
  by_cases h : inP 10000 a = true
  · rw [if_pos (by simpa [inP, rd] using h), if_pos (by simp), l01In, h, Bool.true_and]
    rfl
  · have h' : inP 10000 a = false := by simpa using h
    rw [if_neg (by simpa [inP, rd] using h), h']
    rfl
theorem l09Is (n : Int) (l : List Int) (hl : l.length ≤ 1048576) : Ev (fun k => spec_l09Is.f k n l) (is9 n l) := by
  unfold spec_l09Is.f
  by_cases h : n = 3
  · subst h
    simp only [if_true]
    refine Ev.bind (l01Is 3 l hl) ?_
    cases hc : isC 3 l with
    | true =>
      obtain ⟨a, b, rfl⟩ := isC3 hc
      simp only [if_true, l09Fits, Option.bind_some]
      simp only [is9, hc, decide_true, Bool.and_true, Bool.true_and, List.all_cons, List.all_nil]
      exact Ev.now _
    | false =>
      simp only [is9, hc]
      exact Ev.now _
  · simp only [if_neg h, is9, decide_eq_false h]
    exact Ev.now _
theorem isCubic (n : Int) (l : List Int) : Ev (fun k => impl_IsCubicNumber.f k n l) (is9 n l) := by
  unfold impl_IsCubicNumber.f
  refine Ev.bind (isCyclo n l) ?_
  by_cases h : n = 3
  · subst h
    cases hc : isC 3 l with
    | true =>
      simp only [if_true, areSmall l 10000 (by omega) (by omega), Option.bind_some, is9, hc, decide_true, Bool.true_and]
      exact Ev.now _
    | false =>
      simp only [is9, hc]
      exact Ev.now _
  · have e : is9 n l = false := by simp [is9, h]
    rw [e]
    cases hc : isC n l with
    | true => simp only [if_true, if_neg h]; exact Ev.now _
    | false => exact Ev.now _
def is9s (x : S26) : Bool := is9 x.f0 x.f1
theorem l09Code_l0 (xs : List S26) (hx : ∀ x ∈ xs, x.f1.length ≤ 1048576) (hl : xs.length ≤ 1000) : ∀ (d i : Nat), d + i = xs.length → Ev (fun k => spec_l09Code.l0 k xs (i : Int)) (if (xs.drop i).all is9s then 0 else 1) := by
  intro d
  induction d with
  | zero =>
    intro i hd
    refine Ev.step (f := fun _ => some (if (xs.drop i).all is9s then 0 else 1)) (fun k => ?_) (Ev.now _)
    simp only [spec_l09Code.l0]
    rw [if_neg (by omega), List.drop_of_length_le (by omega)]
    rfl
  | succ d ih =>
    intro i hd
    have hi : i < xs.length := by omega
    have e1 : rd_T26 xs (i : Int) = xs[i] := by simp [rd_T26, hi]
    refine Ev.step (fun k => by simp only [spec_l09Code.l0]; rw [if_pos (by omega), if_pos (by omega), e1, w64 (by omega) (by omega)]) ?_
    refine Ev.bind (l09Is _ _ (hx _ (List.getElem_mem hi))) ?_
    rw [List.drop_eq_getElem_cons hi, List.all_cons]
    cases hp : is9s xs[i] with
    | true =>
      rw [show is9 xs[i].f0 xs[i].f1 = true from hp]
      simpa using ih (i + 1) (by omega)
    | false =>
      rw [show is9 xs[i].f0 xs[i].f1 = false from hp]
      exact Ev.now _
theorem l09Code (xs : List S26) (hx : ∀ x ∈ xs, x.f1.length ≤ 1048576) (hl : xs.length ≤ 1000) : Ev (fun k => spec_l09Code.f k xs) (if xs.all is9s then 0 else 1) := by
  have := l09Code_l0 xs hx hl xs.length 0 (by omega)
  unfold spec_l09Code.f
  simpa using this
def pr9 (x : S26) : S54 := ⟨rd x.f1 0, rd x.f1 1⟩
theorem cubicsOf_l0 (xs : List S26) (hl : xs.length ≤ 1000) : ∀ (d i : Nat) (acc : List S54), d + i = xs.length → acc.length ≤ i → Ev (fun k => impl_cubicsOf.l0 k acc xs (xs.length : Int) (i : Int)) (if (xs.drop i).all is9s then (acc ++ (xs.drop i).map pr9, true) else ([], false)) := by
  intro d
  induction d with
  | zero =>
    intro i acc hd ha
    refine Ev.step (fun k => by simp only [impl_cubicsOf.l0]; rw [if_neg (by omega)]) ?_
    rw [List.drop_of_length_le (by omega)]
    simpa using Ev.now _
  | succ d ih =>
    intro i acc hd ha
    have hi : i < xs.length := by omega
    have e1 : rd_T26 xs (i : Int) = xs[i] := by simp [rd_T26, hi]
    refine Ev.step (fun k => by simp only [impl_cubicsOf.l0]; rw [if_pos (by omega), if_pos (by omega), if_pos (by omega), e1, w64 (by omega) (by omega)]) ?_
    refine Ev.bind (isCubic _ _) ?_
    rw [List.drop_eq_getElem_cons hi, List.all_cons, List.map_cons]
    cases hp : is9s xs[i] with
    | true =>
      rw [show is9 xs[i].f0 xs[i].f1 = true from hp]
      obtain ⟨_, a, b, hab, _⟩ := is9_form hp
      have c0 : (0 : Int) < (([a, b] : List Int).length : Int) := by simp
      have c1 : (1 : Int) < (([a, b] : List Int).length : Int) := by simp
      have c2 : acc.length < 8796093022208 := by omega
      have := ih (i + 1) (acc ++ [pr9 xs[i]]) (by omega) (by simp; omega)
      simp only [List.append_assoc, List.singleton_append] at this
      have e2 : pr9 xs[i] = (⟨rd [a, b] 0, rd [a, b] 1⟩ : S54) := by simp [pr9, hab]
      rw [e2] at this ⊢
      simp only [if_true, hab, if_pos c0, if_pos c1, if_pos c2, Bool.true_and]
      exact this
    | false =>
      rw [show is9 xs[i].f0 xs[i].f1 = false from hp]
      exact Ev.now _
theorem cubicsOf (xs : List S26) (hl : xs.length ≤ 1000) : Ev (fun k => impl_cubicsOf.f k xs) (if xs.all is9s then (xs.map pr9, true) else ([], false)) := by
  have := cubicsOf_l0 xs hl xs.length 0 [] (by omega) (by simp)
  unfold impl_cubicsOf.f
  simpa using this
theorem mul_bd {a b A B : Int} (ha : -A ≤ a ∧ a ≤ A) (hb : -B ≤ b ∧ b ≤ B) : -(A * B) ≤ a * b ∧ a * b ≤ A * B := by
  have h : (a * b).natAbs ≤ A.toNat * B.toNat := by rw [Int.natAbs_mul]; exact Nat.mul_le_mul (by omega) (by omega)
  have h2 : ((A.toNat * B.toNat : Nat) : Int) = A * B := by rw [Int.natCast_mul, Int.toNat_of_nonneg (by omega), Int.toNat_of_nonneg (by omega)]
  omega
theorem l09Norm (n a b : Int) (ha : -100000 ≤ a ∧ a ≤ 100000) (hb : -100000 ≤ b ∧ b ≤ 100000) : spec_l09Norm.f n [a, b] = some (a * a - a * b + b * b) := by
  have h1 := mul_bd ha ha
  have h2 := mul_bd ha hb
  have h3 := mul_bd hb hb
  unfold spec_l09Norm.f
  rw [if_pos (by simp), if_pos (by simp)]
  simp only [rd, Int.toNat_zero, Int.toNat_one, List.getD_cons_zero, List.getD_cons_succ]
  rw [w64 (x := a * a) (by omega) (by omega), w64 (x := a * b) (by omega) (by omega), w64 (x := b * b) (by omega) (by omega), w64 (x := a * a - a * b) (by omega) (by omega), w64 (by omega) (by omega)]
def isCh (a b : Int) : Prop := 1 ≤ a ∧ 0 ≤ b ∧ b < a
instance (a b : Int) : Decidable (isCh a b) := by unfold isCh; infer_instance
def ch (a b : Int) : Int × Int :=
  if isCh a b then (a, b) else if isCh (a - b) a then (a - b, a) else if isCh (-b) (a - b) then (-b, a - b) else if isCh (-a) (-b) then (-a, -b) else if isCh (b - a) (-a) then (b - a, -a) else (b, b - a)
theorem ch_stop (n a b : Int) (h : isCh a b) : Ev (fun k => spec_l09Chosen.l0 k n [a, b]) (3, [a, b]) := by
  obtain ⟨h1, h2, h3⟩ := h
  refine Ev.step (f := fun k => spec_l09Chosen.j1 k false n [a, b]) (fun k => ?_) ?_
  · simp only [spec_l09Chosen.l0]
    rw [if_pos (by simp)]
    simp only [rd, Int.toNat_zero, Int.toNat_one, List.getD_cons_zero, List.getD_cons_succ]
    rw [if_neg (by omega), if_pos (by simp), if_neg (by omega), decide_eq_false (by omega)]
  · refine Ev.step (f := fun _ => some (3, [a, b])) (fun k => ?_) (Ev.now _)
    simp only [spec_l09Chosen.j1]
    rw [if_neg (by simp), if_pos (by simp), if_pos (by simp)]
    simp [spec_l09Of.f, rd]
theorem ch_step (n a b : Int) (ha : -100000 ≤ a ∧ a ≤ 100000) (hb : -100000 ≤ b ∧ b ≤ 100000) (h : ¬ isCh a b) (r : Int × List Int) (H : Ev (fun k => spec_l09Chosen.l0 k 3 [a - b, a]) r) : Ev (fun k => spec_l09Chosen.l0 k n [a, b]) r := by
  refine Ev.step (f := fun k => spec_l09Chosen.j1 k true n [a, b]) (fun k => ?_) ?_
  · simp only [spec_l09Chosen.l0]
    rw [if_pos (by simp)]
    simp only [rd, Int.toNat_zero, Int.toNat_one, List.getD_cons_zero, List.getD_cons_succ]
    by_cases h1 : a < 1
    · rw [if_pos h1]
    · rw [if_neg h1, if_pos (by simp)]
      by_cases h2 : b < 0
      · rw [if_pos h2]
      · rw [if_neg h2, decide_eq_true (by unfold isCh at h; omega)]
  · refine Ev.step (f := fun k => spec_l09Chosen.l0 k 3 [a - b, a]) (fun k => ?_) H
    simp only [spec_l09Chosen.j1, if_true]
    simp only [spec_l09Of.f, Option.bind_some, spec_l09Times.f]
    rw [if_pos (by simp), if_pos (by simp), if_pos (by simp), if_pos (by simp)]
    simp only [rd, Int.toNat_zero, Int.toNat_one, List.getD_cons_zero, List.getD_cons_succ, Option.bind_some, Int.mul_one]
    rw [w64 (x := a) (by omega) (by omega), w64 (x := b) (by omega) (by omega), w64 (x := a - b) (by omega) (by omega), w64 (x := a + b) (by omega) (by omega), w64 (x := a + b - b) (by omega) (by omega), show a + b - b = a by omega]
theorem chosen9 (n a b : Int) (ha : -20000 ≤ a ∧ a ≤ 20000) (hb : -20000 ≤ b ∧ b ≤ 20000) (h : ¬ (a = 0 ∧ b = 0)) : Ev (fun k => spec_l09Chosen.f k n [a, b]) (3, [(ch a b).1, (ch a b).2]) := by
  unfold spec_l09Chosen.f
  by_cases c1 : isCh a b
  · simp only [ch, if_pos c1]; exact ch_stop _ _ _ c1
  refine ch_step _ _ _ (by omega) (by omega) c1 _ ?_
  by_cases c2 : isCh (a - b) a
  · simp only [ch, if_neg c1, if_pos c2]; exact ch_stop _ _ _ c2
  refine ch_step _ _ _ (by omega) (by omega) c2 _ ?_
  rw [show a - b - a = -b by omega]
  by_cases c3 : isCh (-b) (a - b)
  · simp only [ch, if_neg c1, if_neg c2, if_pos c3]; exact ch_stop _ _ _ c3
  refine ch_step _ _ _ (by omega) (by omega) c3 _ ?_
  rw [show -b - (a - b) = -a by omega]
  by_cases c4 : isCh (-a) (-b)
  · simp only [ch, if_neg c1, if_neg c2, if_neg c3, if_pos c4]; exact ch_stop _ _ _ c4
  refine ch_step _ _ _ (by omega) (by omega) c4 _ ?_
  rw [show -a - -b = b - a by omega]
  by_cases c5 : isCh (b - a) (-a)
  · simp only [ch, if_neg c1, if_neg c2, if_neg c3, if_neg c4, if_pos c5]; exact ch_stop _ _ _ c5
  refine ch_step _ _ _ (by omega) (by omega) c5 _ ?_
  rw [show b - a - -a = b by omega]
  simp only [ch, if_neg c1, if_neg c2, if_neg c3, if_neg c4, if_neg c5]
  exact ch_stop _ _ _ (by unfold isCh at *; omega)
theorem ch_cases (a b : Int) (h : ¬ (a = 0 ∧ b = 0)) : (isCh a b ∧ ch a b = (a, b)) ∨ (isCh (a - b) a ∧ ch a b = (a - b, a)) ∨ (isCh (-b) (a - b) ∧ ch a b = (-b, a - b)) ∨ (isCh (-a) (-b) ∧ ch a b = (-a, -b)) ∨ (isCh (b - a) (-a) ∧ ch a b = (b - a, -a)) ∨ (isCh b (b - a) ∧ ch a b = (b, b - a)) := by
  unfold ch
  by_cases c1 : isCh a b
  · exact .inl ⟨c1, if_pos c1⟩
  rw [if_neg c1]
  by_cases c2 : isCh (a - b) a
  · exact .inr (.inl ⟨c2, if_pos c2⟩)
  rw [if_neg c2]
  by_cases c3 : isCh (-b) (a - b)
  · exact .inr (.inr (.inl ⟨c3, if_pos c3⟩))
  rw [if_neg c3]
  by_cases c4 : isCh (-a) (-b)
  · exact .inr (.inr (.inr (.inl ⟨c4, if_pos c4⟩)))
  rw [if_neg c4]
  by_cases c5 : isCh (b - a) (-a)
  · exact .inr (.inr (.inr (.inr (.inl ⟨c5, if_pos c5⟩))))
  rw [if_neg c5]
  exact .inr (.inr (.inr (.inr (.inr ⟨by unfold isCh at *; omega, rfl⟩))))
def tm (a b : Int) (u : S54) : S54 := ⟨wrap64 ((wrap64 (a * u.f0)) - (wrap64 (b * u.f1))), wrap64 ((wrap64 ((wrap64 (a * u.f1)) + (wrap64 (b * u.f0)))) - (wrap64 (b * u.f1)))⟩
theorem assoc_l0 (a b : Int) (us : List S54) (hl : us.length ≤ 1000) : ∀ (d i : Nat) (acc : List S54), d + i = us.length → acc.length ≤ i → Ev (fun k => impl_cubic_associates.l0 k acc us (us.length : Int) (i : Int) a b) (acc ++ (us.drop i).map (tm a b)) := by
  intro d
  induction d with
  | zero =>
    intro i acc hd ha
    refine Ev.step (fun k => by simp only [impl_cubic_associates.l0]; rw [if_neg (by omega)]) ?_
    rw [List.drop_of_length_le (by omega)]
    simpa using Ev.now _
  | succ d ih =>
    intro i acc hd ha
    have hi : i < us.length := by omega
    have e1 : rd_T54 us (i : Int) = us[i] := by simp [rd_T54, hi]
    have := ih (i + 1) (acc ++ [tm a b us[i]]) (by omega) (by simp; omega)
    rw [List.append_assoc, List.singleton_append] at this
    rw [List.drop_eq_getElem_cons hi, List.map_cons]
    refine Ev.step (fun k => ?_) this
    simp only [impl_cubic_associates.l0]
    rw [if_pos (by omega), if_pos (by omega), if_pos (by omega), e1, w64 (by omega) (by omega)]
    simp only [impl_cubic_times.f, Option.bind_some]
    rw [if_pos (by omega)]
    rfl
theorem assoc9 (a b : Int) (ha : -100000 ≤ a ∧ a ≤ 100000) (hb : -100000 ≤ b ∧ b ≤ 100000) :
    Ev (fun k => impl_cubic_associates.f k a b) [(⟨a, b⟩ : S54), ⟨-a, -b⟩, ⟨-b, a - b⟩, ⟨b, b - a⟩, ⟨b - a, -a⟩, ⟨a - b, a⟩] := by
  have := assoc_l0 a b [(⟨1, 0⟩ : S54), (⟨(-1), 0⟩ : S54), (⟨0, 1⟩ : S54), (⟨0, (-1)⟩ : S54), (⟨(-1), (-1)⟩ : S54), (⟨1, 1⟩ : S54)] (by simp) 6 0 [] (by simp) (by simp)
  unfold impl_cubic_associates.f
  refine Ev.congr (fun k => by rw [Option.bind_some]) ?_
  have e : [(⟨a, b⟩ : S54), ⟨-a, -b⟩, ⟨-b, a - b⟩, ⟨b, b - a⟩, ⟨b - a, -a⟩, ⟨a - b, a⟩] = [] ++ (List.drop 0 [(⟨1, 0⟩ : S54), (⟨(-1), 0⟩ : S54), (⟨0, 1⟩ : S54), (⟨0, (-1)⟩ : S54), (⟨(-1), (-1)⟩ : S54), (⟨1, 1⟩ : S54)]).map (tm a b) := by
    simp only [List.nil_append, List.drop_zero, List.map_cons, List.map_nil, tm, List.cons.injEq, S54.mk.injEq, and_true]
    unfold wrap64
    omega
  rw [e]
  exact this
theorem sq_nn (a : Int) : 0 ≤ a * a := by
  rw [← Int.natAbs_mul_self]
  exact Int.natCast_nonneg _
theorem norm0 {a b : Int} : a * a - a * b + b * b = 0 ↔ a = 0 ∧ b = 0 := by
  constructor
  · intro h
    have h1 : 0 ≤ (2 * a - b) * (2 * a - b) := sq_nn _
    have h2 : 0 ≤ b * b := sq_nn _
    have h3 : (2 * a - b) * (2 * a - b) + 3 * (b * b) = 4 * (a * a - a * b + b * b) := by
      simp only [Int.sub_mul, Int.mul_sub, Int.mul_assoc, Int.mul_left_comm _ (2 : Int), Int.mul_comm b a]
      omega
    have h4 : b * b = 0 := by omega
    have h5 : b = 0 := (Int.mul_eq_zero.mp h4).elim id id
    subst h5
    have h6 : a * a = 0 := by omega
    exact ⟨(Int.mul_eq_zero.mp h6).elim id id, rfl⟩
  · rintro ⟨rfl, rfl⟩
    rfl
def upTo (a : Int) (n : Nat) : List Int := (List.range n).map fun (j : Nat) => a + (j : Int)
theorem upTo_len (a : Int) (n : Nat) : (upTo a n).length = n := by simp [upTo]
theorem upTo_get (a : Int) (n i : Nat) (hi : i < n) : (upTo a n)[i]'(by rw [upTo_len]; exact hi) = a + (i : Int) := by simp [upTo]
theorem upTo_snoc (a : Int) (n : Nat) : upTo a (n + 1) = upTo a n ++ [a + (n : Int)] := by
  unfold upTo
  rw [List.range_succ, List.map_append]
  rfl
theorem markInts_l0 : ∀ (d i : Nat) (ys : List Int), d + i = ys.length → ys.length ≤ 1048576 → ys.take i = upTo 1 i → Ev (fun k => laws_markInt64S.l0 k ys (1 + (i : Int)) (i : Int)) (1 + (ys.length : Int), upTo 1 ys.length) := by
  intro d
  induction d with
  | zero =>
    intro i ys hd hl ht
    obtain rfl : i = ys.length := by omega
    refine Ev.step (fun k => by simp only [laws_markInt64S.l0]; rw [if_neg (by omega)] <;> rfl) ?_
    rw [List.take_length] at ht
    rw [← ht]
    exact Ev.now _
  | succ d ih =>
    intro i ys hd hl ht
    have hi : i < ys.length := by omega
    have := ih (i + 1) (ys.set i (1 + (i : Int))) (by simp; omega) (by simpa using hl) (by
      rw [List.take_succ_eq_append_getElem (by simpa using hi), List.take_set_of_le (Nat.le_refl _), ht, upTo_snoc]
      simp)
    refine Ev.step (fun k => ?_) (by simpa using this)
    simp only [laws_markInt64S.l0]
    rw [if_pos (by omega), if_pos (by omega), w64 (x := 1 + (i : Int) + 1) (by omega) (by omega), w64 (x := (i : Int) + 1) (by omega) (by omega), show 1 + (i : Int) + 1 = 1 + ((i : Int) + 1) by omega]
    rfl
theorem markInts (l : List Int) (hl : l.length ≤ 1048576) : Ev (fun k => laws_markInt64S.f k l 1) (1 + (l.length : Int), upTo 1 l.length) := by
  have := markInts_l0 l.length 0 l (by omega) hl (by simp [upTo])
  unfold laws_markInt64S.f
  simpa using this
theorem heldInts_l0 (n : Nat) (hn : n ≤ 1048576) : ∀ (d i : Nat), d + i = n → Ev (fun k => laws_heldInt64S.l0 k (upTo 1 n) (1 + (i : Int)) (i : Int)) (1 + (n : Int)) := by
  intro d
  induction d with
  | zero =>
    intro i hd
    obtain rfl : i = n := by omega
    exact Ev.step (fun k => by simp only [laws_heldInt64S.l0]; rw [if_neg (by rw [upTo_len]; omega)] <;> rfl) (Ev.now _)
  | succ d ih =>
    intro i hd
    have hi : i < (upTo 1 n).length := by rw [upTo_len]; omega
    have e1 : rd (upTo 1 n) (i : Int) = 1 + (i : Int) := by
      have := upTo_get 1 n i (by omega)
      simp only [rd, Int.toNat_natCast, List.getD_eq_getElem?_getD, List.getElem?_eq_getElem hi, Option.getD_some, this]
    refine Ev.step (fun k => ?_) (ih (i + 1) (by omega))
    simp only [laws_heldInt64S.l0]
    rw [if_pos (by omega), if_pos (by omega), if_pos e1, w64 (x := 1 + (i : Int) + 1) (by omega) (by omega), w64 (x := (i : Int) + 1) (by omega) (by omega), show 1 + (i : Int) + 1 = 1 + ((i : Int) + 1) by omega]
    rfl
theorem heldInts (n : Nat) (hn : n ≤ 1048576) : Ev (fun k => laws_heldInt64S.f k (upTo 1 n) 1) (1 + (n : Int)) := by
  have := heldInts_l0 n hn n 0 (by omega)
  unfold laws_heldInt64S.f
  simpa using this
theorem markCyclo (n : Int) (l : List Int) (hl : l.length ≤ 1048576) : Ev (fun k => laws_markCyclo.f k n l 1) (1 + (l.length : Int), upTo 1 l.length) := Ev.bind (markInts l hl) (Ev.now _)
theorem heldCyclo (m : Int) (n : Nat) (hn : n ≤ 1048576) : Ev (fun k => laws_heldCyclo.f k m (upTo 1 n) 1) (1 + (n : Int)) := by
  unfold laws_heldCyclo.f
  refine Ev.bind (heldInts n hn) ?_
  simp only [if_neg (show ¬ (1 + (n : Int) < 0) by omega)]
  exact Ev.now _
theorem l09Told (a b : Int) : spec_l09Told.f 3 [a, b] = some (if inP 10000 a && inP 10000 b then (3, [a, b], 0) else (0, [], 3)) := by
  unfold spec_l09Told.f
  rw [l09Fits, Option.bind_some]
  split <;> rfl
theorem resultOf (a b : Int) : impl_cubic_result.f a b = some (if inP 10000 a && inP 10000 b then (3, [a, b], 0) else (0, [], 3)) := by
  unfold impl_cubic_result.f impl_cubic_told.f
  rw [Option.bind_some, areSmall _ _ (by omega) (by omega), Option.bind_some, Option.bind_some]
  simp only [List.all_cons, List.all_nil, Bool.and_true]
  split <;> rfl
def isChB (u : S54) : Bool := decide (isCh u.f0 u.f1)
theorem implChosen_l0 (us : List S54) (hl : us.length ≤ 1000) (hb : ∀ u ∈ us, -100000 ≤ u.f0 ∧ u.f0 ≤ 100000) : ∀ (n i : Nat), n + i = us.length → Ev (fun k => impl_cubic_chosen.l0 k us (us.length : Int) (i : Int)) (match (us.drop i).find? isChB with | some u => (u.f0, u.f1) | none => (0, 0)) := by
  intro n
  induction n with
  | zero =>
    intro i hd
    refine Ev.step (fun k => by simp only [impl_cubic_chosen.l0]; rw [if_neg (by omega)] <;> rfl) ?_
    rw [List.drop_of_length_le (by omega)]
    exact Ev.now _
  | succ n ih =>
    intro i hd
    have hi : i < us.length := by omega
    have e1 : rd_T54 us (i : Int) = us[i] := by simp [rd_T54, hi]
    have hu := hb us[i] (List.getElem_mem hi)
    rw [List.drop_eq_getElem_cons hi, List.find?_cons]
    have go : isChB us[i] = false → Ev (fun k => impl_cubic_chosen.l0 k us (us.length : Int) ((i : Int) + 1)) (match (match isChB us[i] with | true => some us[i] | false => (us.drop (i + 1)).find? isChB) with | some u => (u.f0, u.f1) | none => (0, 0)) := by
      intro h
      rw [h]
      exact ih (i + 1) (by omega)
    by_cases c1 : us[i].f0 ≥ 1
    · by_cases c2 : 0 ≤ us[i].f1 ∧ us[i].f1 ≤ us[i].f0 - 1
      · have h : isChB us[i] = true := by unfold isChB; rw [decide_eq_true_eq]; unfold isCh; omega
        rw [h]
        refine Ev.step (fun k => ?_) (Ev.now _)
        simp only [impl_cubic_chosen.l0]
        rw [if_pos (by omega), if_pos (by omega), if_pos (by omega), e1, if_pos c1, w64 (by omega) (by omega), within_, Option.bind_some, if_pos (by simp; omega)]
      · have h : isChB us[i] = false := by unfold isChB; rw [decide_eq_false_iff_not]; unfold isCh; omega
        refine Ev.step (fun k => ?_) (go h)
        simp only [impl_cubic_chosen.l0]
        rw [if_pos (by omega), if_pos (by omega), if_pos (by omega), e1, if_pos c1, w64 (x := us[i].f0 - 1) (by omega) (by omega), within_, Option.bind_some, if_neg (by simp; omega), w64 (by omega) (by omega)]
    · have h : isChB us[i] = false := by unfold isChB; rw [decide_eq_false_iff_not]; unfold isCh; omega
      refine Ev.step (fun k => ?_) (go h)
      simp only [impl_cubic_chosen.l0]
      rw [if_pos (by omega), if_pos (by omega), if_pos (by omega), e1, if_neg c1, w64 (by omega) (by omega)]
theorem implChosen (a b : Int) (ha : -20000 ≤ a ∧ a ≤ 20000) (hb : -20000 ≤ b ∧ b ≤ 20000) (h : ¬ (a = 0 ∧ b = 0)) : Ev (fun k => impl_cubic_chosen.f k a b) (ch a b) := by
  unfold impl_cubic_chosen.f
  refine Ev.bind (assoc9 a b (by omega) (by omega)) ?_
  have := implChosen_l0 [(⟨a, b⟩ : S54), ⟨-a, -b⟩, ⟨-b, a - b⟩, ⟨b, b - a⟩, ⟨b - a, -a⟩, ⟨a - b, a⟩] (by simp) (by
    intro u hu
    simp only [List.mem_cons, List.not_mem_nil, or_false] at hu
    rcases hu with rfl | rfl | rfl | rfl | rfl | rfl <;> dsimp only <;> omega) 6 0 (by simp)
  rw [List.drop_zero] at this
  have e : (match ([(⟨a, b⟩ : S54), ⟨-a, -b⟩, ⟨-b, a - b⟩, ⟨b, b - a⟩, ⟨b - a, -a⟩, ⟨a - b, a⟩]).find? isChB with | some u => (u.f0, u.f1) | none => (0, 0)) = ch a b := by
    have f : ∀ x y : Int, isChB (⟨x, y⟩ : S54) = decide (isCh x y) := fun _ _ => rfl
    rcases ch_cases a b h with ⟨h1, e1⟩ | ⟨h1, e1⟩ | ⟨h1, e1⟩ | ⟨h1, e1⟩ | ⟨h1, e1⟩ | ⟨h1, e1⟩ <;> rw [e1] <;> simp only [List.find?_cons, f]
    · rw [decide_eq_true h1]
    · rw [decide_eq_false (show ¬ isCh a b by unfold isCh at *; omega), decide_eq_false (show ¬ isCh (-a) (-b) by unfold isCh at *; omega), decide_eq_false (show ¬ isCh (-b) (a - b) by unfold isCh at *; omega), decide_eq_false (show ¬ isCh b (b - a) by unfold isCh at *; omega), decide_eq_false (show ¬ isCh (b - a) (-a) by unfold isCh at *; omega), decide_eq_true h1]
    · rw [decide_eq_false (show ¬ isCh a b by unfold isCh at *; omega), decide_eq_false (show ¬ isCh (-a) (-b) by unfold isCh at *; omega), decide_eq_true h1]
    · rw [decide_eq_false (show ¬ isCh a b by unfold isCh at *; omega), decide_eq_true h1]
    · rw [decide_eq_false (show ¬ isCh a b by unfold isCh at *; omega), decide_eq_false (show ¬ isCh (-a) (-b) by unfold isCh at *; omega), decide_eq_false (show ¬ isCh (-b) (a - b) by unfold isCh at *; omega), decide_eq_false (show ¬ isCh b (b - a) by unfold isCh at *; omega), decide_eq_true h1]
    · rw [decide_eq_false (show ¬ isCh a b by unfold isCh at *; omega), decide_eq_false (show ¬ isCh (-a) (-b) by unfold isCh at *; omega), decide_eq_false (show ¬ isCh (-b) (a - b) by unfold isCh at *; omega), decide_eq_true h1]
  rw [e] at this
  exact this
theorem tmod_emod (c q : Int) (hq : 0 < q) : (Int.tmod c q) % q = c % q := by
  rw [Int.tmod_eq_emod]
  split <;> simp
  rw [Int.sub_emod]
  simp [Int.natAbs_of_nonneg (Int.le_of_lt hq)]
theorem around (a m : Int) (hm : 0 < m) (hm2 : m ≤ 1000000000000) : impl_around.f a m = some (a % m) := by
  unfold impl_around.f
  have h1 := Int.tmod_lt_of_pos a hm
  have h2 := Int.lt_tmod_of_pos a hm
  rw [if_neg (by omega), w64 (by omega) (by omega), Int.tmod_eq_emod_of_nonneg (by omega), Int.add_emod_right, tmod_emod _ _ hm]
def acc : List Int → List Int → List Int → List Int
  | many, t :: ts, e :: es => acc (if e ≥ 0 then many.set e.toNat (wrap64 (rd many e + t)) else many) ts es
  | many, _, _ => many
theorem markIntsA_l0 (a : Int) (h0 : 0 ≤ a) (h1 : a ≤ 1000000000000) : ∀ (d i : Nat) (ys : List Int), d + i = ys.length → ys.length ≤ 1048576 → ys.take i = upTo a i → Ev (fun k => laws_markInt64S.l0 k ys (a + (i : Int)) (i : Int)) (a + (ys.length : Int), upTo a ys.length) := by
  intro d
  induction d with
  | zero =>
    intro i ys hd hl ht
    obtain rfl : i = ys.length := by omega
    refine Ev.step (fun k => by simp only [laws_markInt64S.l0]; rw [if_neg (by omega)] <;> rfl) ?_
    rw [List.take_length] at ht
    rw [← ht]
    exact Ev.now _
  | succ d ih =>
    intro i ys hd hl ht
    have hi : i < ys.length := by omega
    have := ih (i + 1) (ys.set i (a + (i : Int))) (by simp; omega) (by simpa using hl) (by
      rw [List.take_succ_eq_append_getElem (by simpa using hi), List.take_set_of_le (Nat.le_refl _), ht, upTo_snoc]
      simp)
    refine Ev.step (fun k => ?_) (by simpa using this)
    simp only [laws_markInt64S.l0]
    rw [if_pos (by omega), if_pos (by omega), w64 (x := a + (i : Int) + 1) (by omega) (by omega), w64 (x := (i : Int) + 1) (by omega) (by omega), show a + (i : Int) + 1 = a + ((i : Int) + 1) by omega]
    rfl
theorem markIntsA (l : List Int) (a : Int) (hl : l.length ≤ 1048576) (h0 : 0 ≤ a) (h1 : a ≤ 1000000000000) : Ev (fun k => laws_markInt64S.f k l a) (a + (l.length : Int), upTo a l.length) := by
  have := markIntsA_l0 a h0 h1 l.length 0 l (by omega) hl (by simp [upTo])
  unfold laws_markInt64S.f
  simpa using this
theorem markCyclo2 (n : Int) (l : List Int) (a : Int) (hl : l.length ≤ 1048576) (h0 : 0 ≤ a) (h1 : a ≤ 1000000000000) : Ev (fun k => laws_markCyclo.f k n l a) (a + (l.length : Int), upTo a l.length) := Ev.bind (markIntsA l a hl h0 h1) (Ev.now _)
def nm (a b : Int) : Int := a * a - a * b + b * b
def dp (a b c d : Int) : Int := a * (c - d) - b * (-d)
def dq (a b c d : Int) : Int := a * (-d) + b * (c - d) - b * (-d)
def q1 (a b c d : Int) : Int := (2 * dp a b c d + nm c d) / (2 * nm c d)
def q2 (a b c d : Int) : Int := (2 * dq a b c d + nm c d) / (2 * nm c d)
def r1 (a b c d : Int) : Int := a - (q1 a b c d * c - q2 a b c d * d)
def r2 (a b c d : Int) : Int := b - (q1 a b c d * d + q2 a b c d * c - q2 a b c d * d)
theorem nm_four (a b : Int) : (2 * a - b) * (2 * a - b) + 3 * (b * b) = 4 * nm a b := by unfold nm; grind
theorem nm_four2 (a b : Int) : (2 * b - a) * (2 * b - a) + 3 * (a * a) = 4 * nm a b := by unfold nm; grind
theorem nm_nn (a b : Int) : 0 ≤ nm a b := by
  have h1 := sq_nn (2 * a - b)
  have h2 := sq_nn b
  have h3 := nm_four a b
  omega
theorem nm_pos {a b : Int} (h : ¬ (a = 0 ∧ b = 0)) : 0 < nm a b := by
  have h1 := nm_nn a b
  have h2 : ¬ nm a b = 0 := fun e => h (norm0.mp e)
  omega
theorem sq_le9 {b : Int} (h : b * b ≤ 400000000) : -20000 ≤ b ∧ b ≤ 20000 := by
  constructor
  · by_cases c : b ≤ -20001
    · have := Int.mul_le_mul (show (20001 : Int) ≤ -b by omega) (show (20001 : Int) ≤ -b by omega) (by omega) (by omega)
      rw [Int.neg_mul_neg] at this
      omega
    · omega
  · by_cases c : 20001 ≤ b
    · have := Int.mul_le_mul c c (by omega) (by omega)
      omega
    · omega
theorem nm_bd {a b : Int} (h : nm a b ≤ 300000000) : (-20000 ≤ a ∧ a ≤ 20000) ∧ (-20000 ≤ b ∧ b ≤ 20000) := by
  have h1 := sq_nn (2 * a - b)
  have h2 := sq_nn (2 * b - a)
  have h3 := nm_four a b
  have h4 := nm_four2 a b
  exact ⟨sq_le9 (by omega), sq_le9 (by omega)⟩
theorem nm_le {a b : Int} (ha : -10000 ≤ a ∧ a ≤ 10000) (hb : -10000 ≤ b ∧ b ≤ 10000) : nm a b ≤ 300000000 := by
  have h1 := mul_bd ha ha
  have h2 := mul_bd ha hb
  have h3 := mul_bd hb hb
  unfold nm
  omega
theorem nm_le2 {a b : Int} (ha : -20000 ≤ a ∧ a ≤ 20000) (hb : -20000 ≤ b ∧ b ≤ 20000) : nm a b ≤ 1200000000 := by
  have h1 := mul_bd ha ha
  have h2 := mul_bd ha hb
  have h3 := mul_bd hb hb
  unfold nm
  omega
theorem dp_bd {a b c d : Int} (ha : -20000 ≤ a ∧ a ≤ 20000) (hb : -20000 ≤ b ∧ b ≤ 20000) (hc : -20000 ≤ c ∧ c ≤ 20000) (hd : -20000 ≤ d ∧ d ≤ 20000) : (-1200000000 ≤ dp a b c d ∧ dp a b c d ≤ 1200000000) ∧ (-1600000000 ≤ dq a b c d ∧ dq a b c d ≤ 1600000000) := by
  have h1 := mul_bd ha (show -40000 ≤ c - d ∧ c - d ≤ 40000 by omega)
  have h2 := mul_bd hb (show -40000 ≤ c - d ∧ c - d ≤ 40000 by omega)
  have h3 := mul_bd ha (show -20000 ≤ -d ∧ -d ≤ 20000 by omega)
  have h4 := mul_bd hb (show -20000 ≤ -d ∧ -d ≤ 20000 by omega)
  unfold dp dq
  omega
theorem ediv_bd {x q B : Int} (hq : 1 ≤ q) (hx : -4400000000 ≤ x ∧ x ≤ 4400000000) : -4400000000 ≤ x / q ∧ x / q ≤ 4400000000 := by
  constructor
  · exact Int.le_ediv_of_mul_le (by omega) (by omega)
  · have := Int.ediv_lt_of_lt_mul (a := x) (b := 4400000001) (show 0 < q by omega) (by omega)
    omega
theorem floor9 (a q : Int) (ha : -1000000000000 ≤ a ∧ a ≤ 1000000000000) (hq : 1 ≤ q) : spec_l09Floor.f a q = some (a / q) := by
  have h0 := Int.mul_ediv_add_emod a q
  have h1 := Int.emod_nonneg a (show q ≠ 0 by omega)
  have h2 := Int.emod_lt_of_pos a (show 0 < q by omega)
  have hl : -1000000000000 ≤ a / q := Int.le_ediv_of_mul_le (by omega) (by omega)
  have hu := Int.ediv_lt_of_lt_mul (a := a) (b := 1000000000001) (show 0 < q by omega) (by omega)
  unfold spec_l09Floor.f
  rw [if_neg (by omega), Int.tdiv_eq_ediv, Int.tmod_eq_emod]
  by_cases c : 0 ≤ a ∨ q ∣ a
  · rw [if_pos c, if_pos c, if_neg (by omega), w64 (by omega) (by omega)]
    rw [Int.add_zero]
  · rw [if_neg c, if_neg c, Int.sign_eq_one_of_pos (by omega)]
    have h3 : ¬ a % q = 0 := fun e => c (Or.inr (Int.dvd_of_emod_eq_zero e))
    rw [if_pos (by omega), w64 (x := a / q + 1) (by omega) (by omega), w64 (by omega) (by omega), Int.add_sub_cancel]
theorem down9 (a q : Int) (ha : -1000000000000 ≤ a ∧ a ≤ 1000000000000) (hq : 1 ≤ q) (hq2 : q ≤ 1000000000000) : impl_down.f a q = some (a / q) := by
  have h0 := Int.mul_ediv_add_emod a q
  have h1 := Int.emod_nonneg a (show q ≠ 0 by omega)
  have h2 := Int.emod_lt_of_pos a (show 0 < q by omega)
  have hl : -1000000000000 ≤ a / q := Int.le_ediv_of_mul_le (by omega) (by omega)
  have hu := Int.ediv_lt_of_lt_mul (a := a) (b := 1000000000001) (show 0 < q by omega) (by omega)
  unfold impl_down.f
  rw [around a q (by omega) hq2, Option.bind_some, if_neg (by omega), w64 (x := a - a % q) (by omega) (by omega), show a - a % q = q * (a / q) by omega, Int.mul_tdiv_cancel_left _ (by omega), w64 (by omega) (by omega)]
theorem times9 (n m x y c d : Int) (hx : -4400000000 ≤ x ∧ x ≤ 4400000000) (hy : -4400000000 ≤ y ∧ y ≤ 4400000000) (hc : -40000 ≤ c ∧ c ≤ 40000) (hd : -40000 ≤ d ∧ d ≤ 40000) : spec_l09Times.f n [x, y] m [c, d] = some (3, [x * c - y * d, x * d + y * c - y * d]) := by
  have h1 := mul_bd hx hc
  have h2 := mul_bd hy hd
  have h3 := mul_bd hx hd
  have h4 := mul_bd hy hc
  unfold spec_l09Times.f spec_l09Of.f
  rw [if_pos (by simp), if_pos (by simp), if_pos (by simp), if_pos (by simp), Option.bind_some]
  simp only [rd, Int.toNat_zero, Int.toNat_one, List.getD_cons_zero, List.getD_cons_succ]
  rw [w64 (x := x * c) (by omega) (by omega), w64 (x := y * d) (by omega) (by omega), w64 (x := x * d) (by omega) (by omega), w64 (x := y * c) (by omega) (by omega), w64 (x := x * c - y * d) (by omega) (by omega), w64 (x := x * d + y * c) (by omega) (by omega), w64 (x := x * d + y * c - y * d) (by omega) (by omega)]
theorem itimes9 (x y c d : Int) (hx : -4400000000 ≤ x ∧ x ≤ 4400000000) (hy : -4400000000 ≤ y ∧ y ≤ 4400000000) (hc : -40000 ≤ c ∧ c ≤ 40000) (hd : -40000 ≤ d ∧ d ≤ 40000) : impl_cubic_times.f x y c d = some (x * c - y * d, x * d + y * c - y * d) := by
  have h1 := mul_bd hx hc
  have h2 := mul_bd hy hd
  have h3 := mul_bd hx hd
  have h4 := mul_bd hy hc
  unfold impl_cubic_times.f
  rw [w64 (x := x * c) (by omega) (by omega), w64 (x := y * d) (by omega) (by omega), w64 (x := x * d) (by omega) (by omega), w64 (x := y * c) (by omega) (by omega), w64 (x := x * c - y * d) (by omega) (by omega), w64 (x := x * d + y * c) (by omega) (by omega), w64 (x := x * d + y * c - y * d) (by omega) (by omega)]
theorem inorm9 (a b : Int) (ha : -20000 ≤ a ∧ a ≤ 20000) (hb : -20000 ≤ b ∧ b ≤ 20000) : impl_cubic_norm.f a b = some (nm a b) := by
  have h1 := mul_bd ha ha
  have h2 := mul_bd ha hb
  have h3 := mul_bd hb hb
  unfold impl_cubic_norm.f nm
  rw [w64 (x := a * a) (by omega) (by omega), w64 (x := a * b) (by omega) (by omega), w64 (x := b * b) (by omega) (by omega), w64 (x := a * a - a * b) (by omega) (by omega), w64 (by omega) (by omega)]
theorem q_bd {a b c d : Int} (ha : -20000 ≤ a ∧ a ≤ 20000) (hb : -20000 ≤ b ∧ b ≤ 20000) (hc : -20000 ≤ c ∧ c ≤ 20000) (hd : -20000 ≤ d ∧ d ≤ 20000) (h : ¬ (c = 0 ∧ d = 0)) : (-4400000000 ≤ q1 a b c d ∧ q1 a b c d ≤ 4400000000) ∧ (-4400000000 ≤ q2 a b c d ∧ q2 a b c d ≤ 4400000000) := by
  have h1 := nm_pos h
  have h2 := nm_le2 hc hd
  have h3 := dp_bd ha hb hc hd
  exact ⟨ediv_bd (B := 0) (by omega) (by omega), ediv_bd (B := 0) (by omega) (by omega)⟩
theorem divide9 (n m a b c d : Int) (ha : -20000 ≤ a ∧ a ≤ 20000) (hb : -20000 ≤ b ∧ b ≤ 20000) (hc : -20000 ≤ c ∧ c ≤ 20000) (hd : -20000 ≤ d ∧ d ≤ 20000) (h : ¬ (c = 0 ∧ d = 0)) : spec_l09Divide.f n [a, b] m [c, d] = some (3, [q1 a b c d, q2 a b c d], 3, [r1 a b c d, r2 a b c d]) := by
  have h1 := nm_pos h
  have h2 := nm_le2 hc hd
  have h3 := dp_bd ha hb hc hd
  have h4 := q_bd ha hb hc hd h
  have m1 := mul_bd h4.1 hc
  have m2 := mul_bd h4.2 hd
  have m3 := mul_bd h4.1 hd
  have m4 := mul_bd h4.2 hc
  unfold spec_l09Divide.f
  rw [l09Norm m c d (by omega) (by omega), Option.bind_some, if_pos (by simp), if_pos (by simp)]
  simp only [rd, Int.toNat_zero, Int.toNat_one, List.getD_cons_zero, List.getD_cons_succ, spec_l09Of.f, Option.bind_some]
  rw [w64 (x := c - d) (by omega) (by omega), w64 (x := -d) (by omega) (by omega), times9 n 3 a b (c - d) (-d) (by omega) (by omega) (by omega) (by omega), Option.bind_some, if_pos (by simp)]
  simp only [List.getD_cons_zero, List.getD_cons_succ]
  rw [show c * c - c * d + d * d = nm c d from rfl, show a * (c - d) - b * (-d) = dp a b c d from rfl, show a * (-d) + b * (c - d) - b * (-d) = dq a b c d from rfl]
  rw [w64 (x := 2 * dp a b c d) (by omega) (by omega), w64 (x := 2 * dp a b c d + nm c d) (by omega) (by omega), w64 (x := 2 * nm c d) (by omega) (by omega), floor9 _ _ (by omega) (by omega), Option.bind_some, if_pos (by simp)]
  rw [w64 (x := 2 * dq a b c d) (by omega) (by omega), w64 (x := 2 * dq a b c d + nm c d) (by omega) (by omega), floor9 _ _ (by omega) (by omega), Option.bind_some]
  rw [show (2 * dp a b c d + nm c d) / (2 * nm c d) = q1 a b c d from rfl, show (2 * dq a b c d + nm c d) / (2 * nm c d) = q2 a b c d from rfl]
  rw [times9 3 m _ _ c d h4.1 h4.2 (by omega) (by omega), Option.bind_some, if_pos (by simp), if_pos (by simp), if_pos (by simp), if_pos (by simp)]
  simp only [List.getD_cons_zero, List.getD_cons_succ]
  rw [w64 (x := a - (q1 a b c d * c - q2 a b c d * d)) (by omega) (by omega), w64 (x := b - (q1 a b c d * d + q2 a b c d * c - q2 a b c d * d)) (by omega) (by omega)]
  rfl
theorem over9 (a b c d : Int) (ha : -20000 ≤ a ∧ a ≤ 20000) (hb : -20000 ≤ b ∧ b ≤ 20000) (hc : -20000 ≤ c ∧ c ≤ 20000) (hd : -20000 ≤ d ∧ d ≤ 20000) (h : ¬ (c = 0 ∧ d = 0)) : impl_cubic_over.f a b c d = some (q1 a b c d, q2 a b c d, r1 a b c d, r2 a b c d) := by
  have h1 := nm_pos h
  have h2 := nm_le2 hc hd
  have h3 := dp_bd ha hb hc hd
  have h4 := q_bd ha hb hc hd h
  have m1 := mul_bd h4.1 hc
  have m2 := mul_bd h4.2 hd
  have m3 := mul_bd h4.1 hd
  have m4 := mul_bd h4.2 hc
  unfold impl_cubic_over.f impl_cubic_conjugate.f
  rw [inorm9 c d hc hd, Option.bind_some, Option.bind_some]
  simp only []
  rw [w64 (x := c - d) (by omega) (by omega), w64 (x := -d) (by omega) (by omega), itimes9 a b (c - d) (-d) (by omega) (by omega) (by omega) (by omega), Option.bind_some]
  simp only []
  rw [show a * (c - d) - b * (-d) = dp a b c d from rfl, show a * (-d) + b * (c - d) - b * (-d) = dq a b c d from rfl]
  rw [w64 (x := 2 * dp a b c d) (by omega) (by omega), w64 (x := 2 * dp a b c d + nm c d) (by omega) (by omega), w64 (x := 2 * nm c d) (by omega) (by omega), down9 _ _ (by omega) (by omega) (by omega), Option.bind_some]
  rw [w64 (x := 2 * dq a b c d) (by omega) (by omega), w64 (x := 2 * dq a b c d + nm c d) (by omega) (by omega), down9 _ _ (by omega) (by omega) (by omega), Option.bind_some]
  rw [show (2 * dp a b c d + nm c d) / (2 * nm c d) = q1 a b c d from rfl, show (2 * dq a b c d + nm c d) / (2 * nm c d) = q2 a b c d from rfl]
  rw [itimes9 _ _ c d h4.1 h4.2 (by omega) (by omega), Option.bind_some]
  unfold impl_cubic_less.f
  rw [Option.bind_some]
  simp only []
  rw [w64 (x := a - (q1 a b c d * c - q2 a b c d * d)) (by omega) (by omega), w64 (x := b - (q1 a b c d * d + q2 a b c d * c - q2 a b c d * d)) (by omega) (by omega)]
  rfl
theorem nm_rest {a b c d : Int} (h : ¬ (c = 0 ∧ d = 0)) : nm (r1 a b c d) (r2 a b c d) < nm c d := by
  have h1 := nm_pos h
  have e1 := Int.mul_ediv_add_emod (2 * dp a b c d + nm c d) (2 * nm c d)
  have e2 := Int.emod_nonneg (2 * dp a b c d + nm c d) (show 2 * nm c d ≠ 0 by omega)
  have e3 := Int.emod_lt_of_pos (2 * dp a b c d + nm c d) (show 0 < 2 * nm c d by omega)
  have f1 := Int.mul_ediv_add_emod (2 * dq a b c d + nm c d) (2 * nm c d)
  have f2 := Int.emod_nonneg (2 * dq a b c d + nm c d) (show 2 * nm c d ≠ 0 by omega)
  have f3 := Int.emod_lt_of_pos (2 * dq a b c d + nm c d) (show 0 < 2 * nm c d by omega)
  rw [show (2 * dp a b c d + nm c d) / (2 * nm c d) = q1 a b c d from rfl, Int.mul_assoc] at e1
  rw [show (2 * dq a b c d + nm c d) / (2 * nm c d) = q2 a b c d from rfl, Int.mul_assoc] at f1
  obtain ⟨s, hs⟩ : ∃ s, s = dp a b c d - nm c d * q1 a b c d := ⟨_, rfl⟩
  obtain ⟨t, ht⟩ : ∃ t, t = dq a b c d - nm c d * q2 a b c d := ⟨_, rfl⟩
  have bs : -nm c d ≤ 2 * s ∧ 2 * s ≤ nm c d := by omega
  have bt : -nm c d ≤ 2 * t ∧ 2 * t ≤ nm c d := by omega
  have k1 : r1 a b c d * (c - d) - r2 a b c d * (-d) = s := by rw [hs]; unfold r1 r2 dp nm; grind
  have k2 : r1 a b c d * (-d) + r2 a b c d * (c - d) - r2 a b c d * (-d) = t := by rw [ht]; unfold r1 r2 dq nm; grind
  have k3 : nm (r1 a b c d) (r2 a b c d) * nm c d = s * s - s * t + t * t := by rw [← k1, ← k2]; unfold nm; grind
  have g1 := mul_bd bs bs
  have g2 := mul_bd bs bt
  have g3 := mul_bd bt bt
  have g4 : (2 * s) * (2 * s) - (2 * s) * (2 * t) + (2 * t) * (2 * t) = 4 * (nm (r1 a b c d) (r2 a b c d) * nm c d) := by rw [k3]; grind
  have g5 : nm (r1 a b c d) (r2 a b c d) * nm c d < nm c d * nm c d := by
    have := Int.mul_pos h1 h1
    omega
  exact Int.lt_of_mul_lt_mul_right g5 (by omega)
def tell9 (a b : Int) : Int × List Int × Int := if inP 10000 a && inP 10000 b then (3, [a, b], 0) else (0, [], 3)
theorem tell9_len (a b : Int) : (tell9 a b).2.1.length ≤ 1048576 := by unfold tell9; split <;> simp
theorem gcd9 : ∀ (m : Nat) (a b c d : Int), nm c d < m → nm a b ≤ 300000000 → nm c d ≤ 300000000 → ¬ (a = 0 ∧ b = 0 ∧ c = 0 ∧ d = 0) →
    ∃ g h : Int, (∀ n n' : Int, Ev (fun k => spec_l09Gcd.l0 k n [a, b] n' [c, d]) (3, [(ch g h).1, (ch g h).2])) ∧ Ev (fun k => impl_GcdOfCubics.l0 k a b c d) (tell9 (ch g h).1 (ch g h).2) := by
  intro m
  induction m with
  | zero =>
    intro a b c d hm _ _ _
    have := nm_nn c d
    omega
  | succ m ih =>
    intro a b c d hm ha hc h0
    have ba := nm_bd ha
    have bc := nm_bd hc
    by_cases z : c = 0 ∧ d = 0
    · obtain ⟨rfl, rfl⟩ := z
      have h1 : ¬ (a = 0 ∧ b = 0) := by omega
      refine ⟨a, b, fun n n' => ?_, ?_⟩
      · refine Ev.step (f := fun k => (spec_l09Norm.f n' [0, 0]).bind fun t => if t = 0 then ((spec_l09Chosen.f k n [a, b]).bind fun bt => (some (bt.1, bt.2))) else ((spec_l09Divide.f n [a, b] n' [0, 0]).bind fun bt => (spec_l09Gcd.l0 k n' [0, 0] bt.2.2.1 bt.2.2.2))) (fun k => by simp only [spec_l09Gcd.l0]) ?_
        refine ev_bind_const (l09Norm n' 0 0 (by omega) (by omega)) ?_
        simp only [Int.mul_zero, Int.sub_zero, Int.add_zero, if_true]
        exact Ev.bind (chosen9 n a b ba.1 ba.2 h1) (Ev.now _)
      · refine Ev.step (f := fun k => (impl_cubic_chosen.f k a b).bind fun bt => ((impl_cubic_result.f bt.1 bt.2).bind fun bt2 => (some (bt2.1, bt2.2.1, bt2.2.2)))) (fun k => ?_) ?_
        · simp only [impl_GcdOfCubics.l0]
          rw [if_neg (by decide), if_neg (by simp; omega)]
        · refine Ev.bind (implChosen a b ba.1 ba.2 h1) ?_
          simp only [resultOf, Option.bind_some]
          exact Ev.now _
    · have hr := nm_rest (a := a) (b := b) z
      obtain ⟨g, h, hs, hi⟩ := ih c d (r1 a b c d) (r2 a b c d) (by omega) hc (by omega) (by omega)
      refine ⟨g, h, fun n n' => ?_, ?_⟩
      · refine Ev.step (f := fun k => (spec_l09Norm.f n' [c, d]).bind fun t => if t = 0 then ((spec_l09Chosen.f k n [a, b]).bind fun bt => (some (bt.1, bt.2))) else ((spec_l09Divide.f n [a, b] n' [c, d]).bind fun bt => (spec_l09Gcd.l0 k n' [c, d] bt.2.2.1 bt.2.2.2))) (fun k => by simp only [spec_l09Gcd.l0]) ?_
        refine ev_bind_const (l09Norm n' c d (by omega) (by omega)) ?_
        simp only [if_neg (show ¬ (c * c - c * d + d * d = 0) from fun e => z (norm0.mp e)), divide9 n n' a b c d ba.1 ba.2 bc.1 bc.2 z, Option.bind_some]
        exact hs n' 3
      · refine Ev.step (f := fun k => impl_GcdOfCubics.l0 k c d (r1 a b c d) (r2 a b c d)) (fun k => ?_) hi
        simp only [impl_GcdOfCubics.l0]
        rw [if_pos (by simp; omega), over9 a b c d ba.1 ba.2 bc.1 bc.2 z, Option.bind_some]
theorem same_out (n : Int) (l : List Int) (n2 : Int) (l2 : List Int) (hl : l.length ≤ 1048576) (hl2 : l2.length ≤ 1048576) : ∃ o : Int × List Int × Int, Ev (fun k => spec_GcdOfCubics.f k n l n2 l2) o ∧ Ev (fun k => impl_GcdOfCubics.f k n l n2 l2) o ∧ o.2.1.length ≤ 1048576 := by
  have hcode := l09Code [⟨n, l⟩, ⟨n2, l2⟩] (by simp [hl, hl2]) (by simp)
  have hof := cubicsOf [⟨n, l⟩, ⟨n2, l2⟩] (by simp)
  simp only [List.all_cons, List.all_nil, Bool.and_true, is9s] at hcode hof
  cases h : is9 n l && is9 n2 l2 with
  | false =>
    refine ⟨(0, [], 1), ?_, ?_, by simp⟩
    · unfold spec_GcdOfCubics.f
      refine Ev.bind hcode ?_
      simp only [h, Bool.false_eq_true, if_false, if_neg (show ¬ ((1 : Int) = 0) by decide)]
      refine Ev.step (fun k => by simp only [spec_GcdOfCubics.j0, Bool.false_eq_true, if_false] <;> rfl) ?_
      refine Ev.step (fun k => by simp only [spec_GcdOfCubics.j1, if_neg (show ¬ ((1 : Int) = 0) by decide)] <;> rfl) ?_
      exact Ev.now _
    · unfold impl_GcdOfCubics.f
      refine Ev.bind hof ?_
      simp only [h, Bool.false_eq_true, if_false]
      exact Ev.now _
  | true =>
    have h2 := h
    rw [Bool.and_eq_true] at h2
    obtain ⟨rfl, a, b, rfl, ha⟩ := is9_form h2.1
    obtain ⟨rfl, c, d, rfl, hc⟩ := is9_form h2.2
    have na := nm_le (a := a) (b := b) (by omega) (by omega)
    have nc := nm_le (a := c) (b := d) (by omega) (by omega)
    have impl_ : ∀ r : Int × List Int × Int, Ev (fun k => impl_GcdOfCubics.l0 k a b c d) r → Ev (fun k => impl_GcdOfCubics.f k 3 [a, b] 3 [c, d]) r := by
      intro r H
      unfold impl_GcdOfCubics.f
      refine Ev.bind hof ?_
      simp only [h, if_true, List.map_cons, List.map_nil, pr9, rd, rd_T54, Int.toNat_zero, Int.toNat_one, List.getD_cons_zero, List.getD_cons_succ]
      simp only [if_pos (show (0 : Int) < (([⟨a, b⟩, ⟨c, d⟩] : List S54).length : Int) by simp), if_pos (show (1 : Int) < (([⟨a, b⟩, ⟨c, d⟩] : List S54).length : Int) by simp)]
      exact H
    have spec_ : ∀ (code : Int) (r : Int × List Int × Int), (code = if (a = 0 ∧ b = 0) ∧ (c = 0 ∧ d = 0) then 5 else 0) → Ev (fun k => spec_GcdOfCubics.j1 k code 3 [a, b] 3 [c, d]) r → Ev (fun k => spec_GcdOfCubics.f k 3 [a, b] 3 [c, d]) r := by
      intro code r hcd H
      unfold spec_GcdOfCubics.f
      refine Ev.bind hcode ?_
      simp only [h, if_true]
      refine ev_bind_const (l09Norm 3 a b (by omega) (by omega)) ?_
      by_cases z : a = 0 ∧ b = 0
      · simp only [if_pos (norm0.mpr z)]
        refine ev_bind_const (l09Norm 3 c d (by omega) (by omega)) ?_
        by_cases z2 : c = 0 ∧ d = 0
        · rw [if_pos ⟨z, z2⟩] at hcd
          subst hcd
          rw [show (c * c - c * d + d * d == 0) = true from beq_iff_eq.mpr (norm0.mpr z2)]
          exact Ev.step (fun k => by simp only [spec_GcdOfCubics.j0, if_true] <;> rfl) H
        · rw [if_neg (fun e => z2 e.2)] at hcd
          subst hcd
          rw [show (c * c - c * d + d * d == 0) = false from beq_eq_false_iff_ne.mpr (fun e => z2 (norm0.mp e))]
          exact Ev.step (fun k => by simp only [spec_GcdOfCubics.j0, Bool.false_eq_true, if_false] <;> rfl) H
      · rw [if_neg (fun e => z e.1)] at hcd
        subst hcd
        simp only [if_neg (show ¬ (a * a - a * b + b * b = 0) from fun e => z (norm0.mp e))]
        exact Ev.step (fun k => by simp only [spec_GcdOfCubics.j0, Bool.false_eq_true, if_false] <;> rfl) H
    by_cases z : (a = 0 ∧ b = 0) ∧ (c = 0 ∧ d = 0)
    · refine ⟨(0, [], 5), spec_ 5 _ (by rw [if_pos z]) ?_, impl_ _ ?_, by simp⟩
      · refine Ev.step (fun k => by simp only [spec_GcdOfCubics.j1, if_neg (show ¬ ((5 : Int) = 0) by decide)] <;> rfl) ?_
        exact Ev.now _
      · obtain ⟨⟨rfl, rfl⟩, rfl, rfl⟩ := z
        refine Ev.step (fun k => ?_) (Ev.now _)
        simp only [impl_GcdOfCubics.l0]
        rw [if_neg (by decide), if_pos (by decide)]
    · obtain ⟨g, e, hs, hi⟩ := gcd9 ((nm c d).toNat + 1) a b c d (by have := nm_nn c d; omega) na nc (by omega)
      refine ⟨tell9 (ch g e).1 (ch g e).2, spec_ 0 _ (by rw [if_neg z]) ?_, impl_ _ hi, tell9_len _ _⟩
      refine Ev.step (f := fun k => (spec_l09Gcd.f k 3 [a, b] 3 [c, d]).bind fun bt => ((spec_l09Told.f bt.1 bt.2).bind fun bt2 => (some (bt2.1, bt2.2.1, bt2.2.2)))) (fun k => by simp only [spec_GcdOfCubics.j1, if_true]) ?_
      refine Ev.bind (hs 3 3) ?_
      simp only [l09Told, Option.bind_some]
      exact Ev.now _
theorem FnExactGcdOfCubics : laws_FnExactGcdOfCubics.Pure := by
  intro n l n2 l2 _ hm _ _ hm' _
  apply Ev.rounds
  have hm2 : l.length ≤ 9223372036854775807 := by simpa [maxLen] using hm
  have hm3 : l2.length ≤ 9223372036854775807 := by simpa [maxLen] using hm'
  unfold laws_FnExactGcdOfCubics.f laws_szCyclo.f laws_szInt64S.f
  rw [w64 (x := (1048576 : Int) - (l.length : Int)) (by omega) (by omega)]
  by_cases h1 : (1048576 : Int) - (l.length : Int) < 0
  · simp only [if_pos h1, Option.bind_some]
    exact Ev.now _
  simp only [if_neg h1, Option.bind_some]
  rw [w64 (x := (1048576 : Int) - (l.length : Int) - (l2.length : Int)) (by omega) (by omega)]
  by_cases h2 : (1048576 : Int) - (l.length : Int) - (l2.length : Int) < 0
  · simp only [if_pos h2, Option.bind_some]
    exact Ev.now _
  simp only [if_neg h2, Option.bind_some]
  have hl : l.length ≤ 1048576 := by omega
  have hl2 : l2.length ≤ 1048576 := by omega
  obtain ⟨⟨n', l', c⟩, hs, hi, hl'⟩ := same_out n l n2 l2 hl hl2
  have a1 := toCyclo n l hl
  have a2 := toCyclo n2 l2 hl2
  refine Ev.bind a1 (Ev.bind a2 (Ev.bind hs (Ev.bind a1 (Ev.bind a2 (Ev.bind hi (Ev.bind (eqCyclo _ _ _ _ hl') ?_))))))
  simp only [and_self, decide_true, if_true, bne_self_eq_false]
  refine Ev.step (fun k => by simp only [laws_FnExactGcdOfCubics.j0, Bool.false_eq_true, if_false] <;> rfl) ?_
  refine Ev.bind a1 (Ev.bind (eqCyclo _ _ _ _ hl) ?_)
  simp only [and_self, decide_true, if_true]
  refine Ev.bind a2 (Ev.bind (eqCyclo _ _ _ _ hl2) ?_)
  simp only [and_self, decide_true, if_true]
  refine Ev.bind (markCyclo n l hl) (Ev.bind (markCyclo2 n2 l2 (1 + (l.length : Int)) hl2 (by omega) (by omega)) ?_)
  simp only [if_neg (show ¬ (1 + (l.length : Int) + (l2.length : Int) < 0) by omega)]
  refine Ev.bind (eqCyclo _ _ _ _ hl') ?_
  simp only [and_self, decide_true, if_true, bne_self_eq_false]
  refine Ev.step (fun k => by simp only [laws_FnExactGcdOfCubics.j1, Bool.false_eq_true, if_false] <;> rfl) ?_
  refine Ev.bind (markCyclo n' l' hl') (Ev.bind (heldCyclo n' l'.length hl') ?_)
  simp only [if_neg (show ¬ (1 + (l'.length : Int) < 0) by omega), if_true]
  refine Ev.bind a1 (Ev.bind a2 (Ev.bind hi (Ev.bind (eqCyclo _ _ _ _ hl') ?_)))
  simp only [and_self, decide_true, if_true, bne_self_eq_false]
  refine Ev.step (fun k => by simp only [laws_FnExactGcdOfCubics.j2, Bool.false_eq_true, if_false] <;> rfl) ?_
  refine Ev.bind (heldCyclo n' l'.length hl') ?_
  simp only [if_neg (show ¬ (1 + (l'.length : Int) < 0) by omega), if_true]
  exact Ev.now _
end Go.Proofs.Ytejpliodhnglbaa.Pure
