/- The program's PrimesOfNorm returns what the reference's returns, for all arguments; no condition. -/
import Derived.Test.YtejpliodhnglbaaPFnExactPrimesOfNormx5
import Derived.OpenShut
namespace Go.Proofs.Ytejpliodhnglbaa.Pure
open Go.RowKit Go.Proofs.Ytejpliodhnglbaa.PFnExactPrimesOfNorm Go.Proofs.YtejpliodhnglbaaW.PrintWords Go.Proofs.YtejpliodhnglbaaW.PrintLast Go.Proofs.YtejpliodhnglbaaW.PrintMore
set_option linter.unusedVariables false
set_option linter.unusedSimpArgs false
theorem w64 {x : Int} (h0 : -9223372036854775808 ≤ x) (h1 : x ≤ 9223372036854775807) : wrap64 x = x := by unfold wrap64; omega
theorem ev_bind_const {α β : Type} {o : Option α} {a : α} {f : Nat → α → Option β} {r : β} (h : o = some a) (k : Ev (fun n => f n a) r) : Ev (fun n => o.bind (f n)) r := by
  subst h; exact k
theorem eqInts_l0 (l m : List Int) (hl : l.length ≤ 1048576) (hm : m.length = l.length) : ∀ (d i : Nat), d + i = l.length → Ev (fun k => laws_eqInt64S.l0 k l m (i : Int)) (decide (l.drop i = m.drop i)) := by
  intro d
  induction d with
  | zero =>
    intro i hd
    refine Ev.step (f := fun _ => some (decide (l.drop i = m.drop i))) (fun k => ?_) (Ev.now _)
    simp only [laws_eqInt64S.l0]
    rw [if_neg (by omega), List.drop_of_length_le (by omega), List.drop_of_length_le (by omega)]
    simp
  | succ d ih =>
    intro i hd
    have hi : i < l.length := by omega
    have hi2 : i < m.length := by omega
    have e1 : rd l (i : Int) = l[i] := by simp [rd, hi]
    have e2 : rd m (i : Int) = m[i] := by simp [rd, hi2]
    by_cases he : l[i] = m[i]
    · refine Ev.step (f := fun k => laws_eqInt64S.l0 k l m ((i + 1 : Nat) : Int)) (fun k => ?_) ?_
      · simp only [laws_eqInt64S.l0]
        rw [if_pos (by omega), if_pos (by omega), if_pos (by omega), e1, e2, if_pos he, w64 (by omega) (by omega)]
        rfl
      · have e : decide (l.drop i = m.drop i) = decide (l.drop (i + 1) = m.drop (i + 1)) := by
          rw [List.drop_eq_getElem_cons hi, List.drop_eq_getElem_cons hi2]
          simp only [List.cons.injEq, he, true_and]
        rw [e]
        exact ih (i + 1) (by omega)
    · refine Ev.step (f := fun _ => some false) (fun k => ?_) ?_
      · simp only [laws_eqInt64S.l0]
        rw [if_pos (by omega), if_pos (by omega), if_pos (by omega), e1, e2, if_neg he]
      · have e : decide (l.drop i = m.drop i) = false := by
          rw [List.drop_eq_getElem_cons hi, List.drop_eq_getElem_cons hi2]
          simp only [List.cons.injEq, he, false_and, decide_false]
        rw [e]
        exact Ev.now _
theorem eqInts (l m : List Int) (hl : l.length ≤ 1048576) : Ev (fun k => laws_eqInt64S.f k l m) (decide (l = m)) := by
  by_cases h : m.length = l.length
  · have := eqInts_l0 l m hl h l.length 0 (by omega)
    refine Ev.congr (fun k => ?_) (by simpa using this)
    unfold laws_eqInt64S.f
    rw [if_pos (by omega)]
  · have hne : l ≠ m := fun e => h (by rw [e])
    rw [decide_eq_false hne]
    refine Ev.congr (fun k => ?_) (Ev.now _)
    unfold laws_eqInt64S.f
    rw [if_neg (by omega)]
theorem eqCyclo (n n' : Int) (l l' : List Int) (hl : l.length ≤ 1048576) : Ev (fun k => laws_eqCyclo.f k n l n' l') (decide (n = n' ∧ l = l')) := by
  unfold laws_eqCyclo.f
  by_cases h : n = n'
  · simp only [if_pos h]
    refine Ev.bind (eqInts l l' hl) ?_
    by_cases h2 : l = l' <;> simp [h, h2] <;> exact Ev.now _
  · simp only [if_neg h]
    simp [h]
    exact Ev.now _
theorem l01In (a b c : Int) : spec_l01In.f a b c = some (decide (b ≤ a) && decide (a ≤ c)) := by
  unfold spec_l01In.f
  by_cases h : a ≥ b
  · rw [if_pos h]; simp [h]
  · rw [if_neg h]; simp [h]
theorem within_ (a b c : Int) : impl_within.f a b c = some (decide (b ≤ a) && decide (a ≤ c)) := by
  unfold impl_within.f
  by_cases h : b ≤ a
  · rw [if_pos h]; simp [h]
  · rw [if_neg h]; simp [h]
theorem mul_bd {a b A B : Int} (ha : -A ≤ a ∧ a ≤ A) (hb : -B ≤ b ∧ b ≤ B) : -(A * B) ≤ a * b ∧ a * b ≤ A * B := by
  have h : (a * b).natAbs ≤ A.toNat * B.toNat := by rw [Int.natAbs_mul]; exact Nat.mul_le_mul (by omega) (by omega)
  have h2 : ((A.toNat * B.toNat : Nat) : Int) = A * B := by rw [Int.natCast_mul, Int.toNat_of_nonneg (by omega), Int.toNat_of_nonneg (by omega)]
  omega
theorem l09Norm (n a b : Int) (ha : -100000 ≤ a ∧ a ≤ 100000) (hb : -100000 ≤ b ∧ b ≤ 100000) : spec_l09Norm.f n [a, b] = some (a * a - a * b + b * b) := by
  have h1 := mul_bd ha ha
  have h2 := mul_bd ha hb
  have h3 := mul_bd hb hb
  unfold spec_l09Norm.f
  rw [if_pos (by simp), if_pos (by simp)]
  simp only [rd, Int.toNat_zero, Int.toNat_one, List.getD_cons_zero, List.getD_cons_succ]
  rw [w64 (x := a * a) (by omega) (by omega), w64 (x := a * b) (by omega) (by omega), w64 (x := b * b) (by omega) (by omega), w64 (x := a * a - a * b) (by omega) (by omega), w64 (by omega) (by omega)]
def tm (a b : Int) (u : S54) : S54 := ⟨wrap64 ((wrap64 (a * u.f0)) - (wrap64 (b * u.f1))), wrap64 ((wrap64 ((wrap64 (a * u.f1)) + (wrap64 (b * u.f0)))) - (wrap64 (b * u.f1)))⟩
theorem sq_nn (a : Int) : 0 ≤ a * a := by
  rw [← Int.natAbs_mul_self]
  exact Int.natCast_nonneg _
def acc : List Int → List Int → List Int → List Int
  | many, t :: ts, e :: es => acc (if e ≥ 0 then many.set e.toNat (wrap64 (rd many e + t)) else many) ts es
  | many, _, _ => many
theorem nMark_len : ∀ (l : List Int) (a : Int), (nMark l a).2.length = l.length
  | [], _ => rfl
  | _ :: l, a => by simp [nMark, nMark_len l]
theorem nMark_fst : ∀ (l : List Int) (a : Int), 0 ≤ a → a + l.length ≤ 9223372036854775807 → (nMark l a).1 = a + l.length
  | [], a, _, _ => by simp [nMark]
  | _ :: l, a, h0, h1 => by
    simp only [List.length_cons] at h1
    simp only [nMark]
    rw [w64 (x := a + 1) (by omega) (by omega), nMark_fst l (a + 1) (by omega) (by omega)]
    simp only [List.length_cons]
    omega
theorem nHeld_l0 : ∀ (rest done : List Int) (a : Int), done.length + rest.length ≤ 1048576 → Ev (fun k => laws_heldInt64S.l0 k (done ++ (nMark rest a).2) a (done.length : Int)) (nMark rest a).1
  | [], done, a, h => by
    refine Ev.step (f := fun _ => some a) (fun k => ?_) (Ev.now _)
    simp only [laws_heldInt64S.l0, nMark, List.append_nil]
    rw [if_neg (by omega)]
  | x :: rest, done, a, h => by
    simp only [List.length_cons] at h
    have ih := nHeld_l0 rest (done ++ [a]) (wrap64 (a + 1)) (by simp; omega)
    refine Ev.step (f := fun k => laws_heldInt64S.l0 k ((done ++ [a]) ++ (nMark rest (wrap64 (a + 1))).2) (wrap64 (a + 1)) ((done ++ [a]).length : Int)) (fun k => ?_) ?_
    · simp only [laws_heldInt64S.l0, nMark]
      have hl := nMark_len rest (wrap64 (a + 1))
      have c1 : (done.length : Int) < ((done ++ a :: (nMark rest (wrap64 (a + 1))).2).length : Int) := by rw [List.length_append, List.length_cons]; omega
      have c2 : rd (done ++ a :: (nMark rest (wrap64 (a + 1))).2) (done.length : Int) = a := by simp [rd]
      simp only [if_pos c1, if_pos c2, if_pos (show (0 : Int) ≤ (done.length : Int) by omega), w64 (x := (done.length : Int) + 1) (by omega) (by omega)]
      simp
    · simpa [nMark] using ih
theorem nHeld (l : List Int) (a : Int) (h : l.length ≤ 1048576) : Ev (fun k => laws_heldInt64S.f k (nMark l a).2 a) (nMark l a).1 := by
  have := nHeld_l0 l [] a (by simpa using h)
  unfold laws_heldInt64S.f
  simpa using this
theorem nMarkC_len : ∀ (l : List S26) (a : Int), (nMarkC l a).2.length = l.length
  | [], _ => rfl
  | _ :: l, a => by simp [nMarkC, nMarkC_len l]
theorem nMarkC_fst : ∀ (l : List S26) (a : Int), 0 ≤ a → (∀ x ∈ l, x.f1.length ≤ 100) → a + 101 * l.length ≤ 1000000000000 → 0 ≤ (nMarkC l a).1 ∧ (nMarkC l a).1 ≤ a + 101 * l.length
  | [], a, h0, _, _ => by simp [nMarkC]; exact h0
  | x :: l, a, h0, hx, h1 => by
    have h2 := hx x (by simp)
    simp only [List.length_cons] at h1 ⊢
    simp only [nMarkC]
    rw [w64 (x := a + 1) (by omega) (by omega), nMark_fst x.f1 (a + 1) (by omega) (by omega)]
    have := nMarkC_fst l (a + 1 + x.f1.length) (by omega) (fun y hy => hx y (List.mem_cons_of_mem _ hy)) (by omega)
    omega
theorem nHeldC_l0 : ∀ (rest done : List S26) (a : Int), 0 ≤ a → (∀ x ∈ rest, x.f1.length ≤ 100) → a + 101 * rest.length ≤ 1000000000000 → done.length + rest.length ≤ 1048576 → Ev (fun k => laws_heldCycloS.l0 k (done ++ (nMarkC rest a).2) a (done.length : Int)) (nMarkC rest a).1
  | [], done, a, _, _, _, h => by
    refine Ev.step (f := fun _ => some a) (fun k => ?_) (Ev.now _)
    simp only [laws_heldCycloS.l0, nMarkC, List.append_nil]
    rw [if_neg (by omega)]
  | x :: rest, done, a, h0, hx, h1, h => by
    have h2 := hx x (by simp)
    simp only [List.length_cons] at h h1
    have e1 : wrap64 (a + 1) = a + 1 := w64 (by omega) (by omega)
    have e2 := nMark_fst x.f1 (a + 1) (by omega) (by omega)
    have ih := nHeldC_l0 rest (done ++ [⟨a, (nMark x.f1 (a + 1)).2⟩]) (a + 1 + x.f1.length) (by omega) (fun y hy => hx y (List.mem_cons_of_mem _ hy)) (by omega) (by simp; omega)
    have hh := nHeld x.f1 (a + 1) (by omega)
    have hl := nMarkC_len rest (a + 1 + x.f1.length)
    refine Ev.step (f := fun k => (laws_heldInt64S.f k (nMark x.f1 (a + 1)).2 (a + 1)).bind fun t => if t < 0 then some (-1) else laws_heldCycloS.l0 k (done ++ [⟨a, (nMark x.f1 (a + 1)).2⟩] ++ (nMarkC rest (a + 1 + x.f1.length)).2) t ((done ++ [(⟨a, (nMark x.f1 (a + 1)).2⟩ : S26)]).length : Int)) (fun k => ?_) ?_
    · simp only [laws_heldCycloS.l0, nMarkC, e1, e2]
      have er : rd_T26 (done ++ ⟨a, (nMark x.f1 (a + 1)).2⟩ :: (nMarkC rest (a + 1 + x.f1.length)).2) (done.length : Int) = ⟨a, (nMark x.f1 (a + 1)).2⟩ := by simp [rd_T26]
      have c1 : (done.length : Int) < ((done ++ (⟨a, (nMark x.f1 (a + 1)).2⟩ : S26) :: (nMarkC rest (a + 1 + x.f1.length)).2).length : Int) := by rw [List.length_append, List.length_cons]; omega
      simp only [if_pos c1, if_pos (show (0 : Int) ≤ (done.length : Int) by omega), er, if_true, w64 (x := (done.length : Int) + 1) (by omega) (by omega)]
      simp
    · refine Ev.bind hh ?_
      simp only [e2, if_neg (show ¬ a + 1 + (x.f1.length : Int) < 0 by omega), nMarkC, e1]
      exact ih
theorem nHeldC (l : List S26) (hx : ∀ x ∈ l, x.f1.length ≤ 100) (h : l.length ≤ 1000000) : Ev (fun k => laws_heldCycloS.f k (nMarkC l 1).2 1) (nMarkC l 1).1 := by
  have := nHeldC_l0 l [] 1 (by omega) hx (by omega) (by simp; omega)
  unfold laws_heldCycloS.f
  simpa using this
theorem eqCs_l0 (l : List S26) (hx : ∀ x ∈ l, x.f1.length ≤ 100) (hl : l.length ≤ 1000000) : ∀ (d i : Nat), d + i = l.length → Ev (fun k => laws_eqCycloS.l0 k l l (i : Int)) true := by
  intro d
  induction d with
  | zero =>
    intro i hi
    refine Ev.step (f := fun _ => some true) (fun k => ?_) (Ev.now _)
    simp only [laws_eqCycloS.l0]
    rw [if_neg (by omega)]
  | succ d ih =>
    intro i hi
    have hm : rd_T26 l (i : Int) ∈ l := by
      unfold rd_T26
      rw [List.getD_eq_getElem?_getD, List.getElem?_eq_getElem (by simp; omega)]
      exact List.getElem_mem _
    have hh := hx _ hm
    have he := eqCyclo (rd_T26 l (i : Int)).f0 (rd_T26 l (i : Int)).f0 (rd_T26 l (i : Int)).f1 (rd_T26 l (i : Int)).f1 (by omega)
    refine Ev.step (f := fun k => (laws_eqCyclo.f k (rd_T26 l (i : Int)).f0 (rd_T26 l (i : Int)).f1 (rd_T26 l (i : Int)).f0 (rd_T26 l (i : Int)).f1).bind fun t => if t = true then laws_eqCycloS.l0 k l l ((i + 1 : Nat) : Int) else some false) (fun k => ?_) ?_
    · simp only [laws_eqCycloS.l0]
      simp only [if_pos (show (i : Int) < (l.length : Int) by omega), if_pos (show (0 : Int) ≤ (i : Int) by omega), w64 (x := (i : Int) + 1) (by omega) (by omega)]
      rfl
    · refine Ev.bind he ?_
      simp only [and_self, decide_true, if_true]
      exact ih (i + 1) (by omega)
theorem eqCs (l : List S26) (hx : ∀ x ∈ l, x.f1.length ≤ 100) (hl : l.length ≤ 1000000) : Ev (fun k => laws_eqCycloS.f k l l) true := by
  have := eqCs_l0 l hx hl l.length 0 (by omega)
  unfold laws_eqCycloS.f
  simp only [eq_self, if_true]
  simpa using this
theorem markCs (l : List S26) (hx : ∀ x ∈ l, x.f1.length ≤ 100) (hl : l.length ≤ 1000000) : laws_markCS_A.f l 1 = some (nMarkC l 1).2 ∧ laws_markCS_B.f l 1 = some (nMarkC l 1).1 := by
  have : l.length ≤ 1000000 ∧ l.all (fun x => decide (x.f1.length ≤ 1000000)) = true := ⟨hl, List.all_eq_true.mpr fun x h => by have := hx x h; simp; omega⟩
  exact ⟨by unfold laws_markCS_A.f; rw [if_pos this], by unfold laws_markCS_B.f; rw [if_pos this]⟩
def nm (a b : Int) : Int := a * a - a * b + b * b
structure Eis where
  a : Int
  b : Int
  deriving DecidableEq
namespace Eis
theorem ext' {x y : Eis} (h1 : x.a = y.a) (h2 : x.b = y.b) : x = y := by
  cases x; cases y; simp_all
instance : Add Eis := ⟨fun x y => ⟨x.a + y.a, x.b + y.b⟩⟩
instance : Mul Eis := ⟨fun x y => ⟨x.a * y.a - x.b * y.b, x.a * y.b + x.b * y.a - x.b * y.b⟩⟩
instance : Neg Eis := ⟨fun x => ⟨-x.a, -x.b⟩⟩
instance : Sub Eis := ⟨fun x y => ⟨x.a - y.a, x.b - y.b⟩⟩
instance : NatCast Eis := ⟨fun n => ⟨n, 0⟩⟩
instance : IntCast Eis := ⟨fun n => ⟨n, 0⟩⟩
instance (n : Nat) : OfNat Eis n := ⟨⟨n, 0⟩⟩
instance : SMul Nat Eis := ⟨fun n x => (n : Eis) * x⟩
instance : SMul Int Eis := ⟨fun n x => (n : Eis) * x⟩
def epw (x : Eis) : Nat → Eis
  | 0 => 1
  | n + 1 => epw x n * x
instance : HPow Eis Nat Eis := ⟨epw⟩
@[simp] theorem add_a (x y : Eis) : (x + y).a = x.a + y.a := rfl
@[simp] theorem add_b (x y : Eis) : (x + y).b = x.b + y.b := rfl
@[simp] theorem mul_a (x y : Eis) : (x * y).a = x.a * y.a - x.b * y.b := rfl
@[simp] theorem mul_b (x y : Eis) : (x * y).b = x.a * y.b + x.b * y.a - x.b * y.b := rfl
@[simp] theorem neg_a (x : Eis) : (-x).a = -x.a := rfl
@[simp] theorem neg_b (x : Eis) : (-x).b = -x.b := rfl
@[simp] theorem sub_a (x y : Eis) : (x - y).a = x.a - y.a := rfl
@[simp] theorem sub_b (x y : Eis) : (x - y).b = x.b - y.b := rfl
@[simp] theorem nat_a (n : Nat) : ((n : Eis)).a = n := rfl
@[simp] theorem nat_b (n : Nat) : ((n : Eis)).b = 0 := rfl
@[simp] theorem int_a (n : Int) : ((n : Eis)).a = n := rfl
@[simp] theorem int_b (n : Int) : ((n : Eis)).b = 0 := rfl
@[simp] theorem of_a (n : Nat) : (OfNat.ofNat n : Eis).a = n := rfl
@[simp] theorem of_b (n : Nat) : (OfNat.ofNat n : Eis).b = 0 := rfl
@[simp] theorem z_a : (0 : Eis).a = 0 := rfl
@[simp] theorem z_b : (0 : Eis).b = 0 := rfl
@[simp] theorem o_a : (1 : Eis).a = 1 := rfl
@[simp] theorem o_b : (1 : Eis).b = 0 := rfl
@[simp] theorem zs_a (n : Int) (x : Eis) : (n • x).a = n * x.a := by show n * x.a - 0 * x.b = _; omega
@[simp] theorem zs_b (n : Int) (x : Eis) : (n • x).b = n * x.b := by show n * x.b + 0 * x.a - 0 * x.b = _; omega
@[simp] theorem ns_a (n : Nat) (x : Eis) : (n • x).a = n * x.a := by show (n : Int) * x.a - 0 * x.b = _; omega
@[simp] theorem ns_b (n : Nat) (x : Eis) : (n • x).b = n * x.b := by show (n : Int) * x.b + 0 * x.a - 0 * x.b = _; omega
theorem nat_e (n : Nat) : (Nat.cast n : Eis) = ⟨n, 0⟩ := rfl
theorem int_e (n : Int) : (Int.cast n : Eis) = ⟨n, 0⟩ := rfl
instance : Lean.Grind.CommRing Eis where
  add_zero x := by apply ext' <;> simp
  add_comm x y := by apply ext' <;> simp <;> omega
  add_assoc x y z := by apply ext' <;> simp <;> omega
  mul_assoc x y z := by apply ext' <;> simp <;> grind
  mul_one x := by apply ext' <;> simp
  one_mul x := by apply ext' <;> simp
  left_distrib x y z := by apply ext' <;> simp <;> grind
  right_distrib x y z := by apply ext' <;> simp <;> grind
  zero_mul x := by apply ext' <;> simp
  mul_zero x := by apply ext' <;> simp
  pow_zero x := rfl
  pow_succ x n := rfl
  ofNat_succ n := by apply ext' <;> simp
  ofNat_eq_natCast n := rfl
  nsmul_eq_natCast_mul n x := rfl
  neg_add_cancel x := by apply ext' <;> simp <;> omega
  sub_eq_add_neg x y := by apply ext' <;> simp <;> omega
  neg_zsmul n x := by apply ext' <;> simp [Int.neg_mul]
  zsmul_natCast_eq_nsmul n x := by apply ext' <;> simp
  intCast_ofNat n := rfl
  intCast_neg n := by apply ext' <;> simp
  mul_comm x y := by apply ext' <;> simp <;> grind
/-- Pascal's numbers. -/
def C : Nat → Nat → Nat
  | _, 0 => 1
  | 0, _ + 1 => 0
  | n + 1, k + 1 => C n k + C n (k + 1)
theorem C_zero (n : Nat) : C n 0 = 1 := by cases n <;> rfl
theorem C_over : ∀ (n k : Nat), n < k → C n k = 0
  | _, 0, h => by omega
  | 0, _ + 1, _ => rfl
  | n + 1, k + 1, h => by
    show C n k + C n (k + 1) = 0
    rw [C_over n k (by omega), C_over n (k + 1) (by omega)]
theorem C_self : ∀ n, C n n = 1
  | 0 => rfl
  | n + 1 => by
    show C n n + C n (n + 1) = 1
    rw [C_self n, C_over n (n + 1) (by omega)]
theorem C_mul : ∀ (n k : Nat), (k + 1) * C (n + 1) (k + 1) = (n + 1) * C n k
  | 0, 0 => rfl
  | 0, k + 1 => by
    show (k + 2) * (C 0 (k + 1) + C 0 (k + 2)) = 1 * C 0 (k + 1)
    simp [C]
  | n + 1, 0 => by
    have h := C_mul n 0
    rw [C_zero] at h
    show 1 * (C (n + 1) 0 + C (n + 1) 1) = (n + 2) * C (n + 1) 0
    rw [C_zero]
    simp only [Nat.zero_add, Nat.one_mul, Nat.mul_one] at h ⊢
    omega
  | n + 1, k + 1 => by
    have h1 := C_mul n k
    have h2 := C_mul n (k + 1)
    have h3 : C (n + 1) (k + 1) = C n k + C n (k + 1) := rfl
    show (k + 2) * (C (n + 1) (k + 1) + C (n + 1) (k + 2)) = (n + 2) * C (n + 1) (k + 1)
    grind
def F (n : Nat) (u : Eis) : Nat → Eis
  | 0 => 0
  | k + 1 => F n u k + (C n k : Eis) * u ^ k
theorem nc_add (m n : Nat) : ((m + n : Nat) : Eis) = (m : Eis) + (n : Eis) := by apply ext' <;> simp
theorem nc_mul (m n : Nat) : ((m * n : Nat) : Eis) = (m : Eis) * (n : Eis) := by apply ext' <;> simp
theorem nc_zero : ((0 : Nat) : Eis) = 0 := rfl
theorem nc_one : ((1 : Nat) : Eis) = 1 := rfl
theorem F_step (n : Nat) (u : Eis) : ∀ k, F (n + 1) u (k + 1) = F n u (k + 1) + u * F n u k
  | 0 => by
    simp only [F, C_zero]
    grind
  | k + 1 => by
    have h := F_step n u k
    have e1 : F (n + 1) u (k + 2) = F (n + 1) u (k + 1) + ((C n k + C n (k + 1) : Nat) : Eis) * u ^ (k + 1) := rfl
    have e2 : F n u (k + 2) = F n u (k + 1) + (C n (k + 1) : Eis) * u ^ (k + 1) := rfl
    have e3 : F n u (k + 1) = F n u k + (C n k : Eis) * u ^ k := rfl
    have e4 : u ^ (k + 1) = u ^ k * u := rfl
    rw [e1, e2, h, nc_add, e4]
    grind
theorem binom (u : Eis) : ∀ n, (u + 1) ^ n = F n u (n + 1)
  | 0 => by
    show (1 : Eis) = 0 + (1 : Eis) * 1
    grind
  | n + 1 => by
    have h := binom u n
    have e : (u + 1) ^ (n + 1) = (u + 1) ^ n * (u + 1) := rfl
    have e2 : F n u (n + 2) = F n u (n + 1) + (C n (n + 1) : Eis) * u ^ (n + 1) := rfl
    rw [C_over n (n + 1) (by omega), nc_zero] at e2
    rw [e, h, F_step, e2]
    grind
structure Pr (p : Nat) : Prop where
  two : 2 ≤ p
  dvd : ∀ a b : Nat, p ∣ a * b → p ∣ a ∨ p ∣ b
theorem Pr.C {p : Nat} (h : Pr p) (k : Nat) (h1 : 1 ≤ k) (h2 : k < p) : p ∣ Eis.C p k := by
  obtain ⟨j, rfl⟩ : ∃ j, k = j + 1 := ⟨k - 1, by omega⟩
  obtain ⟨q, rfl⟩ : ∃ q, p = q + 1 := ⟨p - 1, by have := h.two; omega⟩
  have e := C_mul q j
  rcases h.dvd _ _ ⟨_, e⟩ with h3 | h3
  · exact absurd (Nat.le_of_dvd (by omega) h3) (by omega)
  · exact h3
theorem F_mod {p : Nat} (h : Pr p) (u : Eis) : ∀ k, k < p → ∃ c, F p u (k + 1) = 1 + (p : Eis) * c
  | 0, _ => ⟨0, by
    show 0 + (Eis.C p 0 : Eis) * 1 = _
    rw [C_zero, nc_one]
    grind⟩
  | k + 1, hk => by
    obtain ⟨c, hc⟩ := F_mod h u k (by omega)
    obtain ⟨d, hd⟩ := h.C (k + 1) (by omega) hk
    have e : F p u (k + 2) = F p u (k + 1) + (Eis.C p (k + 1) : Eis) * u ^ (k + 1) := rfl
    refine ⟨c + d * u ^ (k + 1), ?_⟩
    rw [e, hc, hd, nc_mul]
    grind
/-- (u + 1)^p is u^p + 1 but for a multiple of p. -/
theorem frob1 {p : Nat} (h : Pr p) (u : Eis) : ∃ c, (u + 1) ^ p = u ^ p + 1 + (p : Eis) * c := by
  have h2 := h.two
  obtain ⟨c, hc⟩ := F_mod h u (p - 1) (by omega)
  rw [show p - 1 + 1 = p by omega] at hc
  refine ⟨c, ?_⟩
  have e : F p u (p + 1) = F p u p + (Eis.C p p : Eis) * u ^ p := rfl
  rw [binom, e, hc, C_self, nc_one]
  grind
theorem frobN {p : Nat} (h : Pr p) (u : Eis) : ∀ n : Nat, ∃ c, (u + (n : Eis)) ^ p = u ^ p + (n : Eis) + (p : Eis) * c
  | 0 => ⟨0, by rw [nc_zero, show u + 0 = u by grind]; grind⟩
  | n + 1 => by
    obtain ⟨c, hc⟩ := frobN h u n
    obtain ⟨d, hd⟩ := frob1 h (u + (n : Eis))
    refine ⟨c + d, ?_⟩
    rw [nc_add, nc_one, show u + ((n : Eis) + 1) = u + (n : Eis) + 1 by grind, hd, hc]
    grind
theorem pow_int (a : Int) : ∀ n : Nat, (⟨a, 0⟩ : Eis) ^ n = ⟨a ^ n, 0⟩
  | 0 => by
    show (1 : Eis) = _
    rw [Int.pow_zero]
    rfl
  | n + 1 => by
    have e : (⟨a, 0⟩ : Eis) ^ (n + 1) = (⟨a, 0⟩ : Eis) ^ n * ⟨a, 0⟩ := rfl
    rw [e, pow_int a n, Int.pow_succ]
    apply ext' <;> simp
/-- Fermat: n^p is n modulo p. -/
theorem fermN {p : Nat} (h : Pr p) (n : Nat) : (p : Int) ∣ (n : Int) ^ p - n := by
  obtain ⟨c, hc⟩ := frobN h 0 n
  have e0 : (0 : Eis) ^ p = 0 := by
    obtain ⟨q, rfl⟩ : ∃ q, p = q + 1 := ⟨p - 1, by have := h.two; omega⟩
    show (0 : Eis) ^ q * 0 = 0
    grind
  have e1 : (0 : Eis) + (n : Eis) = ⟨n, 0⟩ := by apply ext' <;> simp
  rw [e0, e1, pow_int] at hc
  have := congrArg Eis.a hc
  simp at this
  exact ⟨c.a, by omega⟩
theorem pow_cong {p : Nat} {a b : Int} (h : (p : Int) ∣ a - b) : ∀ n : Nat, (p : Int) ∣ a ^ n - b ^ n
  | 0 => by simp
  | n + 1 => by
    obtain ⟨c, hc⟩ := h
    obtain ⟨d, hd⟩ := pow_cong ⟨c, hc⟩ n
    rw [Int.pow_succ, Int.pow_succ]
    exact ⟨d * a + b ^ n * c, by grind⟩
theorem fermI {p : Nat} (h : Pr p) (a : Int) : (p : Int) ∣ a ^ p - a := by
  have h2 := h.two
  obtain ⟨n, hn⟩ : ∃ n : Nat, a % p = n := ⟨(a % p).toNat, by have := Int.emod_nonneg a (show (p : Int) ≠ 0 by omega); omega⟩
  have hd : (p : Int) ∣ a - n := by rw [← hn]; exact ⟨a / p, by have := Int.mul_ediv_add_emod a p; omega⟩
  obtain ⟨c, hc⟩ := pow_cong hd p
  obtain ⟨d, hd'⟩ := fermN h n
  obtain ⟨e, he⟩ := hd
  exact ⟨c + d - e, by grind⟩
theorem Pr.int {p : Nat} (h : Pr p) {a b : Int} (hd : (p : Int) ∣ a * b) : (p : Int) ∣ a ∨ (p : Int) ∣ b := by
  have : p ∣ a.natAbs * b.natAbs := by rw [← Int.natAbs_mul]; exact Int.ofNat_dvd_left.mp hd
  rcases h.dvd _ _ this with h | h
  · exact .inl (Int.ofNat_dvd_left.mpr h)
  · exact .inr (Int.ofNat_dvd_left.mpr h)
theorem Pr.pow {p : Nat} (h : Pr p) {a : Int} : ∀ n : Nat, (p : Int) ∣ a ^ n → (p : Int) ∣ a
  | 0, hd => by
    have h2 := h.two
    have : (p : Int) ∣ 1 := by simpa using hd
    have := Int.le_of_dvd (by decide) this
    omega
  | n + 1, hd => by
    rw [Int.pow_succ] at hd
    rcases h.int hd with h1 | h1
    · exact Pr.pow h n h1
    · exact h1
/-- Fermat: a^(p-1) is 1 modulo p where p does not divide a. -/
theorem ferm1 {p : Nat} (h : Pr p) (a : Int) (ha : ¬ (p : Int) ∣ a) : (p : Int) ∣ a ^ (p - 1) - 1 := by
  have h2 := h.two
  have e := fermI h a
  obtain ⟨q, hq⟩ : ∃ q, p = q + 1 := ⟨p - 1, by omega⟩
  have : (p : Int) ∣ a * (a ^ (p - 1) - 1) := by
    have e2 : a ^ p - a = a * (a ^ (p - 1) - 1) := by
      rw [hq, Nat.add_sub_cancel, Int.pow_succ]
      grind
    rwa [← e2]
  exact (h.int this).resolve_left ha
/-- The norm. -/
def enm (x : Eis) : Int := x.a * x.a - x.a * x.b + x.b * x.b
theorem nm_mul (x y : Eis) : enm (x * y) = enm x * enm y := by
  simp only [enm, mul_a, mul_b]
  grind
def Dv (m x : Eis) : Prop := ∃ c, x = m * c
theorem Dv.enm {m x : Eis} (h : Dv m x) : Eis.enm m ∣ Eis.enm x := by
  obtain ⟨c, rfl⟩ := h
  exact ⟨Eis.enm c, nm_mul m c⟩
theorem split_b {p : Nat} (h : Pr p) {m : Eis} (hm : enm m = p) : ¬ (p : Int) ∣ m.b := by
  intro hb
  have h2 := h.two
  obtain ⟨c, hc⟩ := hb
  have ha : (p : Int) ∣ m.a * m.a := ⟨1 + m.a * c - m.b * c, by
    simp only [enm] at hm
    grind⟩
  obtain ⟨d, hd⟩ : (p : Int) ∣ m.a := (h.int ha).elim id id
  have : (p : Int) = p * p * (d * d - d * c + c * c) := by
    simp only [enm] at hm
    rw [hd, hc] at hm
    grind
  have h1 : (p : Int) * (p * (d * d - d * c + c * c) - 1) = 0 := by grind
  rcases Int.mul_eq_zero.mp h1 with h3 | h3
  · omega
  · have : (p : Int) ∣ 1 := ⟨d * d - d * c + c * c, by omega⟩
    have := Int.le_of_dvd (by decide) this
    omega
theorem split_iff {p : Nat} (h : Pr p) {m : Eis} (hm : enm m = p) (z : Eis) : Dv m z ↔ (p : Int) ∣ m.b * z.a - m.a * z.b := by
  have h2 := h.two
  constructor
  · rintro ⟨c, rfl⟩
    refine ⟨-c.b, ?_⟩
    simp only [enm] at hm
    simp only [mul_a, mul_b]
    rw [← hm]
    grind
  · rintro ⟨k, hk⟩
    have hx : (p : Int) ∣ m.b * (z.a * m.a - z.a * m.b + m.b * z.b) := ⟨z.b + (m.a - m.b) * k, by
      simp only [enm] at hm
      rw [← hm] at hk ⊢
      grind⟩
    obtain ⟨j, hj⟩ := (h.int hx).resolve_left (split_b h hm)
    refine ⟨⟨j, -k⟩, ?_⟩
    have hp : (p : Int) ≠ 0 := by omega
    apply ext'
    · apply Int.eq_of_mul_eq_mul_left hp
      simp only [mul_a]
      simp only [enm] at hm
      have : (p : Int) * (m.a * j - m.b * -k) = m.a * (p * j) + m.b * (p * k) := by grind
      rw [this, ← hj, ← hk, ← hm]
      grind
    · apply Int.eq_of_mul_eq_mul_left hp
      simp only [mul_b]
      simp only [enm] at hm
      have : (p : Int) * (m.a * -k + m.b * j - m.b * -k) = - (m.a * (p * k)) + m.b * (p * j) + m.b * (p * k) := by grind
      rw [this, ← hj, ← hk, ← hm]
      grind
theorem split_euclid {p : Nat} (h : Pr p) {m : Eis} (hm : enm m = p) {x y : Eis} (hd : Dv m (x * y)) : Dv m x ∨ Dv m y := by
  rw [split_iff h hm] at hd ⊢
  rw [split_iff h hm]
  obtain ⟨k, hk⟩ := hd
  refine h.int ⟨m.b * k + x.b * y.b, ?_⟩
  simp only [mul_a, mul_b] at hk
  simp only [enm] at hm
  have : (p : Int) * (m.b * k + x.b * y.b) = m.b * (p * k) + x.b * y.b * p := by grind
  rw [this, ← hk, ← hm]
  grind
theorem pow_s (x : Eis) (n : Nat) : x ^ (n + 1) = x ^ n * x := rfl
theorem pow_z (x : Eis) : x ^ 0 = 1 := rfl
theorem pow_a (x : Eis) (m : Nat) : ∀ n : Nat, x ^ (m + n) = x ^ m * x ^ n
  | 0 => by rw [pow_z]; show x ^ m = _; grind
  | n + 1 => by rw [← Nat.add_assoc, pow_s, pow_a x m n, pow_s]; grind
theorem pow_m (x : Eis) (m : Nat) : ∀ n : Nat, x ^ (m * n) = (x ^ m) ^ n
  | 0 => rfl
  | n + 1 => by rw [Nat.mul_succ, pow_a, pow_m x m n, pow_s]
theorem mul_p (x y : Eis) : ∀ n : Nat, (x * y) ^ n = x ^ n * y ^ n
  | 0 => by rw [pow_z, pow_z, pow_z]; grind
  | n + 1 => by rw [pow_s, mul_p x y n, pow_s, pow_s]; grind
/-- Fermat at a prime whose norm is a prime. -/
theorem split_ferm {p : Nat} (h : Pr p) {m : Eis} (hm : enm m = p) (z : Eis) (hz : ¬ Dv m z) : Dv m (z ^ (p - 1) - 1) := by
  have h2 := h.two
  rw [split_iff h hm] at hz ⊢
  have hb := split_b h hm
  obtain ⟨s, hs⟩ : ∃ s, s = m.b * z.a - m.a * z.b := ⟨_, rfl⟩
  have key : ∀ n : Nat, (p : Int) ∣ (m.b * (z ^ (n + 1)).a - m.a * (z ^ (n + 1)).b) * m.b ^ n - s ^ (n + 1) := by
    intro n
    induction n with
    | zero =>
      have : z ^ (0 + 1) = z := by rw [pow_s, pow_z]; grind
      rw [this, Int.pow_succ, Int.pow_zero, Int.pow_zero, hs]
      exact ⟨0, by grind⟩
    | succ n ih =>
      obtain ⟨k, hk⟩ := ih
      rw [pow_s z (n + 1), Int.pow_succ m.b, Int.pow_succ s (n + 1)]
      refine ⟨k * s - (z ^ (n + 1)).b * z.b * m.b ^ n, ?_⟩
      simp only [mul_a, mul_b]
      simp only [enm] at hm
      have : (p : Int) * (k * s - (z ^ (n + 1)).b * z.b * m.b ^ n) = (p * k) * s - p * ((z ^ (n + 1)).b * z.b * m.b ^ n) := by grind
      rw [this, ← hk, ← hm, hs]
      grind
  have k1 := key (p - 2)
  rw [show p - 2 + 1 = p - 1 by omega] at k1
  rw [← hs] at hz
  obtain ⟨c1, e1⟩ := k1
  obtain ⟨c2, e2⟩ := ferm1 h s hz
  obtain ⟨c3, e3⟩ := ferm1 h m.b hb
  rw [show p - 1 = p - 2 + 1 by omega, Int.pow_succ] at e3
  have : (p : Int) ∣ m.b ^ (p - 2) * (m.b * (z ^ (p - 1) - 1).a - m.a * (z ^ (p - 1) - 1).b) := by
    refine ⟨c1 + c2 - c3, ?_⟩
    simp only [sub_a, sub_b, o_a, o_b]
    grind
  exact (h.int this).resolve_left fun hh => hb (h.pow _ hh)
theorem inert_dvd {p : Nat} (h : Pr p) (h3 : p % 3 = 2) {z : Eis} (hd : (p : Int) ∣ enm z) : (p : Int) ∣ z.a ∧ (p : Int) ∣ z.b := by
  have h2 := h.two
  obtain ⟨k, hk⟩ := hd
  simp only [enm] at hk
  have hab : (p : Int) ∣ z.b → (p : Int) ∣ z.a := by
    rintro ⟨d, hd⟩
    have : (p : Int) ∣ z.a * z.a := ⟨k + z.a * d - z.b * d, by grind⟩
    exact (h.int this).elim id id
  by_cases hb : (p : Int) ∣ z.b
  · exact ⟨hab hb, hb⟩
  exfalso
  have ha : ¬ (p : Int) ∣ z.a := by
    rintro ⟨d, hd⟩
    have : (p : Int) ∣ z.b * z.b := ⟨k - z.a * d + z.b * d, by grind⟩
    exact hb ((h.int this).elim id id)
  have hc : ¬ (p : Int) ∣ -z.b := fun hh => hb ((Int.dvd_neg).mp hh)
  obtain ⟨m, hm⟩ : ∃ m, p = 3 * m + 2 := ⟨p / 3, by omega⟩
  have hcube : (p : Int) ∣ z.a * z.a * z.a - (-z.b) * (-z.b) * (-z.b) := ⟨k * (z.a + z.b), by grind⟩
  obtain ⟨c0, e0⟩ := pow_cong hcube m
  obtain ⟨c1, e1⟩ := ferm1 h z.a ha
  obtain ⟨c2, e2⟩ := ferm1 h (-z.b) hc
  have cube : ∀ (a : Int) (n : Nat), a ^ (3 * n + 1) = (a * a * a) ^ n * a := by
    intro a n
    induction n with
    | zero =>
      show a ^ (0 + 1) = (a * a * a) ^ 0 * a
      rw [Int.pow_succ, Int.pow_zero, Int.pow_zero]
    | succ n ih =>
      rw [show 3 * (n + 1) + 1 = 3 * n + 1 + 1 + 1 + 1 by omega, Int.pow_succ, Int.pow_succ, Int.pow_succ, ih, Int.pow_succ]
      grind
  rw [show p - 1 = 3 * m + 1 by omega, cube] at e1 e2
  have ht : ¬ (p : Int) ∣ (z.a * z.a * z.a) ^ m := by
    rintro ⟨d, hd⟩
    rw [hd] at e1
    have : (p : Int) ∣ 1 := ⟨d * z.a - c1, by grind⟩
    have := Int.le_of_dvd (by decide) this
    omega
  have hs : (p : Int) ∣ (z.a * z.a * z.a) ^ m * (z.a + z.b) := ⟨c1 - c2 + c0 * z.b, by
    generalize (z.a * z.a * z.a) ^ m = A at *
    generalize (-z.b * -z.b * -z.b) ^ m = B at *
    clear cube hcube
    grind⟩
  obtain ⟨d, hd⟩ := (h.int hs).resolve_left ht
  have h4 : (p : Int) ∣ 3 * (z.b * z.b) := ⟨k - d * (z.a - 2 * z.b), by grind⟩
  rcases h.int h4 with h5 | h5
  · have := Int.le_of_dvd (by decide) h5
    have : p = 2 := by omega
    subst this
    omega
  · exact hb ((h.int h5).elim id id)
end Eis
theorem least_pr {n q : Nat} (h2 : 2 ≤ q) (hq : q ∣ n) (hl : ∀ d, 2 ≤ d → d < q → ¬ d ∣ n) : Eis.Pr q := by
  refine ⟨h2, fun a b hd => ?_⟩
  by_cases ha : q ∣ a
  · exact .inl ha
  · have hg := Nat.gcd_dvd_left q a
    have hle := Nat.le_of_dvd (by omega) hg
    have h0 : Nat.gcd q a ≠ 0 := fun h => by have := Nat.eq_zero_of_gcd_eq_zero_left h; omega
    have hne : Nat.gcd q a ≠ q := fun h => ha (h ▸ Nat.gcd_dvd_right q a)
    have h1 : Nat.gcd q a = 1 := by
      by_cases c : 2 ≤ Nat.gcd q a
      · exact absurd (Nat.dvd_trans hg hq) (hl _ c (by omega))
      · omega
    exact .inr (Nat.Coprime.dvd_of_dvd_mul_left h1 hd)
def LD (n q : Int) : Prop := 2 ≤ q ∧ q ∣ n ∧ ∀ d, 2 ≤ d → d < q → ¬ d ∣ n
theorem cyDvd {n d : Int} (hn : 0 ≤ n) : Int.tmod n d = 0 ↔ d ∣ n := by
  constructor
  · intro h
    exact Int.dvd_of_tmod_eq_zero h
  · intro h
    exact Int.tmod_eq_zero_of_dvd h
theorem cyNo {n : Int} (hn : 2 ≤ n) (d : Int) (hd : 2 ≤ d) (hs : n < d * d) (h : ∀ e, 2 ≤ e → e < d → ¬ e ∣ n) : LD n n := by
  refine ⟨hn, ⟨1, by omega⟩, fun e he hen hdv => ?_⟩
  obtain ⟨c, hc⟩ := hdv
  by_cases h1 : e < d
  · exact h e he h1 ⟨c, hc⟩
  · have c2 : 2 ≤ c := by
      by_cases hh : c ≤ 0
      · have := Int.mul_nonneg (show 0 ≤ e by omega) (show 0 ≤ -c by omega)
        have e3 : e * -c = -(e * c) := by grind
        omega
      · by_cases h2 : c = 1
        · subst h2; omega
        · omega
    have c3 : c < d := by
      by_cases hh : c < d
      · exact hh
      · have m1 : d * d ≤ e * c := Int.mul_le_mul (by omega) (by omega) (by omega) (by omega)
        omega
    exact h c c2 c3 ⟨e, by rw [hc, Int.mul_comm]⟩
theorem cyLeast (n : Int) (hn : 2 ≤ n) (hn2 : n ≤ 1000000000) : ∃ q, Ev (fun k => spec_l09Least.f k n) q ∧ LD n q := by
  have key : ∀ (m : Nat) (d : Int), d + m = 40000 → 2 ≤ d → (∀ e, 2 ≤ e → e < d → ¬ e ∣ n) → ∃ q, Ev (fun k => spec_l09Least.l0 k n d) q ∧ LD n q := by
    intro m
    induction m with
    | zero =>
      intro d hd h2 h
      have : d = 40000 := by omega
      subst this
      refine ⟨n, Ev.step (f := fun _ => some n) (fun k => ?_) (Ev.now _), cyNo hn 40000 (by omega) (by omega) h⟩
      simp only [spec_l09Least.l0]
      rw [w64 (x := 40000 * 40000) (by omega) (by omega), if_neg (by omega)]
    | succ m ih =>
      intro d hd h2 h
      have hdd : d * d ≤ 40000 * 40000 := Int.mul_le_mul (by omega) (by omega) (by omega) (by omega)
      have hd0 : 0 ≤ d * d := Int.mul_nonneg (by omega) (by omega)
      by_cases c : d * d ≤ n
      · by_cases c2 : d ∣ n
        · refine ⟨d, Ev.step (f := fun _ => some d) (fun k => ?_) (Ev.now _), h2, c2, h⟩
          simp only [spec_l09Least.l0]
          rw [w64 (x := d * d) (by omega) (by omega), if_pos c, if_neg (by omega), if_pos ((cyDvd (by omega)).mpr c2)]
        · obtain ⟨q, H, r⟩ := ih (d + 1) (by omega) (by omega) (fun e he hlt => by
            by_cases c3 : e = d
            · subst c3; exact c2
            · exact h e he (by omega))
          refine ⟨q, Ev.step (fun k => ?_) H, r⟩
          simp only [spec_l09Least.l0]
          rw [w64 (x := d * d) (by omega) (by omega), if_pos c, if_neg (by omega), if_neg (fun hh => c2 ((cyDvd (by omega)).mp hh)), w64 (x := d + 1) (by omega) (by omega)]
      · refine ⟨n, Ev.step (f := fun _ => some n) (fun k => ?_) (Ev.now _), cyNo hn d h2 (by omega) h⟩
        simp only [spec_l09Least.l0]
        rw [w64 (x := d * d) (by omega) (by omega), if_neg c]
  exact key 39998 2 (by omega) (by omega) (fun e h1 h2 => by omega)
theorem LD.uniq {n q r : Int} (h1 : LD n q) (h2 : LD n r) : q = r := by
  rcases Int.lt_trichotomy q r with h | h | h
  · exact absurd h1.2.1 (h2.2.2 q h1.1 h)
  · exact h
  · exact absurd h2.2.1 (h1.2.2 r h2.1 h)
theorem cyPr {n q : Int} (h : LD n q) (hn : 0 ≤ n) : ∃ Q N : Nat, q = Q ∧ n = N ∧ Eis.Pr Q := by
  have h1 := h.1
  obtain ⟨Q, rfl⟩ := Int.eq_ofNat_of_zero_le (show 0 ≤ q by omega)
  obtain ⟨N, rfl⟩ := Int.eq_ofNat_of_zero_le hn
  refine ⟨Q, N, rfl, rfl, least_pr (n := N) (by omega) (Int.natCast_dvd_natCast.mp h.2.1) (fun d h2 h3 hd => ?_)⟩
  exact h.2.2 (d : Int) (by omega) (by omega) (Int.natCast_dvd_natCast.mpr hd)
def pnS : Nat → Nat
  | 0 => 0
  | n + 1 => if (pnS n + 1) * (pnS n + 1) ≤ n + 1 then pnS n + 1 else pnS n
theorem pnS_spec : ∀ n, pnS n * pnS n ≤ n ∧ n < (pnS n + 1) * (pnS n + 1)
  | 0 => by simp [pnS]
  | n + 1 => by
    have ⟨h1, h2⟩ := pnS_spec n
    simp only [pnS]
    split
    · rename_i h
      refine ⟨h, ?_⟩
      have : (pnS n + 1 + 1) * (pnS n + 1 + 1) = (pnS n + 1) * (pnS n + 1) + 2 * (pnS n + 1) + 1 := by grind
      omega
    · constructor <;> omega
def sq (d : Int) : Int := (pnS d.toNat : Int)
theorem sq_spec {d : Int} (h : 0 ≤ d) : 0 ≤ sq d ∧ sq d * sq d ≤ d ∧ d < (sq d + 1) * (sq d + 1) := by
  have ⟨h1, h2⟩ := pnS_spec d.toNat
  unfold sq
  refine ⟨by omega, ?_, ?_⟩
  · have : ((pnS d.toNat * pnS d.toNat : Nat) : Int) ≤ (d.toNat : Int) := by omega
    rw [Int.natCast_mul] at this
    omega
  · have : (d.toNat : Int) < (((pnS d.toNat + 1) * (pnS d.toNat + 1) : Nat) : Int) := by omega
    rw [Int.natCast_mul, Int.natCast_add] at this
    simp only [Int.natCast_one] at this
    omega
theorem sq_le {d r : Int} (h : 0 ≤ d) (h0 : 0 ≤ r) (h2 : d < (r + 1) * (r + 1)) : sq d ≤ r := by
  have h3 := sq_spec h
  by_cases c : sq d ≤ r
  · exact c
  · have : (r + 1) * (r + 1) ≤ sq d * sq d := Int.mul_le_mul (by omega) (by omega) (by omega) (by omega)
    omega
theorem sq_uniq {d r : Int} (h : 0 ≤ d) (h0 : 0 ≤ r) (h1 : r * r ≤ d) (h2 : d < (r + 1) * (r + 1)) : r = sq d := by
  have h3 := sq_spec h
  have h4 := sq_le h h0 h2
  by_cases c : sq d < r
  · have : (sq d + 1) * (sq d + 1) ≤ r * r := Int.mul_le_mul (by omega) (by omega) (by omega) (by omega)
    omega
  · omega
def dd (n a : Int) : Int := 4 * n - 3 * a * a
def rowb (n a : Int) : List Int :=
  if sq (dd n a) * sq (dd n a) = dd n a ∧ (a - sq (dd n a)) % 2 = 0 then
    (if 0 ≤ (a - sq (dd n a)) / 2 then [(a - sq (dd n a)) / 2] else []) ++ (if 0 < sq (dd n a) ∧ (a + sq (dd n a)) / 2 < a then [(a + sq (dd n a)) / 2] else [])
  else []
def ofN (n : Int) : Nat → Int → List (Int × Int)
  | 0, _ => []
  | m + 1, a => if 3 * a * a ≤ 4 * n then (rowb n a).map (fun b => (a, b)) ++ ofN n m (a + 1) else []
theorem rowb_mem {n a b : Int} (ha : 1 ≤ a) (hd : 0 ≤ dd n a) (h : b ∈ rowb n a) : 0 ≤ b ∧ b < a ∧ nm a b = n := by
  have hs := sq_spec hd
  unfold rowb at h
  by_cases c : sq (dd n a) * sq (dd n a) = dd n a ∧ (a - sq (dd n a)) % 2 = 0
  · rw [if_pos c] at h
    generalize hr : sq (dd n a) = r at *
    obtain ⟨x, hx⟩ : ∃ x, a - r = 2 * x := ⟨(a - r) / 2, by omega⟩
    have e1 : (a - r) / 2 = x := by omega
    have e2 : (a + r) / 2 = x + r := by omega
    rw [e1, e2] at h
    have key : r * r = 4 * n - 3 * a * a := c.1
    have hra : r = a - 2 * x := by omega
    rw [List.mem_append] at h
    rcases h with h | h
    · by_cases c1 : 0 ≤ x
      · rw [if_pos c1] at h
        obtain rfl := List.mem_singleton.mp h
        refine ⟨c1, by omega, ?_⟩
        have : 4 * nm a b = 4 * n := by
          unfold nm
          rw [hra] at key
          grind
        omega
      · rw [if_neg c1] at h
        cases h
    · by_cases c1 : 0 < r ∧ x + r < a
      · rw [if_pos c1] at h
        have hb := List.mem_singleton.mp h
        refine ⟨by omega, by omega, ?_⟩
        have : 4 * nm a b = 4 * n := by
          unfold nm
          rw [hb, hra]
          rw [hra] at key
          grind
        omega
      · rw [if_neg c1] at h
        cases h
  · rw [if_neg c] at h
    cases h
theorem rowb_len (n a : Int) : (rowb n a).length ≤ 2 := by
  unfold rowb
  split
  · split <;> split <;> simp
  · simp
theorem dd_iff {n a : Int} : 3 * a * a ≤ 4 * n ↔ 0 ≤ dd n a := by unfold dd; omega
theorem ofN_mem (n : Int) : ∀ (m : Nat) (a : Int), 1 ≤ a → ∀ x ∈ ofN n m a, a ≤ x.1 ∧ 0 ≤ x.2 ∧ x.2 < x.1 ∧ nm x.1 x.2 = n ∧ x.1 < a + m
  | 0, a, _, x, h => by cases h
  | m + 1, a, ha, x, h => by
    simp only [ofN] at h
    by_cases c : 3 * a * a ≤ 4 * n
    · rw [if_pos c, List.mem_append] at h
      rcases h with h | h
      · obtain ⟨b, hb, rfl⟩ := List.mem_map.mp h
        have := rowb_mem ha (dd_iff.mp c) hb
        simp only
        omega
      · have := ofN_mem n m (a + 1) (by omega) x h
        omega
    · rw [if_neg c] at h
      cases h
theorem ofN_len (n : Int) : ∀ (m : Nat) (a : Int), (ofN n m a).length ≤ 2 * m
  | 0, a => by simp [ofN]
  | m + 1, a => by
    simp only [ofN]
    split
    · have h1 := rowb_len n a
      have h2 := ofN_len n m (a + 1)
      rw [List.length_append, List.length_map]
      omega
    · simp
def encS (x : Int × Int) : S26 := ⟨3, [x.1, x.2]⟩
theorem dd_next {n a r : Int} (ha : 1 ≤ a) (h2 : dd n a < (r + 1) * (r + 1)) (h0 : 0 ≤ r) : 3 * (a + 1) * (a + 1) ≤ 4 * n → sq (dd n (a + 1)) ≤ r := by
  intro h
  refine sq_le (dd_iff.mp h) h0 ?_
  have : dd n (a + 1) = dd n a - 6 * a - 3 := by unfold dd; grind
  omega
theorem spL2 {n d a r : Int} {acc : List S26} (h0 : 0 ≤ r) (h2 : d < (r + 1) * (r + 1)) (X : List S26) (H : Ev (fun k => spec_l09OfNorm.l2 k n acc r a d) X) : ∀ t : Nat, r + t ≤ 2001 → Ev (fun k => spec_l09OfNorm.l2 k n acc (r + t) a d) X
  | 0, _ => by simpa using H
  | t + 1, ht => by
    have ih := spL2 h0 h2 X H t (by omega)
    refine Ev.step (fun k => ?_) ih
    simp only [spec_l09OfNorm.l2]
    have e : r + ((t + 1 : Nat) : Int) = r + t + 1 := by omega
    have h3 : (r + 1) * (r + 1) ≤ (r + t + 1) * (r + t + 1) := Int.mul_le_mul (by omega) (by omega) (by omega) (by omega)
    have h4 : (r + t + 1) * (r + t + 1) ≤ 2001 * 2001 := Int.mul_le_mul (by omega) (by omega) (by omega) (by omega)
    have h5 : 0 ≤ (r + t + 1) * (r + t + 1) := Int.mul_nonneg (by omega) (by omega)
    rw [e, w64 (x := (r + t + 1) * (r + t + 1)) (by omega) (by omega), if_pos (by omega), w64 (x := r + t + 1 - 1) (by omega) (by omega), show r + (t : Int) + 1 - 1 = r + t by omega]
theorem tdiv2 {y x : Int} (h : y = 2 * x) : Int.tdiv y 2 = x := by rw [h]; exact Int.mul_tdiv_cancel_left _ (by decide)
theorem tmod2 (y : Int) : (Int.tmod y 2 != 0) = decide (¬ y % 2 = 0) := by
  have h1 : Int.tmod y 2 = 0 ↔ y % 2 = 0 := by
    rw [← Int.dvd_iff_tmod_eq_zero, Int.dvd_iff_emod_eq_zero]
  by_cases c : y % 2 = 0
  · rw [h1.mpr c]; simp [c]
  · have : ¬ Int.tmod y 2 = 0 := fun h => c (h1.mp h)
    simp [c, this]
theorem spL1 (n : Int) (hn : 1 ≤ n ∧ n ≤ 1000000) : ∀ (m : Nat) (a R : Int) (acc : List S26), a + m = 1200 → 1 ≤ a → 0 ≤ R → R ≤ 2001 → (3 * a * a ≤ 4 * n → sq (dd n a) ≤ R) → (acc.length : Int) ≤ 2 * a →
    Ev (fun k => spec_l09OfNorm.l1 k n acc R a) (acc ++ (ofN n m a).map encS)
  | 0, a, R, acc, hm, ha, hR, hR2, _, _ => by
    obtain rfl : a = 1200 := by omega
    refine Ev.step (f := fun _ => some acc) (fun k => ?_) (by simpa [ofN] using Ev.now acc)
    simp only [spec_l09OfNorm.l1]
    rw [w64 (x := 3 * 1200) (by omega) (by omega), w64 (x := 3 * 1200 * 1200) (by omega) (by omega), w64 (x := 4 * n) (by omega) (by omega), if_neg (by omega)]
  | m + 1, a, R, acc, hm, ha, hR, hR2, hs, hacc => by
    have ha2 : a * a ≤ 1200 * 1200 := Int.mul_le_mul (by omega) (by omega) (by omega) (by omega)
    have ha0 : 0 ≤ a * a := Int.mul_nonneg (by omega) (by omega)
    have e3 : 3 * a * a = 3 * (a * a) := by grind
    simp only [ofN]
    by_cases c : 3 * a * a ≤ 4 * n
    · rw [if_pos c]
      have hd := dd_iff.mp c
      have hsp := sq_spec hd
      have hle := hs c
      refine Ev.step (f := fun k => spec_l09OfNorm.l2 k n acc R a (dd n a)) (fun k => ?_) ?_
      · simp only [spec_l09OfNorm.l1]
        rw [w64 (x := 3 * a) (by omega) (by omega), w64 (x := 3 * a * a) (by omega) (by omega), w64 (x := 4 * n) (by omega) (by omega), if_pos c, w64 (x := 4 * n - 3 * a * a) (by omega) (by omega)]
        rfl
      obtain ⟨t, ht⟩ : ∃ t : Nat, R = sq (dd n a) + t := ⟨(R - sq (dd n a)).toNat, by omega⟩
      have hnext := fun acc' (hl : (acc'.length : Int) ≤ 2 * (a + 1)) => spL1 n hn m (a + 1) (sq (dd n a)) acc' (by omega) (by omega) (by omega) (by omega) (dd_next ha hsp.2.2 hsp.1) hl
      rw [ht]
      refine spL2 hsp.1 hsp.2.2 _ ?_ t (by omega)
      have hbd : sq (dd n a) * sq (dd n a) ≤ 2001 * 2001 := Int.mul_le_mul (by omega) (by omega) (by omega) (by omega)
      unfold rowb
      generalize hr : sq (dd n a) = r at *
      have hrr : 0 ≤ r * r := Int.mul_nonneg (by omega) (by omega)
      have wa : wrap64 (a + 1) = a + 1 := w64 (by omega) (by omega)
      have skip_ : Ev (fun k => spec_l09OfNorm.j3 k n acc r a true) (acc ++ (ofN n m (a + 1)).map encS) := by
        refine Ev.step (fun k => ?_) (hnext acc (by omega))
        simp only [spec_l09OfNorm.j3, if_true, wa]
      by_cases c1 : r * r = dd n a
      · refine Ev.step (f := fun k => spec_l09OfNorm.j3 k n acc r a (decide (¬ (a - r) % 2 = 0))) (fun k => ?_) ?_
        · simp only [spec_l09OfNorm.l2]
          rw [w64 (x := r * r) (by omega) (by omega), if_neg (by omega), if_pos c1, w64 (x := a - r) (by omega) (by omega), tmod2]
        by_cases c2 : (a - r) % 2 = 0
        · rw [if_pos ⟨c1, c2⟩]
          obtain ⟨x, hx⟩ : ∃ x, a - r = 2 * x := ⟨(a - r) / 2, by omega⟩
          have e1 : (a - r) / 2 = x := by omega
          have e2 : (a + r) / 2 = x + r := by omega
          rw [e1, e2]
          have d1 : wrap64 (Int.tdiv (wrap64 (a - r)) 2) = x := by rw [w64 (x := a - r) (by omega) (by omega), tdiv2 hx, w64 (by omega) (by omega)]
          have d2 : wrap64 (Int.tdiv (wrap64 (a + r)) 2) = x + r := by rw [w64 (x := a + r) (by omega) (by omega), tdiv2 (show a + r = 2 * (x + r) by omega), w64 (by omega) (by omega)]
          have fin : ∀ acc' : List S26, (acc'.length : Int) ≤ 2 * a + 1 → Ev (fun k => if r > 0 then (if x + r < a then (spec_l09Of.f a (x + r)).bind fun bt => (if acc'.length < 4398046511104 then spec_l09OfNorm.l1 k n (acc' ++ [⟨bt.1, bt.2⟩]) r (a + 1) else none) else spec_l09OfNorm.l1 k n acc' r (a + 1)) else spec_l09OfNorm.l1 k n acc' r (a + 1)) (acc' ++ (((if 0 < r ∧ x + r < a then [x + r] else []).map fun b => (a, b)) ++ ofN n m (a + 1)).map encS) := by
            intro acc' hl
            by_cases g1 : r > 0
            · by_cases g2 : x + r < a
              · simp only [if_pos g1, if_pos g2, if_pos (show 0 < r ∧ x + r < a from ⟨g1, g2⟩), spec_l09Of.f, Option.bind_some, if_pos (show acc'.length < 4398046511104 by omega)]
                have := hnext (acc' ++ [⟨3, [a, x + r]⟩]) (by rw [List.length_append]; simp; omega)
                rw [List.append_assoc] at this
                exact this
              · simp only [if_pos g1, if_neg g2, if_neg (show ¬ (0 < r ∧ x + r < a) from fun h => g2 h.2)]
                exact hnext acc' (by omega)
            · simp only [if_neg g1, if_neg (show ¬ (0 < r ∧ x + r < a) from fun h => g1 h.1)]
              exact hnext acc' (by omega)
          by_cases c3 : 0 ≤ x
          · refine Ev.step (f := fun k => spec_l09OfNorm.j4 k n acc r a x true) (fun k => ?_) ?_
            · simp only [spec_l09OfNorm.j3, d1]
              rw [show decide (¬ (a - r) % 2 = 0) = false from decide_eq_false (fun h => h c2), if_neg (by decide), if_pos (show x ≥ 0 from c3), decide_eq_true (show x < a by omega)]
            · have hfin := fin (acc ++ [⟨3, [a, x]⟩]) (by rw [List.length_append]; simp; omega)
              rw [List.append_assoc] at hfin
              have hgoal := Ev.step (g := fun k => spec_l09OfNorm.j4 k n acc r a x true) (fun k => by simp only [spec_l09OfNorm.j4, if_true, d2, wa, spec_l09Of.f, Option.bind_some, if_pos (show acc.length < 4398046511104 by omega)]) hfin
              rw [if_pos c3]
              have e : ∀ L : List Int, (([x] ++ L).map (fun b => (a, b)) ++ ofN n m (a + 1)).map encS = [⟨3, [a, x]⟩] ++ (L.map (fun b => (a, b)) ++ ofN n m (a + 1)).map encS := fun L => rfl
              rw [e]
              exact hgoal
          · refine Ev.step (f := fun k => spec_l09OfNorm.j4 k n acc r a x false) (fun k => ?_) ?_
            · simp only [spec_l09OfNorm.j3, d1]
              rw [show decide (¬ (a - r) % 2 = 0) = false from decide_eq_false (fun h => h c2), if_neg (by decide), if_neg (show ¬ x ≥ 0 from c3)]
            · have hfin := fin acc (by omega)
              rw [if_neg c3, List.nil_append]
              rw [List.map_append] at hfin
              refine Ev.step (fun k => ?_) (by simpa [encS] using hfin)
              simp only [spec_l09OfNorm.j4, Bool.false_eq_true, if_false, d2, wa]
        · rw [if_neg (fun h => c2 h.2), List.map_nil, List.nil_append, decide_eq_true c2]
          exact skip_
      · rw [if_neg (fun h => c1 h.1), List.map_nil, List.nil_append]
        refine Ev.step (f := fun k => spec_l09OfNorm.j3 k n acc r a true) (fun k => ?_) skip_
        simp only [spec_l09OfNorm.l2]
        rw [w64 (x := r * r) (by omega) (by omega), if_neg (by omega), if_neg c1]
    · rw [if_neg c, List.map_nil, List.append_nil]
      refine Ev.step (f := fun _ => some acc) (fun k => ?_) (Ev.now acc)
      simp only [spec_l09OfNorm.l1]
      rw [w64 (x := 3 * a) (by omega) (by omega), w64 (x := 3 * a * a) (by omega) (by omega), w64 (x := 4 * n) (by omega) (by omega), if_neg c]
theorem spL0 (n : Int) (hn : 1 ≤ n ∧ n ≤ 1000000) (X : List S26) (H : ∀ R, 0 ≤ R → R ≤ 2001 → 4 * n < (R + 1) * (R + 1) → Ev (fun k => spec_l09OfNorm.l1 k n [] R 1) X) : ∀ (t : Nat) (R : Int), R + t = 2001 → 0 ≤ R → Ev (fun k => spec_l09OfNorm.l0 k n [] R) X
  | t, R, ht, hR => by
    have h1 : (R + 1) * (R + 1) ≤ 2002 * 2002 := Int.mul_le_mul (by omega) (by omega) (by omega) (by omega)
    have h0 : 0 ≤ (R + 1) * (R + 1) := Int.mul_nonneg (by omega) (by omega)
    by_cases c : (R + 1) * (R + 1) ≤ 4 * n
    · match t with
      | 0 =>
        obtain rfl : R = 2001 := by omega
        omega
      | t + 1 =>
        refine Ev.step (fun k => ?_) (spL0 n hn X H t (R + 1) (by omega) (by omega))
        simp only [spec_l09OfNorm.l0]
        rw [w64 (x := R + 1) (by omega) (by omega), w64 (x := (R + 1) * (R + 1)) (by omega) (by omega), w64 (x := 4 * n) (by omega) (by omega), if_pos c]
    · refine Ev.step (fun k => ?_) (H R hR (by omega) (by omega))
      simp only [spec_l09OfNorm.l0]
      rw [w64 (x := R + 1) (by omega) (by omega), w64 (x := (R + 1) * (R + 1)) (by omega) (by omega), w64 (x := 4 * n) (by omega) (by omega), if_neg c]
theorem spOfN (n : Int) (hn : 1 ≤ n ∧ n ≤ 1000000) : Ev (fun k => spec_l09OfNorm.f k n) ((ofN n 1199 1).map encS) := by
  unfold spec_l09OfNorm.f
  refine spL0 n hn _ (fun R h0 h1 h2 => ?_) 2001 0 (by omega) (by omega)
  have := spL1 n hn 1199 1 R [] (by omega) (by omega) h0 h1 (fun c => sq_le (dd_iff.mp c) h0 (by unfold dd; omega)) (by simp)
  simpa using this
def isP (n q : Int) : Bool := decide (q = n) || (decide (q % 3 = 2) && decide (q * q = n))
theorem spPrime {n q a b : Int} (hn : 2 ≤ n ∧ n ≤ 1000000) (hq : LD n q) (hab : nm a b = n) (ha : -100000 ≤ a ∧ a ≤ 100000) (hb : -100000 ≤ b ∧ b ≤ 100000) : Ev (fun k => spec_l09Prime.f k 3 [a, b]) (isP n q) := by
  obtain ⟨q', H', hq'⟩ := cyLeast n hn.1 (by omega)
  obtain rfl := hq.uniq hq'
  have hq2 := hq.1
  have hqn : q ≤ n := Int.le_of_dvd (by omega) hq.2.1
  have tm : Int.tmod q 3 = q % 3 := Int.tmod_eq_emod_of_nonneg (by omega)
  have h3 : 0 ≤ q * q := Int.mul_nonneg (by omega) (by omega)
  have h4 : q * q ≤ 1000000 * 1000000 := Int.mul_le_mul (by omega) (by omega) (by omega) (by omega)
  unfold spec_l09Prime.f isP
  refine ev_bind_const (l09Norm 3 a b ha hb) ?_
  rw [show a * a - a * b + b * b = nm a b from rfl, hab]
  simp only [if_neg (show ¬ n < 2 by omega)]
  refine Ev.bind H' ?_
  simp only [tm]
  rw [w64 (x := q * q) (by omega) (by omega)]
  by_cases c1 : q = n
  · simp only [if_pos c1, decide_eq_true c1, Bool.true_or]
    exact Ev.now _
  · simp only [if_neg c1, decide_eq_false c1, Bool.false_or]
    by_cases c2 : q % 3 = 2
    · simp only [if_pos c2, decide_eq_true c2, Bool.true_and]
      by_cases c3 : q * q = n
      · rw [decide_eq_true c3, beq_iff_eq.mpr c3]
        exact Ev.now _
      · rw [decide_eq_false c3, beq_eq_false_iff_ne.mpr c3]
        exact Ev.now _
    · simp only [if_neg c2, decide_eq_false c2, Bool.false_and]
      exact Ev.now _
theorem spPrime1 {a b : Int} (hab : nm a b = 1) (ha : -100000 ≤ a ∧ a ≤ 100000) (hb : -100000 ≤ b ∧ b ≤ 100000) : Ev (fun k => spec_l09Prime.f k 3 [a, b]) false := by
  unfold spec_l09Prime.f
  refine ev_bind_const (l09Norm 3 a b ha hb) ?_
  rw [show a * a - a * b + b * b = nm a b from rfl, hab]
  simp only [if_pos (show (1 : Int) < 2 by decide)]
  exact Ev.now _
theorem spPick (t : Bool) : ∀ (rest done acc : List S26), (∀ x ∈ rest, Ev (fun k => spec_l09Prime.f k x.f0 x.f1) t) → done.length + rest.length ≤ 1000000 → acc.length ≤ done.length →
    Ev (fun k => spec_PrimesOfNorm.l0 k (done ++ rest) acc (done.length : Int)) (acc ++ (if t then rest else []), 0)
  | [], done, acc, _, hl, ha => by
    refine Ev.step (f := fun _ => some (acc, 0)) (fun k => ?_) (by cases t <;> simpa using Ev.now (acc, (0 : Int)))
    simp only [spec_PrimesOfNorm.l0, List.append_nil]
    rw [if_neg (by omega)]
  | x :: rest, done, acc, hx, hl, ha => by
    simp only [List.length_cons] at hl
    have e1 : rd_T26 (done ++ x :: rest) (done.length : Int) = x := by simp [rd_T26]
    have c1 : (done.length : Int) < ((done ++ x :: rest).length : Int) := by rw [List.length_append, List.length_cons]; omega
    have e2 : wrap64 ((done.length : Int) + 1) = ((done ++ [x]).length : Int) := by rw [w64 (by omega) (by omega), List.length_append]; rfl
    have e3 : done ++ x :: rest = (done ++ [x]) ++ rest := by simp
    refine Ev.step (f := fun k => (spec_l09Prime.f k x.f0 x.f1).bind fun t143 => if t143 = true then spec_PrimesOfNorm.l0 k (done ++ x :: rest) (acc ++ [x]) ((done ++ [x]).length : Int) else spec_PrimesOfNorm.l0 k (done ++ x :: rest) acc ((done ++ [x]).length : Int)) (fun k => ?_) ?_
    · simp only [spec_PrimesOfNorm.l0]
      rw [if_pos c1, if_pos (by omega)]
      simp only [e1, e2, if_pos (show acc.length < 4398046511104 by omega)]
    · refine Ev.bind (hx x (by simp)) ?_
      cases t with
      | true =>
        simp only [if_true]
        have ih := spPick true rest (done ++ [x]) (acc ++ [x]) (fun y hy => hx y (List.mem_cons_of_mem _ hy)) (by simp; omega) (by simp; omega)
        rw [e3]
        simpa using ih
      | false =>
        simp only [Bool.false_eq_true, if_false]
        have ih := spPick false rest (done ++ [x]) acc (fun y hy => hx y (List.mem_cons_of_mem _ hy)) (by simp; omega) (by simp; omega)
        rw [e3]
        simpa using ih
theorem ofN_small {n : Int} (hn : 1 ≤ n ∧ n ≤ 1000000) : ∀ x ∈ ofN n 1199 1, nm x.1 x.2 = n ∧ (-100000 ≤ x.1 ∧ x.1 ≤ 100000) ∧ (-100000 ≤ x.2 ∧ x.2 ≤ 100000) ∧ 0 ≤ x.2 ∧ x.2 < x.1 := by
  intro x hx
  have := ofN_mem n 1199 1 (by omega) x hx
  omega
theorem spOut {n : Int} (hn : 1 ≤ n ∧ n ≤ 1000000) (t : Bool) (h : ∀ a b, nm a b = n → (-100000 ≤ a ∧ a ≤ 100000) → (-100000 ≤ b ∧ b ≤ 100000) → Ev (fun k => spec_l09Prime.f k 3 [a, b]) t) : Ev (fun k => spec_PrimesOfNorm.f k n) (if t then (ofN n 1199 1).map encS else [], 0) := by
  unfold spec_PrimesOfNorm.f
  refine ev_bind_const (l01In _ _ _) ?_
  rw [decide_eq_true hn.1, decide_eq_true hn.2]
  simp only [Bool.and_self, if_true]
  refine Ev.bind (spOfN n hn) ?_
  have hl := ofN_len n 1199 1
  have := spPick t ((ofN n 1199 1).map encS) [] [] (fun x hx => by
    obtain ⟨y, hy, rfl⟩ := List.mem_map.mp hx
    have h1 := ofN_small hn y hy
    exact h y.1 y.2 h1.1 h1.2.1 h1.2.2.1) (by simp; omega) (by simp)
  simpa using this
theorem imBis {d a : Int} (hd : 0 ≤ d) (X : List Int) (H : Ev (fun k => if wrap64 (sq d * sq d) = d then impl_halves.j1 k a (sq d) (Int.tmod (wrap64 (a + sq d)) 2 != 0) else impl_halves.j1 k a (sq d) true) X) : ∀ (t : Nat) (low high root : Int), high - low + 1 ≤ t → 0 ≤ low → low ≤ high + 1 → high ≤ 2147483648 → (low = 0 ∧ root = 0 ∨ root = low - 1) → 0 ≤ root → root * root ≤ d → d < (high + 1) * (high + 1) →
    Ev (fun k => impl_halves.l0 k a root d low high) X := by
  intro t
  induction t with
  | zero =>
    intro low high root ht h0 h1 h2 h3 h4 h5 h6
    obtain rfl : low = high + 1 := by omega
    have hr : root = high := by
      rcases h3 with h | h
      · have : high = -1 := by omega
        subst this
        omega
      · omega
    subst hr
    have e := sq_uniq hd h4 h5 h6
    refine Ev.step (fun k => ?_) H
    simp only [impl_halves.l0]
    rw [if_neg (by omega), ← e]
  | succ t ih =>
    intro low high root ht h0 h1 h2 h3 h4 h5 h6
    by_cases c : low ≤ high
    · have hm : wrap64 (Int.tdiv (wrap64 (low + high)) 2) = (low + high) / 2 := by
        rw [w64 (x := low + high) (by omega) (by omega), Int.tdiv_eq_ediv_of_nonneg (by omega), w64 (by omega) (by omega)]
      have hm1 : low ≤ (low + high) / 2 ∧ (low + high) / 2 ≤ high := by omega
      generalize (low + high) / 2 = mid at hm hm1
      have hq : mid * mid ≤ 2147483648 * 2147483648 := Int.mul_le_mul (by omega) (by omega) (by omega) (by omega)
      have hq0 : 0 ≤ mid * mid := Int.mul_nonneg (by omega) (by omega)
      by_cases c2 : mid * mid ≤ d
      · refine Ev.step (fun k => ?_) (ih (mid + 1) high mid (by omega) (by omega) (by omega) h2 (by omega) (by omega) c2 h6)
        simp only [impl_halves.l0]
        rw [if_pos c, hm, w64 (x := mid * mid) (by omega) (by omega), if_pos c2, w64 (x := mid + 1) (by omega) (by omega)]
      · have e : mid - 1 + 1 = mid := by omega
        refine Ev.step (fun k => ?_) (ih low (mid - 1) root (by omega) h0 (by omega) (by omega) h3 h4 h5 (by rw [e]; omega))
        simp only [impl_halves.l0]
        rw [if_pos c, hm, w64 (x := mid * mid) (by omega) (by omega), if_neg c2, w64 (x := mid - 1) (by omega) (by omega)]
    · obtain rfl : low = high + 1 := by omega
      have hr : root = high := by
        rcases h3 with h | h
        · have : high = -1 := by omega
          subst this
          omega
        · omega
      subst hr
      have e := sq_uniq hd h4 h5 h6
      refine Ev.step (fun k => ?_) H
      simp only [impl_halves.l0]
      rw [if_neg (by omega), ← e]
def hv2 (n a : Int) : List Int :=
  if sq (dd n a) * sq (dd n a) = dd n a ∧ (a - sq (dd n a)) % 2 = 0 then (if sq (dd n a) = 0 then [a / 2] else [(a - sq (dd n a)) / 2, (a + sq (dd n a)) / 2]) else []
theorem imHalves {n a : Int} (hn : 1 ≤ n ∧ n ≤ 1000000) (ha : 1 ≤ a ∧ a ≤ 1200) (hd : 0 ≤ dd n a) : Ev (fun k => impl_halves.f k a (a * a - n)) (hv2 n a) := by
  have ha2 : a * a ≤ 1200 * 1200 := Int.mul_le_mul (by omega) (by omega) (by omega) (by omega)
  have ha0 : 0 ≤ a * a := Int.mul_nonneg (by omega) (by omega)
  have e3 : 3 * a * a = 3 * (a * a) := by grind
  have hs := sq_spec hd
  have hdle : dd n a ≤ 4000000 := by unfold dd; omega
  have hw : wrap64 (wrap64 (a * a) - wrap64 (4 * (a * a - n))) = dd n a := by
    rw [w64 (x := a * a) (by omega) (by omega), w64 (x := 4 * (a * a - n)) (by omega) (by omega), w64 (by omega) (by omega)]
    unfold dd
    omega
  unfold impl_halves.f
  rw [hw]
  simp only [if_neg (show ¬ dd n a < 0 by omega)]
  have hle : sq (dd n a) ≤ 2000 := sq_le hd (by omega) (by omega)
  refine imBis hd _ ?_ 2147483649 0 2147483648 0 (by omega) (by omega) (by omega) (by omega) (.inl ⟨rfl, rfl⟩) (by omega) (by omega) (by omega)
  unfold hv2
  generalize sq (dd n a) = r at *
  have hr2 : r * r ≤ 2000 * 2000 := Int.mul_le_mul (by omega) (by omega) (by omega) (by omega)
  have hr0 : 0 ≤ r * r := Int.mul_nonneg (by omega) (by omega)
  rw [w64 (x := r * r) (by omega) (by omega), w64 (x := a + r) (by omega) (by omega), tmod2]
  by_cases c1 : r * r = dd n a
  · simp only [if_pos c1]
    by_cases c2 : (a - r) % 2 = 0
    · rw [if_pos ⟨c1, c2⟩, decide_eq_false (show ¬ ¬ (a + r) % 2 = 0 by omega)]
      by_cases c3 : r = 0
      · rw [if_pos c3]
        refine Ev.step (f := fun _ => some [a / 2]) (fun k => ?_) (Ev.now _)
        simp only [impl_halves.j1, Bool.false_eq_true, if_false, if_pos c3]
        rw [Int.tdiv_eq_ediv_of_nonneg (by omega), w64 (by omega) (by omega)]
      · rw [if_neg c3]
        refine Ev.step (f := fun _ => some [(a - r) / 2, (a + r) / 2]) (fun k => ?_) (Ev.now _)
        simp only [impl_halves.j1, Bool.false_eq_true, if_false, if_neg c3]
        rw [w64 (x := a - r) (by omega) (by omega), w64 (x := a + r) (by omega) (by omega), tdiv2 (show a - r = 2 * ((a - r) / 2) by omega), tdiv2 (show a + r = 2 * ((a + r) / 2) by omega), w64 (by omega) (by omega), w64 (by omega) (by omega)]
    · rw [if_neg (fun h => c2 h.2), decide_eq_true (show ¬ (a + r) % 2 = 0 by omega)]
      refine Ev.step (f := fun _ => some []) (fun k => ?_) (Ev.now _)
      simp only [impl_halves.j1, if_true]
  · simp only [if_neg c1]
    rw [if_neg (fun h => c1 h.1)]
    refine Ev.step (f := fun _ => some []) (fun k => ?_) (Ev.now _)
    simp only [impl_halves.j1, if_true]
def inA (a b : Int) : Bool := decide (0 ≤ b) && decide (b ≤ a - 1)
theorem hv2_row {n a : Int} (ha : 1 ≤ a) (hd : 0 ≤ dd n a) : (hv2 n a).filter (inA a) = rowb n a := by
  have hs := sq_spec hd
  unfold hv2 rowb
  generalize sq (dd n a) = r at *
  by_cases c : r * r = dd n a ∧ (a - r) % 2 = 0
  · rw [if_pos c, if_pos c]
    obtain ⟨x, hx⟩ : ∃ x, a - r = 2 * x := ⟨(a - r) / 2, by omega⟩
    have e1 : (a - r) / 2 = x := by omega
    have e2 : (a + r) / 2 = x + r := by omega
    rw [e1, e2]
    by_cases c3 : r = 0
    · rw [if_pos c3, show a / 2 = x by omega, if_pos (show 0 ≤ x by omega), if_neg (show ¬ (0 < r ∧ x + r < a) by omega), List.filter_cons, if_pos (by unfold inA; simp; omega)]
      rfl
    · rw [if_neg c3]
      have h1 : inA a x = decide (0 ≤ x) := by
        unfold inA
        by_cases g : 0 ≤ x
        · rw [decide_eq_true g, decide_eq_true (show x ≤ a - 1 by omega)]; rfl
        · rw [decide_eq_false g]; rfl
      have h2 : inA a (x + r) = decide (0 < r ∧ x + r < a) := by
        unfold inA
        by_cases g : x + r < a
        · rw [decide_eq_true (show x + r ≤ a - 1 by omega), decide_eq_true (show 0 ≤ x + r by omega), decide_eq_true (show 0 < r ∧ x + r < a by omega)]; rfl
        · rw [decide_eq_false (show ¬ x + r ≤ a - 1 by omega), decide_eq_false (show ¬ (0 < r ∧ x + r < a) from fun h => g h.2), Bool.and_false]
      rw [List.filter_cons, List.filter_cons, List.filter_nil, h1, h2]
      by_cases g1 : 0 ≤ x <;> by_cases g2 : 0 < r ∧ x + r < a <;> simp [g1, g2]
  · rw [if_neg c, if_neg c]
    rfl
def encP (x : Int × Int) : S54 := ⟨x.1, x.2⟩
theorem imL1 {p a : Int} (ha : 1 ≤ a ∧ a ≤ 1200) (X : List S54) : ∀ (rest done : List Int) (acc : List S54), done.length + rest.length ≤ 1000 → acc.length + rest.length ≤ 1000000 →
    Ev (fun k => impl_primesOver.l0 k p (acc ++ (rest.filter (inA a)).map fun b => ⟨a, b⟩) (a + 1)) X → Ev (fun k => impl_primesOver.l1 k p acc a (done ++ rest) ((done ++ rest).length : Int) (done.length : Int)) X
  | [], done, acc, hl, hb, H => by
    refine Ev.step (fun k => ?_) (by simpa using H)
    simp only [impl_primesOver.l1, List.append_nil]
    rw [if_neg (by omega), w64 (x := a + 1) (by omega) (by omega)]
  | x :: rest, done, acc, hl, hb, H => by
    simp only [List.length_cons] at hl hb
    have e1 : rd (done ++ x :: rest) (done.length : Int) = x := by simp [rd]
    have c1 : (done.length : Int) < ((done ++ x :: rest).length : Int) := by rw [List.length_append, List.length_cons]; omega
    have e2 : wrap64 ((done.length : Int) + 1) = ((done ++ [x]).length : Int) := by rw [w64 (by omega) (by omega), List.length_append]; rfl
    have e3 : done ++ x :: rest = (done ++ [x]) ++ rest := by simp
    rw [List.filter_cons] at H
    by_cases g : inA a x = true
    · rw [if_pos g] at H
      have ih := imL1 ha X rest (done ++ [x]) (acc ++ [⟨a, x⟩]) (by simp; omega) (by simp; omega) (by simpa using H)
      refine Ev.step (fun k => ?_) ih
      simp only [impl_primesOver.l1]
      rw [if_pos c1, if_pos (by omega), if_pos c1, w64 (x := a - 1) (by omega) (by omega), within_, e1, Option.bind_some, show (decide (0 ≤ x) && decide (x ≤ a - 1)) = true from g, if_pos rfl, if_pos (by omega), e2, ← e3]
    · rw [if_neg g] at H
      have ih := imL1 ha X rest (done ++ [x]) acc (by simp; omega) (by omega) H
      refine Ev.step (fun k => ?_) ih
      simp only [impl_primesOver.l1]
      rw [if_pos c1, if_pos (by omega), if_pos c1, w64 (x := a - 1) (by omega) (by omega), within_, e1, Option.bind_some, show (decide (0 ≤ x) && decide (x ≤ a - 1)) = false from Bool.eq_false_iff.mpr g, if_neg (by decide), e2, ← e3]
theorem hv2_len (n a : Int) : (hv2 n a).length ≤ 2 := by
  unfold hv2
  split
  · split <;> simp
  · simp
theorem imL0 (n : Int) (hn : 1 ≤ n ∧ n ≤ 1000000) : ∀ (m : Nat) (a : Int) (acc : List S54), a + m = 1200 → 1 ≤ a → (acc.length : Int) ≤ 2 * a → Ev (fun k => impl_primesOver.l0 k n acc a) (acc ++ (ofN n m a).map encP)
  | 0, a, acc, hm, ha, _ => by
    obtain rfl : a = 1200 := by omega
    refine Ev.step (f := fun _ => some acc) (fun k => ?_) (by simpa [ofN] using Ev.now acc)
    simp only [impl_primesOver.l0]
    rw [w64 (x := 3 * 1200) (by omega) (by omega), w64 (x := 3 * 1200 * 1200) (by omega) (by omega), w64 (x := 4 * n) (by omega) (by omega), if_neg (by omega)]
  | m + 1, a, acc, hm, ha, hacc => by
    have ha2 : a * a ≤ 1200 * 1200 := Int.mul_le_mul (by omega) (by omega) (by omega) (by omega)
    have ha0 : 0 ≤ a * a := Int.mul_nonneg (by omega) (by omega)
    have e3 : 3 * a * a = 3 * (a * a) := by grind
    simp only [ofN]
    by_cases c : 3 * a * a ≤ 4 * n
    · rw [if_pos c]
      have hd := dd_iff.mp c
      have hlen := hv2_len n a
      have hrl := rowb_len n a
      refine Ev.step (f := fun k => (impl_halves.f k a (a * a - n)).bind fun t => impl_primesOver.l1 k n acc a t (t.length : Int) 0) (fun k => ?_) ?_
      · simp only [impl_primesOver.l0]
        rw [w64 (x := 3 * a) (by omega) (by omega), w64 (x := 3 * a * a) (by omega) (by omega), w64 (x := 4 * n) (by omega) (by omega), if_pos c, w64 (x := a * a) (by omega) (by omega), w64 (x := a * a - n) (by omega) (by omega)]
      · refine Ev.bind (imHalves hn (by omega) hd) ?_
        have ih := imL0 n hn m (a + 1) (acc ++ (rowb n a).map fun b => ⟨a, b⟩) (by omega) (by omega) (by rw [List.length_append, List.length_map]; omega)
        have := imL1 (p := n) (a := a) (by omega) _ (hv2 n a) [] acc (by simp; omega) (by omega) (by rw [hv2_row ha hd]; exact ih)
        have e : (acc ++ (rowb n a).map fun b => (⟨a, b⟩ : S54)) ++ (ofN n m (a + 1)).map encP = acc ++ ((rowb n a).map (fun b => (a, b)) ++ ofN n m (a + 1)).map encP := by simp [encP]
        rw [e] at this
        simpa using this
    · rw [if_neg c, List.map_nil, List.append_nil]
      refine Ev.step (f := fun _ => some acc) (fun k => ?_) (Ev.now acc)
      simp only [impl_primesOver.l0]
      rw [w64 (x := 3 * a) (by omega) (by omega), w64 (x := 3 * a * a) (by omega) (by omega), w64 (x := 4 * n) (by omega) (by omega), if_neg c]
def over1 (p : Int) : List (Int × Int) := if p % 3 = 2 then [(p, 0)] else ofN p 1199 1
theorem imOver (p : Int) (hp : 1 ≤ p ∧ p ≤ 1000000) : Ev (fun k => impl_primesOver.f k p) ((over1 p).map encP) := by
  unfold impl_primesOver.f over1
  rw [show Int.tmod p 3 = p % 3 from Int.tmod_eq_emod_of_nonneg (by omega)]
  by_cases c : p % 3 = 2
  · simp only [if_pos c]
    exact Ev.now _
  · simp only [if_neg c]
    simpa using imL0 p hp 1199 1 [] (by omega) (by omega) (by simp)
theorem imNorm {a b : Int} (ha : -1000000 ≤ a ∧ a ≤ 1000000) (hb : -1000000 ≤ b ∧ b ≤ 1000000) : impl_cubic_norm.f a b = some (nm a b) := by
  have h1 := mul_bd ha ha
  have h2 := mul_bd ha hb
  have h3 := mul_bd hb hb
  unfold impl_cubic_norm.f nm
  rw [w64 (x := a * a) (by omega) (by omega), w64 (x := a * b) (by omega) (by omega), w64 (x := b * b) (by omega) (by omega), w64 (x := a * a - a * b) (by omega) (by omega), w64 (x := a * a - a * b + b * b) (by omega) (by omega)]
theorem imTold (a b : Int) : ∃ t, impl_cubic_told.f a b = some (3, [a, b], t) := ⟨_, rfl⟩
def pick (n : Int) (l : List (Int × Int)) : List (Int × Int) := l.filter fun x => decide (nm x.1 x.2 = n)
theorem imN1 {n : Int} {fl : List Int} {fn i : Int} (hi : 0 ≤ i ∧ i ≤ 100000) (X : List S26 × Int) : ∀ (rest done : List (Int × Int)) (acc : List S26), (∀ x ∈ rest, (-1000000 ≤ x.1 ∧ x.1 ≤ 1000000) ∧ (-1000000 ≤ x.2 ∧ x.2 ≤ 1000000)) → done.length + rest.length ≤ 100000 → acc.length + rest.length ≤ 1000000000 →
    Ev (fun k => impl_PrimesOfNorm.l0 k n (acc ++ (pick n rest).map encS) fl fn (i + 1)) X → Ev (fun k => impl_PrimesOfNorm.l1 k n acc fl fn i ((done ++ rest).map encP) (((done ++ rest).map encP).length : Int) (done.length : Int)) X
  | [], done, acc, _, hl, hb, H => by
    refine Ev.step (fun k => ?_) (by simpa [pick] using H)
    simp only [impl_PrimesOfNorm.l1, List.append_nil, List.length_map]
    rw [if_neg (by omega), w64 (x := i + 1) (by omega) (by omega)]
  | x :: rest, done, acc, hx, hl, hb, H => by
    simp only [List.length_cons] at hl hb
    have e1 : rd_T54 ((done ++ x :: rest).map encP) (done.length : Int) = encP x := by simp [rd_T54]
    have c1 : (done.length : Int) < (((done ++ x :: rest).map encP).length : Int) := by rw [List.length_map, List.length_append, List.length_cons]; omega
    have e2 : wrap64 ((done.length : Int) + 1) = ((done ++ [x]).length : Int) := by rw [w64 (by omega) (by omega), List.length_append]; rfl
    have e3 : done ++ x :: rest = (done ++ [x]) ++ rest := by simp
    have hx1 := hx x (by simp)
    obtain ⟨t, ht⟩ := imTold x.1 x.2
    have ep : pick n (x :: rest) = if nm x.1 x.2 = n then x :: pick n rest else pick n rest := by
      unfold pick
      rw [List.filter_cons]
      by_cases g : nm x.1 x.2 = n <;> simp [g]
    rw [ep] at H
    by_cases g : nm x.1 x.2 = n
    · rw [if_pos g] at H
      have ih := imN1 (n := n) (fl := fl) (fn := fn) hi X rest (done ++ [x]) (acc ++ [encS x]) (fun y hy => hx y (List.mem_cons_of_mem _ hy)) (by simp; omega) (by simp; omega) (by simpa using H)
      refine Ev.step (fun k => ?_) ih
      simp only [impl_PrimesOfNorm.l1]
      rw [if_pos c1, if_pos (by omega), if_pos c1, e1, show (encP x).f0 = x.1 from rfl, show (encP x).f1 = x.2 from rfl, imNorm hx1.1 hx1.2, Option.bind_some, if_pos g, ht, Option.bind_some, if_pos (by omega), e2, ← e3]
      rfl
    · rw [if_neg g] at H
      have ih := imN1 (n := n) (fl := fl) (fn := fn) hi X rest (done ++ [x]) acc (fun y hy => hx y (List.mem_cons_of_mem _ hy)) (by simp; omega) (by omega) H
      refine Ev.step (fun k => ?_) ih
      simp only [impl_PrimesOfNorm.l1]
      rw [if_pos c1, if_pos (by omega), if_pos c1, e1, show (encP x).f0 = x.1 from rfl, show (encP x).f1 = x.2 from rfl, imNorm hx1.1 hx1.2, Option.bind_some, if_neg g, e2, ← e3]
theorem over1_ok {p : Int} (hp : 1 ≤ p ∧ p ≤ 1000000) : (∀ x ∈ over1 p, (-1000000 ≤ x.1 ∧ x.1 ≤ 1000000) ∧ (-1000000 ≤ x.2 ∧ x.2 ≤ 1000000)) ∧ (over1 p).length ≤ 2398 := by
  unfold over1
  by_cases c : p % 3 = 2
  · rw [if_pos c]
    refine ⟨fun x hx => ?_, by simp⟩
    obtain rfl := List.mem_singleton.mp hx
    simp only
    omega
  · rw [if_neg c]
    refine ⟨fun x hx => ?_, ofN_len p 1199 1⟩
    have := ofN_small hp x hx
    omega
theorem imN0 {n : Int} : ∀ (rest done : List Int) (acc : List S26), (∀ p ∈ rest, 1 ≤ p ∧ p ≤ 1000000) → done.length + rest.length ≤ 100000 → acc.length ≤ 2398 * done.length →
    Ev (fun k => impl_PrimesOfNorm.l0 k n acc (done ++ rest) ((done ++ rest).length : Int) (done.length : Int)) (acc ++ (rest.flatMap fun p => pick n (over1 p)).map encS, 0)
  | [], done, acc, _, hl, ha => by
    refine Ev.step (f := fun _ => some (acc, 0)) (fun k => ?_) (by simpa using Ev.now (acc, (0 : Int)))
    simp only [impl_PrimesOfNorm.l0, List.append_nil]
    rw [if_neg (by omega)]
  | p :: rest, done, acc, hp, hl, ha => by
    simp only [List.length_cons] at hl
    have hp1 := hp p (by simp)
    have ho := over1_ok hp1
    have e1 : rd (done ++ p :: rest) (done.length : Int) = p := by simp [rd]
    have c1 : (done.length : Int) < ((done ++ p :: rest).length : Int) := by rw [List.length_append, List.length_cons]; omega
    have e3 : done ++ p :: rest = (done ++ [p]) ++ rest := by simp
    have hpl : (pick n (over1 p)).length ≤ 2398 := Nat.le_trans (List.length_filter_le _ _) ho.2
    have ih := imN0 (n := n) rest (done ++ [p]) (acc ++ (pick n (over1 p)).map encS) (fun y hy => hp y (List.mem_cons_of_mem _ hy)) (by simp; omega) (by rw [List.length_append, List.length_map, List.length_append]; simp; omega)
    refine Ev.step (f := fun k => (impl_primesOver.f k p).bind fun t193 => impl_PrimesOfNorm.l1 k n acc (done ++ p :: rest) ((done ++ p :: rest).length : Int) (done.length : Int) t193 (t193.length : Int) 0) (fun k => ?_) ?_
    · simp only [impl_PrimesOfNorm.l0]
      rw [if_pos c1, if_pos (by omega), if_pos c1, e1]
    · refine Ev.bind (imOver p hp1) ?_
      have := imN1 (n := n) (fl := done ++ p :: rest) (fn := ((done ++ p :: rest).length : Int)) (i := (done.length : Int)) (by omega) (acc ++ ((p :: rest).flatMap fun p => pick n (over1 p)).map encS, 0) (over1 p) [] acc ho.1 (by simp; omega) (by omega) (by
        rw [e3, show (done.length : Int) + 1 = ((done ++ [p]).length : Int) by rw [List.length_append]; rfl]
        simpa using ih)
      simpa using this
/-- factorsOf from some place on: a list that begins as it stands. -/
theorem cyRestF : ∀ (m : Nat) (d n : Int) (ls : List Int), d + m = 40000 → 2 ≤ d → 1 ≤ n → n ≤ 1000000000 → (ls.length : Int) < d + 5 → ∃ L, Ev (fun k => impl_factorsOf.l0 k n ls d) (ls ++ L) := by
  intro m
  induction m with
  | zero =>
    intro d n ls hd h2 hn hn2 hls
    have : d = 40000 := by omega
    subst this
    by_cases c : n > 1
    · refine ⟨[n], Ev.step (f := fun _ => some (ls ++ [n])) (fun k => ?_) (Ev.now _)⟩
      simp only [impl_factorsOf.l0]
      rw [w64 (x := 40000 * 40000) (by omega) (by omega), if_neg (by omega), if_pos c, if_pos (by omega)]
    · refine ⟨[], Ev.step (f := fun _ => some (ls ++ [])) (fun k => ?_) (Ev.now _)⟩
      simp only [impl_factorsOf.l0]
      rw [w64 (x := 40000 * 40000) (by omega) (by omega), if_neg (by omega), if_neg c, List.append_nil]
  | succ m ih =>
    intro d n ls hd h2 hn hn2 hls
    have hdd : d * d ≤ 40000 * 40000 := Int.mul_le_mul (by omega) (by omega) (by omega) (by omega)
    have hd0 : 0 ≤ d * d := Int.mul_nonneg (by omega) (by omega)
    have strip : ∀ (t : Nat) (x : Int) (ls : List Int), 1 ≤ x → x ≤ 1000000000 → x ≤ t → (ls.length : Int) < d + 6 → ∃ L, Ev (fun k => impl_factorsOf.l1 k x ls d) (ls ++ L) := by
      intro t
      induction t with
      | zero => intro x ls h1 _ h3 _; omega
      | succ t iht =>
        intro x ls h1 h3 h4 h5
        by_cases c : Int.tmod x d = 0
        · obtain ⟨y, hy⟩ := (cyDvd (by omega)).mp c
          have hy0 : 1 ≤ y := by
            by_cases hh : 1 ≤ y
            · exact hh
            · have := Int.mul_nonneg (show 0 ≤ d by omega) (show 0 ≤ -y by omega)
              have e3 : d * -y = -(d * y) := by grind
              omega
          have hy1 : 2 * y ≤ d * y := Int.mul_le_mul_of_nonneg_right h2 (by omega)
          have e : Int.tdiv x d = y := by rw [hy]; exact Int.mul_tdiv_cancel_left _ (by omega)
          obtain ⟨L, H⟩ := iht y ls hy0 (by omega) (by omega) h5
          refine ⟨L, Ev.step (fun k => ?_) H⟩
          simp only [impl_factorsOf.l1]
          rw [if_neg (by omega), if_pos c, e, w64 (x := y) (by omega) (by omega)]
        · obtain ⟨L, H⟩ := ih (d + 1) x ls (by omega) (by omega) h1 h3 (by omega)
          refine ⟨L, Ev.step (fun k => ?_) H⟩
          simp only [impl_factorsOf.l1]
          rw [if_neg (by omega), if_neg c, w64 (x := d + 1) (by omega) (by omega)]
    by_cases c : d * d ≤ n
    · by_cases c2 : Int.tmod n d = 0
      · obtain ⟨L, H⟩ := strip n.toNat n (ls ++ [d]) hn hn2 (by omega) (by rw [List.length_append]; simp; omega)
        refine ⟨d :: L, Ev.step (f := fun k => impl_factorsOf.j1 k n (ls ++ [d]) d) (fun k => ?_) (Ev.step (f := fun k => impl_factorsOf.l1 k n (ls ++ [d]) d) (fun k => by simp only [impl_factorsOf.j1]) ?_)⟩
        · simp only [impl_factorsOf.l0]
          rw [w64 (x := d * d) (by omega) (by omega), if_pos c, if_neg (by omega), if_pos c2, if_pos (by omega)]
        · rw [List.append_assoc] at H
          exact H
      · obtain ⟨L, H⟩ := strip n.toNat n ls hn hn2 (by omega) (by omega)
        refine ⟨L, Ev.step (f := fun k => impl_factorsOf.j1 k n ls d) (fun k => ?_) (Ev.step (f := fun k => impl_factorsOf.l1 k n ls d) (fun k => by simp only [impl_factorsOf.j1]) H)⟩
        simp only [impl_factorsOf.l0]
        rw [w64 (x := d * d) (by omega) (by omega), if_pos c, if_neg (by omega), if_neg c2]
    · by_cases c3 : n > 1
      · refine ⟨[n], Ev.step (f := fun _ => some (ls ++ [n])) (fun k => ?_) (Ev.now _)⟩
        simp only [impl_factorsOf.l0]
        rw [w64 (x := d * d) (by omega) (by omega), if_neg c, if_pos c3, if_pos (by omega)]
      · refine ⟨[], Ev.step (f := fun _ => some (ls ++ [])) (fun k => ?_) (Ev.now _)⟩
        simp only [impl_factorsOf.l0]
        rw [w64 (x := d * d) (by omega) (by omega), if_neg c, if_neg c3, List.append_nil]
theorem cyStrip (m : Nat) (d : Int) (hd : d + 1 + m = 40000) (h2 : 2 ≤ d) : ∀ (t : Nat) (x : Int) (ls : List Int), 1 ≤ x → x ≤ 1000000000 → x ≤ t → (ls.length : Int) < d + 6 → ∃ L, Ev (fun k => impl_factorsOf.l1 k x ls d) (ls ++ L) := by
  intro t
  induction t with
  | zero => intro x ls h1 _ h3 _; omega
  | succ t iht =>
    intro x ls h1 h3 h4 h5
    by_cases c : Int.tmod x d = 0
    · obtain ⟨y, hy⟩ := (cyDvd (by omega)).mp c
      have hy0 : 1 ≤ y := by
        by_cases hh : 1 ≤ y
        · exact hh
        · have := Int.mul_nonneg (show 0 ≤ d by omega) (show 0 ≤ -y by omega)
          have e3 : d * -y = -(d * y) := by grind
          omega
      have hy1 : 2 * y ≤ d * y := Int.mul_le_mul_of_nonneg_right h2 (by omega)
      have e : Int.tdiv x d = y := by rw [hy]; exact Int.mul_tdiv_cancel_left _ (by omega)
      obtain ⟨L, H⟩ := iht y ls hy0 (by omega) (by omega) h5
      refine ⟨L, Ev.step (fun k => ?_) H⟩
      simp only [impl_factorsOf.l1]
      rw [if_neg (by omega), if_pos c, e, w64 (x := y) (by omega) (by omega)]
    · obtain ⟨L, H⟩ := cyRestF m (d + 1) x ls hd (by omega) h1 h3 (by omega)
      refine ⟨L, Ev.step (fun k => ?_) H⟩
      simp only [impl_factorsOf.l1]
      rw [if_neg (by omega), if_neg c, w64 (x := d + 1) (by omega) (by omega)]
theorem cyFactors (n : Int) (hn : 2 ≤ n) (hn2 : n ≤ 1000000000) : ∃ q L, Ev (fun k => impl_factorsOf.f k n) (q :: L) ∧ LD n q ∧ ((n = q ∨ n = q * q) → L = []) := by
  have key : ∀ (m : Nat) (d : Int), d + m = 40000 → 2 ≤ d → (∀ e, 2 ≤ e → e < d → ¬ e ∣ n) → ∃ q L, Ev (fun k => impl_factorsOf.l0 k n [] d) (q :: L) ∧ LD n q ∧ ((n = q ∨ n = q * q) → L = []) := by
    intro m
    induction m with
    | zero =>
      intro d hd h2 h
      have : d = 40000 := by omega
      subst this
      refine ⟨n, [], Ev.step (f := fun _ => some [n]) (fun k => ?_) (Ev.now _), cyNo hn 40000 (by omega) (by omega) h, fun _ => rfl⟩
      simp only [impl_factorsOf.l0]
      rw [w64 (x := 40000 * 40000) (by omega) (by omega), if_neg (by omega), if_pos (by omega), if_pos (by simp)]
      rfl
    | succ m ih =>
      intro d hd h2 h
      have hdd : d * d ≤ 40000 * 40000 := Int.mul_le_mul (by omega) (by omega) (by omega) (by omega)
      have hd0 : 0 ≤ d * d := Int.mul_nonneg (by omega) (by omega)
      by_cases c : d * d ≤ n
      · by_cases c2 : d ∣ n
        · have st1 : ∀ k, impl_factorsOf.l0 (k + 1) n [] d = impl_factorsOf.j1 k n [d] d := by
            intro k
            simp only [impl_factorsOf.l0]
            rw [w64 (x := d * d) (by omega) (by omega), if_pos c, if_neg (by omega), if_pos ((cyDvd (by omega)).mpr c2), if_pos (by simp)]
            rfl
          by_cases sq : n = d * d
          · refine ⟨d, [], Ev.step (f := fun k => impl_factorsOf.j1 k n [d] d) st1 (Ev.step (f := fun k => impl_factorsOf.l1 k n [d] d) (fun k => by simp only [impl_factorsOf.j1]) ?_), ⟨h2, c2, h⟩, fun _ => rfl⟩
            have t1 : Int.tmod (d * d) d = 0 := (cyDvd hd0).mpr ⟨d, rfl⟩
            have t2 : Int.tmod d d = 0 := (cyDvd (by omega)).mpr ⟨1, by omega⟩
            have t3 : Int.tmod 1 d = 1 := Int.tmod_eq_of_lt (by omega) (by omega)
            refine Ev.step (f := fun k => impl_factorsOf.l1 k d [d] d) (fun k => ?_) ?_
            · simp only [impl_factorsOf.l1]
              rw [sq, if_neg (by omega), if_pos t1, Int.mul_tdiv_cancel_left _ (by omega), w64 (x := d) (by omega) (by omega)]
            · refine Ev.step (f := fun k => impl_factorsOf.l1 k 1 [d] d) (fun k => ?_) ?_
              · simp only [impl_factorsOf.l1]
                rw [if_neg (by omega), if_pos t2, Int.tdiv_self (by omega), w64 (x := 1) (by omega) (by omega)]
              · refine Ev.step (f := fun k => impl_factorsOf.l0 k 1 [d] (d + 1)) (fun k => ?_) (Ev.step (f := fun _ => some [d]) (fun k => ?_) (Ev.now _))
                · simp only [impl_factorsOf.l1]
                  rw [if_neg (by omega), if_neg (by omega), w64 (x := d + 1) (by omega) (by omega)]
                · have e1 : (d + 1) * (d + 1) = d * d + 2 * d + 1 := by grind
                  simp only [impl_factorsOf.l0]
                  rw [w64 (x := (d + 1) * (d + 1)) (by omega) (by omega), if_neg (by omega), if_neg (by omega)]
          · obtain ⟨L, H⟩ := cyStrip m d (by omega) h2 n.toNat n [d] (by omega) hn2 (by omega) (by simp; omega)
            refine ⟨d, L, Ev.step (f := fun k => impl_factorsOf.j1 k n [d] d) st1 (Ev.step (f := fun k => impl_factorsOf.l1 k n [d] d) (fun k => by simp only [impl_factorsOf.j1]) H), ⟨h2, c2, h⟩, ?_⟩
            rintro (hh | hh)
            · have : 2 * d ≤ d * d := Int.mul_le_mul_of_nonneg_right h2 (by omega)
              omega
            · exact absurd hh sq
        · have nt : ¬ Int.tmod n d = 0 := fun hh => c2 ((cyDvd (by omega)).mp hh)
          obtain ⟨q, L, H, r⟩ := ih (d + 1) (by omega) (by omega) (fun e he hlt => by
            by_cases c3 : e = d
            · subst c3; exact c2
            · exact h e he (by omega))
          refine ⟨q, L, Ev.step (f := fun k => impl_factorsOf.j1 k n [] d) (fun k => ?_) (Ev.step (f := fun k => impl_factorsOf.l1 k n [] d) (fun k => by simp only [impl_factorsOf.j1]) (Ev.step (fun k => ?_) H)), r⟩
          · simp only [impl_factorsOf.l0]
            rw [w64 (x := d * d) (by omega) (by omega), if_pos c, if_neg (by omega), if_neg nt]
          · simp only [impl_factorsOf.l1]
            rw [if_neg (by omega), if_neg nt, w64 (x := d + 1) (by omega) (by omega)]
      · refine ⟨n, [], Ev.step (f := fun _ => some [n]) (fun k => ?_) (Ev.now _), cyNo hn d h2 (by omega) h, fun _ => rfl⟩
        simp only [impl_factorsOf.l0]
        rw [w64 (x := d * d) (by omega) (by omega), if_neg c, if_pos (by omega), if_pos (by simp)]
        rfl
  exact key 39998 2 (by omega) (by omega) (fun e h1 h2 => by omega)
theorem pnRest : ∀ (m : Nat) (d n : Int) (ls : List Int), d + m = 40000 → 2 ≤ d → 1 ≤ n → n ≤ 1000000000 → (ls.length : Int) < d + 5 → (∀ e, 2 ≤ e → e < d → ¬ e ∣ n) → ∃ L, Ev (fun k => impl_factorsOf.l0 k n ls d) (ls ++ L) ∧ L.length ≤ m + 1 ∧ ∀ p ∈ L, p ∣ n ∧ 2 ≤ p ∧ ∀ e, 2 ≤ e → e < p → ¬ e ∣ p := by
  intro m
  induction m with
  | zero =>
    intro d n ls hd h2 hn hn2 hls hno
    have : d = 40000 := by omega
    subst this
    by_cases c : n > 1
    · refine ⟨[n], Ev.step (f := fun _ => some (ls ++ [n])) (fun k => ?_) (Ev.now _), by simp, fun p hp => by obtain rfl := List.mem_singleton.mp hp; exact ⟨⟨1, by omega⟩, by omega, (cyNo (by omega) _ h2 (by omega) hno).2.2⟩⟩
      simp only [impl_factorsOf.l0]
      rw [w64 (x := 40000 * 40000) (by omega) (by omega), if_neg (by omega), if_pos c, if_pos (by omega)]
    · refine ⟨[], Ev.step (f := fun _ => some (ls ++ [])) (fun k => ?_) (Ev.now _), by simp, fun p hp => by cases hp⟩
      simp only [impl_factorsOf.l0]
      rw [w64 (x := 40000 * 40000) (by omega) (by omega), if_neg (by omega), if_neg c, List.append_nil]
  | succ m ih =>
    intro d n ls hd h2 hn hn2 hls hno
    have hdd : d * d ≤ 40000 * 40000 := Int.mul_le_mul (by omega) (by omega) (by omega) (by omega)
    have hd0 : 0 ≤ d * d := Int.mul_nonneg (by omega) (by omega)
    have strip : ∀ (t : Nat) (x : Int) (ls : List Int), 1 ≤ x → x ≤ 1000000000 → x ≤ t → (ls.length : Int) < d + 6 → (∀ e, 2 ≤ e → e < d → ¬ e ∣ x) → ∃ L, Ev (fun k => impl_factorsOf.l1 k x ls d) (ls ++ L) ∧ L.length ≤ m + 1 ∧ ∀ p ∈ L, p ∣ x ∧ 2 ≤ p ∧ ∀ e, 2 ≤ e → e < p → ¬ e ∣ p := by
      intro t
      induction t with
      | zero => intro x ls h1 _ h3 _ _; omega
      | succ t iht =>
        intro x ls h1 h3 h4 h5 h6
        by_cases c : Int.tmod x d = 0
        · obtain ⟨y, hy⟩ := (cyDvd (by omega)).mp c
          have hy0 : 1 ≤ y := by
            by_cases hh : 1 ≤ y
            · exact hh
            · have := Int.mul_nonneg (show 0 ≤ d by omega) (show 0 ≤ -y by omega)
              have e3 : d * -y = -(d * y) := by grind
              omega
          have hy1 : 2 * y ≤ d * y := Int.mul_le_mul_of_nonneg_right h2 (by omega)
          have e : Int.tdiv x d = y := by rw [hy]; exact Int.mul_tdiv_cancel_left _ (by omega)
          obtain ⟨L, H, hl, hP⟩ := iht y ls hy0 (by omega) (by omega) h5 (fun e he hlt hd => h6 e he hlt (hy ▸ Int.dvd_mul_of_dvd_right hd))
          refine ⟨L, Ev.step (fun k => ?_) H, hl, fun p hp => ⟨hy ▸ Int.dvd_mul_of_dvd_right (hP p hp).1, (hP p hp).2⟩⟩
          simp only [impl_factorsOf.l1]
          rw [if_neg (by omega), if_pos c, e, w64 (x := y) (by omega) (by omega)]
        · obtain ⟨L, H, hl, hP⟩ := ih (d + 1) x ls (by omega) (by omega) h1 h3 (by omega) (fun e he hlt hdv => by
            by_cases g : e = d
            · exact c ((cyDvd (by omega)).mpr (g ▸ hdv))
            · exact h6 e he (by omega) hdv)
          refine ⟨L, Ev.step (fun k => ?_) H, by omega, hP⟩
          simp only [impl_factorsOf.l1]
          rw [if_neg (by omega), if_neg c, w64 (x := d + 1) (by omega) (by omega)]
    by_cases c : d * d ≤ n
    · by_cases c2 : Int.tmod n d = 0
      · obtain ⟨L, H, hl, hP⟩ := strip n.toNat n (ls ++ [d]) hn hn2 (by omega) (by rw [List.length_append]; simp; omega) hno
        have hdn := (cyDvd (show 0 ≤ n by omega)).mp c2
        refine ⟨d :: L, Ev.step (f := fun k => impl_factorsOf.j1 k n (ls ++ [d]) d) (fun k => ?_) (Ev.step (f := fun k => impl_factorsOf.l1 k n (ls ++ [d]) d) (fun k => by simp only [impl_factorsOf.j1]) ?_), by simp; omega, fun p hp => ?_⟩
        · simp only [impl_factorsOf.l0]
          rw [w64 (x := d * d) (by omega) (by omega), if_pos c, if_neg (by omega), if_pos c2, if_pos (by omega)]
        · rw [List.append_assoc] at H
          exact H
        · rcases List.mem_cons.mp hp with rfl | hp
          · exact ⟨hdn, h2, fun e he hlt hd => hno e he hlt (Int.dvd_trans hd hdn)⟩
          · exact hP p hp
      · obtain ⟨L, H, hl, hP⟩ := strip n.toNat n ls hn hn2 (by omega) (by omega) hno
        refine ⟨L, Ev.step (f := fun k => impl_factorsOf.j1 k n ls d) (fun k => ?_) (Ev.step (f := fun k => impl_factorsOf.l1 k n ls d) (fun k => by simp only [impl_factorsOf.j1]) H), by omega, hP⟩
        simp only [impl_factorsOf.l0]
        rw [w64 (x := d * d) (by omega) (by omega), if_pos c, if_neg (by omega), if_neg c2]
    · by_cases c3 : n > 1
      · refine ⟨[n], Ev.step (f := fun _ => some (ls ++ [n])) (fun k => ?_) (Ev.now _), by simp, fun p hp => by obtain rfl := List.mem_singleton.mp hp; exact ⟨⟨1, by omega⟩, by omega, (cyNo (by omega) d h2 (by omega) hno).2.2⟩⟩
        simp only [impl_factorsOf.l0]
        rw [w64 (x := d * d) (by omega) (by omega), if_neg c, if_pos c3, if_pos (by omega)]
      · refine ⟨[], Ev.step (f := fun _ => some (ls ++ [])) (fun k => ?_) (Ev.now _), by simp, fun p hp => by cases hp⟩
        simp only [impl_factorsOf.l0]
        rw [w64 (x := d * d) (by omega) (by omega), if_neg c, if_neg c3, List.append_nil]
theorem evDet {α : Type} {g : Nat → Option α} {a b : α} (h1 : Ev g a) (h2 : Ev g b) : a = b := by
  obtain ⟨K1, h1⟩ := h1
  obtain ⟨K2, h2⟩ := h2
  have := (h1 (K1 + K2) (by omega)).symm.trans (h2 (K1 + K2) (by omega))
  injection this
theorem imOut {n : Int} (hn : 1 ≤ n ∧ n ≤ 1000000) {fl : List Int} (hf : Ev (fun k => impl_factorsOf.f k n) fl) (hp : ∀ p ∈ fl, 1 ≤ p ∧ p ≤ 1000000) (hl : fl.length ≤ 100000) : Ev (fun k => impl_PrimesOfNorm.f k n) ((fl.flatMap fun p => pick n (over1 p)).map encS, 0) := by
  unfold impl_PrimesOfNorm.f
  refine ev_bind_const (within_ _ _ _) ?_
  rw [decide_eq_true hn.1, decide_eq_true hn.2]
  simp only [Bool.and_self, if_true]
  refine Ev.bind hf ?_
  simpa using imN0 (n := n) fl [] [] hp (by simp; omega) (by simp)
theorem nm_q0 (q : Int) : nm q 0 = q * q := by unfold nm; grind
theorem inert_one {q a b : Int} (hq : 2 ≤ q) (hP : Eis.Pr q.toNat) (h3 : q % 3 = 2) (hb : 0 ≤ b ∧ b < a) (h : nm a b = q * q) : a = q := by
  obtain ⟨Q, rfl⟩ := Int.eq_ofNat_of_zero_le (show 0 ≤ q by omega)
  rw [Int.toNat_natCast] at hP
  have h2 := Eis.inert_dvd hP (by omega) (z := ⟨a, b⟩) (show (Q : Int) ∣ Eis.enm ⟨a, b⟩ from ⟨(Q : Int), h⟩)
  obtain ⟨⟨x, hx⟩, ⟨y, hy⟩⟩ := h2
  simp only at hx hy
  have hQ : (0 : Int) < Q := by omega
  have e : (Q : Int) * Q * nm x y = (Q : Int) * Q * 1 := by
    rw [hx, hy] at h
    unfold nm at h ⊢
    grind
  have hQQ : (0 : Int) < (Q : Int) * Q := Int.mul_pos hQ hQ
  have e1 : nm x y = 1 := Int.eq_of_mul_eq_mul_left (by omega) e
  have hy0 : 0 ≤ y := by
    by_cases c : 0 ≤ y
    · exact c
    · have := Int.mul_nonneg (show (0 : Int) ≤ Q by omega) (show 0 ≤ -y by omega)
      have e3 : (Q : Int) * -y = -((Q : Int) * y) := by grind
      have : (Q : Int) * 1 ≤ (Q : Int) * -y := Int.mul_le_mul_of_nonneg_left (by omega) (by omega)
      omega
  have hxy : y < x := by
    by_cases c : y < x
    · exact c
    · have := Int.mul_le_mul_of_nonneg_left (show x ≤ y by omega) (show (0 : Int) ≤ Q by omega)
      omega
  have hx1 : x ≤ 1 := by
    by_cases c : x ≤ 1
    · exact c
    · exfalso
      have e4 : nm x y = x * (x - y) + y * y := by unfold nm; grind
      have h5 := sq_nn y
      have h6 : 2 * 1 ≤ x * (x - y) := Int.mul_le_mul (by omega) (by omega) (by omega) (by omega)
      omega
  have : x = 1 := by omega
  rw [hx, this]
  omega
theorem rowb_sq {q a : Int} (hq : 2 ≤ q) (hP : Eis.Pr q.toNat) (h3 : q % 3 = 2) (ha : 1 ≤ a) (hd : 0 ≤ dd (q * q) a) : (rowb (q * q) a).map (fun b => (a, b)) = if a = q then [(q, 0)] else [] := by
  by_cases c : a = q
  · subst c
    have e : dd (a * a) a = a * a := by unfold dd; grind
    have h5 : (a + 1) * (a + 1) = a * a + 2 * a + 1 := by grind
    have hs := sq_uniq (d := a * a) (r := a) (sq_nn a) (by omega) (by omega) (by omega)
    rw [if_pos rfl]
    unfold rowb
    rw [e, ← hs, if_pos ⟨rfl, by omega⟩, if_pos (show 0 ≤ (a - a) / 2 by omega), if_neg (show ¬ (0 < a ∧ (a + a) / 2 < a) by omega), show (a - a) / 2 = 0 by omega]
    rfl
  · rw [if_neg c]
    have : rowb (q * q) a = [] := by
      apply List.eq_nil_iff_forall_not_mem.mpr
      intro b hb
      have h := rowb_mem ha hd hb
      exact c (inert_one hq hP h3 ⟨h.1, h.2.1⟩ h.2.2)
    rw [this]
    rfl
theorem ofN_sq {q : Int} (hq : 2 ≤ q) (hq2 : q ≤ 1000) (hP : Eis.Pr q.toNat) (h3 : q % 3 = 2) : ∀ (m : Nat) (a : Int), a + m = 1200 → 1 ≤ a → ofN (q * q) m a = if a ≤ q then [(q, 0)] else []
  | 0, a, hm, ha => by rw [if_neg (by omega)]; rfl
  | m + 1, a, hm, ha => by
    have ih := ofN_sq hq hq2 hP h3 m (a + 1) (by omega) (by omega)
    simp only [ofN]
    by_cases c : 3 * a * a ≤ 4 * (q * q)
    · rw [if_pos c, rowb_sq hq hP h3 ha (dd_iff.mp c), ih]
      by_cases c1 : a = q
      · subst c1
        rw [if_pos rfl, if_neg (by omega), if_pos (by omega)]
        rfl
      · rw [if_neg c1, List.nil_append]
        by_cases c2 : a + 1 ≤ q
        · rw [if_pos c2, if_pos (by omega)]
        · rw [if_neg c2, if_neg (by omega)]
    · rw [if_neg c]
      have : ¬ a ≤ q := by
        intro h
        have h1 : a * a ≤ q * q := Int.mul_le_mul h h (by omega) (by omega)
        have h2 := sq_nn a
        have e3 : 3 * a * a = 3 * (a * a) := by grind
        omega
      rw [if_neg this]
theorem nm_mod3 (a b : Int) : nm a b % 3 ≠ 2 := by
  obtain ⟨k, r, hk, hr⟩ : ∃ k r : Int, a + b = 3 * k + r ∧ (r = 0 ∨ r = 1 ∨ r = 2) := ⟨(a + b) / 3, (a + b) % 3, by omega, by omega⟩
  have e : nm a b = 3 * (3 * (k * k) + 2 * (k * r) - a * b) + r * r := by
    have : a = 3 * k + r - b := by omega
    unfold nm
    rw [this]
    grind
  generalize 3 * (k * k) + 2 * (k * r) - a * b = t at e
  rcases hr with rfl | rfl | rfl <;> omega
theorem pick_nil {n : Int} {l : List (Int × Int)} (h : ∀ x ∈ l, nm x.1 x.2 ≠ n) : pick n l = [] := by
  unfold pick
  rw [List.filter_eq_nil_iff]
  intro x hx
  simpa using h x hx
theorem pick_all {n : Int} {l : List (Int × Int)} (h : ∀ x ∈ l, nm x.1 x.2 = n) : pick n l = l := by
  unfold pick
  rw [List.filter_eq_self]
  intro x hx
  simpa using h x hx
theorem pnMain {n : Int} (hn : 1 ≤ n ∧ n ≤ 1000000) : ∃ L : List (Int × Int), Ev (fun k => spec_PrimesOfNorm.f k n) (L.map encS, 0) ∧ Ev (fun k => impl_PrimesOfNorm.f k n) (L.map encS, 0) ∧ L.length ≤ 1000000 := by
  obtain ⟨fl, hf0, hlen, hprop⟩ := pnRest 39998 2 n [] (by omega) (by omega) hn.1 (by omega) (by simp) (fun e h1 h2 => by omega)
  have hf : Ev (fun k => impl_factorsOf.f k n) fl := by
    unfold impl_factorsOf.f
    simpa using hf0
  have hbd : ∀ p ∈ fl, 1 ≤ p ∧ p ≤ 1000000 := by
    intro p hp
    have h := hprop p hp
    have := Int.le_of_dvd (by omega) h.1
    omega
  have hi := imOut hn hf hbd (by omega)
  have hol := ofN_len n 1199 1
  by_cases c1 : n = 1
  · subst c1
    have : fl = [] := by
      apply List.eq_nil_iff_forall_not_mem.mpr
      intro p hp
      have h := hprop p hp
      have := Int.le_of_dvd (by omega) h.1
      omega
    subst this
    have hs := spOut hn false (fun a b h ha hb => spPrime1 h ha hb)
    exact ⟨[], by simpa using hs, by simpa using hi, by simp⟩
  obtain ⟨q, L, H, hq, hL⟩ := cyFactors n (by omega) (by omega)
  have hfl := evDet hf H
  have hq2 := hq.1
  have hqn : q ≤ n := Int.le_of_dvd (by omega) hq.2.1
  obtain ⟨Q, N, hQ, _, hPr⟩ := cyPr hq (by omega)
  have hP : Eis.Pr q.toNat := by rw [hQ]; exact hPr
  have hs := spOut hn (isP n q) (fun a b h ha hb => spPrime (by omega) hq h ha hb)
  by_cases cA : q = n
  · have hL0 := hL (.inl cA.symm)
    subst hL0
    subst hfl
    have ht : isP n q = true := by unfold isP; rw [decide_eq_true cA]; rfl
    rw [ht] at hs
    simp only [if_true] at hs
    refine ⟨ofN n 1199 1, hs, ?_, by omega⟩
    have e : ([q].flatMap fun p => pick n (over1 p)) = ofN n 1199 1 := by
      rw [List.flatMap_cons, List.flatMap_nil, List.append_nil]
      subst cA
      unfold over1
      by_cases c3 : q % 3 = 2
      · rw [if_pos c3, pick_nil]
        · symm
          apply List.eq_nil_iff_forall_not_mem.mpr
          intro x hx
          have h1 := (ofN_small hn x hx).1
          have h2 := nm_mod3 x.1 x.2
          omega
        · intro x hx
          obtain rfl := List.mem_singleton.mp hx
          show nm q 0 ≠ q
          rw [nm_q0]
          have : 2 * q ≤ q * q := Int.mul_le_mul_of_nonneg_right hq2 (by omega)
          omega
      · rw [if_neg c3, pick_all]
        intro x hx
        exact (ofN_small hn x hx).1
    rw [e] at hi
    exact hi
  by_cases cB : q % 3 = 2 ∧ q * q = n
  · have hL0 := hL (.inr cB.2.symm)
    subst hL0
    subst hfl
    have ht : isP n q = true := by unfold isP; rw [decide_eq_true cB.1, decide_eq_true cB.2]; simp
    rw [ht] at hs
    simp only [if_true] at hs
    have hq3 : q ≤ 1000 := by
      by_cases g : q ≤ 1000
      · exact g
      · have : 1001 * 1001 ≤ q * q := Int.mul_le_mul (by omega) (by omega) (by omega) (by omega)
        omega
    have e1 : ofN n 1199 1 = [(q, 0)] := by
      have := ofN_sq hq2 hq3 hP cB.1 1199 1 (by omega) (by omega)
      rw [cB.2, if_pos (by omega)] at this
      exact this
    rw [e1] at hs
    refine ⟨[(q, 0)], hs, ?_, by simp⟩
    have e : ([q].flatMap fun p => pick n (over1 p)) = [(q, 0)] := by
      rw [List.flatMap_cons, List.flatMap_nil, List.append_nil]
      unfold over1
      rw [if_pos cB.1, pick_all]
      intro x hx
      obtain rfl := List.mem_singleton.mp hx
      rw [nm_q0]
      exact cB.2
    rw [e] at hi
    exact hi
  · have ht : isP n q = false := by
      unfold isP
      rw [decide_eq_false cA]
      by_cases g : q % 3 = 2
      · rw [decide_eq_false (show ¬ q * q = n from fun h => cB ⟨g, h⟩)]; simp
      · rw [decide_eq_false g]; rfl
    rw [ht] at hs
    refine ⟨[], by simpa using hs, ?_, by simp⟩
    have e : (fl.flatMap fun p => pick n (over1 p)) = [] := by
      rw [List.flatMap_eq_nil_iff]
      intro p hp
      have h := hprop p hp
      apply pick_nil
      unfold over1
      by_cases g : p % 3 = 2
      · rw [if_pos g]
        intro x hx
        obtain rfl := List.mem_singleton.mp hx
        simp only
        rw [nm_q0]
        intro hpp
        have hd : (Q : Int) ∣ p * p := by rw [hpp, ← hQ]; exact hq.2.1
        have hqp : q ∣ p := by rw [hQ]; exact (hPr.int hd).elim id id
        have hle := Int.le_of_dvd (by omega) hqp
        by_cases hlt : q < p
        · exact h.2.2 q hq2 hlt hqp
        · have : q = p := by omega
          subst this
          exact cB ⟨g, hpp⟩
      · rw [if_neg g]
        intro x hx hne
        have h1 := (ofN_small (hbd p hp) x hx).1
        have hpn : p = n := by omega
        subst hpn
        exact h.2.2 q hq2 (by omega) hq.2.1
    rw [e] at hi
    simpa using hi
theorem FnExactPrimesOfNorm : laws_FnExactPrimesOfNorm.Pure := by
  intro n hn
  apply Ev.rounds
  obtain ⟨⟨l, e⟩, hs, hi, hl2, hl1⟩ : ∃ o : List S26 × Int, Ev (fun k => spec_PrimesOfNorm.f k n) o ∧ Ev (fun k => impl_PrimesOfNorm.f k n) o ∧ (∀ x ∈ o.1, x.f1.length ≤ 100) ∧ o.1.length ≤ 1000000 := by
    by_cases c : 1 ≤ n ∧ n ≤ 1000000
    · obtain ⟨L, h1, h2, h3⟩ := pnMain c
      refine ⟨_, h1, h2, fun x hx => ?_, by simpa using h3⟩
      obtain ⟨y, _, rfl⟩ := List.mem_map.mp hx
      simp [encS]
    · have hb : (decide (1 ≤ n) && decide (n ≤ 1000000)) = false := by
        by_cases g : 1 ≤ n
        · rw [decide_eq_false (show ¬ n ≤ 1000000 from fun h => c ⟨g, h⟩), Bool.and_false]
        · rw [decide_eq_false g, Bool.false_and]
      refine ⟨([], 2), ?_, ?_, by simp, by simp⟩
      · unfold spec_PrimesOfNorm.f
        refine ev_bind_const (l01In _ _ _) ?_
        rw [hb]
        simp only [Bool.false_eq_true, if_false]
        exact Ev.now _
      · unfold impl_PrimesOfNorm.f
        refine ev_bind_const (within_ _ _ _) ?_
        rw [hb]
        simp only [Bool.false_eq_true, if_false]
        exact Ev.now _
  simp only at hl1 hl2
  have hq := eqCs l hl2 (by omega)
  obtain ⟨mA, mB⟩ := markCs l hl2 (by omega)
  have hh := nHeldC l hl2 (by omega)
  have hf := nMarkC_fst l 1 (by omega) hl2 (by omega)
  unfold laws_FnExactPrimesOfNorm.f
  refine Ev.bind hs (Ev.bind hi (Ev.bind hq ?_))
  simp only [if_true, bne_self_eq_false]
  refine Ev.step (fun k => by simp only [laws_FnExactPrimesOfNorm.j0, Bool.false_eq_true, if_false] <;> rfl) ?_
  refine ev_bind_const mB (ev_bind_const mA (Ev.bind hh ?_))
  simp only [if_neg (show ¬ (nMarkC l 1).1 < 0 by omega), if_true]
  refine Ev.bind hi (Ev.bind hq ?_)
  simp only [if_true, bne_self_eq_false]
  refine Ev.step (fun k => by simp only [laws_FnExactPrimesOfNorm.j1, Bool.false_eq_true, if_false] <;> rfl) ?_
  refine Ev.bind hh ?_
  simp only [if_neg (show ¬ (nMarkC l 1).1 < 0 by omega), if_true]
  exact Ev.now _
end Go.Proofs.Ytejpliodhnglbaa.Pure
