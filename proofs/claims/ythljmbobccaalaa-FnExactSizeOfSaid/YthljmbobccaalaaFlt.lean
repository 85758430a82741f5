/- Sums of floats: what the additions and products of IEEE words of 64 bits are near to; no condition. -/
import GoSem.Core.Float
import GoSem.Op.FloatArith
namespace Go.Proofs.Ythljmbobccaalaa.Flt
open Ieee
/-- A word of 64 bits stands for v units of 2^-1074. -/
def Fl (z : Nat) (v : Int) : Prop := ∃ s m e, double.read z = .number s m e ∧ -1074 ≤ e ∧ v = signed s m (e + 1074).toNat
theorem signed_val (s : Bool) (m k : Nat) : signed s m k = (if s then -1 else 1) * ((m * 2 ^ k : Nat) : Int) := by
  unfold signed
  rw [Nat.shiftLeft_eq]
  cases s <;> simp
theorem cut_spec (neg : Bool) (n drop : Nat) : 2 * (Toward.even.cut neg n drop * 2 ^ drop) ≤ 2 * n + 2 ^ drop ∧ 2 * n ≤ 2 * (Toward.even.cut neg n drop * 2 ^ drop) + 2 ^ drop ∧ (drop = 0 → Toward.even.cut neg n drop = n) := by
  unfold Toward.cut
  simp only [Nat.one_shiftLeft]
  rcases Nat.le_total drop (n.log2 + 2) with hd | hd
  · rw [Nat.min_eq_left hd]
    have hp : 0 < 2 ^ drop := Nat.two_pow_pos _
    have hdm := Nat.div_add_mod n (2 ^ drop)
    have hlt := Nat.mod_lt n hp
    have h0 : drop = 0 → 2 ^ drop = 1 := fun h => by rw [h]
    generalize 2 ^ drop = G at *
    generalize hq : n / G = q at *
    generalize hr : n % G = r at *
    have hc : G * q = q * G := Nat.mul_comm _ _
    have hq0 : drop = 0 → q = n := fun h => by rw [← hq, h0 h, Nat.div_one]
    by_cases hm : (decide (G < 2 * r) || (G == 2 * r && q % 2 == 1)) = true
    · rw [hm]
      have hm2 : G ≤ 2 * r := by
        simp only [Bool.or_eq_true, decide_eq_true_eq, Bool.and_eq_true, beq_iff_eq] at hm
        omega
      have e : (q + true.toNat) * G = q * G + G := by rw [Nat.add_mul]; simp
      rw [e]
      refine ⟨by omega, by omega, fun h => ?_⟩
      have := h0 h
      omega
    · rw [Bool.not_eq_true] at hm
      rw [hm]
      have hm2 : 2 * r ≤ G := by
        simp only [Bool.or_eq_false_iff, decide_eq_false_iff_not] at hm
        omega
      have e : (q + false.toNat) * G = q * G := by simp
      rw [e]
      refine ⟨by omega, by omega, fun h => ?_⟩
      rw [show q + false.toNat = q from rfl]
      exact hq0 h
  · rw [Nat.min_eq_right hd]
    have h1 : n < 2 ^ (n.log2 + 1) := Nat.lt_log2_self
    have h2 : 2 ^ (n.log2 + 2) = 2 * 2 ^ (n.log2 + 1) := by rw [Nat.pow_succ, Nat.mul_comm]
    have h3 : 2 ^ (n.log2 + 2) ≤ 2 ^ drop := Nat.pow_le_pow_right (by decide) hd
    have e1 : n / 2 ^ (n.log2 + 2) = 0 := Nat.div_eq_of_lt (by omega)
    have e2 : n % 2 ^ (n.log2 + 2) = n := Nat.mod_eq_of_lt (by omega)
    rw [e1, e2]
    have e3 : (decide (2 ^ (n.log2 + 2) < 2 * n) || (2 ^ (n.log2 + 2) == 2 * n && 0 % 2 == 1)) = false := by
      simp; omega
    rw [e3]
    refine ⟨by simp, by simp; omega, fun h => by omega⟩
theorem read_word (neg : Bool) (R : Nat) (h : R < 2 ^ 63) : (double.word neg R / double.signWeight % 2 == 1) = neg ∧ double.word neg R % double.signWeight = R := by
  have hw : double.signWeight = 9223372036854775808 := by decide
  have h' : R < 9223372036854775808 := by simpa using h
  unfold Format.word
  rw [hw]
  cases neg
  · simp only [Bool.false_eq_true, if_false]
    refine ⟨?_, by omega⟩
    rw [Nat.div_eq_of_lt h']
    rfl
  · simp only [if_true]
    have : (9223372036854775808 + R) / 9223372036854775808 = 1 := by omega
    refine ⟨by rw [this]; rfl, by omega⟩
/-- The word of a kept significand. -/
theorem read_kept (neg : Bool) (L kept : Nat) (h1 : kept ≤ 9007199254740992) (h2 : 0 < L → 4503599627370496 ≤ kept) (hL : L < 2000) :
    ∃ m e, double.read (double.word neg (min (L * double.binade + kept) double.infRung)) = .number neg m e ∧ -1074 ≤ e ∧ m * 2 ^ (e + 1074).toNat = kept * 2 ^ L := by
  have hb : double.binade = 4503599627370496 := by decide
  have hi : double.infRung = 9218868437227405312 := by decide
  have hl : double.leastPlace = -1074 := by decide
  have hR : min (L * double.binade + kept) double.infRung = L * 4503599627370496 + kept := by rw [hb, hi]; omega
  rw [hR]
  obtain ⟨r1, r2⟩ := read_word neg (L * 4503599627370496 + kept) (by show _ < 9223372036854775808; omega)
  unfold Format.read
  simp only [r1, r2, hb, hi, hl]
  by_cases c : L * 4503599627370496 + kept < 4503599627370496
  · rw [if_pos c]
    have hL0 : L = 0 := by
      rcases Nat.eq_zero_or_pos L with h | h
      · exact h
      · omega
    subst hL0
    exact ⟨_, _, rfl, by omega, by simp⟩
  · rw [if_neg c, if_pos (by omega)]
    refine ⟨_, _, rfl, by omega, ?_⟩
    rcases Nat.lt_or_ge kept 9007199254740992 with hk | hk
    · have hk2 : 4503599627370496 ≤ kept := by
        rcases Nat.eq_zero_or_pos L with h | h
        · subst h; omega
        · exact h2 h
      have q : (L * 4503599627370496 + kept) / 4503599627370496 = L + 1 := by omega
      have r : (L * 4503599627370496 + kept) % 4503599627370496 = kept - 4503599627370496 := by omega
      rw [q, r, show (-1074 + ((L + 1 - 1 : Nat) : Int) + 1074).toNat = L by omega, show 4503599627370496 + (kept - 4503599627370496) = kept by omega]
    · have hk2 : kept = 9007199254740992 := by omega
      subst hk2
      have q : (L * 4503599627370496 + 9007199254740992) / 4503599627370496 = L + 2 := by omega
      have r : (L * 4503599627370496 + 9007199254740992) % 4503599627370496 = 0 := by omega
      rw [q, r, show (-1074 + ((L + 2 - 1 : Nat) : Int) + 1074).toNat = L + 1 by omega, Nat.pow_succ]
      omega
set_option exponentiation.threshold 3000 in
theorem nearest_spec (neg : Bool) (mag P : Nat) (hb : mag * 2 ^ P < 2 ^ 2000) :
    ∃ m e, double.read (double.nearest neg mag ((P : Int) - 1074)) = .number neg m e ∧ -1074 ≤ e ∧ 2 ^ 53 * (m * 2 ^ (e + 1074).toNat) ≤ 2 ^ 53 * (mag * 2 ^ P) + mag * 2 ^ P ∧ 2 ^ 53 * (mag * 2 ^ P) ≤ 2 ^ 53 * (m * 2 ^ (e + 1074).toNat) + mag * 2 ^ P ∧ (mag.log2 ≤ 52 → m * 2 ^ (e + 1074).toNat = mag * 2 ^ P) := by
  by_cases h0 : mag = 0
  · subst h0
    have : double.nearest neg 0 ((P : Int) - 1074) = double.word neg 0 := by unfold Format.nearest; rw [if_pos rfl]
    rw [this]
    obtain ⟨r1, r2⟩ := read_word neg 0 (by decide)
    unfold Format.read
    simp only [r1, r2]
    rw [if_pos (by decide)]
    exact ⟨0, _, rfl, by decide, by simp, by simp, fun _ => by simp⟩
  · have hlo : 2 ^ mag.log2 ≤ mag := Nat.log2_self_le h0
    have hhi : mag < 2 ^ (mag.log2 + 1) := Nat.lt_log2_self
    obtain ⟨g, hg⟩ : ∃ g, g = mag.log2 := ⟨_, rfl⟩
    rw [← hg] at hlo hhi
    obtain ⟨L, hL⟩ : ∃ L, L = P + g - 52 := ⟨_, rfl⟩
    have hLb : L < 2000 := by
      rcases Nat.lt_or_ge L 2000 with h | h
      · exact h
      · exfalso
        have : 2 ^ 2000 ≤ 2 ^ (g + P) := Nat.pow_le_pow_right (by decide) (by omega)
        rw [Nat.pow_add] at this
        have := Nat.mul_le_mul_right (2 ^ P) hlo
        omega
    have hn : double.nearest neg mag ((P : Int) - 1074) = double.word neg (min (L * double.binade + Toward.even.cut neg (mag * 2 ^ (P - L)) (L - P)) double.infRung) := by
      unfold Format.nearest
      rw [if_neg h0]
      have hl : double.leastPlace = -1074 := by decide
      have hf : double.fractionBits = 52 := by decide
      have hmax : max ((P : Int) - 1074 + (mag.log2 : Int) - ((52 : Nat) : Int)) (-1074) = (L : Int) - 1074 := by rw [← hg, hL]; omega
      simp only [hl, hf, hmax]
      rw [show ((P : Int) - 1074 - ((L : Int) - 1074)).toNat = P - L by omega, show ((L : Int) - 1074 - ((P : Int) - 1074)).toNat = L - P by omega, show ((L : Int) - 1074 - -1074).toNat = L by omega, Nat.shiftLeft_eq]
    rw [hn]
    obtain ⟨c1, c2, c3⟩ := cut_spec neg (mag * 2 ^ (P - L)) (L - P)
    obtain ⟨K, hK⟩ : ∃ K, K = Toward.even.cut neg (mag * 2 ^ (P - L)) (L - P) := ⟨_, rfl⟩
    rw [← hK] at c1 c2 c3 ⊢
    rcases Nat.le_total L P with hc | hc
    · -- nothing is dropped
      have e1 : K = mag * 2 ^ (P - L) := c3 (by omega)
      have hg52 : g ≤ 52 := by omega
      have u1 : K < 2 ^ 53 := by
        have : mag * 2 ^ (P - L) < 2 ^ (g + 1) * 2 ^ (P - L) := Nat.mul_lt_mul_of_pos_right hhi (Nat.two_pow_pos _)
        rw [← Nat.pow_add] at this
        have h2 : 2 ^ (g + 1 + (P - L)) ≤ 2 ^ 53 := Nat.pow_le_pow_right (by decide) (by omega)
        omega
      have u2 : 0 < L → 2 ^ 52 ≤ K := by
        intro h
        have : 2 ^ g * 2 ^ (P - L) ≤ mag * 2 ^ (P - L) := Nat.mul_le_mul_right _ hlo
        rw [← Nat.pow_add, show g + (P - L) = 52 by omega] at this
        omega
      obtain ⟨m, e, r1, r2, r3⟩ := read_kept neg L K (Nat.le_of_lt u1) (fun h => by have := u2 h; simpa using this) hLb
      have e2 : K * 2 ^ L = mag * 2 ^ P := by rw [e1, Nat.mul_assoc, ← Nat.pow_add, show P - L + L = P by omega]
      refine ⟨m, e, r1, r2, ?_, ?_, fun _ => by rw [r3, e2]⟩
      · rw [r3, e2]; omega
      · rw [r3, e2]; omega
    · by_cases hLP : L = P
      · subst hLP
        have e1 : K = mag * 2 ^ (L - L) := c3 (by omega)
        rw [Nat.sub_self, Nat.pow_zero, Nat.mul_one] at e1
        have u1 : K < 2 ^ 53 := by
          have h2 : 2 ^ (g + 1) ≤ 2 ^ 53 := Nat.pow_le_pow_right (by decide) (by omega)
          omega
        have u2 : 0 < L → 2 ^ 52 ≤ K := by
          intro h
          have h2 : 2 ^ 52 ≤ 2 ^ g := Nat.pow_le_pow_right (by decide) (by omega)
          omega
        obtain ⟨m, e, r1, r2, r3⟩ := read_kept neg L K (Nat.le_of_lt u1) (fun h => by have := u2 h; simpa using this) hLb
        refine ⟨m, e, r1, r2, ?_, ?_, fun _ => by rw [r3, e1]⟩
        · rw [r3, e1]; omega
        · rw [r3, e1]; omega
      · -- digits are dropped
        obtain ⟨D, hD⟩ : ∃ D, D = L - P := ⟨_, rfl⟩
        have hgD : g = 52 + D := by omega
        rw [show P - L = 0 by omega, Nat.pow_zero, Nat.mul_one] at c1 c2
        rw [← hD] at c1 c2
        have hpD : 0 < 2 ^ D := Nat.two_pow_pos _
        have hpow : 2 ^ L = 2 ^ D * 2 ^ P := by rw [← Nat.pow_add]; congr 1; omega
        have p52 : 2 ^ g = 4503599627370496 * 2 ^ D := by rw [hgD, Nat.pow_add]
        have p53 : 2 ^ (g + 1) = 9007199254740992 * 2 ^ D := by rw [Nat.pow_succ, p52]; omega
        rw [p52] at hlo
        rw [p53] at hhi
        generalize 2 ^ D = G at *
        have u1 : K ≤ 9007199254740992 := by
          rcases Nat.lt_or_ge 9007199254740992 K with h | h
          · exfalso
            have : 9007199254740993 * G ≤ K * G := Nat.mul_le_mul_right _ h
            omega
          · exact h
        have u2 : 4503599627370496 ≤ K := by
          rcases Nat.lt_or_ge K 4503599627370496 with h | h
          · exfalso
            have : K * G ≤ 4503599627370495 * G := Nat.mul_le_mul_right _ (by omega)
            omega
          · exact h
        obtain ⟨m, e, r1, r2, r3⟩ := read_kept neg L K u1 (fun _ => u2) hLb
        have e3 : K * 2 ^ L = K * G * 2 ^ P := by rw [hpow, Nat.mul_assoc]
        have e53 : (2 : Nat) ^ 53 = 9007199254740992 := by decide
        refine ⟨m, e, r1, r2, ?_, ?_, fun h => by omega⟩
        · rw [r3, e3, e53]
          have := Nat.mul_le_mul_right (2 ^ P) (show 9007199254740992 * (K * G) ≤ 9007199254740992 * mag + mag by omega)
          rw [Nat.add_mul, Nat.mul_assoc 9007199254740992 mag, Nat.mul_assoc 9007199254740992 (K * G)] at this
          exact this
        · rw [r3, e3, e53]
          have := Nat.mul_le_mul_right (2 ^ P) (show 9007199254740992 * mag ≤ 9007199254740992 * (K * G) + mag by omega)
          rw [Nat.add_mul, Nat.mul_assoc 9007199254740992 mag, Nat.mul_assoc 9007199254740992 (K * G)] at this
          exact this
/-- The same for a whole number of units, with its sign. -/
theorem near_int (neg : Bool) (mag P : Nat) (hb : mag * 2 ^ P < 2 ^ 2000) :
    ∃ u : Int, Fl (double.nearest neg mag ((P : Int) - 1074)) u ∧ 2 ^ 53 * (u - signed neg mag P).natAbs ≤ (signed neg mag P).natAbs ∧ (mag.log2 ≤ 52 → u = signed neg mag P) := by
  obtain ⟨m, e, h1, h2, h3, h4, h5⟩ := nearest_spec neg mag P hb
  refine ⟨_, ⟨neg, m, e, h1, h2, rfl⟩, ?_, fun h => ?_⟩
  · rw [signed_val, signed_val]
    generalize m * 2 ^ (e + 1074).toNat = a at *
    generalize mag * 2 ^ P = b at *
    have e53 : (2 : Nat) ^ 53 = 9007199254740992 := by decide
    rw [e53] at *
    cases neg <;> simp only [Bool.false_eq_true, if_false, if_true] <;> omega
  · rw [signed_val, signed_val, h5 h]
theorem add_spec {x y : Nat} {v w : Int} (hx : Fl x v) (hy : Fl y w) (hb : (v + w).natAbs < 2 ^ 2000) :
    ∃ z u, double.add x y = some z ∧ Fl z u ∧ 2 ^ 53 * (u - (v + w)).natAbs ≤ (v + w).natAbs := by
  obtain ⟨s, m, i, hx, hi, rfl⟩ := hx
  obtain ⟨t, n, j, hy, hj, rfl⟩ := hy
  obtain ⟨B, hB⟩ : ∃ B : Nat, (B : Int) - 1074 = min i j := ⟨(min i j + 1074).toNat, by omega⟩
  obtain ⟨T, hT⟩ : ∃ T, T = signed s m (i - min i j).toNat + signed t n (j - min i j).toNat := ⟨_, rfl⟩
  have key : signed s m (i + 1074).toNat + signed t n (j + 1074).toNat = T * 2 ^ B := by
    rw [hT, signed_val, signed_val, signed_val, signed_val, show (i + 1074).toNat = (i - min i j).toNat + B by omega, show (j + 1074).toNat = (j - min i j).toNat + B by omega, Nat.pow_add, Nat.pow_add]
    push_cast
    rw [Int.add_mul]
    congr 1 <;> (split <;> simp [Int.mul_assoc, Int.neg_mul])
  have hadd : double.add x y = some (double.nearest (if T = 0 then s && t else decide (T < 0)) T.natAbs ((B : Int) - 1074)) := by
    unfold Format.add
    rw [hx, hy, hB]
    simp only [Datum.sum, Option.map_some, ← hT]
    rfl
  have hs : signed (if T = 0 then s && t else decide (T < 0)) T.natAbs B = T * 2 ^ B := by
    rw [signed_val]
    by_cases h : T = 0
    · subst h; simp
    · rw [if_neg h]
      by_cases h2 : T < 0
      · simp only [h2, decide_true, if_true]
        have : T = -(T.natAbs : Int) := by omega
        conv => rhs; rw [this]
        push_cast
        simp [Int.neg_mul]
      · simp only [h2, decide_false, Bool.false_eq_true, if_false]
        have : T = (T.natAbs : Int) := by omega
        conv => rhs; rw [this]
        push_cast
        simp
  have hb2 : T.natAbs * 2 ^ B < 2 ^ 2000 := by
    rw [key, Int.natAbs_mul] at hb
    have : ((2 : Int) ^ B).natAbs = 2 ^ B := by
      rw [show ((2 : Int) ^ B) = ((2 ^ B : Nat) : Int) by push_cast; rfl]; exact Int.natAbs_natCast _
    rwa [this] at hb
  obtain ⟨u, h1, h2, _⟩ := near_int (if T = 0 then s && t else decide (T < 0)) T.natAbs B hb2
  rw [hs, ← key] at h2
  exact ⟨_, u, hadd, h1, h2⟩
theorem neg_spec {x : Nat} {v : Int} (hx : Fl x v) : ∃ s m e, double.read x = .number s m e ∧ -1074 ≤ e ∧ v = signed s m (e + 1074).toNat := hx
theorem sub_spec {x y : Nat} {v w : Int} (hx : Fl x v) (hy : Fl y w) (hb : (v - w).natAbs < 2 ^ 2000) :
    ∃ z u, double.sub x y = some z ∧ Fl z u ∧ 2 ^ 53 * (u - (v - w)).natAbs ≤ (v - w).natAbs := by
  obtain ⟨s, m, i, hx, hi, rfl⟩ := hx
  obtain ⟨t, n, j, hy, hj, rfl⟩ := hy
  obtain ⟨B, hB⟩ : ∃ B : Nat, (B : Int) - 1074 = min i j := ⟨(min i j + 1074).toNat, by omega⟩
  have hn : signed (!t) n (j + 1074).toNat = - signed t n (j + 1074).toNat := by
    rw [signed_val, signed_val]; cases t <;> simp
  rw [Int.sub_eq_add_neg, ← hn] at hb ⊢
  obtain ⟨T, hT⟩ : ∃ T, T = signed s m (i - min i j).toNat + signed (!t) n (j - min i j).toNat := ⟨_, rfl⟩
  have key : signed s m (i + 1074).toNat + signed (!t) n (j + 1074).toNat = T * 2 ^ B := by
    rw [hT, signed_val, signed_val, signed_val, signed_val, show (i + 1074).toNat = (i - min i j).toNat + B by omega, show (j + 1074).toNat = (j - min i j).toNat + B by omega, Nat.pow_add, Nat.pow_add]
    push_cast
    rw [Int.add_mul]
    congr 1 <;> (split <;> simp [Int.mul_assoc, Int.neg_mul])
  have hadd : double.sub x y = some (double.nearest (if T = 0 then s && !t else decide (T < 0)) T.natAbs ((B : Int) - 1074)) := by
    unfold Format.sub
    rw [hx, hy, hB]
    simp only [Datum.opposite, Datum.sum, Option.map_some, ← hT]
    rfl
  have hs : signed (if T = 0 then s && !t else decide (T < 0)) T.natAbs B = T * 2 ^ B := by
    rw [signed_val]
    by_cases h : T = 0
    · subst h; simp
    · rw [if_neg h]
      by_cases h2 : T < 0
      · simp only [h2, decide_true, if_true]
        have : T = -(T.natAbs : Int) := by omega
        conv => rhs; rw [this]
        push_cast
        simp [Int.neg_mul]
      · simp only [h2, decide_false, Bool.false_eq_true, if_false]
        have : T = (T.natAbs : Int) := by omega
        conv => rhs; rw [this]
        push_cast
        simp
  have hb2 : T.natAbs * 2 ^ B < 2 ^ 2000 := by
    rw [key, Int.natAbs_mul] at hb
    have : ((2 : Int) ^ B).natAbs = 2 ^ B := by
      rw [show ((2 : Int) ^ B) = ((2 ^ B : Nat) : Int) by push_cast; rfl]; exact Int.natAbs_natCast _
    rwa [this] at hb
  obtain ⟨u, h1, h2, _⟩ := near_int (if T = 0 then s && !t else decide (T < 0)) T.natAbs B hb2
  rw [hs, ← key] at h2
  exact ⟨_, u, hadd, h1, h2⟩
/-- A whole number below 2^53 as a word. -/
def ofInt (a : Int) : Nat := double.nearest (decide (a < 0)) a.natAbs 0
theorem read_lt {z : Nat} {s : Bool} {m : Nat} {e : Int} (h : double.read z = .number s m e) : m < 2 ^ 53 := by
  have hb : double.binade = 4503599627370496 := by decide
  have h53 : (2 : Nat) ^ 53 = 9007199254740992 := by decide
  unfold Format.read at h
  simp only [hb] at h
  split at h
  · injection h with _ h2 _
    omega
  · split at h
    · injection h with _ h2 _
      omega
    · split at h <;> cases h
def U : Int := 2 ^ 1074
theorem U_pos : 0 < U := by unfold U; exact Int.pow_pos (by decide)
theorem pow_nat (n : Nat) : (2 : Int) ^ n = ((2 ^ n : Nat) : Int) := by push_cast; rfl
theorem U_nat : U = ((2 ^ 1074 : Nat) : Int) := pow_nat 1074
set_option exponentiation.threshold 3000 in
theorem read_int (a : Int) (h0 : a ≠ 0) (h : a.natAbs < 2 ^ 53) : ∃ (m : Nat) (e : Int), double.read (ofInt a) = .number (decide (a < 0)) m e ∧ -52 ≤ e ∧ m * 2 ^ (e + 1074).toNat = a.natAbs * 2 ^ 1074 := by
  have hl : a.natAbs.log2 ≤ 52 := by
    have := (Nat.log2_lt (n := a.natAbs) (k := 53) (by omega)).mpr h
    omega
  have hb : a.natAbs * 2 ^ 1074 < 2 ^ 2000 := by
    have h1 : a.natAbs * 2 ^ 1074 < 2 ^ 53 * 2 ^ 1074 := Nat.mul_lt_mul_of_pos_right h (Nat.two_pow_pos 1074)
    rw [← Nat.pow_add] at h1
    exact Nat.lt_of_lt_of_le h1 (Nat.pow_le_pow_right (by decide) (by decide))
  obtain ⟨m, e, h1, h2, _, _, h5⟩ := nearest_spec (decide (a < 0)) a.natAbs 1074 hb
  rw [show (((1074 : Nat) : Int) - 1074) = 0 by decide] at h1
  have h6 := h5 hl
  refine ⟨m, e, h1, ?_, h6⟩
  have hm := read_lt h1
  rcases Int.lt_or_le e (-52) with c | c
  · exfalso
    have p1 : m * 2 ^ (e + 1074).toNat < 2 ^ 53 * 2 ^ (e + 1074).toNat := Nat.mul_lt_mul_of_pos_right hm (Nat.two_pow_pos _)
    have p2 : 2 ^ 53 * 2 ^ (e + 1074).toNat ≤ 2 ^ 1074 := by
      rw [← Nat.pow_add]
      exact Nat.pow_le_pow_right (by decide) (by omega)
    have p3 : 1 * 2 ^ 1074 ≤ a.natAbs * 2 ^ 1074 := Nat.mul_le_mul_right _ (by omega)
    omega
  · exact c
theorem ofInt_zero : double.read (ofInt 0) = .number false 0 (-1074) := by decide +kernel
set_option exponentiation.threshold 3000 in
theorem mul_spec (a b : Int) (ha : a.natAbs < 2 ^ 53) (hb : b.natAbs < 2 ^ 53) :
    ∃ z u, double.mul (ofInt a) (ofInt b) = some z ∧ Fl z u ∧ 2 ^ 53 * (u - a * b * U).natAbs ≤ (a * b * U).natAbs := by
  have zero : ∀ (x y : Nat) (s t : Bool) (m n : Nat) (i j : Int), double.read x = .number s m i → double.read y = .number t n j → m * n = 0 → ∃ z u, double.mul x y = some z ∧ Fl z u ∧ u = 0 := by
    intro x y s t m n i j hx hy h0
    refine ⟨double.word (s ^^ t) 0, 0, ?_, ?_, rfl⟩
    · unfold Format.mul
      rw [hx, hy]
      simp only [Datum.product, Option.map_some, h0, Format.write, Format.nearest, if_true]
    · refine ⟨s ^^ t, 0, -1074, ?_, by decide, by rw [signed_val]; simp⟩
      obtain ⟨r1, r2⟩ := read_word (s ^^ t) 0 (by decide)
      unfold Format.read
      simp only [r1, r2]
      rw [if_pos (by decide)]
      rfl
  by_cases a0 : a = 0
  · subst a0
    obtain ⟨s, m, e, hy⟩ : ∃ s m e, double.read (ofInt b) = .number s m e := by
      by_cases b0 : b = 0
      · subst b0; exact ⟨_, _, _, ofInt_zero⟩
      · obtain ⟨m, e, h, _⟩ := read_int b b0 hb; exact ⟨_, _, _, h⟩
    obtain ⟨z, u, h1, h2, h3⟩ := zero _ _ _ _ _ _ _ _ ofInt_zero hy (by simp)
    exact ⟨z, u, h1, h2, by rw [h3]; simp⟩
  by_cases b0 : b = 0
  · subst b0
    obtain ⟨m, e, hx, _⟩ := read_int a a0 ha
    obtain ⟨z, u, h1, h2, h3⟩ := zero _ _ _ _ _ _ _ _ hx ofInt_zero (by simp)
    exact ⟨z, u, h1, h2, by rw [h3]; simp⟩
  obtain ⟨m, i, hx, hi, ex⟩ := read_int a a0 ha
  obtain ⟨n, j, hy, hj, ey⟩ := read_int b b0 hb
  obtain ⟨P, hP⟩ : ∃ P : Nat, (P : Int) - 1074 = i + j := ⟨(i + j + 1074).toNat, by omega⟩
  have hv : m * n * 2 ^ P = a.natAbs * b.natAbs * 2 ^ 1074 := by
    have e1 : (m * 2 ^ (i + 1074).toNat) * (n * 2 ^ (j + 1074).toNat) = m * n * 2 ^ P * 2 ^ 1074 := by
      rw [show m * 2 ^ (i + 1074).toNat * (n * 2 ^ (j + 1074).toNat) = m * n * (2 ^ (i + 1074).toNat * 2 ^ (j + 1074).toNat) by ac_rfl, ← Nat.pow_add, show (i + 1074).toNat + (j + 1074).toNat = P + 1074 by omega, Nat.pow_add]
      exact (Nat.mul_assoc _ _ _).symm
    rw [ex, ey] at e1
    refine Nat.eq_of_mul_eq_mul_right (Nat.two_pow_pos 1074) ?_
    rw [← e1]
    generalize 2 ^ 1074 = G
    ac_rfl
  have hbd : m * n * 2 ^ P < 2 ^ 2000 := by
    rw [hv]
    have h1 : a.natAbs * b.natAbs < 2 ^ 53 * 2 ^ 53 := Nat.mul_lt_mul'' ha hb
    have h2 : a.natAbs * b.natAbs * 2 ^ 1074 < 2 ^ 53 * 2 ^ 53 * 2 ^ 1074 := Nat.mul_lt_mul_of_pos_right h1 (Nat.two_pow_pos 1074)
    rw [← Nat.pow_add, ← Nat.pow_add] at h2
    exact Nat.lt_of_lt_of_le h2 (Nat.pow_le_pow_right (by decide) (by decide))
  obtain ⟨u, h1, h2, _⟩ := near_int (decide (a < 0) ^^ decide (b < 0)) (m * n) P hbd
  have hs : signed (decide (a < 0) ^^ decide (b < 0)) (m * n) P = a * b * U := by
    rw [signed_val, hv, U_nat, Int.natCast_mul]
    generalize ((2 ^ 1074 : Nat) : Int) = G
    rw [Int.natCast_mul]
    by_cases c1 : a < 0 <;> by_cases c2 : b < 0
    · rw [show (a.natAbs : Int) = -a by omega, show (b.natAbs : Int) = -b by omega]
      simp [c1, c2, Int.neg_mul, Int.mul_neg]
    · rw [show (a.natAbs : Int) = -a by omega, show (b.natAbs : Int) = b by omega]
      simp [c1, c2, Int.neg_mul, Int.mul_neg]
    · rw [show (a.natAbs : Int) = a by omega, show (b.natAbs : Int) = -b by omega]
      simp [c1, c2, Int.neg_mul, Int.mul_neg]
    · rw [show (a.natAbs : Int) = a by omega, show (b.natAbs : Int) = b by omega]
      simp [c1, c2]
  rw [hs] at h2
  refine ⟨_, u, ?_, h1, h2⟩
  unfold Format.mul
  rw [hx, hy]
  simp only [Datum.product, Option.map_some, hP, Format.write]
theorem order_spec {x y : Nat} {v w : Int} (hx : Fl x v) (hy : Fl y w) : double.order x y = some (compare v w) := by
  obtain ⟨s, m, i, hx, hi, rfl⟩ := hx
  obtain ⟨t, n, j, hy, hj, rfl⟩ := hy
  obtain ⟨B, hB⟩ : ∃ B : Nat, (B : Int) - 1074 = min i j := ⟨(min i j + 1074).toNat, by omega⟩
  unfold Format.order
  rw [hx, hy]
  simp only [Datum.order]
  congr 1
  have sc : ∀ (s : Bool) (m : Nat) (i : Int), min i j ≤ i → -1074 ≤ i → signed s m (i + 1074).toNat = signed s m (i - min i j).toNat * 2 ^ B → True := fun _ _ _ _ _ _ => trivial
  have e1 : signed s m (i + 1074).toNat = signed s m (i - min i j).toNat * 2 ^ B := by
    rw [signed_val, signed_val, show (i + 1074).toNat = (i - min i j).toNat + B by omega, Nat.pow_add]
    push_cast
    split <;> simp [Int.mul_assoc, Int.neg_mul]
  have e2 : signed t n (j + 1074).toNat = signed t n (j - min i j).toNat * 2 ^ B := by
    rw [signed_val, signed_val, show (j + 1074).toNat = (j - min i j).toNat + B by omega, Nat.pow_add]
    push_cast
    split <;> simp [Int.mul_assoc, Int.neg_mul]
  rw [e1, e2]
  have hp : (0 : Int) < 2 ^ B := Int.pow_pos (by decide)
  generalize signed s m (i - min i j).toNat = a
  generalize signed t n (j - min i j).toNat = b
  generalize (2 : Int) ^ B = G at hp
  rcases Int.lt_trichotomy a b with h | h | h
  · have := Int.mul_lt_mul_of_pos_right h hp
    rw [Int.compare_eq_lt.mpr h, Int.compare_eq_lt.mpr this]
  · subst h
    simp
  · have := Int.mul_lt_mul_of_pos_right h hp
    rw [Int.compare_eq_gt.mpr h, Int.compare_eq_gt.mpr this]
/-- z is near X: t sums of products have been added. -/
def NearT (t : Nat) (z : Nat) (X : Int) : Prop := ∃ v, Fl z v ∧ -(1073741824 * (t * U)) ≤ v - X * U ∧ v - X * U ≤ 1073741824 * (t * U) ∧ -(36893488147419103232 * (t : Int)) ≤ X ∧ X ≤ 36893488147419103232 * t
theorem near_zero : NearT 0 0 0 := by
  refine ⟨0, ⟨false, 0, -1074, by decide +kernel, by decide, rfl⟩, ?_, ?_, by decide, by decide⟩
  · rw [Int.natCast_zero, Int.zero_mul]; decide
  · rw [Int.natCast_zero, Int.zero_mul]; decide
set_option exponentiation.threshold 3000 in
theorem U_big {x : Int} (h0 : -(4835703278458516698824704 * U) ≤ x) (h1 : x ≤ 4835703278458516698824704 * U) : x.natAbs < 2 ^ 2000 := by
  have e : 4835703278458516698824704 * U = ((4835703278458516698824704 * 2 ^ 1074 : Nat) : Int) := by rw [U_nat, Int.natCast_mul]; exact congrArg (fun x => x * ((2 ^ 1074 : Nat) : Int)) (show (4835703278458516698824704 : Int) = ((4835703278458516698824704 : Nat) : Int) from rfl)
  rw [e] at h0 h1
  have : x.natAbs ≤ 4835703278458516698824704 * 2 ^ 1074 := by omega
  refine Nat.lt_of_le_of_lt this ?_
  rw [show 4835703278458516698824704 = 2 ^ 82 by decide, ← Nat.pow_add]
  exact Nat.pow_lt_pow_right (by decide) (by decide)
theorem near_add {t z : Nat} {X a b : Int} (h : NearT t z X) (ht : t < 32768) (ha : -4294967296000 ≤ a ∧ a ≤ 4294967296000) (hb : -4294967296000 ≤ b ∧ b ≤ 4294967296000) (q : -36893488147419103232 ≤ a * b ∧ a * b ≤ 36893488147419103232) :
    ∃ p z', double.mul (ofInt a) (ofInt b) = some p ∧ double.add z p = some z' ∧ NearT (t + 1) z' (X + a * b) := by
  have e53 : (2 : Nat) ^ 53 = 9007199254740992 := by decide
  obtain ⟨p, u, hp, hu, hbu⟩ := mul_spec a b (by omega) (by omega)
  obtain ⟨v, hv, v1, v2, x1, x2⟩ := h
  have hU := U_pos
  -- the product's size
  obtain ⟨c, hc⟩ : ∃ c, c = a * b := ⟨_, rfl⟩
  rw [← hc] at q hbu ⊢
  have qU1 : -(36893488147419103232 * U) ≤ c * U := by have := Int.mul_le_mul_of_nonneg_right q.1 (Int.le_of_lt hU); rw [Int.neg_mul] at this; exact this
  have qU2 : c * U ≤ 36893488147419103232 * U := Int.mul_le_mul_of_nonneg_right q.2 (Int.le_of_lt hU)
  have tU0 : 0 ≤ (t : Int) * U := Int.mul_nonneg (by omega) (Int.le_of_lt hU)
  have tU1 : (t : Int) * U ≤ 32767 * U := Int.mul_le_mul_of_nonneg_right (by omega) (Int.le_of_lt hU)
  have xU1 : -(36893488147419103232 * (t * U)) ≤ X * U := by have := Int.mul_le_mul_of_nonneg_right x1 (Int.le_of_lt hU); rw [Int.neg_mul, Int.mul_assoc] at this; exact this
  have xU2 : X * U ≤ 36893488147419103232 * (t * U) := by have := Int.mul_le_mul_of_nonneg_right x2 (Int.le_of_lt hU); rw [Int.mul_assoc] at this; exact this
  obtain ⟨z', w, h1, h2, h3⟩ := add_spec hv hu (U_big (by omega) (by omega))
  refine ⟨p, z', hp, h1, w, h2, ?_⟩
  have e1 : (X + c) * U = X * U + c * U := Int.add_mul _ _ _
  have e2 : ((t + 1 : Nat) : Int) * U = t * U + U := by push_cast; rw [Int.add_mul, Int.one_mul]
  rw [e1, e2, e53] at *
  generalize (t : Int) * U = TU at *
  generalize X * U = XU at *
  generalize c * U = CU at *
  refine ⟨by omega, by omega, by push_cast; omega, by push_cast; omega⟩
theorem near_sub {t t' z z' : Nat} {X X' : Int} (h : NearT t z X) (h' : NearT t' z' X') (ht : t + t' < 32768) :
    ∃ z'', double.sub z z' = some z'' ∧ NearT (t + t' + 1) z'' (X - X') := by
  have e53 : (2 : Nat) ^ 53 = 9007199254740992 := by decide
  obtain ⟨v, hv, v1, v2, x1, x2⟩ := h
  obtain ⟨v', hv', v1', v2', x1', x2'⟩ := h'
  have hU := U_pos
  have tU0 : 0 ≤ (t : Int) * U := Int.mul_nonneg (by omega) (Int.le_of_lt hU)
  have tU0' : 0 ≤ (t' : Int) * U := Int.mul_nonneg (by omega) (Int.le_of_lt hU)
  have tU1 : (t : Int) * U + t' * U ≤ 32767 * U := by rw [← Int.add_mul]; exact Int.mul_le_mul_of_nonneg_right (by omega) (Int.le_of_lt hU)
  have xU1 : -(36893488147419103232 * (t * U)) ≤ X * U := by have := Int.mul_le_mul_of_nonneg_right x1 (Int.le_of_lt hU); rw [Int.neg_mul, Int.mul_assoc] at this; exact this
  have xU2 : X * U ≤ 36893488147419103232 * (t * U) := by have := Int.mul_le_mul_of_nonneg_right x2 (Int.le_of_lt hU); rw [Int.mul_assoc] at this; exact this
  have yU1 : -(36893488147419103232 * (t' * U)) ≤ X' * U := by have := Int.mul_le_mul_of_nonneg_right x1' (Int.le_of_lt hU); rw [Int.neg_mul, Int.mul_assoc] at this; exact this
  have yU2 : X' * U ≤ 36893488147419103232 * (t' * U) := by have := Int.mul_le_mul_of_nonneg_right x2' (Int.le_of_lt hU); rw [Int.mul_assoc] at this; exact this
  obtain ⟨z'', w, h1, h2, h3⟩ := sub_spec hv hv' (U_big (by omega) (by omega))
  refine ⟨z'', h1, w, h2, ?_⟩
  have e1 : (X - X') * U = X * U - X' * U := Int.sub_mul _ _ _
  have e2 : ((t + t' + 1 : Nat) : Int) * U = t * U + t' * U + U := by push_cast; rw [Int.add_mul, Int.add_mul, Int.one_mul]
  rw [e1, e2, e53] at *
  generalize (t : Int) * U = TU at *
  generalize (t' : Int) * U = TU' at *
  generalize X * U = XU at *
  generalize X' * U = YU at *
  refine ⟨by omega, by omega, by push_cast; omega, by push_cast; omega⟩
/-- The word of 10^18, and of its negative. -/
def c18 : Nat := double.nearest false (10 ^ 18) 0
def n18 : Nat := double.nearest true (10 ^ 18) 0
set_option exponentiation.threshold 3000 in
theorem c18_fl : Fl c18 (1000000000000000000 * U) := ⟨false, 7812500000000000, 7, by decide +kernel, by decide, by rw [signed_val, U_nat, show (7 + 1074 : Int).toNat = 7 + 1074 by decide, Nat.pow_add, ← Nat.mul_assoc, show 7812500000000000 * 2 ^ 7 = 1000000000000000000 by decide]; simp⟩
set_option exponentiation.threshold 3000 in
theorem n18_fl : Fl n18 (-(1000000000000000000 * U)) := ⟨true, 7812500000000000, 7, by decide +kernel, by decide, by rw [signed_val, U_nat, show (7 + 1074 : Int).toNat = 7 + 1074 by decide, Nat.pow_add, ← Nat.mul_assoc, show 7812500000000000 * 2 ^ 7 = 1000000000000000000 by decide]; simp⟩
/-- What the test of a sum's size says: the exact sum is in range. -/
theorem near_test {t z : Nat} {X low : Int} (h : NearT t z X) (ht : t ≤ 32768) (hl : ∃ q : Int, low = X + 18446744073709551616 * q) (h1 : -1000000000 ≤ low ∧ low ≤ 1000000000) :
    ((double.order z c18 == some .lt) && (double.order z n18 == some .gt)) = decide (-1000000000 ≤ X ∧ X ≤ 1000000000) := by
  obtain ⟨v, hv, v1, v2, x1, x2⟩ := h
  obtain ⟨q, rfl⟩ := hl
  have hU := U_pos
  rw [order_spec hv c18_fl, order_spec hv n18_fl]
  have tU1 : (t : Int) * U ≤ 32768 * U := Int.mul_le_mul_of_nonneg_right (by omega) (Int.le_of_lt hU)
  by_cases c : -1000000000 ≤ X ∧ X ≤ 1000000000
  · rw [decide_eq_true c]
    have xU1 : -(1000000000 * U) ≤ X * U := by have := Int.mul_le_mul_of_nonneg_right c.1 (Int.le_of_lt hU); rw [Int.neg_mul] at this; exact this
    have xU2 : X * U ≤ 1000000000 * U := Int.mul_le_mul_of_nonneg_right c.2 (Int.le_of_lt hU)
    have a1 : v < 1000000000000000000 * U := by omega
    have a2 : -(1000000000000000000 * U) < v := by omega
    rw [Int.compare_eq_lt.mpr a1, Int.compare_eq_gt.mpr a2]
    rfl
  · rw [decide_eq_false c]
    by_cases cp : 0 ≤ X
    · have hX : 18446744072709551616 ≤ X := by omega
      have xU1 : 18446744072709551616 * U ≤ X * U := Int.mul_le_mul_of_nonneg_right hX (Int.le_of_lt hU)
      have a1 : 1000000000000000000 * U < v := by omega
      rw [Int.compare_eq_gt.mpr a1]
      rfl
    · have hX : X ≤ -18446744072709551616 := by omega
      have xU1 : X * U ≤ -(18446744072709551616 * U) := by have := Int.mul_le_mul_of_nonneg_right hX (Int.le_of_lt hU); rw [Int.neg_mul] at this; exact this
      have a1 : v < -(1000000000000000000 * U) := by omega
      rw [Int.compare_eq_lt.mpr a1]
      simp
end Go.Proofs.Ythljmbobccaalaa.Flt
