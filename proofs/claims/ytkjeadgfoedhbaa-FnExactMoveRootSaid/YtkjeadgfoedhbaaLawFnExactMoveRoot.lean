/- The functions that the law reaches, as plain functions, each with the proof that the program comes to it; no condition. Written by a program of this session (wip/mp.py) over the printing of the kit; what is marked HAND is told by hand. -/
import Derived.Deep.Slices
import Derived.ChangeSame
import Derived.Test.YtkjeadgfoedhbaaRows
import Derived.Test.YtkjeadgfoedhbaaPFnExactMoveRootx8
import Derived.Test.YtkjeadgfoedhbaaPureFnExactMoveRoot
import Derived.WalkKit
import Derived.ProofKit
import Derived.OpenShut
import Derived.ShutString
import Derived.ChangeOld
import Derived.Below
import Derived.SizedLaws
import Derived.Lib.SmallJoins
namespace Go.Proofs.Ytkjeadgfoedhbaa.fnExactMoveRoot
open Go.ChangeShapes Go.WideShapes Go.ChangeAt Go.RowKit Go.Joins
open Go.ChangeMaps (open_string shut_string)
set_option linter.unusedVariables false
theorem own : ownKnob Try.prog.godebug = none := by kernel_rfl
theorem laidOut : laidOutB Try.prog = true := by kernel_rfl
def IsRow (k : IntKind) (w : World) (a : Option Addr) (len cap : Nat) (zs : List Int) : Prop :=
  (a = none ∧ len = 0 ∧ cap = 0 ∧ zs = []) ∨
  ∃ x, a = some x ∧ len ≤ cap ∧ cap ≤ maxLen ∧ zs.length = cap ∧ (∀ i, i < zs.length → w.cell? (x.add i) = some (.int k (zs.getD i 0))) ∧ ∀ n ∈ zs, (Lit.int k n).wf = true
open Go.Proofs.Ytkjeadgfoedhbaa.PFnExactMoveRoot Go.Proofs.YtkjeadgfoedhbaaW.PrintWords Go.Proofs.YtkjeadgfoedhbaaW.PrintLast Go.Proofs.YtkjeadgfoedhbaaW.PrintMore
open Go.Deep in
theorem open_nest {H : Type} {enc : TypeId × Value → H} {P : Program} {w : World} {base : Nat} {held : Bool} {t e g : TypeId} (ht : P.underlying t = some (.slice e)) (he : P.underlying e = some (.slice g)) (hg : P.underlying g = some (.int .i64)) (ce : P.cellsOf e = 1) (cg : P.cellsOf g = 1)
    {fuel : Nat} {c : Value} {x : DataW H × List MemPlace} (h : DataW.trod enc P w base (fun _ => true) held fuel t [c] = some x) :
    ∃ (a : Option Addr) (cap : Nat) (l : List (List Int)), c = .slice a l.length cap ∧ (Kd.slice g (Kd.int .i64)).C w a l.length l ∧ l.length ≤ cap ∧ l.length ≤ maxLen ∧ ∀ r ∈ l, r.length ≤ maxLen ∧ ∀ x ∈ r, (Lit.int .i64 x).wf = true := by
  rcases open_slice ht h with ⟨h0, _⟩ | ⟨ad, len, cap, m, n, D, Pl, h0, hb, hl, hm, hmm, _, hx⟩
  · injection h0 with h0 _
    exact ⟨none, 0, [], h0, ⟨rfl, by decide, fun h => absurd h (by decide)⟩, by decide, by decide, fun x hx => by cases hx⟩
  · injection h0 with h0 _
    have hlm : len ≤ m := by rw [hmm]; split <;> omega
    have each : ∀ i, i < len → ∃ q : List Int, (∃ A c', w.cell? (ad.add (i * 1)) = some (.slice A q.length c') ∧ q.length ≤ c' ∧ (Kd.int .i64).C w A q.length q) ∧ q.length ≤ maxLen ∧ ∀ x ∈ q, (Lit.int .i64 x).wf = true := by
      intro i hi
      obtain ⟨cs', h1, h2⟩ := hx i (by omega)
      rw [ce] at h1
      obtain ⟨_, hlen, hcell⟩ := World.cells?_some h1
      have hc0 := hcell 0 (by omega)
      rw [Go.Deep.add_add] at hc0
      rcases open_ints he hg cg h2 with ⟨rfl, _⟩ | ⟨y, l, c, zs, rfl, _, hl2, hm2, hz, _, hcell2, hwz⟩
      · exact ⟨[], ⟨none, 0, by simpa using hc0, by decide, ⟨rfl, by decide, fun h => absurd h (by decide)⟩⟩, by decide, fun x hx => by cases hx⟩
      · have row : IsRow .i64 w (some y) l c zs := .inr ⟨y, rfl, hl2, hm2, by simpa using hz, hcell2, hwz⟩
        obtain ⟨q, rfl, hr, hm3, hw3, hc3⟩ := ReadsInt.ofRowC row
        exact ⟨q, ⟨some y, c, by simpa using hc0, hc3, Kd.C_of_reads (d := (0 : Int)) (h1 := fun _ => rfl) hr⟩, hm3, hw3⟩
    letI : Inhabited (List Int) := ⟨[]⟩
    obtain ⟨q, hq⟩ := choose_lt each
    refine ⟨some ad, cap, (List.range len).map q, by simpa using h0, ⟨rfl, by have : maxLen = 9223372036854775807 := rfl; simp; omega, fun _ => ⟨ad, rfl, fun j p hp => ?_⟩⟩, by simpa using hl, by simp; omega, fun x hx => ?_⟩
    · have hj : j < len := by rcases Nat.lt_or_ge j len with hj | hj; exact hj; rw [List.getElem?_eq_none (by simpa using hj)] at hp; cases hp
      have e : p = q j := by simpa [hj] using hp.symm
      subst e
      obtain ⟨A, c', h1, h2, h3⟩ := (hq j hj).1
      refine ⟨[.slice A (q j).length c'], rfl, ⟨A, c', rfl, h2, h3⟩, fun i u hu => ?_⟩
      have hi : i = 0 := by rcases i with _ | i; rfl; simp at hu
      subst hi
      simp at hu
      subst hu
      simpa [Kd.slice] using h1
    · simp only [List.mem_map, List.mem_range] at hx
      obtain ⟨j, hj, rfl⟩ := hx
      exact (hq j hj).2
set_option maxRecDepth 100000 in
theorem lifted (os : Os) (started : os.Started) (H : Type) (enc : TypeId × Value → H) :
    ReturnsInHanded {} Try.checked os 5 .any (Rows.fnExactMoveRootSpec.pre6 enc Try.prog Try.f5 Rows.fnExactMoveRootRow.domain false) (Rows.fnExactMoveRootSpec.post enc Try.prog Try.f5 false true false false) := by
  refine returnsInHanded_of_change_sized (C := Try.checked) own started (by kernel_rfl) Try.func5
    (ChangeSpec.witness6 (enc := enc) (C := Try.checked) false ⟨#[], #[.agg #[.int .i64 0, .int .i64 0, .slice none 0 0], .int .i64 0], []⟩ 8 (by kernel_rfl) (by kernel_rfl) (by kernel_rfl) (by kernel_rfl)) ?_
  intro W base args ds gs before hval0 hW hcnd hsz0 _
  have hval : ∀ (j : Nat) t v, Try.f5.params[j]? = some t → args[j]? = some v → Value.okWide Try.prog W .any base t v := hval0
  have hW' := hW
  obtain ⟨p, q, hA0, hV, rfl, hfz, hnd⟩ := hW
  have hA : DataW.TrodAll enc Try.prog W 0 (fun _ => true) true Try.f5.params.toList args.toList ds p := hA0
  rw [Try.params5] at hA hval
  obtain ⟨v0, vs0, d0, ds0, p0, q0, hargs, rfl, rfl, h0, r0⟩ := trodAll_cons hA
  obtain ⟨v1, vs1, d1, ds1, p1, q1, rfl, rfl, rfl, h1, r1⟩ := trodAll_cons r0
  obtain ⟨rfl, rfl, rfl⟩ := trodAll_nil r1
  obtain rfl : args = #[v0, v1] := by cases args; simp_all
  obtain ⟨rfl, rfl⟩ := trodVars_none hV
  have k0 := h0
  have lt0 : ∀ x ∈ p0, x.block < W.heap.size := by obtain ⟨m, hm⟩ := k0; exact DataW.trod_lt m _ _ _ hm
  obtain ⟨c0_0, c0_1, c0_2, y0_0, y0_1, y0_2, m0, e0, _, _, hy0_0, hy0_1, hy0_2⟩ := open_agg3 Try.underlying44 (by kernel_rfl) (by kernel_rfl) (hval 0 44 v0 rfl rfl) h0
  subst e0
  obtain ⟨a0_0, e0_0, _, w0_0⟩ := DataW.trod_int Try.underlying2 hy0_0
  obtain rfl : c0_0 = .int .i64 a0_0 := by simpa using e0_0
  obtain ⟨a0_1, e0_1, _, w0_1⟩ := DataW.trod_int Try.underlying2 hy0_1
  obtain rfl : c0_1 = .int .i64 a0_1 := by simpa using e0_1
  obtain ⟨a0_2, cap0_2, l0_2, e0_2, w0_2⟩ := open_nest Try.underlying26 Try.underlying22 Try.underlying2 (by kernel_rfl) (by kernel_rfl) hy0_2
  subst e0_2
  obtain ⟨a1, rfl, rfl, rfl, w1⟩ := open_int Try.underlying2 (hval 1 2 v1 rfl rfl) h1
  clear hA0 hval0 hsz0
  refine (PFnExactMoveRoot.laws_FnExactMoveRoot.walk Pure.FnExactMoveRoot a0_0 a0_1 a0_2 cap0_2 l0_2 a1 W w0_0 w0_1 w0_2 w1).mono fun e W' ⟨he, bel⟩ => ?_
  subst he
  exact ⟨_, rfl, _, _, _, [], _, [], hW', trodAll_mk1 (shut_bool Try.underlying4 _), (trodAll_cons_mk (Below.trod laidOut (by kernel_rfl) (of_decide_eq_true (by kernel_rfl)) k0 bel lt0) (trodAll_cons_mk (shut_int Try.underlying2 w1) trodAll_mk0)), rfl, bel.frame _, fun h => by cases h⟩
theorem over : Rows.fnExactMoveRootRow.holds Try.pinned (OpenSpec.ofChange Rows.fnExactMoveRootSpec) :=
  OpenClaim.holds_of_wide 5 Try.f5 rfl rfl rfl rfl rfl rfl rfl ⟨rfl, rfl, rfl, rfl, rfl⟩ rfl rfl rfl rfl rfl (by kernel_rfl) Try.func5 (by kernel_rfl)
    (of_decide_eq_true (by kernel_rfl)) (by unfold Func.isWrapper; first | (rw [if_pos (by decide +kernel)]; kernel_rfl) | (rw [if_neg (by decide +kernel)]; exact ⟨rfl, rfl⟩))
    (fun os started H enc _ => lifted os started H enc)
theorem proved : Rows.FnExactMoveRootSaid := over
#print axioms proved
end Go.Proofs.Ytkjeadgfoedhbaa.fnExactMoveRoot
namespace Go.Proofs.Ytkjeadgfoedhbaa
/-- The row, under a short name, for the claim. -/
theorem fnExactMoveRoot_holds : Rows.FnExactMoveRootSaid := fnExactMoveRoot.proved
end Go.Proofs.Ytkjeadgfoedhbaa
