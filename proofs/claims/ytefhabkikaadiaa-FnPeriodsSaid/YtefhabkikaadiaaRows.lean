/-
  No cell of these rows narrows 'for every input' (looked for: loops, veiled, ifaces, maps, wideKeys, modest, calm, conditions, laid).
  DERIVED. THE GIVEN ROWS OF THIS SEAT. 6 by the template 'for every input the law returns true; each argument reads behind the call as it read before'; 0 by the template 'total and deterministic' (their statements: YtefhabkikaadiaaTotals.lean).
  GIVEN WITH THE SEED: the statements are not yours to turn. If you find one false, say at which input.
  Laid BY PROGRAM, IN A SANDBOX (cutbox-rows.mjs): the forced cells as the released guide's own fill.sh prints them over the translation e47dd4b5dcc821f5… (all of the seat's roots in one cut). By AI agents, Wed Nov 11 2026. No macro, syntax, notation, axiom, sorry.
-/
import Derived.Test.YtefhabkikaadiaaChecked
import GoSem.Claim
import GoSem.ClaimJoined
import GoSem.ClaimMapViews
import Derived.JoinedTies
import Derived.KernelRfl
namespace Go.Proofs.Ytefhabkikaadiaa
/- THE CELL 'sum', in the pinned program and in every row, IS THE sha256 OF THE DUMP (.gsa) THAT YtefhabkikaadiaaProg.lean LOADS. Nothing in Lean hashes anything: it is a label: what it is worth is what the hold of that sum in a sandbox is worth. -/
noncomputable def Try.pinned : Pinned := { name := "ytefhabkikaadiaa", sum := "e47dd4b5dcc821f5ccf12be9194eb5505a614c3c12716fb6a9a422a385264841", checked := Try.checked }
namespace Rows
def none {H : Type} : Left H := { results := [], args := [] }

/-- 'laws.FnExactPlacesWith': WHATEVER THE INPUT: true; the input reads as it did. -/
def fnExactPlacesWithSpec : ChangeSpec := { name := "fnExactPlacesWith", fn := fun _ => fun
  | [d1, d2] => { results := [.lit (.bool true)], args := [d1, d2] }
  | _ => none }
def fnExactPlacesWithRow : OpenClaim := { program := "ytefhabkikaadiaa", sum := "e47dd4b5dcc821f5ccf12be9194eb5505a614c3c12716fb6a9a422a385264841", func := "loop.example/g01313/laws.FnExactPlacesWith", spec := "fnExactPlacesWith", unfollowed := true, recurses := true, apart := false }
def FnExactPlacesWithSaid : Prop := fnExactPlacesWithRow.holds Try.pinned (OpenSpec.ofChange fnExactPlacesWithSpec)

/-- ITS FALSE NEIGHBOUR: 'it returns false'. Refute it at one input. -/
def fnExactPlacesWithWrong : ChangeSpec := { name := "fnExactPlacesWith", fn := fun _ => fun
  | [d1, d2] => { results := [.lit (.bool false)], args := [d1, d2] }
  | _ => none }
def FnExactPlacesWithWrongFalsely : Prop := fnExactPlacesWithRow.holds Try.pinned (OpenSpec.ofChange fnExactPlacesWithWrong)

/-- 'laws.FnExactJacobiRow': WHATEVER THE INPUT: true; the input reads as it did. -/
def fnExactJacobiRowSpec : ChangeSpec := { name := "fnExactJacobiRow", fn := fun _ => fun
  | [d] => { results := [.lit (.bool true)], args := [d] }
  | _ => none }
def fnExactJacobiRowRow : OpenClaim := { program := "ytefhabkikaadiaa", sum := "e47dd4b5dcc821f5ccf12be9194eb5505a614c3c12716fb6a9a422a385264841", func := "loop.example/g01313/laws.FnExactJacobiRow", spec := "fnExactJacobiRow", unfollowed := true, recurses := true, apart := false }
def FnExactJacobiRowSaid : Prop := fnExactJacobiRowRow.holds Try.pinned (OpenSpec.ofChange fnExactJacobiRowSpec)

/-- ITS FALSE NEIGHBOUR: 'it returns false'. Refute it at one input. -/
def fnExactJacobiRowWrong : ChangeSpec := { name := "fnExactJacobiRow", fn := fun _ => fun
  | [d] => { results := [.lit (.bool false)], args := [d] }
  | _ => none }
def FnExactJacobiRowWrongFalsely : Prop := fnExactJacobiRowRow.holds Try.pinned (OpenSpec.ofChange fnExactJacobiRowWrong)

/-- 'laws.FnExactOrthogonalSum': WHATEVER THE INPUT: true; the input reads as it did. -/
def fnExactOrthogonalSumSpec : ChangeSpec := { name := "fnExactOrthogonalSum", fn := fun _ => fun
  | [d1, d2] => { results := [.lit (.bool true)], args := [d1, d2] }
  | _ => none }
def fnExactOrthogonalSumRow : OpenClaim := { program := "ytefhabkikaadiaa", sum := "e47dd4b5dcc821f5ccf12be9194eb5505a614c3c12716fb6a9a422a385264841", func := "loop.example/g01313/laws.FnExactOrthogonalSum", spec := "fnExactOrthogonalSum", unfollowed := true, recurses := true, apart := false }
def FnExactOrthogonalSumSaid : Prop := fnExactOrthogonalSumRow.holds Try.pinned (OpenSpec.ofChange fnExactOrthogonalSumSpec)

/-- ITS FALSE NEIGHBOUR: 'it returns false'. Refute it at one input. -/
def fnExactOrthogonalSumWrong : ChangeSpec := { name := "fnExactOrthogonalSum", fn := fun _ => fun
  | [d1, d2] => { results := [.lit (.bool false)], args := [d1, d2] }
  | _ => none }
def FnExactOrthogonalSumWrongFalsely : Prop := fnExactOrthogonalSumRow.holds Try.pinned (OpenSpec.ofChange fnExactOrthogonalSumWrong)

/-- 'laws.FnExactPeriodPolynomial': WHATEVER THE INPUT: true; the input reads as it did. -/
def fnExactPeriodPolynomialSpec : ChangeSpec := { name := "fnExactPeriodPolynomial", fn := fun _ => fun
  | [d1, d2] => { results := [.lit (.bool true)], args := [d1, d2] }
  | _ => none }
def fnExactPeriodPolynomialRow : OpenClaim := { program := "ytefhabkikaadiaa", sum := "e47dd4b5dcc821f5ccf12be9194eb5505a614c3c12716fb6a9a422a385264841", func := "loop.example/g01313/laws.FnExactPeriodPolynomial", spec := "fnExactPeriodPolynomial", apart := false }
def FnExactPeriodPolynomialSaid : Prop := fnExactPeriodPolynomialRow.holds Try.pinned (OpenSpec.ofChange fnExactPeriodPolynomialSpec)

/-- ITS FALSE NEIGHBOUR: 'it returns false'. Refute it at one input. -/
def fnExactPeriodPolynomialWrong : ChangeSpec := { name := "fnExactPeriodPolynomial", fn := fun _ => fun
  | [d1, d2] => { results := [.lit (.bool false)], args := [d1, d2] }
  | _ => none }
def FnExactPeriodPolynomialWrongFalsely : Prop := fnExactPeriodPolynomialRow.holds Try.pinned (OpenSpec.ofChange fnExactPeriodPolynomialWrong)

/-- 'laws.FnExactCycloAtResidues': WHATEVER THE INPUT: true; the input reads as it did. -/
def fnExactCycloAtResiduesSpec : ChangeSpec := { name := "fnExactCycloAtResidues", fn := fun _ => fun
  | [d1, d2, d3] => { results := [.lit (.bool true)], args := [d1, d2, d3] }
  | _ => none }
def fnExactCycloAtResiduesRow : OpenClaim := { program := "ytefhabkikaadiaa", sum := "e47dd4b5dcc821f5ccf12be9194eb5505a614c3c12716fb6a9a422a385264841", func := "loop.example/g01313/laws.FnExactCycloAtResidues", spec := "fnExactCycloAtResidues", unfollowed := true, recurses := true, apart := false }
def FnExactCycloAtResiduesSaid : Prop := fnExactCycloAtResiduesRow.holds Try.pinned (OpenSpec.ofChange fnExactCycloAtResiduesSpec)

/-- ITS FALSE NEIGHBOUR: 'it returns false'. Refute it at one input. -/
def fnExactCycloAtResiduesWrong : ChangeSpec := { name := "fnExactCycloAtResidues", fn := fun _ => fun
  | [d1, d2, d3] => { results := [.lit (.bool false)], args := [d1, d2, d3] }
  | _ => none }
def FnExactCycloAtResiduesWrongFalsely : Prop := fnExactCycloAtResiduesRow.holds Try.pinned (OpenSpec.ofChange fnExactCycloAtResiduesWrong)

/-- 'laws.FnPeriods': WHATEVER THE INPUT: true; the input reads as it did. -/
def fnPeriodsSpec : ChangeSpec := { name := "fnPeriods", fn := fun _ => fun
  | [d] => { results := [.lit (.bool true)], args := [d] }
  | _ => none }
def fnPeriodsRow : OpenClaim := { program := "ytefhabkikaadiaa", sum := "e47dd4b5dcc821f5ccf12be9194eb5505a614c3c12716fb6a9a422a385264841", func := "loop.example/g01313/laws.FnPeriods", spec := "fnPeriods", apart := false }
def FnPeriodsSaid : Prop := fnPeriodsRow.holds Try.pinned (OpenSpec.ofChange fnPeriodsSpec)

/-- ITS FALSE NEIGHBOUR: 'it returns false'. Refute it at one input. -/
def fnPeriodsWrong : ChangeSpec := { name := "fnPeriods", fn := fun _ => fun
  | [d] => { results := [.lit (.bool false)], args := [d] }
  | _ => none }
def FnPeriodsWrongFalsely : Prop := fnPeriodsRow.holds Try.pinned (OpenSpec.ofChange fnPeriodsWrong)

/- THE SECOND FORM. 'bulk': how many values and letters a reading holds, each counted each time it is reached (what is shared counts as often as it is met; a slice's spare places count too). A statement '..UptoSaid' is the law's where the arguments, and the package variables that the reading takes, are together of bulk at most 1048576: NARROWER than '..Said'. Prove '..Said' where nothing that the law and all that it calls make is longer than what came in: it says more and counts as full. Else prove '..UptoSaid'. A law counts once. -/
mutual
def uptoBulk {H : Type} : DataW H → Nat
  | .lit (.string bytes) => bytes.length + 1
  | .lit _ => 1
  | .nil => 1
  | .ptr d => uptoBulk d + 1
  | .slice elems spare => uptoBulkAll elems + uptoBulkAll spare + 1
  | .agg parts => uptoBulkAll parts + 1
  | .iface _ d => uptoBulk d + 1
  | .map entries => uptoBulkEntries entries + 1
  | .held _ => 1
def uptoBulkAll {H : Type} : List (DataW H) → Nat
  | [] => 0
  | d :: r => uptoBulk d + uptoBulkAll r
def uptoBulkEntries {H : Type} : List (Lit × DataW H) → Nat
  | [] => 0
  | x :: r => uptoBulkEntry x + uptoBulkEntries r
def uptoBulkEntry {H : Type} : Lit × DataW H → Nat
  | (.string bytes, d) => bytes.length + uptoBulk d + 1
  | (_, d) => uptoBulk d + 1
 end
def uptoSmall : (H : Type) → List (DataW H) → Bool := fun _ ds => decide (uptoBulkAll ds ≤ 1048576)
def OpenSpec.upto (s : _root_.Go.ChangeSpec) : _root_.Go.OpenSpec := { _root_.Go.OpenSpec.ofChange s with cond := some uptoSmall }

/-- 'laws.FnExactPlacesWith', WHERE WHAT IT READS IS OF BULK AT MOST 1048576: true; the input reads as it did. -/
def fnExactPlacesWithUptoRow : OpenClaim := { program := "ytefhabkikaadiaa", sum := "e47dd4b5dcc821f5ccf12be9194eb5505a614c3c12716fb6a9a422a385264841", func := "loop.example/g01313/laws.FnExactPlacesWith", spec := "fnExactPlacesWith", unfollowed := true, recurses := true, apart := false, narrowed := true }
def FnExactPlacesWithUptoSaid : Prop := fnExactPlacesWithUptoRow.holds Try.pinned (OpenSpec.upto fnExactPlacesWithSpec)

/-- 'laws.FnExactJacobiRow', WHERE WHAT IT READS IS OF BULK AT MOST 1048576: true; the input reads as it did. -/
def fnExactJacobiRowUptoRow : OpenClaim := { program := "ytefhabkikaadiaa", sum := "e47dd4b5dcc821f5ccf12be9194eb5505a614c3c12716fb6a9a422a385264841", func := "loop.example/g01313/laws.FnExactJacobiRow", spec := "fnExactJacobiRow", unfollowed := true, recurses := true, apart := false, narrowed := true }
def FnExactJacobiRowUptoSaid : Prop := fnExactJacobiRowUptoRow.holds Try.pinned (OpenSpec.upto fnExactJacobiRowSpec)

/-- 'laws.FnExactOrthogonalSum', WHERE WHAT IT READS IS OF BULK AT MOST 1048576: true; the input reads as it did. -/
def fnExactOrthogonalSumUptoRow : OpenClaim := { program := "ytefhabkikaadiaa", sum := "e47dd4b5dcc821f5ccf12be9194eb5505a614c3c12716fb6a9a422a385264841", func := "loop.example/g01313/laws.FnExactOrthogonalSum", spec := "fnExactOrthogonalSum", unfollowed := true, recurses := true, apart := false, narrowed := true }
def FnExactOrthogonalSumUptoSaid : Prop := fnExactOrthogonalSumUptoRow.holds Try.pinned (OpenSpec.upto fnExactOrthogonalSumSpec)

/-- 'laws.FnExactPeriodPolynomial', WHERE WHAT IT READS IS OF BULK AT MOST 1048576: true; the input reads as it did. -/
def fnExactPeriodPolynomialUptoRow : OpenClaim := { program := "ytefhabkikaadiaa", sum := "e47dd4b5dcc821f5ccf12be9194eb5505a614c3c12716fb6a9a422a385264841", func := "loop.example/g01313/laws.FnExactPeriodPolynomial", spec := "fnExactPeriodPolynomial", apart := false, narrowed := true }
def FnExactPeriodPolynomialUptoSaid : Prop := fnExactPeriodPolynomialUptoRow.holds Try.pinned (OpenSpec.upto fnExactPeriodPolynomialSpec)

/-- 'laws.FnExactCycloAtResidues', WHERE WHAT IT READS IS OF BULK AT MOST 1048576: true; the input reads as it did. -/
def fnExactCycloAtResiduesUptoRow : OpenClaim := { program := "ytefhabkikaadiaa", sum := "e47dd4b5dcc821f5ccf12be9194eb5505a614c3c12716fb6a9a422a385264841", func := "loop.example/g01313/laws.FnExactCycloAtResidues", spec := "fnExactCycloAtResidues", unfollowed := true, recurses := true, apart := false, narrowed := true }
def FnExactCycloAtResiduesUptoSaid : Prop := fnExactCycloAtResiduesUptoRow.holds Try.pinned (OpenSpec.upto fnExactCycloAtResiduesSpec)

/-- 'laws.FnPeriods', WHERE WHAT IT READS IS OF BULK AT MOST 1048576: true; the input reads as it did. -/
def fnPeriodsUptoRow : OpenClaim := { program := "ytefhabkikaadiaa", sum := "e47dd4b5dcc821f5ccf12be9194eb5505a614c3c12716fb6a9a422a385264841", func := "loop.example/g01313/laws.FnPeriods", spec := "fnPeriods", apart := false, narrowed := true }
def FnPeriodsUptoSaid : Prop := fnPeriodsUptoRow.holds Try.pinned (OpenSpec.upto fnPeriodsSpec)

end Rows
end Go.Proofs.Ytefhabkikaadiaa
