/-
  No cell of these rows narrows 'for every input' (looked for: loops, veiled, ifaces, maps, wideKeys, modest, calm, conditions, laid).
  DERIVED. THE GIVEN ROWS OF THIS SEAT. 5 by the template 'for every input the law returns true; each argument reads behind the call as it read before'; 0 by the template 'total and deterministic' (their statements: YthdpdiahkphklabTotals.lean).
  GIVEN WITH THE SEED: the statements are not yours to turn. If you find one false, say at which input.
  Laid BY PROGRAM, IN A SANDBOX (cutbox-rows.mjs): the forced cells as the released guide's own fill.sh prints them over the translation 4a4c7e660a3d21a9… (all of the seat's roots in one cut). By AI agents, Wed Nov 11 2026. No macro, syntax, notation, axiom, sorry.
-/
import Derived.Test.YthdpdiahkphklabChecked
import GoSem.Claim
import GoSem.ClaimJoined
import GoSem.ClaimMapViews
import Derived.JoinedTies
import Derived.KernelRfl
namespace Go.Proofs.Ythdpdiahkphklab
/- THE CELL 'sum', in the pinned program and in every row, IS THE sha256 OF THE DUMP (.gsa) THAT YthdpdiahkphklabProg.lean LOADS. Nothing in Lean hashes anything: it is a label: what it is worth is what the hold of that sum in a sandbox is worth. -/
noncomputable def Try.pinned : Pinned := { name := "ythdpdiahkphklab", sum := "4a4c7e660a3d21a96dd014985e1d807c9551deb10c283e761ac2e983249c6941", checked := Try.checked }
namespace Rows
def none {H : Type} : Left H := { results := [], args := [] }

/-- 'laws.FnExactCubicPair': WHATEVER THE INPUT: true; the input reads as it did. -/
def fnExactCubicPairSpec : ChangeSpec := { name := "fnExactCubicPair", fn := fun _ => fun
  | [d] => { results := [.lit (.bool true)], args := [d] }
  | _ => none }
def fnExactCubicPairRow : OpenClaim := { program := "ythdpdiahkphklab", sum := "4a4c7e660a3d21a96dd014985e1d807c9551deb10c283e761ac2e983249c6941", func := "loop.example/g01313/laws.FnExactCubicPair", spec := "fnExactCubicPair", unfollowed := true, recurses := true, apart := false }
def FnExactCubicPairSaid : Prop := fnExactCubicPairRow.holds Try.pinned (OpenSpec.ofChange fnExactCubicPairSpec)

/-- ITS FALSE NEIGHBOUR: 'it returns false'. Refute it at one input. -/
def fnExactCubicPairWrong : ChangeSpec := { name := "fnExactCubicPair", fn := fun _ => fun
  | [d] => { results := [.lit (.bool false)], args := [d] }
  | _ => none }
def FnExactCubicPairWrongFalsely : Prop := fnExactCubicPairRow.holds Try.pinned (OpenSpec.ofChange fnExactCubicPairWrong)

/-- 'laws.FnExactJacobiRow': WHATEVER THE INPUT: true; the input reads as it did. -/
def fnExactJacobiRowSpec : ChangeSpec := { name := "fnExactJacobiRow", fn := fun _ => fun
  | [d] => { results := [.lit (.bool true)], args := [d] }
  | _ => none }
def fnExactJacobiRowRow : OpenClaim := { program := "ythdpdiahkphklab", sum := "4a4c7e660a3d21a96dd014985e1d807c9551deb10c283e761ac2e983249c6941", func := "loop.example/g01313/laws.FnExactJacobiRow", spec := "fnExactJacobiRow", unfollowed := true, recurses := true, apart := false }
def FnExactJacobiRowSaid : Prop := fnExactJacobiRowRow.holds Try.pinned (OpenSpec.ofChange fnExactJacobiRowSpec)

/-- ITS FALSE NEIGHBOUR: 'it returns false'. Refute it at one input. -/
def fnExactJacobiRowWrong : ChangeSpec := { name := "fnExactJacobiRow", fn := fun _ => fun
  | [d] => { results := [.lit (.bool false)], args := [d] }
  | _ => none }
def FnExactJacobiRowWrongFalsely : Prop := fnExactJacobiRowRow.holds Try.pinned (OpenSpec.ofChange fnExactJacobiRowWrong)

/-- 'laws.FnExactPowersOf': WHATEVER THE INPUT: true; the input reads as it did. -/
def fnExactPowersOfSpec : ChangeSpec := { name := "fnExactPowersOf", fn := fun _ => fun
  | [d1, d2] => { results := [.lit (.bool true)], args := [d1, d2] }
  | _ => none }
def fnExactPowersOfRow : OpenClaim := { program := "ythdpdiahkphklab", sum := "4a4c7e660a3d21a96dd014985e1d807c9551deb10c283e761ac2e983249c6941", func := "loop.example/g01313/laws.FnExactPowersOf", spec := "fnExactPowersOf", recurses := true, apart := false }
def FnExactPowersOfSaid : Prop := fnExactPowersOfRow.holds Try.pinned (OpenSpec.ofChange fnExactPowersOfSpec)

/-- ITS FALSE NEIGHBOUR: 'it returns false'. Refute it at one input. -/
def fnExactPowersOfWrong : ChangeSpec := { name := "fnExactPowersOf", fn := fun _ => fun
  | [d1, d2] => { results := [.lit (.bool false)], args := [d1, d2] }
  | _ => none }
def FnExactPowersOfWrongFalsely : Prop := fnExactPowersOfRow.holds Try.pinned (OpenSpec.ofChange fnExactPowersOfWrong)

/-- 'laws.FnExactZeroSumOf': WHATEVER THE INPUT: true; the input reads as it did. -/
def fnExactZeroSumOfSpec : ChangeSpec := { name := "fnExactZeroSumOf", fn := fun _ => fun
  | [d] => { results := [.lit (.bool true)], args := [d] }
  | _ => none }
def fnExactZeroSumOfRow : OpenClaim := { program := "ythdpdiahkphklab", sum := "4a4c7e660a3d21a96dd014985e1d807c9551deb10c283e761ac2e983249c6941", func := "loop.example/g01313/laws.FnExactZeroSumOf", spec := "fnExactZeroSumOf", unfollowed := true, recurses := true, apart := false }
def FnExactZeroSumOfSaid : Prop := fnExactZeroSumOfRow.holds Try.pinned (OpenSpec.ofChange fnExactZeroSumOfSpec)

/-- ITS FALSE NEIGHBOUR: 'it returns false'. Refute it at one input. -/
def fnExactZeroSumOfWrong : ChangeSpec := { name := "fnExactZeroSumOf", fn := fun _ => fun
  | [d] => { results := [.lit (.bool false)], args := [d] }
  | _ => none }
def FnExactZeroSumOfWrongFalsely : Prop := fnExactZeroSumOfRow.holds Try.pinned (OpenSpec.ofChange fnExactZeroSumOfWrong)

/-- 'laws.FnExactAddGauss': WHATEVER THE INPUT: true; the input reads as it did. -/
def fnExactAddGaussSpec : ChangeSpec := { name := "fnExactAddGauss", fn := fun _ => fun
  | [d1, d2, d3] => { results := [.lit (.bool true)], args := [d1, d2, d3] }
  | _ => none }
def fnExactAddGaussRow : OpenClaim := { program := "ythdpdiahkphklab", sum := "4a4c7e660a3d21a96dd014985e1d807c9551deb10c283e761ac2e983249c6941", func := "loop.example/g01313/laws.FnExactAddGauss", spec := "fnExactAddGauss", unfollowed := true, recurses := true, apart := false }
def FnExactAddGaussSaid : Prop := fnExactAddGaussRow.holds Try.pinned (OpenSpec.ofChange fnExactAddGaussSpec)

/-- ITS FALSE NEIGHBOUR: 'it returns false'. Refute it at one input. -/
def fnExactAddGaussWrong : ChangeSpec := { name := "fnExactAddGauss", fn := fun _ => fun
  | [d1, d2, d3] => { results := [.lit (.bool false)], args := [d1, d2, d3] }
  | _ => none }
def FnExactAddGaussWrongFalsely : Prop := fnExactAddGaussRow.holds Try.pinned (OpenSpec.ofChange fnExactAddGaussWrong)

/- THE SECOND FORM. 'bulk': how many values and letters a reading holds, each counted each time it is reached (what is shared counts as often as it is met; a slice's spare places count too). A statement '..UptoSaid' is the law's where the arguments, and the package variables that the reading takes, are together of bulk at most 1048576: NARROWER than '..Said'. Prove '..Said' where nothing that the law and all that it calls make is longer than what came in: it says more and counts as full. Else prove '..UptoSaid'. A law counts once. -/
mutual
def uptoBulk {H : Type} : DataW H → Nat
  | .lit (.string bytes) => bytes.length + 1
  | .lit _ => 1
  | .nil => 1
  | .ptr d => uptoBulk d + 1
  | .slice elems spare => uptoBulkAll elems + uptoBulkAll spare + 1
  | .agg parts => uptoBulkAll parts + 1
  | .iface _ d => uptoBulk d + 1
  | .map entries => uptoBulkEntries entries + 1
  | .held _ => 1
def uptoBulkAll {H : Type} : List (DataW H) → Nat
  | [] => 0
  | d :: r => uptoBulk d + uptoBulkAll r
def uptoBulkEntries {H : Type} : List (Lit × DataW H) → Nat
  | [] => 0
  | x :: r => uptoBulkEntry x + uptoBulkEntries r
def uptoBulkEntry {H : Type} : Lit × DataW H → Nat
  | (.string bytes, d) => bytes.length + uptoBulk d + 1
  | (_, d) => uptoBulk d + 1
 end
def uptoSmall : (H : Type) → List (DataW H) → Bool := fun _ ds => decide (uptoBulkAll ds ≤ 1048576)
def OpenSpec.upto (s : _root_.Go.ChangeSpec) : _root_.Go.OpenSpec := { _root_.Go.OpenSpec.ofChange s with cond := some uptoSmall }

/-- 'laws.FnExactCubicPair', WHERE WHAT IT READS IS OF BULK AT MOST 1048576: true; the input reads as it did. -/
def fnExactCubicPairUptoRow : OpenClaim := { program := "ythdpdiahkphklab", sum := "4a4c7e660a3d21a96dd014985e1d807c9551deb10c283e761ac2e983249c6941", func := "loop.example/g01313/laws.FnExactCubicPair", spec := "fnExactCubicPair", unfollowed := true, recurses := true, apart := false, narrowed := true }
def FnExactCubicPairUptoSaid : Prop := fnExactCubicPairUptoRow.holds Try.pinned (OpenSpec.upto fnExactCubicPairSpec)

/-- 'laws.FnExactJacobiRow', WHERE WHAT IT READS IS OF BULK AT MOST 1048576: true; the input reads as it did. -/
def fnExactJacobiRowUptoRow : OpenClaim := { program := "ythdpdiahkphklab", sum := "4a4c7e660a3d21a96dd014985e1d807c9551deb10c283e761ac2e983249c6941", func := "loop.example/g01313/laws.FnExactJacobiRow", spec := "fnExactJacobiRow", unfollowed := true, recurses := true, apart := false, narrowed := true }
def FnExactJacobiRowUptoSaid : Prop := fnExactJacobiRowUptoRow.holds Try.pinned (OpenSpec.upto fnExactJacobiRowSpec)

/-- 'laws.FnExactPowersOf', WHERE WHAT IT READS IS OF BULK AT MOST 1048576: true; the input reads as it did. -/
def fnExactPowersOfUptoRow : OpenClaim := { program := "ythdpdiahkphklab", sum := "4a4c7e660a3d21a96dd014985e1d807c9551deb10c283e761ac2e983249c6941", func := "loop.example/g01313/laws.FnExactPowersOf", spec := "fnExactPowersOf", recurses := true, apart := false, narrowed := true }
def FnExactPowersOfUptoSaid : Prop := fnExactPowersOfUptoRow.holds Try.pinned (OpenSpec.upto fnExactPowersOfSpec)

/-- 'laws.FnExactZeroSumOf', WHERE WHAT IT READS IS OF BULK AT MOST 1048576: true; the input reads as it did. -/
def fnExactZeroSumOfUptoRow : OpenClaim := { program := "ythdpdiahkphklab", sum := "4a4c7e660a3d21a96dd014985e1d807c9551deb10c283e761ac2e983249c6941", func := "loop.example/g01313/laws.FnExactZeroSumOf", spec := "fnExactZeroSumOf", unfollowed := true, recurses := true, apart := false, narrowed := true }
def FnExactZeroSumOfUptoSaid : Prop := fnExactZeroSumOfUptoRow.holds Try.pinned (OpenSpec.upto fnExactZeroSumOfSpec)

/-- 'laws.FnExactAddGauss', WHERE WHAT IT READS IS OF BULK AT MOST 1048576: true; the input reads as it did. -/
def fnExactAddGaussUptoRow : OpenClaim := { program := "ythdpdiahkphklab", sum := "4a4c7e660a3d21a96dd014985e1d807c9551deb10c283e761ac2e983249c6941", func := "loop.example/g01313/laws.FnExactAddGauss", spec := "fnExactAddGauss", unfollowed := true, recurses := true, apart := false, narrowed := true }
def FnExactAddGaussUptoSaid : Prop := fnExactAddGaussUptoRow.holds Try.pinned (OpenSpec.upto fnExactAddGaussSpec)

end Rows
end Go.Proofs.Ythdpdiahkphklab
