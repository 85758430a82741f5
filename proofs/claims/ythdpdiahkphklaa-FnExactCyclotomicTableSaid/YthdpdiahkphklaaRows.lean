/-
  No cell of these rows narrows 'for every input' (looked for: loops, veiled, ifaces, maps, wideKeys, modest, calm, conditions, laid).
  DERIVED. THE GIVEN ROWS OF THIS SEAT. 7 by the template 'for every input the law returns true; each argument reads behind the call as it read before'; 0 by the template 'total and deterministic' (their statements: YthdpdiahkphklaaTotals.lean).
  GIVEN WITH THE SEED: the statements are not yours to turn. If you find one false, say at which input.
  Laid BY PROGRAM, IN A SANDBOX (cutbox-rows.mjs): the forced cells as the released guide's own fill.sh prints them over the translation b27a16fcd6284e38… (all of the seat's roots in one cut). By AI agents, Wed Nov 11 2026. No macro, syntax, notation, axiom, sorry.
-/
import Derived.Test.YthdpdiahkphklaaChecked
import GoSem.Claim
import GoSem.ClaimJoined
import GoSem.ClaimMapViews
import Derived.JoinedTies
import Derived.KernelRfl
namespace Go.Proofs.Ythdpdiahkphklaa
/- THE CELL 'sum', in the pinned program and in every row, IS THE sha256 OF THE DUMP (.gsa) THAT YthdpdiahkphklaaProg.lean LOADS. Nothing in Lean hashes anything: it is a label: what it is worth is what the hold of that sum in a sandbox is worth. -/
noncomputable def Try.pinned : Pinned := { name := "ythdpdiahkphklaa", sum := "b27a16fcd6284e38c4ced6ccc2621d28d85ef757b5ad65efa62512efb9216fb1", checked := Try.checked }
namespace Rows
def none {H : Type} : Left H := { results := [], args := [] }

/-- 'laws.FnExactCountByJacobi': WHATEVER THE INPUT: true; the input reads as it did. -/
def fnExactCountByJacobiSpec : ChangeSpec := { name := "fnExactCountByJacobi", fn := fun _ => fun
  | [d1, d2, d3] => { results := [.lit (.bool true)], args := [d1, d2, d3] }
  | _ => none }
def fnExactCountByJacobiRow : OpenClaim := { program := "ythdpdiahkphklaa", sum := "b27a16fcd6284e38c4ced6ccc2621d28d85ef757b5ad65efa62512efb9216fb1", func := "loop.example/g01313/laws.FnExactCountByJacobi", spec := "fnExactCountByJacobi", recurses := true, apart := false }
def FnExactCountByJacobiSaid : Prop := fnExactCountByJacobiRow.holds Try.pinned (OpenSpec.ofChange fnExactCountByJacobiSpec)

/-- ITS FALSE NEIGHBOUR: 'it returns false'. Refute it at one input. -/
def fnExactCountByJacobiWrong : ChangeSpec := { name := "fnExactCountByJacobi", fn := fun _ => fun
  | [d1, d2, d3] => { results := [.lit (.bool false)], args := [d1, d2, d3] }
  | _ => none }
def FnExactCountByJacobiWrongFalsely : Prop := fnExactCountByJacobiRow.holds Try.pinned (OpenSpec.ofChange fnExactCountByJacobiWrong)

/-- 'laws.FnExactSquarePair': WHATEVER THE INPUT: true; the input reads as it did. -/
def fnExactSquarePairSpec : ChangeSpec := { name := "fnExactSquarePair", fn := fun _ => fun
  | [d] => { results := [.lit (.bool true)], args := [d] }
  | _ => none }
def fnExactSquarePairRow : OpenClaim := { program := "ythdpdiahkphklaa", sum := "b27a16fcd6284e38c4ced6ccc2621d28d85ef757b5ad65efa62512efb9216fb1", func := "loop.example/g01313/laws.FnExactSquarePair", spec := "fnExactSquarePair", unfollowed := true, recurses := true, apart := false }
def FnExactSquarePairSaid : Prop := fnExactSquarePairRow.holds Try.pinned (OpenSpec.ofChange fnExactSquarePairSpec)

/-- ITS FALSE NEIGHBOUR: 'it returns false'. Refute it at one input. -/
def fnExactSquarePairWrong : ChangeSpec := { name := "fnExactSquarePair", fn := fun _ => fun
  | [d] => { results := [.lit (.bool false)], args := [d] }
  | _ => none }
def FnExactSquarePairWrongFalsely : Prop := fnExactSquarePairRow.holds Try.pinned (OpenSpec.ofChange fnExactSquarePairWrong)

/-- 'laws.FnExactSumOfCharacter': WHATEVER THE INPUT: true; the input reads as it did. -/
def fnExactSumOfCharacterSpec : ChangeSpec := { name := "fnExactSumOfCharacter", fn := fun _ => fun
  | [d] => { results := [.lit (.bool true)], args := [d] }
  | _ => none }
def fnExactSumOfCharacterRow : OpenClaim := { program := "ythdpdiahkphklaa", sum := "b27a16fcd6284e38c4ced6ccc2621d28d85ef757b5ad65efa62512efb9216fb1", func := "loop.example/g01313/laws.FnExactSumOfCharacter", spec := "fnExactSumOfCharacter", unfollowed := true, recurses := true, apart := false }
def FnExactSumOfCharacterSaid : Prop := fnExactSumOfCharacterRow.holds Try.pinned (OpenSpec.ofChange fnExactSumOfCharacterSpec)

/-- ITS FALSE NEIGHBOUR: 'it returns false'. Refute it at one input. -/
def fnExactSumOfCharacterWrong : ChangeSpec := { name := "fnExactSumOfCharacter", fn := fun _ => fun
  | [d] => { results := [.lit (.bool false)], args := [d] }
  | _ => none }
def FnExactSumOfCharacterWrongFalsely : Prop := fnExactSumOfCharacterRow.holds Try.pinned (OpenSpec.ofChange fnExactSumOfCharacterWrong)

/-- 'laws.FnExactJacobiSum': WHATEVER THE INPUT: true; the input reads as it did. -/
def fnExactJacobiSumSpec : ChangeSpec := { name := "fnExactJacobiSum", fn := fun _ => fun
  | [d1, d2] => { results := [.lit (.bool true)], args := [d1, d2] }
  | _ => none }
def fnExactJacobiSumRow : OpenClaim := { program := "ythdpdiahkphklaa", sum := "b27a16fcd6284e38c4ced6ccc2621d28d85ef757b5ad65efa62512efb9216fb1", func := "loop.example/g01313/laws.FnExactJacobiSum", spec := "fnExactJacobiSum", unfollowed := true, recurses := true, apart := false }
def FnExactJacobiSumSaid : Prop := fnExactJacobiSumRow.holds Try.pinned (OpenSpec.ofChange fnExactJacobiSumSpec)

/-- ITS FALSE NEIGHBOUR: 'it returns false'. Refute it at one input. -/
def fnExactJacobiSumWrong : ChangeSpec := { name := "fnExactJacobiSum", fn := fun _ => fun
  | [d1, d2] => { results := [.lit (.bool false)], args := [d1, d2] }
  | _ => none }
def FnExactJacobiSumWrongFalsely : Prop := fnExactJacobiSumRow.holds Try.pinned (OpenSpec.ofChange fnExactJacobiSumWrong)

/-- 'laws.FnExactCyclotomicTable': WHATEVER THE INPUT: true; the input reads as it did. -/
def fnExactCyclotomicTableSpec : ChangeSpec := { name := "fnExactCyclotomicTable", fn := fun _ => fun
  | [d1, d2] => { results := [.lit (.bool true)], args := [d1, d2] }
  | _ => none }
def fnExactCyclotomicTableRow : OpenClaim := { program := "ythdpdiahkphklaa", sum := "b27a16fcd6284e38c4ced6ccc2621d28d85ef757b5ad65efa62512efb9216fb1", func := "loop.example/g01313/laws.FnExactCyclotomicTable", spec := "fnExactCyclotomicTable", apart := false }
def FnExactCyclotomicTableSaid : Prop := fnExactCyclotomicTableRow.holds Try.pinned (OpenSpec.ofChange fnExactCyclotomicTableSpec)

/-- ITS FALSE NEIGHBOUR: 'it returns false'. Refute it at one input. -/
def fnExactCyclotomicTableWrong : ChangeSpec := { name := "fnExactCyclotomicTable", fn := fun _ => fun
  | [d1, d2] => { results := [.lit (.bool false)], args := [d1, d2] }
  | _ => none }
def FnExactCyclotomicTableWrongFalsely : Prop := fnExactCyclotomicTableRow.holds Try.pinned (OpenSpec.ofChange fnExactCyclotomicTableWrong)

/-- 'laws.FnExactSumWith': WHATEVER THE INPUT: true; the input reads as it did. -/
def fnExactSumWithSpec : ChangeSpec := { name := "fnExactSumWith", fn := fun _ => fun
  | [d1, d2] => { results := [.lit (.bool true)], args := [d1, d2] }
  | _ => none }
def fnExactSumWithRow : OpenClaim := { program := "ythdpdiahkphklaa", sum := "b27a16fcd6284e38c4ced6ccc2621d28d85ef757b5ad65efa62512efb9216fb1", func := "loop.example/g01313/laws.FnExactSumWith", spec := "fnExactSumWith", unfollowed := true, recurses := true, apart := false }
def FnExactSumWithSaid : Prop := fnExactSumWithRow.holds Try.pinned (OpenSpec.ofChange fnExactSumWithSpec)

/-- ITS FALSE NEIGHBOUR: 'it returns false'. Refute it at one input. -/
def fnExactSumWithWrong : ChangeSpec := { name := "fnExactSumWith", fn := fun _ => fun
  | [d1, d2] => { results := [.lit (.bool false)], args := [d1, d2] }
  | _ => none }
def FnExactSumWithWrongFalsely : Prop := fnExactSumWithRow.holds Try.pinned (OpenSpec.ofChange fnExactSumWithWrong)

/-- 'laws.FnExactJacobiOf': WHATEVER THE INPUT: true; the input reads as it did. -/
def fnExactJacobiOfSpec : ChangeSpec := { name := "fnExactJacobiOf", fn := fun _ => fun
  | [d] => { results := [.lit (.bool true)], args := [d] }
  | _ => none }
def fnExactJacobiOfRow : OpenClaim := { program := "ythdpdiahkphklaa", sum := "b27a16fcd6284e38c4ced6ccc2621d28d85ef757b5ad65efa62512efb9216fb1", func := "loop.example/g01313/laws.FnExactJacobiOf", spec := "fnExactJacobiOf", unfollowed := true, recurses := true, apart := false }
def FnExactJacobiOfSaid : Prop := fnExactJacobiOfRow.holds Try.pinned (OpenSpec.ofChange fnExactJacobiOfSpec)

/-- ITS FALSE NEIGHBOUR: 'it returns false'. Refute it at one input. -/
def fnExactJacobiOfWrong : ChangeSpec := { name := "fnExactJacobiOf", fn := fun _ => fun
  | [d] => { results := [.lit (.bool false)], args := [d] }
  | _ => none }
def FnExactJacobiOfWrongFalsely : Prop := fnExactJacobiOfRow.holds Try.pinned (OpenSpec.ofChange fnExactJacobiOfWrong)

/- THE SECOND FORM. 'bulk': how many values and letters a reading holds, each counted each time it is reached (what is shared counts as often as it is met; a slice's spare places count too). A statement '..UptoSaid' is the law's where the arguments, and the package variables that the reading takes, are together of bulk at most 1048576: NARROWER than '..Said'. Prove '..Said' where nothing that the law and all that it calls make is longer than what came in: it says more and counts as full. Else prove '..UptoSaid'. A law counts once. -/
mutual
def uptoBulk {H : Type} : DataW H → Nat
  | .lit (.string bytes) => bytes.length + 1
  | .lit _ => 1
  | .nil => 1
  | .ptr d => uptoBulk d + 1
  | .slice elems spare => uptoBulkAll elems + uptoBulkAll spare + 1
  | .agg parts => uptoBulkAll parts + 1
  | .iface _ d => uptoBulk d + 1
  | .map entries => uptoBulkEntries entries + 1
  | .held _ => 1
def uptoBulkAll {H : Type} : List (DataW H) → Nat
  | [] => 0
  | d :: r => uptoBulk d + uptoBulkAll r
def uptoBulkEntries {H : Type} : List (Lit × DataW H) → Nat
  | [] => 0
  | x :: r => uptoBulkEntry x + uptoBulkEntries r
def uptoBulkEntry {H : Type} : Lit × DataW H → Nat
  | (.string bytes, d) => bytes.length + uptoBulk d + 1
  | (_, d) => uptoBulk d + 1
 end
def uptoSmall : (H : Type) → List (DataW H) → Bool := fun _ ds => decide (uptoBulkAll ds ≤ 1048576)
def OpenSpec.upto (s : _root_.Go.ChangeSpec) : _root_.Go.OpenSpec := { _root_.Go.OpenSpec.ofChange s with cond := some uptoSmall }

/-- 'laws.FnExactCountByJacobi', WHERE WHAT IT READS IS OF BULK AT MOST 1048576: true; the input reads as it did. -/
def fnExactCountByJacobiUptoRow : OpenClaim := { program := "ythdpdiahkphklaa", sum := "b27a16fcd6284e38c4ced6ccc2621d28d85ef757b5ad65efa62512efb9216fb1", func := "loop.example/g01313/laws.FnExactCountByJacobi", spec := "fnExactCountByJacobi", recurses := true, apart := false, narrowed := true }
def FnExactCountByJacobiUptoSaid : Prop := fnExactCountByJacobiUptoRow.holds Try.pinned (OpenSpec.upto fnExactCountByJacobiSpec)

/-- 'laws.FnExactSquarePair', WHERE WHAT IT READS IS OF BULK AT MOST 1048576: true; the input reads as it did. -/
def fnExactSquarePairUptoRow : OpenClaim := { program := "ythdpdiahkphklaa", sum := "b27a16fcd6284e38c4ced6ccc2621d28d85ef757b5ad65efa62512efb9216fb1", func := "loop.example/g01313/laws.FnExactSquarePair", spec := "fnExactSquarePair", unfollowed := true, recurses := true, apart := false, narrowed := true }
def FnExactSquarePairUptoSaid : Prop := fnExactSquarePairUptoRow.holds Try.pinned (OpenSpec.upto fnExactSquarePairSpec)

/-- 'laws.FnExactSumOfCharacter', WHERE WHAT IT READS IS OF BULK AT MOST 1048576: true; the input reads as it did. -/
def fnExactSumOfCharacterUptoRow : OpenClaim := { program := "ythdpdiahkphklaa", sum := "b27a16fcd6284e38c4ced6ccc2621d28d85ef757b5ad65efa62512efb9216fb1", func := "loop.example/g01313/laws.FnExactSumOfCharacter", spec := "fnExactSumOfCharacter", unfollowed := true, recurses := true, apart := false, narrowed := true }
def FnExactSumOfCharacterUptoSaid : Prop := fnExactSumOfCharacterUptoRow.holds Try.pinned (OpenSpec.upto fnExactSumOfCharacterSpec)

/-- 'laws.FnExactJacobiSum', WHERE WHAT IT READS IS OF BULK AT MOST 1048576: true; the input reads as it did. -/
def fnExactJacobiSumUptoRow : OpenClaim := { program := "ythdpdiahkphklaa", sum := "b27a16fcd6284e38c4ced6ccc2621d28d85ef757b5ad65efa62512efb9216fb1", func := "loop.example/g01313/laws.FnExactJacobiSum", spec := "fnExactJacobiSum", unfollowed := true, recurses := true, apart := false, narrowed := true }
def FnExactJacobiSumUptoSaid : Prop := fnExactJacobiSumUptoRow.holds Try.pinned (OpenSpec.upto fnExactJacobiSumSpec)

/-- 'laws.FnExactCyclotomicTable', WHERE WHAT IT READS IS OF BULK AT MOST 1048576: true; the input reads as it did. -/
def fnExactCyclotomicTableUptoRow : OpenClaim := { program := "ythdpdiahkphklaa", sum := "b27a16fcd6284e38c4ced6ccc2621d28d85ef757b5ad65efa62512efb9216fb1", func := "loop.example/g01313/laws.FnExactCyclotomicTable", spec := "fnExactCyclotomicTable", apart := false, narrowed := true }
def FnExactCyclotomicTableUptoSaid : Prop := fnExactCyclotomicTableUptoRow.holds Try.pinned (OpenSpec.upto fnExactCyclotomicTableSpec)

/-- 'laws.FnExactSumWith', WHERE WHAT IT READS IS OF BULK AT MOST 1048576: true; the input reads as it did. -/
def fnExactSumWithUptoRow : OpenClaim := { program := "ythdpdiahkphklaa", sum := "b27a16fcd6284e38c4ced6ccc2621d28d85ef757b5ad65efa62512efb9216fb1", func := "loop.example/g01313/laws.FnExactSumWith", spec := "fnExactSumWith", unfollowed := true, recurses := true, apart := false, narrowed := true }
def FnExactSumWithUptoSaid : Prop := fnExactSumWithUptoRow.holds Try.pinned (OpenSpec.upto fnExactSumWithSpec)

/-- 'laws.FnExactJacobiOf', WHERE WHAT IT READS IS OF BULK AT MOST 1048576: true; the input reads as it did. -/
def fnExactJacobiOfUptoRow : OpenClaim := { program := "ythdpdiahkphklaa", sum := "b27a16fcd6284e38c4ced6ccc2621d28d85ef757b5ad65efa62512efb9216fb1", func := "loop.example/g01313/laws.FnExactJacobiOf", spec := "fnExactJacobiOf", unfollowed := true, recurses := true, apart := false, narrowed := true }
def FnExactJacobiOfUptoSaid : Prop := fnExactJacobiOfUptoRow.holds Try.pinned (OpenSpec.upto fnExactJacobiOfSpec)

end Rows
end Go.Proofs.Ythdpdiahkphklaa
