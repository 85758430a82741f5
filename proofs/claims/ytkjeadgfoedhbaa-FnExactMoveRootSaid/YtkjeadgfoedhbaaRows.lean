/-
  No cell of these rows narrows 'for every input' (looked for: loops, veiled, ifaces, maps, wideKeys, modest, calm, conditions, laid).
  DERIVED. THE GIVEN ROWS OF THIS SEAT. 8 by the template 'for every input the law returns true; each argument reads behind the call as it read before'; 0 by the template 'total and deterministic' (their statements: YtkjeadgfoedhbaaTotals.lean).
  GIVEN WITH THE SEED: the statements are not yours to turn. If you find one false, say at which input.
  Laid BY PROGRAM, IN A SANDBOX (cutbox-rows.mjs): the forced cells as the released guide's own fill.sh prints them over the translation b63983005976e0b8… (all of the seat's roots in one cut). By AI agents, Wed Nov 11 2026. No macro, syntax, notation, axiom, sorry.
-/
import Derived.Test.YtkjeadgfoedhbaaChecked
import GoSem.Claim
import GoSem.ClaimJoined
import GoSem.ClaimMapViews
import Derived.JoinedTies
import Derived.KernelRfl
namespace Go.Proofs.Ytkjeadgfoedhbaa
/- THE CELL 'sum', in the pinned program and in every row, IS THE sha256 OF THE DUMP (.gsa) THAT YtkjeadgfoedhbaaProg.lean LOADS. Nothing in Lean hashes anything: it is a label: what it is worth is what the hold of that sum in a sandbox is worth. -/
noncomputable def Try.pinned : Pinned := { name := "ytkjeadgfoedhbaa", sum := "b63983005976e0b8c300b3001806f9fb02876122e99c1cb43339c4f57123d8b3", checked := Try.checked }
namespace Rows
def none {H : Type} : Left H := { results := [], args := [] }

/-- 'laws.FnExactConstantGauss': WHATEVER THE INPUT: true; the input reads as it did. -/
def fnExactConstantGaussSpec : ChangeSpec := { name := "fnExactConstantGauss", fn := fun _ => fun
  | [d1, d2] => { results := [.lit (.bool true)], args := [d1, d2] }
  | _ => none }
def fnExactConstantGaussRow : OpenClaim := { program := "ytkjeadgfoedhbaa", sum := "b63983005976e0b8c300b3001806f9fb02876122e99c1cb43339c4f57123d8b3", func := "loop.example/g01313/laws.FnExactConstantGauss", spec := "fnExactConstantGauss", unfollowed := true, recurses := true, apart := false }
def FnExactConstantGaussSaid : Prop := fnExactConstantGaussRow.holds Try.pinned (OpenSpec.ofChange fnExactConstantGaussSpec)

/-- ITS FALSE NEIGHBOUR: 'it returns false'. Refute it at one input. -/
def fnExactConstantGaussWrong : ChangeSpec := { name := "fnExactConstantGauss", fn := fun _ => fun
  | [d1, d2] => { results := [.lit (.bool false)], args := [d1, d2] }
  | _ => none }
def FnExactConstantGaussWrongFalsely : Prop := fnExactConstantGaussRow.holds Try.pinned (OpenSpec.ofChange fnExactConstantGaussWrong)

/-- 'laws.FnExactGaussSum': WHATEVER THE INPUT: true; the input reads as it did. -/
def fnExactGaussSumSpec : ChangeSpec := { name := "fnExactGaussSum", fn := fun _ => fun
  | [d] => { results := [.lit (.bool true)], args := [d] }
  | _ => none }
def fnExactGaussSumRow : OpenClaim := { program := "ytkjeadgfoedhbaa", sum := "b63983005976e0b8c300b3001806f9fb02876122e99c1cb43339c4f57123d8b3", func := "loop.example/g01313/laws.FnExactGaussSum", spec := "fnExactGaussSum", recurses := true, apart := false }
def FnExactGaussSumSaid : Prop := fnExactGaussSumRow.holds Try.pinned (OpenSpec.ofChange fnExactGaussSumSpec)

/-- ITS FALSE NEIGHBOUR: 'it returns false'. Refute it at one input. -/
def fnExactGaussSumWrong : ChangeSpec := { name := "fnExactGaussSum", fn := fun _ => fun
  | [d] => { results := [.lit (.bool false)], args := [d] }
  | _ => none }
def FnExactGaussSumWrongFalsely : Prop := fnExactGaussSumRow.holds Try.pinned (OpenSpec.ofChange fnExactGaussSumWrong)

/-- 'laws.FnExactMoveRoot': WHATEVER THE INPUT: true; the input reads as it did. -/
def fnExactMoveRootSpec : ChangeSpec := { name := "fnExactMoveRoot", fn := fun _ => fun
  | [d1, d2] => { results := [.lit (.bool true)], args := [d1, d2] }
  | _ => none }
def fnExactMoveRootRow : OpenClaim := { program := "ytkjeadgfoedhbaa", sum := "b63983005976e0b8c300b3001806f9fb02876122e99c1cb43339c4f57123d8b3", func := "loop.example/g01313/laws.FnExactMoveRoot", spec := "fnExactMoveRoot", unfollowed := true, recurses := true, apart := false }
def FnExactMoveRootSaid : Prop := fnExactMoveRootRow.holds Try.pinned (OpenSpec.ofChange fnExactMoveRootSpec)

/-- ITS FALSE NEIGHBOUR: 'it returns false'. Refute it at one input. -/
def fnExactMoveRootWrong : ChangeSpec := { name := "fnExactMoveRoot", fn := fun _ => fun
  | [d1, d2] => { results := [.lit (.bool false)], args := [d1, d2] }
  | _ => none }
def FnExactMoveRootWrongFalsely : Prop := fnExactMoveRootRow.holds Try.pinned (OpenSpec.ofChange fnExactMoveRootWrong)

/-- 'laws.FnExactAddGauss': WHATEVER THE INPUT: true; the input reads as it did. -/
def fnExactAddGaussSpec : ChangeSpec := { name := "fnExactAddGauss", fn := fun _ => fun
  | [d1, d2, d3] => { results := [.lit (.bool true)], args := [d1, d2, d3] }
  | _ => none }
def fnExactAddGaussRow : OpenClaim := { program := "ytkjeadgfoedhbaa", sum := "b63983005976e0b8c300b3001806f9fb02876122e99c1cb43339c4f57123d8b3", func := "loop.example/g01313/laws.FnExactAddGauss", spec := "fnExactAddGauss", unfollowed := true, recurses := true, apart := false }
def FnExactAddGaussSaid : Prop := fnExactAddGaussRow.holds Try.pinned (OpenSpec.ofChange fnExactAddGaussSpec)

/-- ITS FALSE NEIGHBOUR: 'it returns false'. Refute it at one input. -/
def fnExactAddGaussWrong : ChangeSpec := { name := "fnExactAddGauss", fn := fun _ => fun
  | [d1, d2, d3] => { results := [.lit (.bool false)], args := [d1, d2, d3] }
  | _ => none }
def FnExactAddGaussWrongFalsely : Prop := fnExactAddGaussRow.holds Try.pinned (OpenSpec.ofChange fnExactAddGaussWrong)

/-- 'laws.FnExactMultiplyGauss': WHATEVER THE INPUT: true; the input reads as it did. -/
def fnExactMultiplyGaussSpec : ChangeSpec := { name := "fnExactMultiplyGauss", fn := fun _ => fun
  | [d1, d2] => { results := [.lit (.bool true)], args := [d1, d2] }
  | _ => none }
def fnExactMultiplyGaussRow : OpenClaim := { program := "ytkjeadgfoedhbaa", sum := "b63983005976e0b8c300b3001806f9fb02876122e99c1cb43339c4f57123d8b3", func := "loop.example/g01313/laws.FnExactMultiplyGauss", spec := "fnExactMultiplyGauss", unfollowed := true, recurses := true, apart := false }
def FnExactMultiplyGaussSaid : Prop := fnExactMultiplyGaussRow.holds Try.pinned (OpenSpec.ofChange fnExactMultiplyGaussSpec)

/-- ITS FALSE NEIGHBOUR: 'it returns false'. Refute it at one input. -/
def fnExactMultiplyGaussWrong : ChangeSpec := { name := "fnExactMultiplyGauss", fn := fun _ => fun
  | [d1, d2] => { results := [.lit (.bool false)], args := [d1, d2] }
  | _ => none }
def FnExactMultiplyGaussWrongFalsely : Prop := fnExactMultiplyGaussRow.holds Try.pinned (OpenSpec.ofChange fnExactMultiplyGaussWrong)

/-- 'laws.FnExactConjugateGauss': WHATEVER THE INPUT: true; the input reads as it did. -/
def fnExactConjugateGaussSpec : ChangeSpec := { name := "fnExactConjugateGauss", fn := fun _ => fun
  | [d] => { results := [.lit (.bool true)], args := [d] }
  | _ => none }
def fnExactConjugateGaussRow : OpenClaim := { program := "ytkjeadgfoedhbaa", sum := "b63983005976e0b8c300b3001806f9fb02876122e99c1cb43339c4f57123d8b3", func := "loop.example/g01313/laws.FnExactConjugateGauss", spec := "fnExactConjugateGauss", unfollowed := true, recurses := true, apart := false }
def FnExactConjugateGaussSaid : Prop := fnExactConjugateGaussRow.holds Try.pinned (OpenSpec.ofChange fnExactConjugateGaussSpec)

/-- ITS FALSE NEIGHBOUR: 'it returns false'. Refute it at one input. -/
def fnExactConjugateGaussWrong : ChangeSpec := { name := "fnExactConjugateGauss", fn := fun _ => fun
  | [d] => { results := [.lit (.bool false)], args := [d] }
  | _ => none }
def FnExactConjugateGaussWrongFalsely : Prop := fnExactConjugateGaussRow.holds Try.pinned (OpenSpec.ofChange fnExactConjugateGaussWrong)

/-- 'laws.FnExactConstantOf': WHATEVER THE INPUT: true; the input reads as it did. -/
def fnExactConstantOfSpec : ChangeSpec := { name := "fnExactConstantOf", fn := fun _ => fun
  | [d] => { results := [.lit (.bool true)], args := [d] }
  | _ => none }
def fnExactConstantOfRow : OpenClaim := { program := "ytkjeadgfoedhbaa", sum := "b63983005976e0b8c300b3001806f9fb02876122e99c1cb43339c4f57123d8b3", func := "loop.example/g01313/laws.FnExactConstantOf", spec := "fnExactConstantOf", unfollowed := true, recurses := true, apart := false }
def FnExactConstantOfSaid : Prop := fnExactConstantOfRow.holds Try.pinned (OpenSpec.ofChange fnExactConstantOfSpec)

/-- ITS FALSE NEIGHBOUR: 'it returns false'. Refute it at one input. -/
def fnExactConstantOfWrong : ChangeSpec := { name := "fnExactConstantOf", fn := fun _ => fun
  | [d] => { results := [.lit (.bool false)], args := [d] }
  | _ => none }
def FnExactConstantOfWrongFalsely : Prop := fnExactConstantOfRow.holds Try.pinned (OpenSpec.ofChange fnExactConstantOfWrong)

/-- 'laws.FnExactTwistedSum': WHATEVER THE INPUT: true; the input reads as it did. -/
def fnExactTwistedSumSpec : ChangeSpec := { name := "fnExactTwistedSum", fn := fun _ => fun
  | [d1, d2] => { results := [.lit (.bool true)], args := [d1, d2] }
  | _ => none }
def fnExactTwistedSumRow : OpenClaim := { program := "ytkjeadgfoedhbaa", sum := "b63983005976e0b8c300b3001806f9fb02876122e99c1cb43339c4f57123d8b3", func := "loop.example/g01313/laws.FnExactTwistedSum", spec := "fnExactTwistedSum", recurses := true, apart := false }
def FnExactTwistedSumSaid : Prop := fnExactTwistedSumRow.holds Try.pinned (OpenSpec.ofChange fnExactTwistedSumSpec)

/-- ITS FALSE NEIGHBOUR: 'it returns false'. Refute it at one input. -/
def fnExactTwistedSumWrong : ChangeSpec := { name := "fnExactTwistedSum", fn := fun _ => fun
  | [d1, d2] => { results := [.lit (.bool false)], args := [d1, d2] }
  | _ => none }
def FnExactTwistedSumWrongFalsely : Prop := fnExactTwistedSumRow.holds Try.pinned (OpenSpec.ofChange fnExactTwistedSumWrong)

/- THE SECOND FORM. 'bulk': how many values and letters a reading holds, each counted each time it is reached (what is shared counts as often as it is met; a slice's spare places count too). A statement '..UptoSaid' is the law's where the arguments, and the package variables that the reading takes, are together of bulk at most 1048576: NARROWER than '..Said'. Prove '..Said' where nothing that the law and all that it calls make is longer than what came in: it says more and counts as full. Else prove '..UptoSaid'. A law counts once. -/
mutual
def uptoBulk {H : Type} : DataW H → Nat
  | .lit (.string bytes) => bytes.length + 1
  | .lit _ => 1
  | .nil => 1
  | .ptr d => uptoBulk d + 1
  | .slice elems spare => uptoBulkAll elems + uptoBulkAll spare + 1
  | .agg parts => uptoBulkAll parts + 1
  | .iface _ d => uptoBulk d + 1
  | .map entries => uptoBulkEntries entries + 1
  | .held _ => 1
def uptoBulkAll {H : Type} : List (DataW H) → Nat
  | [] => 0
  | d :: r => uptoBulk d + uptoBulkAll r
def uptoBulkEntries {H : Type} : List (Lit × DataW H) → Nat
  | [] => 0
  | x :: r => uptoBulkEntry x + uptoBulkEntries r
def uptoBulkEntry {H : Type} : Lit × DataW H → Nat
  | (.string bytes, d) => bytes.length + uptoBulk d + 1
  | (_, d) => uptoBulk d + 1
 end
def uptoSmall : (H : Type) → List (DataW H) → Bool := fun _ ds => decide (uptoBulkAll ds ≤ 1048576)
def OpenSpec.upto (s : _root_.Go.ChangeSpec) : _root_.Go.OpenSpec := { _root_.Go.OpenSpec.ofChange s with cond := some uptoSmall }

/-- 'laws.FnExactConstantGauss', WHERE WHAT IT READS IS OF BULK AT MOST 1048576: true; the input reads as it did. -/
def fnExactConstantGaussUptoRow : OpenClaim := { program := "ytkjeadgfoedhbaa", sum := "b63983005976e0b8c300b3001806f9fb02876122e99c1cb43339c4f57123d8b3", func := "loop.example/g01313/laws.FnExactConstantGauss", spec := "fnExactConstantGauss", unfollowed := true, recurses := true, apart := false, narrowed := true }
def FnExactConstantGaussUptoSaid : Prop := fnExactConstantGaussUptoRow.holds Try.pinned (OpenSpec.upto fnExactConstantGaussSpec)

/-- 'laws.FnExactGaussSum', WHERE WHAT IT READS IS OF BULK AT MOST 1048576: true; the input reads as it did. -/
def fnExactGaussSumUptoRow : OpenClaim := { program := "ytkjeadgfoedhbaa", sum := "b63983005976e0b8c300b3001806f9fb02876122e99c1cb43339c4f57123d8b3", func := "loop.example/g01313/laws.FnExactGaussSum", spec := "fnExactGaussSum", recurses := true, apart := false, narrowed := true }
def FnExactGaussSumUptoSaid : Prop := fnExactGaussSumUptoRow.holds Try.pinned (OpenSpec.upto fnExactGaussSumSpec)

/-- 'laws.FnExactMoveRoot', WHERE WHAT IT READS IS OF BULK AT MOST 1048576: true; the input reads as it did. -/
def fnExactMoveRootUptoRow : OpenClaim := { program := "ytkjeadgfoedhbaa", sum := "b63983005976e0b8c300b3001806f9fb02876122e99c1cb43339c4f57123d8b3", func := "loop.example/g01313/laws.FnExactMoveRoot", spec := "fnExactMoveRoot", unfollowed := true, recurses := true, apart := false, narrowed := true }
def FnExactMoveRootUptoSaid : Prop := fnExactMoveRootUptoRow.holds Try.pinned (OpenSpec.upto fnExactMoveRootSpec)

/-- 'laws.FnExactAddGauss', WHERE WHAT IT READS IS OF BULK AT MOST 1048576: true; the input reads as it did. -/
def fnExactAddGaussUptoRow : OpenClaim := { program := "ytkjeadgfoedhbaa", sum := "b63983005976e0b8c300b3001806f9fb02876122e99c1cb43339c4f57123d8b3", func := "loop.example/g01313/laws.FnExactAddGauss", spec := "fnExactAddGauss", unfollowed := true, recurses := true, apart := false, narrowed := true }
def FnExactAddGaussUptoSaid : Prop := fnExactAddGaussUptoRow.holds Try.pinned (OpenSpec.upto fnExactAddGaussSpec)

/-- 'laws.FnExactMultiplyGauss', WHERE WHAT IT READS IS OF BULK AT MOST 1048576: true; the input reads as it did. -/
def fnExactMultiplyGaussUptoRow : OpenClaim := { program := "ytkjeadgfoedhbaa", sum := "b63983005976e0b8c300b3001806f9fb02876122e99c1cb43339c4f57123d8b3", func := "loop.example/g01313/laws.FnExactMultiplyGauss", spec := "fnExactMultiplyGauss", unfollowed := true, recurses := true, apart := false, narrowed := true }
def FnExactMultiplyGaussUptoSaid : Prop := fnExactMultiplyGaussUptoRow.holds Try.pinned (OpenSpec.upto fnExactMultiplyGaussSpec)

/-- 'laws.FnExactConjugateGauss', WHERE WHAT IT READS IS OF BULK AT MOST 1048576: true; the input reads as it did. -/
def fnExactConjugateGaussUptoRow : OpenClaim := { program := "ytkjeadgfoedhbaa", sum := "b63983005976e0b8c300b3001806f9fb02876122e99c1cb43339c4f57123d8b3", func := "loop.example/g01313/laws.FnExactConjugateGauss", spec := "fnExactConjugateGauss", unfollowed := true, recurses := true, apart := false, narrowed := true }
def FnExactConjugateGaussUptoSaid : Prop := fnExactConjugateGaussUptoRow.holds Try.pinned (OpenSpec.upto fnExactConjugateGaussSpec)

/-- 'laws.FnExactConstantOf', WHERE WHAT IT READS IS OF BULK AT MOST 1048576: true; the input reads as it did. -/
def fnExactConstantOfUptoRow : OpenClaim := { program := "ytkjeadgfoedhbaa", sum := "b63983005976e0b8c300b3001806f9fb02876122e99c1cb43339c4f57123d8b3", func := "loop.example/g01313/laws.FnExactConstantOf", spec := "fnExactConstantOf", unfollowed := true, recurses := true, apart := false, narrowed := true }
def FnExactConstantOfUptoSaid : Prop := fnExactConstantOfUptoRow.holds Try.pinned (OpenSpec.upto fnExactConstantOfSpec)

/-- 'laws.FnExactTwistedSum', WHERE WHAT IT READS IS OF BULK AT MOST 1048576: true; the input reads as it did. -/
def fnExactTwistedSumUptoRow : OpenClaim := { program := "ytkjeadgfoedhbaa", sum := "b63983005976e0b8c300b3001806f9fb02876122e99c1cb43339c4f57123d8b3", func := "loop.example/g01313/laws.FnExactTwistedSum", spec := "fnExactTwistedSum", recurses := true, apart := false, narrowed := true }
def FnExactTwistedSumUptoSaid : Prop := fnExactTwistedSumUptoRow.holds Try.pinned (OpenSpec.upto fnExactTwistedSumSpec)

end Rows
end Go.Proofs.Ytkjeadgfoedhbaa
