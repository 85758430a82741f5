/-
  No cell of these rows narrows 'for every input' (looked for: loops, veiled, ifaces, maps, wideKeys, modest, calm, conditions, laid).
  DERIVED. THE GIVEN ROWS OF THIS SEAT. 4 by the template 'for every input the law returns true; each argument reads behind the call as it read before'; 0 by the template 'total and deterministic' (their statements: YtejpliodhnglbaaTotals.lean).
  GIVEN WITH THE SEED: the statements are not yours to turn. If you find one false, say at which input.
  Laid BY PROGRAM, IN A SANDBOX (cutbox-rows.mjs): the forced cells as the released guide's own fill.sh prints them over the translation aa3a5a77adc9eb0a… (all of the seat's roots in one cut). By AI agents, Wed Nov 11 2026. No macro, syntax, notation, axiom, sorry.
-/
import Derived.Test.YtejpliodhnglbaaChecked
import GoSem.Claim
import GoSem.ClaimJoined
import GoSem.ClaimMapViews
import Derived.JoinedTies
import Derived.KernelRfl
namespace Go.Proofs.Ytejpliodhnglbaa
/- THE CELL 'sum', in the pinned program and in every row, IS THE sha256 OF THE DUMP (.gsa) THAT YtejpliodhnglbaaProg.lean LOADS. Nothing in Lean hashes anything: it is a label: what it is worth is what the hold of that sum in a sandbox is worth. -/
noncomputable def Try.pinned : Pinned := { name := "ytejpliodhnglbaa", sum := "aa3a5a77adc9eb0a5f123cb1dd27ad19d6624eb72362cb15ffdc1947edf7daf7", checked := Try.checked }
namespace Rows
def none {H : Type} : Left H := { results := [], args := [] }

/-- 'laws.FnExactDivideCubic': WHATEVER THE INPUT: true; the input reads as it did. -/
def fnExactDivideCubicSpec : ChangeSpec := { name := "fnExactDivideCubic", fn := fun _ => fun
  | [d1, d2] => { results := [.lit (.bool true)], args := [d1, d2] }
  | _ => none }
def fnExactDivideCubicRow : OpenClaim := { program := "ytejpliodhnglbaa", sum := "aa3a5a77adc9eb0a5f123cb1dd27ad19d6624eb72362cb15ffdc1947edf7daf7", func := "loop.example/g01313/laws.FnExactDivideCubic", spec := "fnExactDivideCubic", unfollowed := true, recurses := true, apart := false }
def FnExactDivideCubicSaid : Prop := fnExactDivideCubicRow.holds Try.pinned (OpenSpec.ofChange fnExactDivideCubicSpec)

/-- ITS FALSE NEIGHBOUR: 'it returns false'. Refute it at one input. -/
def fnExactDivideCubicWrong : ChangeSpec := { name := "fnExactDivideCubic", fn := fun _ => fun
  | [d1, d2] => { results := [.lit (.bool false)], args := [d1, d2] }
  | _ => none }
def FnExactDivideCubicWrongFalsely : Prop := fnExactDivideCubicRow.holds Try.pinned (OpenSpec.ofChange fnExactDivideCubicWrong)

/-- 'laws.FnExactGcdOfCubics': WHATEVER THE INPUT: true; the input reads as it did. -/
def fnExactGcdOfCubicsSpec : ChangeSpec := { name := "fnExactGcdOfCubics", fn := fun _ => fun
  | [d1, d2] => { results := [.lit (.bool true)], args := [d1, d2] }
  | _ => none }
def fnExactGcdOfCubicsRow : OpenClaim := { program := "ytejpliodhnglbaa", sum := "aa3a5a77adc9eb0a5f123cb1dd27ad19d6624eb72362cb15ffdc1947edf7daf7", func := "loop.example/g01313/laws.FnExactGcdOfCubics", spec := "fnExactGcdOfCubics", unfollowed := true, recurses := true, apart := false }
def FnExactGcdOfCubicsSaid : Prop := fnExactGcdOfCubicsRow.holds Try.pinned (OpenSpec.ofChange fnExactGcdOfCubicsSpec)

/-- ITS FALSE NEIGHBOUR: 'it returns false'. Refute it at one input. -/
def fnExactGcdOfCubicsWrong : ChangeSpec := { name := "fnExactGcdOfCubics", fn := fun _ => fun
  | [d1, d2] => { results := [.lit (.bool false)], args := [d1, d2] }
  | _ => none }
def FnExactGcdOfCubicsWrongFalsely : Prop := fnExactGcdOfCubicsRow.holds Try.pinned (OpenSpec.ofChange fnExactGcdOfCubicsWrong)

/-- 'laws.FnExactCubicSymbol': WHATEVER THE INPUT: true; the input reads as it did. -/
def fnExactCubicSymbolSpec : ChangeSpec := { name := "fnExactCubicSymbol", fn := fun _ => fun
  | [d1, d2] => { results := [.lit (.bool true)], args := [d1, d2] }
  | _ => none }
def fnExactCubicSymbolRow : OpenClaim := { program := "ytejpliodhnglbaa", sum := "aa3a5a77adc9eb0a5f123cb1dd27ad19d6624eb72362cb15ffdc1947edf7daf7", func := "loop.example/g01313/laws.FnExactCubicSymbol", spec := "fnExactCubicSymbol", unfollowed := true, recurses := true, apart := false }
def FnExactCubicSymbolSaid : Prop := fnExactCubicSymbolRow.holds Try.pinned (OpenSpec.ofChange fnExactCubicSymbolSpec)

/-- ITS FALSE NEIGHBOUR: 'it returns false'. Refute it at one input. -/
def fnExactCubicSymbolWrong : ChangeSpec := { name := "fnExactCubicSymbol", fn := fun _ => fun
  | [d1, d2] => { results := [.lit (.bool false)], args := [d1, d2] }
  | _ => none }
def FnExactCubicSymbolWrongFalsely : Prop := fnExactCubicSymbolRow.holds Try.pinned (OpenSpec.ofChange fnExactCubicSymbolWrong)

/-- 'laws.FnExactPrimesOfNorm': WHATEVER THE INPUT: true; the input reads as it did. -/
def fnExactPrimesOfNormSpec : ChangeSpec := { name := "fnExactPrimesOfNorm", fn := fun _ => fun
  | [d] => { results := [.lit (.bool true)], args := [d] }
  | _ => none }
def fnExactPrimesOfNormRow : OpenClaim := { program := "ytejpliodhnglbaa", sum := "aa3a5a77adc9eb0a5f123cb1dd27ad19d6624eb72362cb15ffdc1947edf7daf7", func := "loop.example/g01313/laws.FnExactPrimesOfNorm", spec := "fnExactPrimesOfNorm", unfollowed := true, recurses := true, apart := false }
def FnExactPrimesOfNormSaid : Prop := fnExactPrimesOfNormRow.holds Try.pinned (OpenSpec.ofChange fnExactPrimesOfNormSpec)

/-- ITS FALSE NEIGHBOUR: 'it returns false'. Refute it at one input. -/
def fnExactPrimesOfNormWrong : ChangeSpec := { name := "fnExactPrimesOfNorm", fn := fun _ => fun
  | [d] => { results := [.lit (.bool false)], args := [d] }
  | _ => none }
def FnExactPrimesOfNormWrongFalsely : Prop := fnExactPrimesOfNormRow.holds Try.pinned (OpenSpec.ofChange fnExactPrimesOfNormWrong)

/- THE SECOND FORM. 'bulk': how many values and letters a reading holds, each counted each time it is reached (what is shared counts as often as it is met; a slice's spare places count too). A statement '..UptoSaid' is the law's where the arguments, and the package variables that the reading takes, are together of bulk at most 1048576: NARROWER than '..Said'. Prove '..Said' where nothing that the law and all that it calls make is longer than what came in: it says more and counts as full. Else prove '..UptoSaid'. A law counts once. -/
mutual
def uptoBulk {H : Type} : DataW H → Nat
  | .lit (.string bytes) => bytes.length + 1
  | .lit _ => 1
  | .nil => 1
  | .ptr d => uptoBulk d + 1
  | .slice elems spare => uptoBulkAll elems + uptoBulkAll spare + 1
  | .agg parts => uptoBulkAll parts + 1
  | .iface _ d => uptoBulk d + 1
  | .map entries => uptoBulkEntries entries + 1
  | .held _ => 1
def uptoBulkAll {H : Type} : List (DataW H) → Nat
  | [] => 0
  | d :: r => uptoBulk d + uptoBulkAll r
def uptoBulkEntries {H : Type} : List (Lit × DataW H) → Nat
  | [] => 0
  | x :: r => uptoBulkEntry x + uptoBulkEntries r
def uptoBulkEntry {H : Type} : Lit × DataW H → Nat
  | (.string bytes, d) => bytes.length + uptoBulk d + 1
  | (_, d) => uptoBulk d + 1
 end
def uptoSmall : (H : Type) → List (DataW H) → Bool := fun _ ds => decide (uptoBulkAll ds ≤ 1048576)
def OpenSpec.upto (s : _root_.Go.ChangeSpec) : _root_.Go.OpenSpec := { _root_.Go.OpenSpec.ofChange s with cond := some uptoSmall }

/-- 'laws.FnExactDivideCubic', WHERE WHAT IT READS IS OF BULK AT MOST 1048576: true; the input reads as it did. -/
def fnExactDivideCubicUptoRow : OpenClaim := { program := "ytejpliodhnglbaa", sum := "aa3a5a77adc9eb0a5f123cb1dd27ad19d6624eb72362cb15ffdc1947edf7daf7", func := "loop.example/g01313/laws.FnExactDivideCubic", spec := "fnExactDivideCubic", unfollowed := true, recurses := true, apart := false, narrowed := true }
def FnExactDivideCubicUptoSaid : Prop := fnExactDivideCubicUptoRow.holds Try.pinned (OpenSpec.upto fnExactDivideCubicSpec)

/-- 'laws.FnExactGcdOfCubics', WHERE WHAT IT READS IS OF BULK AT MOST 1048576: true; the input reads as it did. -/
def fnExactGcdOfCubicsUptoRow : OpenClaim := { program := "ytejpliodhnglbaa", sum := "aa3a5a77adc9eb0a5f123cb1dd27ad19d6624eb72362cb15ffdc1947edf7daf7", func := "loop.example/g01313/laws.FnExactGcdOfCubics", spec := "fnExactGcdOfCubics", unfollowed := true, recurses := true, apart := false, narrowed := true }
def FnExactGcdOfCubicsUptoSaid : Prop := fnExactGcdOfCubicsUptoRow.holds Try.pinned (OpenSpec.upto fnExactGcdOfCubicsSpec)

/-- 'laws.FnExactCubicSymbol', WHERE WHAT IT READS IS OF BULK AT MOST 1048576: true; the input reads as it did. -/
def fnExactCubicSymbolUptoRow : OpenClaim := { program := "ytejpliodhnglbaa", sum := "aa3a5a77adc9eb0a5f123cb1dd27ad19d6624eb72362cb15ffdc1947edf7daf7", func := "loop.example/g01313/laws.FnExactCubicSymbol", spec := "fnExactCubicSymbol", unfollowed := true, recurses := true, apart := false, narrowed := true }
def FnExactCubicSymbolUptoSaid : Prop := fnExactCubicSymbolUptoRow.holds Try.pinned (OpenSpec.upto fnExactCubicSymbolSpec)

/-- 'laws.FnExactPrimesOfNorm', WHERE WHAT IT READS IS OF BULK AT MOST 1048576: true; the input reads as it did. -/
def fnExactPrimesOfNormUptoRow : OpenClaim := { program := "ytejpliodhnglbaa", sum := "aa3a5a77adc9eb0a5f123cb1dd27ad19d6624eb72362cb15ffdc1947edf7daf7", func := "loop.example/g01313/laws.FnExactPrimesOfNorm", spec := "fnExactPrimesOfNorm", unfollowed := true, recurses := true, apart := false, narrowed := true }
def FnExactPrimesOfNormUptoSaid : Prop := fnExactPrimesOfNormUptoRow.holds Try.pinned (OpenSpec.upto fnExactPrimesOfNormSpec)

end Rows
end Go.Proofs.Ytejpliodhnglbaa
