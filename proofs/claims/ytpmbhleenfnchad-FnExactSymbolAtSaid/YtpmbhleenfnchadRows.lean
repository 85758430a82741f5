/-
  No cell of these rows narrows 'for every input' (looked for: loops, veiled, ifaces, maps, wideKeys, modest, calm, conditions, laid).
  DERIVED. THE GIVEN ROWS OF THIS SEAT. 5 by the template 'for every input the law returns true; each argument reads behind the call as it read before'; 0 by the template 'total and deterministic' (their statements: YtpmbhleenfnchadTotals.lean).
  GIVEN WITH THE SEED: the statements are not yours to turn. If you find one false, say at which input.
  Laid BY PROGRAM, IN A SANDBOX (cutbox-rows.mjs): the forced cells as the released guide's own fill.sh prints them over the translation 4fcc29cdaa3186cb… (all of the seat's roots in one cut). By AI agents, Wed Nov 11 2026. No macro, syntax, notation, axiom, sorry.
-/
import Derived.Test.YtpmbhleenfnchadChecked
import GoSem.Claim
import GoSem.ClaimJoined
import GoSem.ClaimMapViews
import Derived.JoinedTies
import Derived.KernelRfl
namespace Go.Proofs.Ytpmbhleenfnchad
/- THE CELL 'sum', in the pinned program and in every row, IS THE sha256 OF THE DUMP (.gsa) THAT YtpmbhleenfnchadProg.lean LOADS. Nothing in Lean hashes anything: it is a label: what it is worth is what the hold of that sum in a sandbox is worth. -/
noncomputable def Try.pinned : Pinned := { name := "ytpmbhleenfnchad", sum := "4fcc29cdaa3186cb4fea0efeccccd23232a5230367f3b77cebd782dd4b022bfa", checked := Try.checked }
namespace Rows
def none {H : Type} : Left H := { results := [], args := [] }

/-- 'laws.FnExactCharacteristicOf': WHATEVER THE INPUT: true; the input reads as it did. -/
def fnExactCharacteristicOfSpec : ChangeSpec := { name := "fnExactCharacteristicOf", fn := fun _ => fun
  | [d] => { results := [.lit (.bool true)], args := [d] }
  | _ => none }
def fnExactCharacteristicOfRow : OpenClaim := { program := "ytpmbhleenfnchad", sum := "4fcc29cdaa3186cb4fea0efeccccd23232a5230367f3b77cebd782dd4b022bfa", func := "loop.example/g01313/laws.FnExactCharacteristicOf", spec := "fnExactCharacteristicOf", unfollowed := true, recurses := true, apart := false }
def FnExactCharacteristicOfSaid : Prop := fnExactCharacteristicOfRow.holds Try.pinned (OpenSpec.ofChange fnExactCharacteristicOfSpec)

/-- ITS FALSE NEIGHBOUR: 'it returns false'. Refute it at one input. -/
def fnExactCharacteristicOfWrong : ChangeSpec := { name := "fnExactCharacteristicOf", fn := fun _ => fun
  | [d] => { results := [.lit (.bool false)], args := [d] }
  | _ => none }
def FnExactCharacteristicOfWrongFalsely : Prop := fnExactCharacteristicOfRow.holds Try.pinned (OpenSpec.ofChange fnExactCharacteristicOfWrong)

/-- 'laws.FnExactResidueAt': WHATEVER THE INPUT: true; the input reads as it did. -/
def fnExactResidueAtSpec : ChangeSpec := { name := "fnExactResidueAt", fn := fun _ => fun
  | [d1, d2, d3] => { results := [.lit (.bool true)], args := [d1, d2, d3] }
  | _ => none }
def fnExactResidueAtRow : OpenClaim := { program := "ytpmbhleenfnchad", sum := "4fcc29cdaa3186cb4fea0efeccccd23232a5230367f3b77cebd782dd4b022bfa", func := "loop.example/g01313/laws.FnExactResidueAt", spec := "fnExactResidueAt", unfollowed := true, recurses := true, apart := false }
def FnExactResidueAtSaid : Prop := fnExactResidueAtRow.holds Try.pinned (OpenSpec.ofChange fnExactResidueAtSpec)

/-- ITS FALSE NEIGHBOUR: 'it returns false'. Refute it at one input. -/
def fnExactResidueAtWrong : ChangeSpec := { name := "fnExactResidueAt", fn := fun _ => fun
  | [d1, d2, d3] => { results := [.lit (.bool false)], args := [d1, d2, d3] }
  | _ => none }
def FnExactResidueAtWrongFalsely : Prop := fnExactResidueAtRow.holds Try.pinned (OpenSpec.ofChange fnExactResidueAtWrong)

/-- 'laws.FnExactPlacesWith': WHATEVER THE INPUT: true; the input reads as it did. -/
def fnExactPlacesWithSpec : ChangeSpec := { name := "fnExactPlacesWith", fn := fun _ => fun
  | [d1, d2] => { results := [.lit (.bool true)], args := [d1, d2] }
  | _ => none }
def fnExactPlacesWithRow : OpenClaim := { program := "ytpmbhleenfnchad", sum := "4fcc29cdaa3186cb4fea0efeccccd23232a5230367f3b77cebd782dd4b022bfa", func := "loop.example/g01313/laws.FnExactPlacesWith", spec := "fnExactPlacesWith", unfollowed := true, recurses := true, apart := false }
def FnExactPlacesWithSaid : Prop := fnExactPlacesWithRow.holds Try.pinned (OpenSpec.ofChange fnExactPlacesWithSpec)

/-- ITS FALSE NEIGHBOUR: 'it returns false'. Refute it at one input. -/
def fnExactPlacesWithWrong : ChangeSpec := { name := "fnExactPlacesWith", fn := fun _ => fun
  | [d1, d2] => { results := [.lit (.bool false)], args := [d1, d2] }
  | _ => none }
def FnExactPlacesWithWrongFalsely : Prop := fnExactPlacesWithRow.holds Try.pinned (OpenSpec.ofChange fnExactPlacesWithWrong)

/-- 'laws.FnExactSymbolAt': WHATEVER THE INPUT: true; the input reads as it did. -/
def fnExactSymbolAtSpec : ChangeSpec := { name := "fnExactSymbolAt", fn := fun _ => fun
  | [d1, d2, d3] => { results := [.lit (.bool true)], args := [d1, d2, d3] }
  | _ => none }
def fnExactSymbolAtRow : OpenClaim := { program := "ytpmbhleenfnchad", sum := "4fcc29cdaa3186cb4fea0efeccccd23232a5230367f3b77cebd782dd4b022bfa", func := "loop.example/g01313/laws.FnExactSymbolAt", spec := "fnExactSymbolAt", unfollowed := true, recurses := true, apart := false }
def FnExactSymbolAtSaid : Prop := fnExactSymbolAtRow.holds Try.pinned (OpenSpec.ofChange fnExactSymbolAtSpec)

/-- ITS FALSE NEIGHBOUR: 'it returns false'. Refute it at one input. -/
def fnExactSymbolAtWrong : ChangeSpec := { name := "fnExactSymbolAt", fn := fun _ => fun
  | [d1, d2, d3] => { results := [.lit (.bool false)], args := [d1, d2, d3] }
  | _ => none }
def FnExactSymbolAtWrongFalsely : Prop := fnExactSymbolAtRow.holds Try.pinned (OpenSpec.ofChange fnExactSymbolAtWrong)

/-- 'laws.FnExactCycloAtResidues': WHATEVER THE INPUT: true; the input reads as it did. -/
def fnExactCycloAtResiduesSpec : ChangeSpec := { name := "fnExactCycloAtResidues", fn := fun _ => fun
  | [d1, d2, d3] => { results := [.lit (.bool true)], args := [d1, d2, d3] }
  | _ => none }
def fnExactCycloAtResiduesRow : OpenClaim := { program := "ytpmbhleenfnchad", sum := "4fcc29cdaa3186cb4fea0efeccccd23232a5230367f3b77cebd782dd4b022bfa", func := "loop.example/g01313/laws.FnExactCycloAtResidues", spec := "fnExactCycloAtResidues", unfollowed := true, recurses := true, apart := false }
def FnExactCycloAtResiduesSaid : Prop := fnExactCycloAtResiduesRow.holds Try.pinned (OpenSpec.ofChange fnExactCycloAtResiduesSpec)

/-- ITS FALSE NEIGHBOUR: 'it returns false'. Refute it at one input. -/
def fnExactCycloAtResiduesWrong : ChangeSpec := { name := "fnExactCycloAtResidues", fn := fun _ => fun
  | [d1, d2, d3] => { results := [.lit (.bool false)], args := [d1, d2, d3] }
  | _ => none }
def FnExactCycloAtResiduesWrongFalsely : Prop := fnExactCycloAtResiduesRow.holds Try.pinned (OpenSpec.ofChange fnExactCycloAtResiduesWrong)

/- THE SECOND FORM. 'bulk': how many values and letters a reading holds, each counted each time it is reached (what is shared counts as often as it is met; a slice's spare places count too). A statement '..UptoSaid' is the law's where the arguments, and the package variables that the reading takes, are together of bulk at most 1048576: NARROWER than '..Said'. Prove '..Said' where nothing that the law and all that it calls make is longer than what came in: it says more and counts as full. Else prove '..UptoSaid'. A law counts once. -/
mutual
def uptoBulk {H : Type} : DataW H → Nat
  | .lit (.string bytes) => bytes.length + 1
  | .lit _ => 1
  | .nil => 1
  | .ptr d => uptoBulk d + 1
  | .slice elems spare => uptoBulkAll elems + uptoBulkAll spare + 1
  | .agg parts => uptoBulkAll parts + 1
  | .iface _ d => uptoBulk d + 1
  | .map entries => uptoBulkEntries entries + 1
  | .held _ => 1
def uptoBulkAll {H : Type} : List (DataW H) → Nat
  | [] => 0
  | d :: r => uptoBulk d + uptoBulkAll r
def uptoBulkEntries {H : Type} : List (Lit × DataW H) → Nat
  | [] => 0
  | x :: r => uptoBulkEntry x + uptoBulkEntries r
def uptoBulkEntry {H : Type} : Lit × DataW H → Nat
  | (.string bytes, d) => bytes.length + uptoBulk d + 1
  | (_, d) => uptoBulk d + 1
 end
def uptoSmall : (H : Type) → List (DataW H) → Bool := fun _ ds => decide (uptoBulkAll ds ≤ 1048576)
def OpenSpec.upto (s : _root_.Go.ChangeSpec) : _root_.Go.OpenSpec := { _root_.Go.OpenSpec.ofChange s with cond := some uptoSmall }

/-- 'laws.FnExactCharacteristicOf', WHERE WHAT IT READS IS OF BULK AT MOST 1048576: true; the input reads as it did. -/
def fnExactCharacteristicOfUptoRow : OpenClaim := { program := "ytpmbhleenfnchad", sum := "4fcc29cdaa3186cb4fea0efeccccd23232a5230367f3b77cebd782dd4b022bfa", func := "loop.example/g01313/laws.FnExactCharacteristicOf", spec := "fnExactCharacteristicOf", unfollowed := true, recurses := true, apart := false, narrowed := true }
def FnExactCharacteristicOfUptoSaid : Prop := fnExactCharacteristicOfUptoRow.holds Try.pinned (OpenSpec.upto fnExactCharacteristicOfSpec)

/-- 'laws.FnExactResidueAt', WHERE WHAT IT READS IS OF BULK AT MOST 1048576: true; the input reads as it did. -/
def fnExactResidueAtUptoRow : OpenClaim := { program := "ytpmbhleenfnchad", sum := "4fcc29cdaa3186cb4fea0efeccccd23232a5230367f3b77cebd782dd4b022bfa", func := "loop.example/g01313/laws.FnExactResidueAt", spec := "fnExactResidueAt", unfollowed := true, recurses := true, apart := false, narrowed := true }
def FnExactResidueAtUptoSaid : Prop := fnExactResidueAtUptoRow.holds Try.pinned (OpenSpec.upto fnExactResidueAtSpec)

/-- 'laws.FnExactPlacesWith', WHERE WHAT IT READS IS OF BULK AT MOST 1048576: true; the input reads as it did. -/
def fnExactPlacesWithUptoRow : OpenClaim := { program := "ytpmbhleenfnchad", sum := "4fcc29cdaa3186cb4fea0efeccccd23232a5230367f3b77cebd782dd4b022bfa", func := "loop.example/g01313/laws.FnExactPlacesWith", spec := "fnExactPlacesWith", unfollowed := true, recurses := true, apart := false, narrowed := true }
def FnExactPlacesWithUptoSaid : Prop := fnExactPlacesWithUptoRow.holds Try.pinned (OpenSpec.upto fnExactPlacesWithSpec)

/-- 'laws.FnExactSymbolAt', WHERE WHAT IT READS IS OF BULK AT MOST 1048576: true; the input reads as it did. -/
def fnExactSymbolAtUptoRow : OpenClaim := { program := "ytpmbhleenfnchad", sum := "4fcc29cdaa3186cb4fea0efeccccd23232a5230367f3b77cebd782dd4b022bfa", func := "loop.example/g01313/laws.FnExactSymbolAt", spec := "fnExactSymbolAt", unfollowed := true, recurses := true, apart := false, narrowed := true }
def FnExactSymbolAtUptoSaid : Prop := fnExactSymbolAtUptoRow.holds Try.pinned (OpenSpec.upto fnExactSymbolAtSpec)

/-- 'laws.FnExactCycloAtResidues', WHERE WHAT IT READS IS OF BULK AT MOST 1048576: true; the input reads as it did. -/
def fnExactCycloAtResiduesUptoRow : OpenClaim := { program := "ytpmbhleenfnchad", sum := "4fcc29cdaa3186cb4fea0efeccccd23232a5230367f3b77cebd782dd4b022bfa", func := "loop.example/g01313/laws.FnExactCycloAtResidues", spec := "fnExactCycloAtResidues", unfollowed := true, recurses := true, apart := false, narrowed := true }
def FnExactCycloAtResiduesUptoSaid : Prop := fnExactCycloAtResiduesUptoRow.holds Try.pinned (OpenSpec.upto fnExactCycloAtResiduesSpec)

end Rows
end Go.Proofs.Ytpmbhleenfnchad
