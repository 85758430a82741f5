/-
  No cell of these rows narrows 'for every input' (looked for: loops, veiled, ifaces, maps, wideKeys, modest, calm, conditions, laid).
  DERIVED. THE GIVEN ROWS OF THIS SEAT. 6 by the template 'for every input the law returns true; each argument reads behind the call as it read before'; 0 by the template 'total and deterministic' (their statements: YtghlmdjedpnglaaTotals.lean).
  GIVEN WITH THE SEED: the statements are not yours to turn. If you find one false, say at which input.
  Laid BY PROGRAM, IN A SANDBOX (cutbox-rows.mjs): the forced cells as the released guide's own fill.sh prints them over the translation 93f6e0b65f9853be… (all of the seat's roots in one cut). By AI agents, Wed Nov 11 2026. No macro, syntax, notation, axiom, sorry.
-/
import Derived.Test.YtghlmdjedpnglaaChecked
import GoSem.Claim
import GoSem.ClaimJoined
import GoSem.ClaimMapViews
import Derived.JoinedTies
import Derived.KernelRfl
namespace Go.Proofs.Ytghlmdjedpnglaa
/- THE CELL 'sum', in the pinned program and in every row, IS THE sha256 OF THE DUMP (.gsa) THAT YtghlmdjedpnglaaProg.lean LOADS. Nothing in Lean hashes anything: it is a label: what it is worth is what the hold of that sum in a sandbox is worth. -/
noncomputable def Try.pinned : Pinned := { name := "ytghlmdjedpnglaa", sum := "93f6e0b65f9853bea1ce8147af8e06745b59008585d63fc3a49b28f5cf043c80", checked := Try.checked }
namespace Rows
def none {H : Type} : Left H := { results := [], args := [] }

/-- 'laws.FnExactLeastNoPower': WHATEVER THE INPUT: true; the input reads as it did. -/
def fnExactLeastNoPowerSpec : ChangeSpec := { name := "fnExactLeastNoPower", fn := fun _ => fun
  | [d1, d2] => { results := [.lit (.bool true)], args := [d1, d2] }
  | _ => none }
def fnExactLeastNoPowerRow : OpenClaim := { program := "ytghlmdjedpnglaa", sum := "93f6e0b65f9853bea1ce8147af8e06745b59008585d63fc3a49b28f5cf043c80", func := "loop.example/g01313/laws.FnExactLeastNoPower", spec := "fnExactLeastNoPower", recurses := true, apart := false }
def FnExactLeastNoPowerSaid : Prop := fnExactLeastNoPowerRow.holds Try.pinned (OpenSpec.ofChange fnExactLeastNoPowerSpec)

/-- ITS FALSE NEIGHBOUR: 'it returns false'. Refute it at one input. -/
def fnExactLeastNoPowerWrong : ChangeSpec := { name := "fnExactLeastNoPower", fn := fun _ => fun
  | [d1, d2] => { results := [.lit (.bool false)], args := [d1, d2] }
  | _ => none }
def FnExactLeastNoPowerWrongFalsely : Prop := fnExactLeastNoPowerRow.holds Try.pinned (OpenSpec.ofChange fnExactLeastNoPowerWrong)

/-- 'laws.FnExactPowersOf': WHATEVER THE INPUT: true; the input reads as it did. -/
def fnExactPowersOfSpec : ChangeSpec := { name := "fnExactPowersOf", fn := fun _ => fun
  | [d1, d2] => { results := [.lit (.bool true)], args := [d1, d2] }
  | _ => none }
def fnExactPowersOfRow : OpenClaim := { program := "ytghlmdjedpnglaa", sum := "93f6e0b65f9853bea1ce8147af8e06745b59008585d63fc3a49b28f5cf043c80", func := "loop.example/g01313/laws.FnExactPowersOf", spec := "fnExactPowersOf", recurses := true, apart := false }
def FnExactPowersOfSaid : Prop := fnExactPowersOfRow.holds Try.pinned (OpenSpec.ofChange fnExactPowersOfSpec)

/-- ITS FALSE NEIGHBOUR: 'it returns false'. Refute it at one input. -/
def fnExactPowersOfWrong : ChangeSpec := { name := "fnExactPowersOf", fn := fun _ => fun
  | [d1, d2] => { results := [.lit (.bool false)], args := [d1, d2] }
  | _ => none }
def FnExactPowersOfWrongFalsely : Prop := fnExactPowersOfRow.holds Try.pinned (OpenSpec.ofChange fnExactPowersOfWrong)

/-- 'laws.FnExactRefinePeriods': WHATEVER THE INPUT: true; the input reads as it did. -/
def fnExactRefinePeriodsSpec : ChangeSpec := { name := "fnExactRefinePeriods", fn := fun _ => fun
  | [d1, d2, d3, d4] => { results := [.lit (.bool true)], args := [d1, d2, d3, d4] }
  | _ => none }
def fnExactRefinePeriodsRow : OpenClaim := { program := "ytghlmdjedpnglaa", sum := "93f6e0b65f9853bea1ce8147af8e06745b59008585d63fc3a49b28f5cf043c80", func := "loop.example/g01313/laws.FnExactRefinePeriods", spec := "fnExactRefinePeriods", unfollowed := true, recurses := true, apart := false }
def FnExactRefinePeriodsSaid : Prop := fnExactRefinePeriodsRow.holds Try.pinned (OpenSpec.ofChange fnExactRefinePeriodsSpec)

/-- ITS FALSE NEIGHBOUR: 'it returns false'. Refute it at one input. -/
def fnExactRefinePeriodsWrong : ChangeSpec := { name := "fnExactRefinePeriods", fn := fun _ => fun
  | [d1, d2, d3, d4] => { results := [.lit (.bool false)], args := [d1, d2, d3, d4] }
  | _ => none }
def FnExactRefinePeriodsWrongFalsely : Prop := fnExactRefinePeriodsRow.holds Try.pinned (OpenSpec.ofChange fnExactRefinePeriodsWrong)

/-- 'laws.FnExactQuadricNumber': WHATEVER THE INPUT: true; the input reads as it did. -/
def fnExactQuadricNumberSpec : ChangeSpec := { name := "fnExactQuadricNumber", fn := fun _ => fun
  | [d1, d2, d3] => { results := [.lit (.bool true)], args := [d1, d2, d3] }
  | _ => none }
def fnExactQuadricNumberRow : OpenClaim := { program := "ytghlmdjedpnglaa", sum := "93f6e0b65f9853bea1ce8147af8e06745b59008585d63fc3a49b28f5cf043c80", func := "loop.example/g01313/laws.FnExactQuadricNumber", spec := "fnExactQuadricNumber", apart := false }
def FnExactQuadricNumberSaid : Prop := fnExactQuadricNumberRow.holds Try.pinned (OpenSpec.ofChange fnExactQuadricNumberSpec)

/-- ITS FALSE NEIGHBOUR: 'it returns false'. Refute it at one input. -/
def fnExactQuadricNumberWrong : ChangeSpec := { name := "fnExactQuadricNumber", fn := fun _ => fun
  | [d1, d2, d3] => { results := [.lit (.bool false)], args := [d1, d2, d3] }
  | _ => none }
def FnExactQuadricNumberWrongFalsely : Prop := fnExactQuadricNumberRow.holds Try.pinned (OpenSpec.ofChange fnExactQuadricNumberWrong)

/-- 'laws.FnExactShiftPeriods': WHATEVER THE INPUT: true; the input reads as it did. -/
def fnExactShiftPeriodsSpec : ChangeSpec := { name := "fnExactShiftPeriods", fn := fun _ => fun
  | [d1, d2, d3, d4] => { results := [.lit (.bool true)], args := [d1, d2, d3, d4] }
  | _ => none }
def fnExactShiftPeriodsRow : OpenClaim := { program := "ytghlmdjedpnglaa", sum := "93f6e0b65f9853bea1ce8147af8e06745b59008585d63fc3a49b28f5cf043c80", func := "loop.example/g01313/laws.FnExactShiftPeriods", spec := "fnExactShiftPeriods", unfollowed := true, recurses := true, apart := false }
def FnExactShiftPeriodsSaid : Prop := fnExactShiftPeriodsRow.holds Try.pinned (OpenSpec.ofChange fnExactShiftPeriodsSpec)

/-- ITS FALSE NEIGHBOUR: 'it returns false'. Refute it at one input. -/
def fnExactShiftPeriodsWrong : ChangeSpec := { name := "fnExactShiftPeriods", fn := fun _ => fun
  | [d1, d2, d3, d4] => { results := [.lit (.bool false)], args := [d1, d2, d3, d4] }
  | _ => none }
def FnExactShiftPeriodsWrongFalsely : Prop := fnExactShiftPeriodsRow.holds Try.pinned (OpenSpec.ofChange fnExactShiftPeriodsWrong)

/-- 'laws.FnExactCharacterAt': WHATEVER THE INPUT: true; the input reads as it did. -/
def fnExactCharacterAtSpec : ChangeSpec := { name := "fnExactCharacterAt", fn := fun _ => fun
  | [d1, d2] => { results := [.lit (.bool true)], args := [d1, d2] }
  | _ => none }
def fnExactCharacterAtRow : OpenClaim := { program := "ytghlmdjedpnglaa", sum := "93f6e0b65f9853bea1ce8147af8e06745b59008585d63fc3a49b28f5cf043c80", func := "loop.example/g01313/laws.FnExactCharacterAt", spec := "fnExactCharacterAt", unfollowed := true, recurses := true, apart := false }
def FnExactCharacterAtSaid : Prop := fnExactCharacterAtRow.holds Try.pinned (OpenSpec.ofChange fnExactCharacterAtSpec)

/-- ITS FALSE NEIGHBOUR: 'it returns false'. Refute it at one input. -/
def fnExactCharacterAtWrong : ChangeSpec := { name := "fnExactCharacterAt", fn := fun _ => fun
  | [d1, d2] => { results := [.lit (.bool false)], args := [d1, d2] }
  | _ => none }
def FnExactCharacterAtWrongFalsely : Prop := fnExactCharacterAtRow.holds Try.pinned (OpenSpec.ofChange fnExactCharacterAtWrong)

/- THE SECOND FORM. 'bulk': how many values and letters a reading holds, each counted each time it is reached (what is shared counts as often as it is met; a slice's spare places count too). A statement '..UptoSaid' is the law's where the arguments, and the package variables that the reading takes, are together of bulk at most 1048576: NARROWER than '..Said'. Prove '..Said' where nothing that the law and all that it calls make is longer than what came in: it says more and counts as full. Else prove '..UptoSaid'. A law counts once. -/
mutual
def uptoBulk {H : Type} : DataW H → Nat
  | .lit (.string bytes) => bytes.length + 1
  | .lit _ => 1
  | .nil => 1
  | .ptr d => uptoBulk d + 1
  | .slice elems spare => uptoBulkAll elems + uptoBulkAll spare + 1
  | .agg parts => uptoBulkAll parts + 1
  | .iface _ d => uptoBulk d + 1
  | .map entries => uptoBulkEntries entries + 1
  | .held _ => 1
def uptoBulkAll {H : Type} : List (DataW H) → Nat
  | [] => 0
  | d :: r => uptoBulk d + uptoBulkAll r
def uptoBulkEntries {H : Type} : List (Lit × DataW H) → Nat
  | [] => 0
  | x :: r => uptoBulkEntry x + uptoBulkEntries r
def uptoBulkEntry {H : Type} : Lit × DataW H → Nat
  | (.string bytes, d) => bytes.length + uptoBulk d + 1
  | (_, d) => uptoBulk d + 1
 end
def uptoSmall : (H : Type) → List (DataW H) → Bool := fun _ ds => decide (uptoBulkAll ds ≤ 1048576)
def OpenSpec.upto (s : _root_.Go.ChangeSpec) : _root_.Go.OpenSpec := { _root_.Go.OpenSpec.ofChange s with cond := some uptoSmall }

/-- 'laws.FnExactLeastNoPower', WHERE WHAT IT READS IS OF BULK AT MOST 1048576: true; the input reads as it did. -/
def fnExactLeastNoPowerUptoRow : OpenClaim := { program := "ytghlmdjedpnglaa", sum := "93f6e0b65f9853bea1ce8147af8e06745b59008585d63fc3a49b28f5cf043c80", func := "loop.example/g01313/laws.FnExactLeastNoPower", spec := "fnExactLeastNoPower", recurses := true, apart := false, narrowed := true }
def FnExactLeastNoPowerUptoSaid : Prop := fnExactLeastNoPowerUptoRow.holds Try.pinned (OpenSpec.upto fnExactLeastNoPowerSpec)

/-- 'laws.FnExactPowersOf', WHERE WHAT IT READS IS OF BULK AT MOST 1048576: true; the input reads as it did. -/
def fnExactPowersOfUptoRow : OpenClaim := { program := "ytghlmdjedpnglaa", sum := "93f6e0b65f9853bea1ce8147af8e06745b59008585d63fc3a49b28f5cf043c80", func := "loop.example/g01313/laws.FnExactPowersOf", spec := "fnExactPowersOf", recurses := true, apart := false, narrowed := true }
def FnExactPowersOfUptoSaid : Prop := fnExactPowersOfUptoRow.holds Try.pinned (OpenSpec.upto fnExactPowersOfSpec)

/-- 'laws.FnExactRefinePeriods', WHERE WHAT IT READS IS OF BULK AT MOST 1048576: true; the input reads as it did. -/
def fnExactRefinePeriodsUptoRow : OpenClaim := { program := "ytghlmdjedpnglaa", sum := "93f6e0b65f9853bea1ce8147af8e06745b59008585d63fc3a49b28f5cf043c80", func := "loop.example/g01313/laws.FnExactRefinePeriods", spec := "fnExactRefinePeriods", unfollowed := true, recurses := true, apart := false, narrowed := true }
def FnExactRefinePeriodsUptoSaid : Prop := fnExactRefinePeriodsUptoRow.holds Try.pinned (OpenSpec.upto fnExactRefinePeriodsSpec)

/-- 'laws.FnExactQuadricNumber', WHERE WHAT IT READS IS OF BULK AT MOST 1048576: true; the input reads as it did. -/
def fnExactQuadricNumberUptoRow : OpenClaim := { program := "ytghlmdjedpnglaa", sum := "93f6e0b65f9853bea1ce8147af8e06745b59008585d63fc3a49b28f5cf043c80", func := "loop.example/g01313/laws.FnExactQuadricNumber", spec := "fnExactQuadricNumber", apart := false, narrowed := true }
def FnExactQuadricNumberUptoSaid : Prop := fnExactQuadricNumberUptoRow.holds Try.pinned (OpenSpec.upto fnExactQuadricNumberSpec)

/-- 'laws.FnExactShiftPeriods', WHERE WHAT IT READS IS OF BULK AT MOST 1048576: true; the input reads as it did. -/
def fnExactShiftPeriodsUptoRow : OpenClaim := { program := "ytghlmdjedpnglaa", sum := "93f6e0b65f9853bea1ce8147af8e06745b59008585d63fc3a49b28f5cf043c80", func := "loop.example/g01313/laws.FnExactShiftPeriods", spec := "fnExactShiftPeriods", unfollowed := true, recurses := true, apart := false, narrowed := true }
def FnExactShiftPeriodsUptoSaid : Prop := fnExactShiftPeriodsUptoRow.holds Try.pinned (OpenSpec.upto fnExactShiftPeriodsSpec)

/-- 'laws.FnExactCharacterAt', WHERE WHAT IT READS IS OF BULK AT MOST 1048576: true; the input reads as it did. -/
def fnExactCharacterAtUptoRow : OpenClaim := { program := "ytghlmdjedpnglaa", sum := "93f6e0b65f9853bea1ce8147af8e06745b59008585d63fc3a49b28f5cf043c80", func := "loop.example/g01313/laws.FnExactCharacterAt", spec := "fnExactCharacterAt", unfollowed := true, recurses := true, apart := false, narrowed := true }
def FnExactCharacterAtUptoSaid : Prop := fnExactCharacterAtUptoRow.holds Try.pinned (OpenSpec.upto fnExactCharacterAtSpec)

end Rows
end Go.Proofs.Ytghlmdjedpnglaa
