/-
  No cell of these rows narrows 'for every input' (looked for: loops, veiled, ifaces, maps, wideKeys, modest, calm, conditions, laid).
  DERIVED. THE GIVEN ROWS OF THIS SEAT. 8 by the template 'for every input the law returns true; each argument reads behind the call as it read before'; 0 by the template 'total and deterministic' (their statements: YthljmbobccaalaaTotals.lean).
  GIVEN WITH THE SEED: the statements are not yours to turn. If you find one false, say at which input.
  Laid BY PROGRAM, IN A SANDBOX (cutbox-rows.mjs): the forced cells as the released guide's own fill.sh prints them over the translation 6c3eb6d0edb80e77… (all of the seat's roots in one cut). By AI agents, Wed Nov 11 2026. No macro, syntax, notation, axiom, sorry.
-/
import Derived.Test.YthljmbobccaalaaChecked
import GoSem.Claim
import GoSem.ClaimJoined
import GoSem.ClaimMapViews
import Derived.JoinedTies
import Derived.KernelRfl
namespace Go.Proofs.Ythljmbobccaalaa
/- THE CELL 'sum', in the pinned program and in every row, IS THE sha256 OF THE DUMP (.gsa) THAT YthljmbobccaalaaProg.lean LOADS. Nothing in Lean hashes anything: it is a label: what it is worth is what the hold of that sum in a sandbox is worth. -/
noncomputable def Try.pinned : Pinned := { name := "ythljmbobccaalaa", sum := "6c3eb6d0edb80e77efd7835ead367dac0c7fe919dbd1edb4bca4fab615378778", checked := Try.checked }
namespace Rows
def none {H : Type} : Left H := { results := [], args := [] }

/-- 'laws.FnExactMultiplyCyclos': WHATEVER THE INPUT: true; the input reads as it did. -/
def fnExactMultiplyCyclosSpec : ChangeSpec := { name := "fnExactMultiplyCyclos", fn := fun _ => fun
  | [d1, d2] => { results := [.lit (.bool true)], args := [d1, d2] }
  | _ => none }
def fnExactMultiplyCyclosRow : OpenClaim := { program := "ythljmbobccaalaa", sum := "6c3eb6d0edb80e77efd7835ead367dac0c7fe919dbd1edb4bca4fab615378778", func := "loop.example/g01313/laws.FnExactMultiplyCyclos", spec := "fnExactMultiplyCyclos", unfollowed := true, recurses := true, apart := false }
def FnExactMultiplyCyclosSaid : Prop := fnExactMultiplyCyclosRow.holds Try.pinned (OpenSpec.ofChange fnExactMultiplyCyclosSpec)

/-- ITS FALSE NEIGHBOUR: 'it returns false'. Refute it at one input. -/
def fnExactMultiplyCyclosWrong : ChangeSpec := { name := "fnExactMultiplyCyclos", fn := fun _ => fun
  | [d1, d2] => { results := [.lit (.bool false)], args := [d1, d2] }
  | _ => none }
def FnExactMultiplyCyclosWrongFalsely : Prop := fnExactMultiplyCyclosRow.holds Try.pinned (OpenSpec.ofChange fnExactMultiplyCyclosWrong)

/-- 'laws.FnExactPowerCyclo': WHATEVER THE INPUT: true; the input reads as it did. -/
def fnExactPowerCycloSpec : ChangeSpec := { name := "fnExactPowerCyclo", fn := fun _ => fun
  | [d1, d2] => { results := [.lit (.bool true)], args := [d1, d2] }
  | _ => none }
def fnExactPowerCycloRow : OpenClaim := { program := "ythljmbobccaalaa", sum := "6c3eb6d0edb80e77efd7835ead367dac0c7fe919dbd1edb4bca4fab615378778", func := "loop.example/g01313/laws.FnExactPowerCyclo", spec := "fnExactPowerCyclo", unfollowed := true, recurses := true, apart := false }
def FnExactPowerCycloSaid : Prop := fnExactPowerCycloRow.holds Try.pinned (OpenSpec.ofChange fnExactPowerCycloSpec)

/-- ITS FALSE NEIGHBOUR: 'it returns false'. Refute it at one input. -/
def fnExactPowerCycloWrong : ChangeSpec := { name := "fnExactPowerCyclo", fn := fun _ => fun
  | [d1, d2] => { results := [.lit (.bool false)], args := [d1, d2] }
  | _ => none }
def FnExactPowerCycloWrongFalsely : Prop := fnExactPowerCycloRow.holds Try.pinned (OpenSpec.ofChange fnExactPowerCycloWrong)

/-- 'laws.FnExactSizeOf': WHATEVER THE INPUT: true; the input reads as it did. -/
def fnExactSizeOfSpec : ChangeSpec := { name := "fnExactSizeOf", fn := fun _ => fun
  | [d] => { results := [.lit (.bool true)], args := [d] }
  | _ => none }
def fnExactSizeOfRow : OpenClaim := { program := "ythljmbobccaalaa", sum := "6c3eb6d0edb80e77efd7835ead367dac0c7fe919dbd1edb4bca4fab615378778", func := "loop.example/g01313/laws.FnExactSizeOf", spec := "fnExactSizeOf", unfollowed := true, recurses := true, apart := false }
def FnExactSizeOfSaid : Prop := fnExactSizeOfRow.holds Try.pinned (OpenSpec.ofChange fnExactSizeOfSpec)

/-- ITS FALSE NEIGHBOUR: 'it returns false'. Refute it at one input. -/
def fnExactSizeOfWrong : ChangeSpec := { name := "fnExactSizeOf", fn := fun _ => fun
  | [d] => { results := [.lit (.bool false)], args := [d] }
  | _ => none }
def FnExactSizeOfWrongFalsely : Prop := fnExactSizeOfRow.holds Try.pinned (OpenSpec.ofChange fnExactSizeOfWrong)

/-- 'laws.FnExactNormOf': WHATEVER THE INPUT: true; the input reads as it did. -/
def fnExactNormOfSpec : ChangeSpec := { name := "fnExactNormOf", fn := fun _ => fun
  | [d] => { results := [.lit (.bool true)], args := [d] }
  | _ => none }
def fnExactNormOfRow : OpenClaim := { program := "ythljmbobccaalaa", sum := "6c3eb6d0edb80e77efd7835ead367dac0c7fe919dbd1edb4bca4fab615378778", func := "loop.example/g01313/laws.FnExactNormOf", spec := "fnExactNormOf", unfollowed := true, recurses := true, apart := false }
def FnExactNormOfSaid : Prop := fnExactNormOfRow.holds Try.pinned (OpenSpec.ofChange fnExactNormOfSpec)

/-- ITS FALSE NEIGHBOUR: 'it returns false'. Refute it at one input. -/
def fnExactNormOfWrong : ChangeSpec := { name := "fnExactNormOf", fn := fun _ => fun
  | [d] => { results := [.lit (.bool false)], args := [d] }
  | _ => none }
def FnExactNormOfWrongFalsely : Prop := fnExactNormOfRow.holds Try.pinned (OpenSpec.ofChange fnExactNormOfWrong)

/-- 'laws.FnExactIsUnit': WHATEVER THE INPUT: true; the input reads as it did. -/
def fnExactIsUnitSpec : ChangeSpec := { name := "fnExactIsUnit", fn := fun _ => fun
  | [d] => { results := [.lit (.bool true)], args := [d] }
  | _ => none }
def fnExactIsUnitRow : OpenClaim := { program := "ythljmbobccaalaa", sum := "6c3eb6d0edb80e77efd7835ead367dac0c7fe919dbd1edb4bca4fab615378778", func := "loop.example/g01313/laws.FnExactIsUnit", spec := "fnExactIsUnit", unfollowed := true, recurses := true, apart := false }
def FnExactIsUnitSaid : Prop := fnExactIsUnitRow.holds Try.pinned (OpenSpec.ofChange fnExactIsUnitSpec)

/-- ITS FALSE NEIGHBOUR: 'it returns false'. Refute it at one input. -/
def fnExactIsUnitWrong : ChangeSpec := { name := "fnExactIsUnit", fn := fun _ => fun
  | [d] => { results := [.lit (.bool false)], args := [d] }
  | _ => none }
def FnExactIsUnitWrongFalsely : Prop := fnExactIsUnitRow.holds Try.pinned (OpenSpec.ofChange fnExactIsUnitWrong)

/-- 'laws.FnExactCharacteristicOf': WHATEVER THE INPUT: true; the input reads as it did. -/
def fnExactCharacteristicOfSpec : ChangeSpec := { name := "fnExactCharacteristicOf", fn := fun _ => fun
  | [d] => { results := [.lit (.bool true)], args := [d] }
  | _ => none }
def fnExactCharacteristicOfRow : OpenClaim := { program := "ythljmbobccaalaa", sum := "6c3eb6d0edb80e77efd7835ead367dac0c7fe919dbd1edb4bca4fab615378778", func := "loop.example/g01313/laws.FnExactCharacteristicOf", spec := "fnExactCharacteristicOf", unfollowed := true, recurses := true, apart := false }
def FnExactCharacteristicOfSaid : Prop := fnExactCharacteristicOfRow.holds Try.pinned (OpenSpec.ofChange fnExactCharacteristicOfSpec)

/-- ITS FALSE NEIGHBOUR: 'it returns false'. Refute it at one input. -/
def fnExactCharacteristicOfWrong : ChangeSpec := { name := "fnExactCharacteristicOf", fn := fun _ => fun
  | [d] => { results := [.lit (.bool false)], args := [d] }
  | _ => none }
def FnExactCharacteristicOfWrongFalsely : Prop := fnExactCharacteristicOfRow.holds Try.pinned (OpenSpec.ofChange fnExactCharacteristicOfWrong)

/-- 'laws.FnExactAreAssociated': WHATEVER THE INPUT: true; the input reads as it did. -/
def fnExactAreAssociatedSpec : ChangeSpec := { name := "fnExactAreAssociated", fn := fun _ => fun
  | [d1, d2] => { results := [.lit (.bool true)], args := [d1, d2] }
  | _ => none }
def fnExactAreAssociatedRow : OpenClaim := { program := "ythljmbobccaalaa", sum := "6c3eb6d0edb80e77efd7835ead367dac0c7fe919dbd1edb4bca4fab615378778", func := "loop.example/g01313/laws.FnExactAreAssociated", spec := "fnExactAreAssociated", unfollowed := true, recurses := true, apart := false }
def FnExactAreAssociatedSaid : Prop := fnExactAreAssociatedRow.holds Try.pinned (OpenSpec.ofChange fnExactAreAssociatedSpec)

/-- ITS FALSE NEIGHBOUR: 'it returns false'. Refute it at one input. -/
def fnExactAreAssociatedWrong : ChangeSpec := { name := "fnExactAreAssociated", fn := fun _ => fun
  | [d1, d2] => { results := [.lit (.bool false)], args := [d1, d2] }
  | _ => none }
def FnExactAreAssociatedWrongFalsely : Prop := fnExactAreAssociatedRow.holds Try.pinned (OpenSpec.ofChange fnExactAreAssociatedWrong)

/-- 'laws.FnExactInverseOf': WHATEVER THE INPUT: true; the input reads as it did. -/
def fnExactInverseOfSpec : ChangeSpec := { name := "fnExactInverseOf", fn := fun _ => fun
  | [d] => { results := [.lit (.bool true)], args := [d] }
  | _ => none }
def fnExactInverseOfRow : OpenClaim := { program := "ythljmbobccaalaa", sum := "6c3eb6d0edb80e77efd7835ead367dac0c7fe919dbd1edb4bca4fab615378778", func := "loop.example/g01313/laws.FnExactInverseOf", spec := "fnExactInverseOf", unfollowed := true, recurses := true, apart := false }
def FnExactInverseOfSaid : Prop := fnExactInverseOfRow.holds Try.pinned (OpenSpec.ofChange fnExactInverseOfSpec)

/-- ITS FALSE NEIGHBOUR: 'it returns false'. Refute it at one input. -/
def fnExactInverseOfWrong : ChangeSpec := { name := "fnExactInverseOf", fn := fun _ => fun
  | [d] => { results := [.lit (.bool false)], args := [d] }
  | _ => none }
def FnExactInverseOfWrongFalsely : Prop := fnExactInverseOfRow.holds Try.pinned (OpenSpec.ofChange fnExactInverseOfWrong)

/- THE SECOND FORM. 'bulk': how many values and letters a reading holds, each counted each time it is reached (what is shared counts as often as it is met; a slice's spare places count too). A statement '..UptoSaid' is the law's where the arguments, and the package variables that the reading takes, are together of bulk at most 1048576: NARROWER than '..Said'. Prove '..Said' where nothing that the law and all that it calls make is longer than what came in: it says more and counts as full. Else prove '..UptoSaid'. A law counts once. -/
mutual
def uptoBulk {H : Type} : DataW H → Nat
  | .lit (.string bytes) => bytes.length + 1
  | .lit _ => 1
  | .nil => 1
  | .ptr d => uptoBulk d + 1
  | .slice elems spare => uptoBulkAll elems + uptoBulkAll spare + 1
  | .agg parts => uptoBulkAll parts + 1
  | .iface _ d => uptoBulk d + 1
  | .map entries => uptoBulkEntries entries + 1
  | .held _ => 1
def uptoBulkAll {H : Type} : List (DataW H) → Nat
  | [] => 0
  | d :: r => uptoBulk d + uptoBulkAll r
def uptoBulkEntries {H : Type} : List (Lit × DataW H) → Nat
  | [] => 0
  | x :: r => uptoBulkEntry x + uptoBulkEntries r
def uptoBulkEntry {H : Type} : Lit × DataW H → Nat
  | (.string bytes, d) => bytes.length + uptoBulk d + 1
  | (_, d) => uptoBulk d + 1
 end
def uptoSmall : (H : Type) → List (DataW H) → Bool := fun _ ds => decide (uptoBulkAll ds ≤ 1048576)
def OpenSpec.upto (s : _root_.Go.ChangeSpec) : _root_.Go.OpenSpec := { _root_.Go.OpenSpec.ofChange s with cond := some uptoSmall }

/-- 'laws.FnExactMultiplyCyclos', WHERE WHAT IT READS IS OF BULK AT MOST 1048576: true; the input reads as it did. -/
def fnExactMultiplyCyclosUptoRow : OpenClaim := { program := "ythljmbobccaalaa", sum := "6c3eb6d0edb80e77efd7835ead367dac0c7fe919dbd1edb4bca4fab615378778", func := "loop.example/g01313/laws.FnExactMultiplyCyclos", spec := "fnExactMultiplyCyclos", unfollowed := true, recurses := true, apart := false, narrowed := true }
def FnExactMultiplyCyclosUptoSaid : Prop := fnExactMultiplyCyclosUptoRow.holds Try.pinned (OpenSpec.upto fnExactMultiplyCyclosSpec)

/-- 'laws.FnExactPowerCyclo', WHERE WHAT IT READS IS OF BULK AT MOST 1048576: true; the input reads as it did. -/
def fnExactPowerCycloUptoRow : OpenClaim := { program := "ythljmbobccaalaa", sum := "6c3eb6d0edb80e77efd7835ead367dac0c7fe919dbd1edb4bca4fab615378778", func := "loop.example/g01313/laws.FnExactPowerCyclo", spec := "fnExactPowerCyclo", unfollowed := true, recurses := true, apart := false, narrowed := true }
def FnExactPowerCycloUptoSaid : Prop := fnExactPowerCycloUptoRow.holds Try.pinned (OpenSpec.upto fnExactPowerCycloSpec)

/-- 'laws.FnExactSizeOf', WHERE WHAT IT READS IS OF BULK AT MOST 1048576: true; the input reads as it did. -/
def fnExactSizeOfUptoRow : OpenClaim := { program := "ythljmbobccaalaa", sum := "6c3eb6d0edb80e77efd7835ead367dac0c7fe919dbd1edb4bca4fab615378778", func := "loop.example/g01313/laws.FnExactSizeOf", spec := "fnExactSizeOf", unfollowed := true, recurses := true, apart := false, narrowed := true }
def FnExactSizeOfUptoSaid : Prop := fnExactSizeOfUptoRow.holds Try.pinned (OpenSpec.upto fnExactSizeOfSpec)

/-- 'laws.FnExactNormOf', WHERE WHAT IT READS IS OF BULK AT MOST 1048576: true; the input reads as it did. -/
def fnExactNormOfUptoRow : OpenClaim := { program := "ythljmbobccaalaa", sum := "6c3eb6d0edb80e77efd7835ead367dac0c7fe919dbd1edb4bca4fab615378778", func := "loop.example/g01313/laws.FnExactNormOf", spec := "fnExactNormOf", unfollowed := true, recurses := true, apart := false, narrowed := true }
def FnExactNormOfUptoSaid : Prop := fnExactNormOfUptoRow.holds Try.pinned (OpenSpec.upto fnExactNormOfSpec)

/-- 'laws.FnExactIsUnit', WHERE WHAT IT READS IS OF BULK AT MOST 1048576: true; the input reads as it did. -/
def fnExactIsUnitUptoRow : OpenClaim := { program := "ythljmbobccaalaa", sum := "6c3eb6d0edb80e77efd7835ead367dac0c7fe919dbd1edb4bca4fab615378778", func := "loop.example/g01313/laws.FnExactIsUnit", spec := "fnExactIsUnit", unfollowed := true, recurses := true, apart := false, narrowed := true }
def FnExactIsUnitUptoSaid : Prop := fnExactIsUnitUptoRow.holds Try.pinned (OpenSpec.upto fnExactIsUnitSpec)

/-- 'laws.FnExactCharacteristicOf', WHERE WHAT IT READS IS OF BULK AT MOST 1048576: true; the input reads as it did. -/
def fnExactCharacteristicOfUptoRow : OpenClaim := { program := "ythljmbobccaalaa", sum := "6c3eb6d0edb80e77efd7835ead367dac0c7fe919dbd1edb4bca4fab615378778", func := "loop.example/g01313/laws.FnExactCharacteristicOf", spec := "fnExactCharacteristicOf", unfollowed := true, recurses := true, apart := false, narrowed := true }
def FnExactCharacteristicOfUptoSaid : Prop := fnExactCharacteristicOfUptoRow.holds Try.pinned (OpenSpec.upto fnExactCharacteristicOfSpec)

/-- 'laws.FnExactAreAssociated', WHERE WHAT IT READS IS OF BULK AT MOST 1048576: true; the input reads as it did. -/
def fnExactAreAssociatedUptoRow : OpenClaim := { program := "ythljmbobccaalaa", sum := "6c3eb6d0edb80e77efd7835ead367dac0c7fe919dbd1edb4bca4fab615378778", func := "loop.example/g01313/laws.FnExactAreAssociated", spec := "fnExactAreAssociated", unfollowed := true, recurses := true, apart := false, narrowed := true }
def FnExactAreAssociatedUptoSaid : Prop := fnExactAreAssociatedUptoRow.holds Try.pinned (OpenSpec.upto fnExactAreAssociatedSpec)

/-- 'laws.FnExactInverseOf', WHERE WHAT IT READS IS OF BULK AT MOST 1048576: true; the input reads as it did. -/
def fnExactInverseOfUptoRow : OpenClaim := { program := "ythljmbobccaalaa", sum := "6c3eb6d0edb80e77efd7835ead367dac0c7fe919dbd1edb4bca4fab615378778", func := "loop.example/g01313/laws.FnExactInverseOf", spec := "fnExactInverseOf", unfollowed := true, recurses := true, apart := false, narrowed := true }
def FnExactInverseOfUptoSaid : Prop := fnExactInverseOfUptoRow.holds Try.pinned (OpenSpec.upto fnExactInverseOfSpec)

end Rows
end Go.Proofs.Ythljmbobccaalaa
