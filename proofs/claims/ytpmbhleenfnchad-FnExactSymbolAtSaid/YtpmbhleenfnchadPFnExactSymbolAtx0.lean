/- The functions that the law reaches, as plain functions, each with the proof that the program comes to it; no condition. Written by a program of this session (wip/mp.py) over the printing of the kit; what is marked HAND is told by hand. -/
import Derived.Test.YtpmbhleenfnchadProg
import Derived.Below
import Derived.Deep.Draws
import Derived.Deep.AppendLies
import Derived.Maps.AppendAt
import Derived.OwnWalk
import Derived.Laws.BytesArg
import Derived.Laws.MakeOwn
import Derived.Laws.OwnMore
import Derived.Deep.OwnRows
import Derived.Tactics
import Derived.Lib.ConvBytes
import Derived.Laws.Slices
import Derived.WalkKit
import Derived.KernelRfl
import Derived.RowKit3
import Derived.Deep.LoopGhost
import Derived.Deep.QuietTactic
import Derived.BigQuiet
import Derived.WideLaws
import Derived.Deep.DeepCutAuto
import Derived.Deep.CutBlock
import Derived.Deep.RegionHeld3
import Derived.Laws.Rows
import Derived.Lib.AppendStr
import Derived.ArgAppend
import Derived.Laws.IdiomCopy
import Derived.OrdersHeld
import Derived.Laws.BitsLemmas
import Derived.RowKit
import Derived.WalkSpells
import Derived.Test.YtpmbhleenfnchadWWords
import Derived.Test.YtpmbhleenfnchadWLast
import Derived.Test.YtpmbhleenfnchadWTab
import Derived.Test.YtpmbhleenfnchadWFour
import Derived.Test.YtpmbhleenfnchadWQPut
import Derived.Test.YtpmbhleenfnchadWApart
import Derived.Test.YtpmbhleenfnchadWArr
import Derived.Test.YtpmbhleenfnchadWZeros
import Derived.Test.YtpmbhleenfnchadWFoot
import Derived.Test.YtpmbhleenfnchadWKept
import Derived.Test.YtpmbhleenfnchadWShare
import Derived.Test.YtpmbhleenfnchadWN
import Derived.Test.YtpmbhleenfnchadWFootNe
import Derived.Test.YtpmbhleenfnchadWAt
import Derived.Test.YtpmbhleenfnchadWEqStruct
import Derived.Test.YtpmbhleenfnchadWRepsOne
import Derived.Test.YtpmbhleenfnchadWInv
import Derived.Test.YtpmbhleenfnchadWInvWords
import Derived.Test.YtpmbhleenfnchadWGuard
import Derived.Test.YtpmbhleenfnchadWNEv
import Derived.Test.YtpmbhleenfnchadWMore
namespace Go.Proofs.Ytpmbhleenfnchad.PFnExactSymbolAt
open Go.RowKit Go.Proofs.YtpmbhleenfnchadW.PrintWords Go.Proofs.YtpmbhleenfnchadW.PrintLast Go.Proofs.YtpmbhleenfnchadW.PrintMore
attribute [local go_sem] max2_int min2_int max_two min_two max_three min_three max_four min_four   -- for this text's walks alone
set_option linter.unusedVariables false
set_option linter.unusedSimpArgs false



def errW : Option Int → Value
  | none => .nilIface
  | some c => .iface 0 (.int .i64 c)
theorem errW_none : errW none = .nilIface := rfl
theorem errW_some (c : Int) : errW (some c) = .iface 0 (.int .i64 c) := rfl

theorem info2 : (Try.prog.info? 2).map (fun i => (i.zero, i.size, i.bytes)) = some (some (.int .i64 0), 1, 8) := by kernel_rfl

theorem hand_V_orR {α : Type} {d : Kd α} {e : Nat} {w : World} {base : Nat} {P Q S : Nat → Prop} {v : Value} {xs : List α} (h : Kd.R d e w base (fun k => Q k ∧ S k) v xs) : Kd.V d e w base (fun k => (P k ∨ Q k) ∧ S k) v xs :=
  Kd.V_mono (Kd.R_V h) (fun _ hk => ⟨.inr hk.1, hk.2⟩)
theorem hand_V_blk {e base n c g : Nat} {ok : Nat → Prop} {W : World} {ad : Addr} {xs : List Int} {ik : IntKind} (h : Kd.V (Kd.int ik) e W base ok (.slice (some ad) n c) xs) (hn : decide (0 < (xs.length : Int)) = true) (hok : ∀ k, ok k → k ≠ g) : ad.block ≠ g := by
  intro hg
  have hn' : 0 < xs.length := by simpa using hn
  obtain ⟨a1, h1, c1⟩ := Kd.at_int (Kd.V_reads' h).2.2 0 (by omega) (by omega)
  cases h1
  have hv := Kd.V_far (p := ad.add 0) h (fun k hk => by rw [add_block, hg]; exact hok k hk) (.bool true)
  obtain ⟨a2, h2, c2⟩ := Kd.at_int (Kd.V_reads' hv).2.2 0 (by omega) (by omega)
  cases h2
  have c3 : (W.setCell (ad.add 0) (.bool true)).cell? (ad.add (Int.toNat 0)) = some (.bool true) := World.cell?_setCell_same' W (ad.add 0) (.bool true) (by rw [show W.cell? (ad.add 0) = _ from c1]; rfl)
  rw [c3] at c2
  cases c2

-- the values' own types

end Go.Proofs.Ytpmbhleenfnchad.PFnExactSymbolAt
