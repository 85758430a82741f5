/- The functions that the law reaches, as plain functions, each with the proof that the program comes to it; no condition. Written by a program of this session (wip/mp.py) over the printing of the kit; what is marked HAND is told by hand. -/
import Derived.Test.YtefhabkikaadiaaKFnExactCycloAtResidues
import Derived.Test.YtefhabkikaadiaaProg
import Derived.Below
import Derived.Deep.Draws
import Derived.Deep.AppendLies
import Derived.Maps.AppendAt
import Derived.OwnWalk
import Derived.Laws.BytesArg
import Derived.Laws.MakeOwn
import Derived.Laws.OwnMore
import Derived.Deep.OwnRows
import Derived.Tactics
import Derived.Lib.ConvBytes
import Derived.Laws.Slices
import Derived.WalkKit
import Derived.KernelRfl
import Derived.RowKit3
import Derived.Deep.LoopGhost
import Derived.Deep.QuietTactic
import Derived.BigQuiet
import Derived.WideLaws
import Derived.Deep.DeepCutAuto
import Derived.Deep.CutBlock
import Derived.Deep.RegionHeld3
import Derived.Laws.Rows
import Derived.Lib.AppendStr
import Derived.ArgAppend
import Derived.Laws.IdiomCopy
import Derived.OrdersHeld
import Derived.Laws.BitsLemmas
import Derived.RowKit
import Derived.WalkSpells
import Derived.Laws.CopyOwn
namespace Go.Proofs.Ytefhabkikaadiaa.PFnExactCycloAtResidues
open Go.RowKit Go.Proofs.YtefhabkikaadiaaW.PrintWords Go.Proofs.YtefhabkikaadiaaW.PrintLast Go.Proofs.YtefhabkikaadiaaW.PrintMore
attribute [local go_sem] max2_int min2_int max_two min_two max_three min_three max_four min_four   -- for this text's walks alone
set_option linter.unusedVariables false
set_option linter.unusedSimpArgs false



def errW:Option Int→Value
  |none=>.nilIface
  |some c=>.iface 0 (.int .i64 c)
theorem errW_none:errW none=.nilIface:=rfl
theorem errW_some (c:Int):errW (some c)=.iface 0 (.int .i64 c):=rfl

theorem info2:(Try.prog.info? 2).map (fun i=>(i.zero,i.size,i.bytes))=some (some (.int .i64 0),1,8):=by kernel_rfl

theorem hro_cell {w w1:World} {g:Nat} {a:Addr} {v:Value} (hg:w.grownBy w1 (some g)) (h:w.cell? a=some v) (hne:a.block≠g):w1.cell? a=some v:=
  (World.cell?_of_block (hg.block _ (World.block_lt_of_cell? w a h) (fun e=>hne (by injection e)))).trans h
theorem hand_drewN_set (w:World) (n:Nat) (p:Addr) (v:Value):(w.drewN n).setCell p v=(w.setCell p v).drewN n:=rfl
theorem hand_drew_set (w:World) (p:Addr) (v:Value):w.drew.setCell p v=(w.setCell p v).drew:=rfl
theorem hand_V_orR {α:Type} {d:Kd α} {e:Nat} {w:World} {base:Nat} {P Q S:Nat→Prop} {v:Value} {xs:List α} (h:Kd.R d e w base (fun k=>Q k∧S k) v xs):Kd.V d e w base (fun k=>(P k∨Q k)∧S k) v xs:=
  Kd.V_mono (Kd.R_V h) (fun _ hk=>⟨.inr hk.1,hk.2⟩)
theorem hand_V_blk {e base n c g:Nat} {ok:Nat→Prop} {W:World} {ad:Addr} {xs:List Int} {ik:IntKind} (h:Kd.V (Kd.int ik) e W base ok (.slice (some ad) n c) xs) (hn:decide (0<(xs.length:Int))=true) (hok:∀k,ok k→k≠g):ad.block≠g:=by
  intro hg;have hn':0<xs.length:=by simpa using hn
  obtain⟨a1,h1,c1⟩:=Kd.at_int (Kd.V_reads' h).2.2 0 (by omega) (by omega);cases h1
  have hv:=Kd.V_far (p:=ad.add 0) h (fun k hk=>by rw [add_block,hg];exact hok k hk) (.bool true);obtain⟨a2,h2,c2⟩:=Kd.at_int (Kd.V_reads' hv).2.2 0 (by omega) (by omega);cases h2
  have c3:(W.setCell (ad.add 0) (.bool true)).cell? (ad.add (Int.toNat 0))=some (.bool true):=World.cell?_setCell_same' W (ad.add 0) (.bool true) (by rw [show W.cell? (ad.add 0)=_ from c1];rfl);rw [c3] at c2;cases c2

-- the values' own types

theorem qSa {α:Type _} {l:List α} {i:Nat} {a:α}:l.toArray.setIfInBounds i a=(l.set i a).toArray:=List.setIfInBounds_toArray ..
theorem qSb {α:Type _} {x:α} {l:List α} {a:α}:(x::l).set 0 a=a::l:=List.set_cons_zero
theorem qSc {α:Type _} {x:α} {l:List α} {n:Nat} {a:α}:(x::l).set (n+1) a=x::l.set n a:=List.set_cons_succ
theorem qAm {p:Prop} (h:p):Aside0 p:=⟨h⟩
theorem qOb {α β:Type _} {b:β} {o:Option α} {f:α→Option β} (h:o.bind f=some b):∃a,o=some a∧f a=some b:=Option.bind_eq_some_iff.mp h
theorem qB52 {p:Prop} (h:p:=by first|rfl|(simp;done)|(simp [*];done)):p:=h
theorem qB51 {p:Prop} (h:p:=by first|(with_reducible assumption)|assumption):p:=h
theorem qB50 {p:Prop} (h:p:=by have h_:=Kd.R_ne HO_17.out BK254.out (by decide);intro e_;exact h_ (by rw [e_];rfl)):p:=h
theorem qB49 {p:Prop} (h:p:=by have h_:=Kd.R_ne HO_16.out BK175.out (by decide);intro e_;exact h_ (by rw [e_];rfl)):p:=h
theorem qB48 {p:Prop} (h:p:=by have h_:=Kd.R_ne HO_16.out BK163.out (by decide);intro e_;exact h_ (by rw [e_];rfl)):p:=h
theorem qB47 {p:Prop} (h:p:=by have h_:=Kd.R_away HO_17.out (fun _ hk=>hk.2.2.2);intro e_;exact h_ (by rw [e_];rfl)):p:=h
theorem qB46 {p:Prop} (h:p:=by (with_reducible repeat(first|apply Kd.R_alloc|apply Kd.R_drewN|apply Kd.R_drew));exact HO_8.out):p:=h
theorem qB45 {p:Prop} (h:p:=by (with_reducible repeat(first|apply Kd.R_alloc|apply Kd.R_drewN|apply Kd.R_drew));exact HO_9.out):p:=h
theorem qB44 {p:Prop} (h:p:=by (with_reducible repeat(first|apply Kd.R_alloc|apply Kd.R_drewN|apply Kd.R_drew));exact HO_6.out):p:=h
theorem qB43 {p:Prop} (h:p:=by (with_reducible repeat(first|apply Kd.R_alloc|apply Kd.R_drewN|apply Kd.R_drew));exact HO_3.out):p:=h
theorem qB42 {p:Prop} (h:p:=by (with_reducible repeat(first|apply Kd.R_alloc|apply Kd.R_drewN|apply Kd.R_drew));exact HO315.out):p:=h
theorem qB41 {p:Prop} (h:p:=by (with_reducible repeat(first|apply Kd.R_alloc|apply Kd.R_drewN|apply Kd.R_drew));exact HO295.out):p:=h
theorem qB40 {p:Prop} (h:p:=by (with_reducible repeat(first|apply Kd.R_alloc|apply Kd.R_drewN|apply Kd.R_drew));exact HO290.out):p:=h
theorem qB39 {p:Prop} (h:p:=by (with_reducible repeat(first|apply Kd.R_alloc|apply Kd.R_drewN|apply Kd.R_drew));exact HO286.out):p:=h
theorem qB38 {p:Prop} (h:p:=by (with_reducible repeat(first|apply Kd.R_alloc|apply Kd.R_drewN|apply Kd.R_drew));exact HO_10.out):p:=h
theorem qB37 {p:Prop} (h:p:=by (with_reducible repeat(first|apply Kd.R_alloc|apply Kd.R_drewN|apply Kd.R_drew));exact HO244.out):p:=h
theorem qB36 {p:Prop} (h:p:=by (with_reducible repeat(first|apply Kd.R_alloc|apply Kd.R_drewN|apply Kd.R_drew));exact HO235.out):p:=h
theorem qB35 {p:Prop} (h:p:=by (with_reducible repeat(first|apply Kd.R_alloc|apply Kd.R_drewN|apply Kd.R_drew));exact HO218.out):p:=h
theorem qB34 {p:Prop} (h:p:=by (with_reducible repeat(first|apply Kd.R_alloc|apply Kd.R_drewN|apply Kd.R_drew));exact HO_13.out):p:=h
theorem qB33 {p:Prop} (h:p:=by (with_reducible repeat(first|apply Kd.R_alloc|apply Kd.R_drewN|apply Kd.R_drew));exact HO148.out):p:=h
theorem qB32 {p:Prop} (h:p:=by (with_reducible repeat(first|apply Kd.R_alloc|apply Kd.R_drewN|apply Kd.R_drew));exact HO142.out):p:=h
theorem qB31 {p:Prop} (h:p:=by (with_reducible repeat(first|apply Kd.R_alloc|apply Kd.R_drewN|apply Kd.R_drew));exact HO125.out):p:=h
theorem qB30 {p:Prop} (h:p:=by (with_reducible repeat(first|apply Kd.R_alloc|apply Kd.R_drewN|apply Kd.R_drew));exact HO_302001.out):p:=h
theorem qB29 {p:Prop} (h:p:=by (with_reducible repeat(first|apply Kd.R_alloc|apply Kd.R_drewN|apply Kd.R_drew));exact HO_293001.out):p:=h
theorem qB28 {p:Prop} (h:p:=by (with_reducible repeat(first|apply Kd.R_alloc|apply Kd.R_drewN|apply Kd.R_drew));exact HO_176001.out):p:=h
theorem qB27 {p:Prop} (h:p:=by (with_reducible repeat(first|refine blk_drewN ?_ _|refine blk_drew ?_|refine blk_alloc ?_ _));exact BK301.out):p:=h
theorem qB26 {p:Prop} (h:p:=by (with_reducible repeat(first|refine blk_drewN ?_ _|refine blk_drew ?_|refine blk_alloc ?_ _));exact BK292.out):p:=h
theorem qB25 {p:Prop} (h:p:=by (with_reducible repeat(first|refine blk_drewN ?_ _|refine blk_drew ?_|refine blk_alloc ?_ _));exact BK254.out):p:=h
theorem qB24 {p:Prop} (h:p:=by (with_reducible repeat(first|refine blk_drewN ?_ _|refine blk_drew ?_|refine blk_alloc ?_ _));exact BK253.out):p:=h
theorem qB23 {p:Prop} (h:p:=by (with_reducible repeat(first|refine blk_drewN ?_ _|refine blk_drew ?_|refine blk_alloc ?_ _));exact BK175.out):p:=h
theorem qB22 {p:Prop} (h:p:=by (with_reducible repeat(first|refine blk_drewN ?_ _|refine blk_drew ?_|refine blk_alloc ?_ _));exact BK163.out):p:=h
theorem qB21 {p:Prop} (h:p:=by (with_reducible repeat(first|refine blk_drewN ?_ _|refine blk_drew ?_|refine blk_alloc ?_ _));exact BK157.out):p:=h
theorem qB20 {p:Prop} (h:p:=by (with_reducible repeat(first|refine blk_drewN ?_ _|refine blk_drew ?_|refine blk_alloc ?_ _));exact BK103.out):p:=h
theorem qB19 {p:Prop} (h:p:=by repeat(first|(with_reducible first|exact HK.out|apply Kept.alloc|apply Kept.drewN|apply Kept.drew)|exact HK.out)):p:=h
theorem qB18 {p:Prop} (h:p:=by repeat(first|(with_reducible first|exact HB.out|apply below_alloc|apply pw_below_drewN|apply below_drew1)|exact HB.out)):p:=h
theorem qB17 {p:Prop} (h:p:=by (try simp only [List.map_toArray,List.map_cons,List.map_nil]);first|done|rfl|(simp only [List.length_drop,List.length_take];rfl)):p:=h
theorem qB16 {p:Prop} (h:p:=by repeat(first|(with_reducible first|exact HB.out|apply below_alloc|apply pw_below_drewN|apply below_drew1|refine below_set ?_ GE292.out)|exact HB.out)):p:=h
theorem qB15 {p:Prop} (h:p:=by repeat(first|(with_reducible first|exact HB.out|apply below_alloc|apply pw_below_drewN|apply below_drew1|refine below_set ?_ GE253.out)|exact HB.out)):p:=h
theorem qB14 {p:Prop} (h:p:=by repeat(first|(with_reducible first|exact HB.out|apply below_alloc|apply pw_below_drewN|apply below_drew1|refine below_set ?_ GE163.out)|exact HB.out)):p:=h
theorem qB13 {p:Prop} (h:p:=by repeat(first|(with_reducible first|exact HB.out|apply below_alloc|apply pw_below_drewN|apply below_drew1|refine below_set ?_ GE157.out)|exact HB.out)):p:=h
theorem qB12 {p:Prop} (h:p:=by repeat(first|(with_reducible first|exact HB.out|apply below_alloc|apply pw_below_drewN|apply below_drew1|refine below_set ?_ GE103.out)|exact HB.out)):p:=h
theorem qB11 {p:Prop} (h:p:=by repeat(first|(with_reducible first|exact HB.out|apply below_alloc|apply pw_below_drewN|apply below_drew1|refine below_set ?_ GE292.out|refine below_set ?_ GE301.out)|exact HB.out)):p:=h
theorem qB10 {p:Prop} (h:p:=by repeat(first|(with_reducible first|exact HB.out|apply below_alloc|apply pw_below_drewN|apply below_drew1|refine below_set ?_ GE253.out|refine below_set ?_ GE254.out)|exact HB.out)):p:=h
theorem qB9 {p:Prop} (h:p:=by repeat(first|(with_reducible first|exact HB.out|apply below_alloc|apply pw_below_drewN|apply below_drew1|refine below_set ?_ GE163.out|refine below_set ?_ GE175.out)|exact HB.out)):p:=h
theorem qB8 {p:Prop} (h:p:=by repeat(first|(with_reducible first|exact HB.out|apply below_alloc|apply pw_below_drewN|apply below_drew1|refine below_set ?_ GE292.out|refine below_set ?_ GE301.out|refine below_set ?_ GE321.out)|exact HB.out)):p:=h
theorem qB7 {p:Prop} (h:p:=by (with_reducible repeat(first|apply Kd.R_alloc|apply Kd.R_drewN|apply Kd.R_drew));exact(Kd.R_mono (Kd.R_far (p:=⟨gb321,1,none⟩) (Kd.R_far (p:=⟨gb321,0,none⟩) (Kd.R_types HO319.out BK321.out (by decide)) (fun _ hk=>hk.2) (.int .i64 t316)) (fun _ hk=>hk.2) (.slice Ao78 t317.length co78)) (fun _ h_=>h_.1))):p:=h
theorem qB6 {p:Prop} (h:p:=by (with_reducible repeat(first|apply Kd.R_alloc|apply Kd.R_drewN|apply Kd.R_drew));exact(Kd.R_mono (Kd.R_far (p:=⟨gb301,1,none⟩) (Kd.R_far (p:=⟨gb301,0,none⟩) (Kd.R_types HO290.out BK301.out (by decide)) (fun _ hk=>hk.2) (.int .i64 t296)) (fun _ hk=>hk.2) (.slice Ao22 t297.length co22)) (fun _ h_=>h_.1))):p:=h
theorem qB5 {p:Prop} (h:p:=by (with_reducible repeat(first|apply Kd.R_alloc|apply Kd.R_drewN|apply Kd.R_drew));exact(Kd.R_mono (Kd.R_far (p:=⟨gb301,1,none⟩) (Kd.R_far (p:=⟨gb301,0,none⟩) (Kd.R_types HO299.out BK301.out (by decide)) (fun _ hk=>hk.2) (.int .i64 t296)) (fun _ hk=>hk.2) (.slice Ao22 t297.length co22)) (fun _ h_=>h_.1))):p:=h
theorem qB4 {p:Prop} (h:p:=by (with_reducible repeat(first|apply Kd.R_alloc|apply Kd.R_drewN|apply Kd.R_drew));exact(Kd.R_mono (Kd.R_far (p:=⟨gb292,1,none⟩) (Kd.R_far (p:=⟨gb292,0,none⟩) (Kd.R_types HO290.out BK292.out (by decide)) (fun _ hk=>hk.2) (.int .i64 t287)) (fun _ hk=>hk.2) (.slice Ao15 t288.length co15)) (fun _ h_=>h_.1))):p:=h
theorem qB3 {p:Prop} (h:p:=by (with_reducible repeat(first|apply Kd.R_alloc|apply Kd.R_drewN|apply Kd.R_drew));exact(Kd.R_mono (Kd.R_far (p:=⟨gb292,1,none⟩) (Kd.R_far (p:=⟨gb292,0,none⟩) (Kd.R_types HO286.out BK292.out (by decide)) (fun _ hk=>hk.2) (.int .i64 t287)) (fun _ hk=>hk.2) (.slice Ao15 t288.length co15)) (fun _ h_=>h_.1))):p:=h
theorem qB2 {p:Prop} (h:p:=by (with_reducible repeat(first|apply Kd.R_alloc|apply Kd.R_drewN|apply Kd.R_drew));exact(Kd.R_mono (Kd.R_far (p:=⟨gb321,1,none⟩) (Kd.R_far (p:=⟨gb321,0,none⟩) (Kd.R_types HO_293001.out BK321.out (by decide)) (fun _ hk=>hk.2) (.int .i64 t316)) (fun _ hk=>hk.2) (.slice Ao78 t317.length co78)) (fun _ h_=>h_.1))):p:=h
theorem qB1 {p:Prop} (h:p:=by (with_reducible repeat(first|refine blk_drewN ?_ _|refine blk_drew ?_|refine blk_alloc ?_ _));refine blk_put (cs:=#[.int .i64 0,.slice none 0 0]) ?_ 1 _ rfl;(with_reducible repeat(first|refine blk_drewN ?_ _|refine blk_drew ?_|refine blk_alloc ?_ _));refine blk_put (cs:=#[.int .i64 0,.slice none 0 0]) ?_ 0 _ rfl;(with_reducible repeat(first|refine blk_drewN ?_ _|refine blk_drew ?_|refine blk_alloc ?_ _));exact BK163.out):p:=h
end Go.Proofs.Ytefhabkikaadiaa.PFnExactCycloAtResidues
