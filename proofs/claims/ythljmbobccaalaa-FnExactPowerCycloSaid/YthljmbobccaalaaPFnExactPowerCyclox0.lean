/- The functions that the law reaches, as plain functions, each with the proof that the program comes to it; no condition. Written by a program of this session (wip/mp.py) over the printing of the kit; what is marked HAND is told by hand. -/
import Derived.Test.YthljmbobccaalaaKFnExactPowerCyclo
import Derived.Test.YthljmbobccaalaaProg
import Derived.Below
import Derived.Deep.Draws
import Derived.Deep.AppendLies
import Derived.Maps.AppendAt
import Derived.OwnWalk
import Derived.Laws.BytesArg
import Derived.Laws.MakeOwn
import Derived.Laws.OwnMore
import Derived.Deep.OwnRows
import Derived.Tactics
import Derived.Lib.ConvBytes
import Derived.Laws.Slices
import Derived.WalkKit
import Derived.KernelRfl
import Derived.RowKit3
import Derived.Deep.LoopGhost
import Derived.Deep.QuietTactic
import Derived.BigQuiet
import Derived.WideLaws
import Derived.Deep.DeepCutAuto
import Derived.Deep.CutBlock
import Derived.Deep.RegionHeld3
import Derived.Laws.Rows
import Derived.Lib.AppendStr
import Derived.ArgAppend
import Derived.Laws.IdiomCopy
import Derived.OrdersHeld
import Derived.Laws.BitsLemmas
import Derived.RowKit
import Derived.WalkSpells
import Derived.Laws.CopyOwn
namespace Go.Proofs.Ythljmbobccaalaa.PFnExactPowerCyclo
open Go.RowKit Go.Proofs.YthljmbobccaalaaW.PrintWords Go.Proofs.YthljmbobccaalaaW.PrintLast Go.Proofs.YthljmbobccaalaaW.PrintMore
attribute [local go_sem] max2_int min2_int max_two min_two max_three min_three max_four min_four   -- for this text's walks alone
set_option linter.unusedVariables false
set_option linter.unusedSimpArgs false



def errW:Option Int→Value
 |none=>.nilIface
 |some c=>.iface 0 (.int .i64 c)
theorem errW_none:errW none=.nilIface:=rfl
theorem errW_some (c:Int):errW (some c)=.iface 0 (.int .i64 c):=rfl

theorem info2:(Try.prog.info? 2).map (fun i=>(i.zero,i.size,i.bytes))=some (some (.int .i64 0),1,8):=by kernel_rfl
theorem info22:(Try.prog.info? 22).map (fun i=>(i.zero,i.size,i.bytes))=some (some (.slice none 0 0),1,24):=by kernel_rfl

theorem hro_cell {w w1:World} {g:Nat} {a:Addr} {v:Value} (hg:w.grownBy w1 (some g)) (h:w.cell? a=some v) (hne:a.block≠g):w1.cell? a=some v:=
 (World.cell?_of_block (hg.block _ (World.block_lt_of_cell? w a h) (fun e=>hne (by injection e)))).trans h
theorem hand_drewN_set (w:World) (n:Nat) (p:Addr) (v:Value):(w.drewN n).setCell p v=(w.setCell p v).drewN n:=rfl
theorem hand_drew_set (w:World) (p:Addr) (v:Value):w.drew.setCell p v=(w.setCell p v).drew:=rfl
theorem hand_V_orR {α:Type} {d:Kd α} {e:Nat} {w:World} {base:Nat} {P Q S:Nat→Prop} {v:Value} {xs:List α} (h:Kd.R d e w base (fun k=>Q k∧S k) v xs):Kd.V d e w base (fun k=>(P k∨Q k)∧S k) v xs:=
 Kd.V_mono (Kd.R_V h) (fun _ hk=>⟨.inr hk.1,hk.2⟩)
theorem hand_V_blk {e base n c g:Nat} {ok:Nat→Prop} {W:World} {ad:Addr} {xs:List Int} {ik:IntKind} (h:Kd.V (Kd.int ik) e W base ok (.slice (some ad) n c) xs) (hn:decide (0<(xs.length:Int))=true) (hok:∀k,ok k→k≠g):ad.block≠g:=by
 intro hg;have hn':0<xs.length:=by simpa using hn
 obtain⟨a1,h1,c1⟩:=Kd.at_int (Kd.V_reads' h).2.2 0 (by omega) (by omega);cases h1
 have hv:=Kd.V_far (p:=ad.add 0) h (fun k hk=>by rw [add_block,hg];exact hok k hk) (.bool true);obtain⟨a2,h2,c2⟩:=Kd.at_int (Kd.V_reads' hv).2.2 0 (by omega) (by omega);cases h2
 have c3:(W.setCell (ad.add 0) (.bool true)).cell? (ad.add (Int.toNat 0))=some (.bool true):=World.cell?_setCell_same' W (ad.add 0) (.bool true) (by rw [show W.cell? (ad.add 0)=_ from c1];rfl);rw [c3] at c2;cases c2

-- the values' own types
def rd_L1 (xs:List (List Int)) (i:Int):(List Int):=xs.getD i.toNat ([]:List Int)
theorem at_L1 {w:World} {A:Option Addr} {n:Nat} {xs:List (List Int)} (h:Kd.C (Kd.slice 2 (Kd.int .i64)) w A n xs) (i:Int) (h0:0≤i) (h1:i<n):∃ad A0 c0,A=some ad∧w.cell? (ad.add i.toNat)=some (.slice A0 (rd_L1 xs i).length c0)∧(rd_L1 xs i).length≤c0∧(Kd.int .i64).C w A0 (rd_L1 xs i).length (rd_L1 xs i):=by
 obtain⟨ad,c,e,_,hK,hc0⟩:=Kd.C_get h ([]:List Int) i h0 h1;have hc:∀j u,c[j]? =some u→w.cell? (ad.add (i.toNat*1+j))=some u:=hc0;obtain⟨A0,c0,rfl,l0,g0⟩:=hK;exact⟨ad,A0,c0,e,by have hq:=hc 0 _ rfl;rwa [Nat.mul_one,Nat.add_zero] at hq,l0,g0⟩

theorem qSa {α:Type _} {l:List α} {i:Nat} {a:α}:l.toArray.setIfInBounds i a=(l.set i a).toArray:=List.setIfInBounds_toArray ..
theorem qSb {α:Type _} {x:α} {l:List α} {a:α}:(x::l).set 0 a=a::l:=List.set_cons_zero
theorem qSc {α:Type _} {x:α} {l:List α} {n:Nat} {a:α}:(x::l).set (n+1) a=x::l.set n a:=List.set_cons_succ
theorem qAm {p:Prop} (h:p):Aside0 p:=⟨h⟩
theorem qOb {α β:Type _} {b:β} {o:Option α} {f:α→Option β} (h:o.bind f=some b):∃a,o=some a∧f a=some b:=Option.bind_eq_some_iff.mp h
theorem qB119 {p:Prop} (h:p:=by first|rfl|(simp;done)|(simp [*];done)):p:=h
theorem qB118 {p:Prop} (h:p:=by first|(with_reducible assumption)|assumption):p:=h
theorem qB117 {p:Prop} (h:p:=by (try simp only [List.map_toArray,List.map_cons,List.map_nil]);first|done|rfl):p:=h
theorem qB116 {p:Prop} (h:p:=by (with_reducible repeat(first|apply Kd.R_alloc|apply Kd.R_drewN|apply Kd.R_drew));exact HO1.out):p:=h
theorem qB115 {p:Prop} (h:p:=by (with_reducible repeat(first|apply Kd.N_alloc|apply Kd.N_drewN|apply Kd.N_drew));exact HO_6.out):p:=h
theorem qB114 {p:Prop} (h:p:=by (with_reducible repeat(first|apply Kd.R_alloc|apply Kd.R_drewN|apply Kd.R_drew));exact HO_7.out):p:=h
theorem qB113 {p:Prop} (h:p:=by (with_reducible repeat(first|apply Kd.R_alloc|apply Kd.R_drewN|apply Kd.R_drew));exact HO_6.out):p:=h
theorem qB112 {p:Prop} (h:p:=by (with_reducible repeat(first|apply Kd.R_alloc|apply Kd.R_drewN|apply Kd.R_drew));exact HO_5.out):p:=h
theorem qB111 {p:Prop} (h:p:=by (with_reducible repeat(first|apply Kd.R_alloc|apply Kd.R_drewN|apply Kd.R_drew));exact HO_3.out):p:=h
theorem qB110 {p:Prop} (h:p:=by (with_reducible repeat(first|apply Kd.R_alloc|apply Kd.R_drewN|apply Kd.R_drew));exact HO381.out):p:=h
theorem qB109 {p:Prop} (h:p:=by (with_reducible repeat(first|apply Kd.R_alloc|apply Kd.R_drewN|apply Kd.R_drew));exact HO370.out):p:=h
theorem qB108 {p:Prop} (h:p:=by (with_reducible repeat(first|apply Kd.R_alloc|apply Kd.R_drewN|apply Kd.R_drew));exact HO358.out):p:=h
theorem qB107 {p:Prop} (h:p:=by (with_reducible repeat(first|apply Kd.R_alloc|apply Kd.R_drewN|apply Kd.R_drew));exact HO352.out):p:=h
theorem qB106 {p:Prop} (h:p:=by (with_reducible repeat(first|apply Kd.R_alloc|apply Kd.R_drewN|apply Kd.R_drew));exact HO348.out):p:=h
theorem qB105 {p:Prop} (h:p:=by (with_reducible repeat(first|apply Kd.R_alloc|apply Kd.R_drewN|apply Kd.R_drew));exact HO296.out):p:=h
theorem qB104 {p:Prop} (h:p:=by (with_reducible repeat(first|apply Kd.R_alloc|apply Kd.R_drewN|apply Kd.R_drew));exact HO293.out):p:=h
theorem qB103 {p:Prop} (h:p:=by (with_reducible repeat(first|apply Kd.R_alloc|apply Kd.R_drewN|apply Kd.R_drew));exact HO287.out):p:=h
theorem qB102 {p:Prop} (h:p:=by (with_reducible repeat(first|apply Kd.R_alloc|apply Kd.R_drewN|apply Kd.R_drew));exact HO270.out):p:=h
theorem qB101 {p:Prop} (h:p:=by (with_reducible repeat(first|apply Kd.R_alloc|apply Kd.R_drewN|apply Kd.R_drew));exact HO240.out):p:=h
theorem qB100 {p:Prop} (h:p:=by (with_reducible repeat(first|apply Kd.R_alloc|apply Kd.R_drewN|apply Kd.R_drew));exact HO219.out):p:=h
theorem qB99 {p:Prop} (h:p:=by (with_reducible repeat(first|apply Kd.R_alloc|apply Kd.R_drewN|apply Kd.R_drew));exact HO215.out):p:=h
theorem qB98 {p:Prop} (h:p:=by (with_reducible repeat(first|apply Kd.R_alloc|apply Kd.R_drewN|apply Kd.R_drew));exact HO200.out):p:=h
theorem qB97 {p:Prop} (h:p:=by (with_reducible repeat(first|apply Kd.R_alloc|apply Kd.R_drewN|apply Kd.R_drew));exact HO164.out):p:=h
theorem qB96 {p:Prop} (h:p:=by (with_reducible repeat(first|apply Kd.R_alloc|apply Kd.R_drewN|apply Kd.R_drew));exact HO157.out):p:=h
theorem qB95 {p:Prop} (h:p:=by (with_reducible repeat(first|apply Kd.R_alloc|apply Kd.R_drewN|apply Kd.R_drew));exact HO140.out):p:=h
theorem qB94 {p:Prop} (h:p:=by (with_reducible repeat(first|apply Kd.R_alloc|apply Kd.R_drewN|apply Kd.R_drew));exact HO_366001.out):p:=h
theorem qB93 {p:Prop} (h:p:=by (with_reducible repeat(first|apply Kd.R_alloc|apply Kd.R_drewN|apply Kd.R_drew));exact HO_360001.out):p:=h
theorem qB92 {p:Prop} (h:p:=by (with_reducible repeat(first|apply Kd.R_alloc|apply Kd.R_drewN|apply Kd.R_drew));exact HO_355001.out):p:=h
theorem qB91 {p:Prop} (h:p:=by (with_reducible repeat(first|apply Kd.R_alloc|apply Kd.R_drewN|apply Kd.R_drew));exact HO_260001.out):p:=h
theorem qB90 {p:Prop} (h:p:=by (with_reducible repeat(first|apply Kd.R_alloc|apply Kd.R_drewN|apply Kd.R_drew));exact HO_227001.out):p:=h
theorem qB89 {p:Prop} (h:p:=by (with_reducible repeat(first|apply Kd.R_alloc|apply Kd.R_drewN|apply Kd.R_drew));exact HO_222001.out):p:=h
theorem qB88 {p:Prop} (h:p:=by (with_reducible repeat(first|apply Kd.R_alloc|apply Kd.R_drewN|apply Kd.R_drew));exact HO_221001.out):p:=h
theorem qB87 {p:Prop} (h:p:=by (with_reducible repeat(first|refine blk_drewN ?_ _|refine blk_drew ?_|refine blk_alloc ?_ _));exact BK365.out):p:=h
theorem qB86 {p:Prop} (h:p:=by (with_reducible repeat(first|refine blk_drewN ?_ _|refine blk_drew ?_|refine blk_alloc ?_ _));exact BK359.out):p:=h
theorem qB85 {p:Prop} (h:p:=by (with_reducible repeat(first|refine blk_drewN ?_ _|refine blk_drew ?_|refine blk_alloc ?_ _));exact BK354.out):p:=h
theorem qB84 {p:Prop} (h:p:=by (with_reducible repeat(first|refine blk_drewN ?_ _|refine blk_drew ?_|refine blk_alloc ?_ _));exact BK343.out):p:=h
theorem qB83 {p:Prop} (h:p:=by (with_reducible repeat(first|refine blk_drewN ?_ _|refine blk_drew ?_|refine blk_alloc ?_ _));exact BK330.out):p:=h
theorem qB82 {p:Prop} (h:p:=by (with_reducible repeat(first|refine blk_drewN ?_ _|refine blk_drew ?_|refine blk_alloc ?_ _));exact BK324.out):p:=h
theorem qB81 {p:Prop} (h:p:=by (with_reducible repeat(first|refine blk_drewN ?_ _|refine blk_drew ?_|refine blk_alloc ?_ _));exact BK316.out):p:=h
theorem qB80 {p:Prop} (h:p:=by (with_reducible repeat(first|refine blk_drewN ?_ _|refine blk_drew ?_|refine blk_alloc ?_ _));exact BK259.out):p:=h
theorem qB79 {p:Prop} (h:p:=by (with_reducible repeat(first|refine blk_drewN ?_ _|refine blk_drew ?_|refine blk_alloc ?_ _));exact BK252.out):p:=h
theorem qB78 {p:Prop} (h:p:=by (with_reducible repeat(first|refine blk_drewN ?_ _|refine blk_drew ?_|refine blk_alloc ?_ _));exact BK251.out):p:=h
theorem qB77 {p:Prop} (h:p:=by (with_reducible repeat(first|refine blk_drewN ?_ _|refine blk_drew ?_|refine blk_alloc ?_ _));exact BK237.out):p:=h
theorem qB76 {p:Prop} (h:p:=by (with_reducible repeat(first|refine blk_drewN ?_ _|refine blk_drew ?_|refine blk_alloc ?_ _));exact BK233.out):p:=h
theorem qB75 {p:Prop} (h:p:=by (with_reducible repeat(first|refine blk_drewN ?_ _|refine blk_drew ?_|refine blk_alloc ?_ _));exact BK226.out):p:=h
theorem qB74 {p:Prop} (h:p:=by (with_reducible repeat(first|refine blk_drewN ?_ _|refine blk_drew ?_|refine blk_alloc ?_ _));exact BK221.out):p:=h
theorem qB73 {p:Prop} (h:p:=by (with_reducible repeat(first|refine blk_drewN ?_ _|refine blk_drew ?_|refine blk_alloc ?_ _));exact BK220.out):p:=h
theorem qB72 {p:Prop} (h:p:=by (with_reducible repeat(first|refine blk_drewN ?_ _|refine blk_drew ?_|refine blk_alloc ?_ _));exact BK197.out):p:=h
theorem qB71 {p:Prop} (h:p:=by (with_reducible repeat(first|refine blk_drewN ?_ _|refine blk_drew ?_|refine blk_alloc ?_ _));exact BK196.out):p:=h
theorem qB70 {p:Prop} (h:p:=by (with_reducible repeat(first|refine blk_drewN ?_ _|refine blk_drew ?_|refine blk_alloc ?_ _));exact BK195.out):p:=h
theorem qB69 {p:Prop} (h:p:=by (with_reducible repeat(first|refine blk_drewN ?_ _|refine blk_drew ?_|refine blk_alloc ?_ _));exact BK180.out):p:=h
theorem qB68 {p:Prop} (h:p:=by (with_reducible repeat(first|refine blk_drewN ?_ _|refine blk_drew ?_|refine blk_alloc ?_ _));exact BK179.out):p:=h
theorem qB67 {p:Prop} (h:p:=by (with_reducible repeat(first|refine blk_drewN ?_ _|refine blk_drew ?_|refine blk_alloc ?_ _));exact BK161.out):p:=h
theorem qB66 {p:Prop} (h:p:=by (with_reducible repeat(first|refine blk_drewN ?_ _|refine blk_drew ?_|refine blk_alloc ?_ _));exact BK127.out):p:=h
theorem qB65 {p:Prop} (h:p:=by (with_reducible repeat(first|refine blk_drewN ?_ _|refine blk_drew ?_|refine blk_alloc ?_ _));exact BK116.out):p:=h
theorem qB64 {p:Prop} (h:p:=by (with_reducible repeat(first|refine blk_drewN ?_ _|refine blk_drew ?_|refine blk_alloc ?_ _));exact BK109.out):p:=h
theorem qB63 {p:Prop} (h:p:=by (with_reducible repeat(first|refine blk_drewN ?_ _|refine blk_drew ?_|refine blk_alloc ?_ _));exact BK108.out):p:=h
theorem qB62 {p:Prop} (h:p:=by repeat(first|(with_reducible first|exact HK.out|apply Kept.alloc|apply Kept.drewN|apply Kept.drew)|exact HK.out)):p:=h
theorem qB61 {p:Prop} (h:p:=by repeat(first|(with_reducible first|exact HB.out|apply below_alloc|apply pw_below_drewN|apply below_drew1)|exact HB.out)):p:=h
theorem qB60 {p:Prop} (h:p:=by (try simp only [List.map_toArray,List.map_cons,List.map_nil]);first|done|rfl|(simp only [List.length_drop,List.length_take];rfl)):p:=h
theorem qB59 {p:Prop} (h:p:=by (with_reducible repeat(first|apply Kd.R_alloc|apply Kd.R_drewN|apply Kd.R_drew));exact Kd.R_mono HO_7.out (fun _ hk=>⟨hk.2,hk.1⟩)):p:=h
theorem qB58 {p:Prop} (h:p:=by (with_reducible repeat(first|apply Kd.R_alloc|apply Kd.R_drewN|apply Kd.R_drew));exact Kd.R_mono HO_6.out (fun _ hk=>⟨hk.2,hk.1⟩)):p:=h
theorem qB57 {p:Prop} (h:p:=by (with_reducible repeat(first|apply Kd.R_alloc|apply Kd.R_drewN|apply Kd.R_drew));exact Kd.R_mono HO293.out (fun _ hk=>⟨hk.1.1,hk.2⟩)):p:=h
theorem qB56 {p:Prop} (h:p:=by (with_reducible repeat(first|apply Kd.R_alloc|apply Kd.R_drewN|apply Kd.R_drew));exact Kd.R_mono HO215.out (fun _ hk=>⟨hk.1.2,hk.2⟩)):p:=h
theorem qB55 {p:Prop} (h:p:=by repeat(first|(with_reducible first|exact HK.out|apply KeepBut.set_|apply keep_drewN|apply keep_drew|apply keep_alloc)|exact HK.out)):p:=h
theorem qB54 {p:Prop} (h:p:=by (with_reducible repeat(first|apply Kd.R_alloc|apply Kd.R_drewN|apply Kd.R_drew));exact Kd.R_mono HO_7.out (fun _ hk=>⟨hk.1.1,⟨hk.2,hk.1.2⟩⟩)):p:=h
theorem qB53 {p:Prop} (h:p:=by (with_reducible repeat(first|apply Kd.R_alloc|apply Kd.R_drewN|apply Kd.R_drew));exact Kd.R_mono HO_6.out (fun _ hk=>⟨hk.1.1,⟨hk.2,hk.1.2⟩⟩)):p:=h
theorem qB52 {p:Prop} (h:p:=by (with_reducible repeat(first|apply Kd.R_alloc|apply Kd.R_drewN|apply Kd.R_drew));exact Kd.R_mono HO215.out (fun _ hk=>⟨hk.2,⟨hk.1.1,hk.1.2⟩⟩)):p:=h
theorem qB51 {p:Prop} (h:p:=by (with_reducible repeat(first|apply Kd.R_alloc|apply Kd.R_drewN|apply Kd.R_drew));exact Kd.R_mono HO219.out (fun _ hk=>⟨hk.2,⟨hk.1.1.2,hk.1.2⟩⟩)):p:=h
theorem qB50 {p:Prop} (h:p:=by repeat(first|(with_reducible first|exact HB.out|apply below_alloc|apply pw_below_drewN|apply below_drew1|refine below_set ?_ GE343.out)|exact HB.out)):p:=h
theorem qB49 {p:Prop} (h:p:=by repeat(first|(with_reducible first|exact HB.out|apply below_alloc|apply pw_below_drewN|apply below_drew1|refine below_set ?_ GE330.out)|exact HB.out)):p:=h
theorem qB48 {p:Prop} (h:p:=by repeat(first|(with_reducible first|exact HB.out|apply below_alloc|apply pw_below_drewN|apply below_drew1|refine below_set ?_ GE324.out)|exact HB.out)):p:=h
theorem qB47 {p:Prop} (h:p:=by repeat(first|(with_reducible first|exact HB.out|apply below_alloc|apply pw_below_drewN|apply below_drew1|refine below_set ?_ GE316.out)|exact HB.out)):p:=h
theorem qB46 {p:Prop} (h:p:=by repeat(first|(with_reducible first|exact HB.out|apply below_alloc|apply pw_below_drewN|apply below_drew1|refine below_set ?_ GE251.out)|exact HB.out)):p:=h
theorem qB45 {p:Prop} (h:p:=by repeat(first|(with_reducible first|exact HB.out|apply below_alloc|apply pw_below_drewN|apply below_drew1|refine below_set ?_ GE246.out)|exact HB.out)):p:=h
theorem qB44 {p:Prop} (h:p:=by repeat(first|(with_reducible first|exact HB.out|apply below_alloc|apply pw_below_drewN|apply below_drew1|refine below_set ?_ GE237.out)|exact HB.out)):p:=h
theorem qB43 {p:Prop} (h:p:=by repeat(first|(with_reducible first|exact HB.out|apply below_alloc|apply pw_below_drewN|apply below_drew1|refine below_set ?_ GE233.out)|exact HB.out)):p:=h
theorem qB42 {p:Prop} (h:p:=by repeat(first|(with_reducible first|exact HB.out|apply below_alloc|apply pw_below_drewN|apply below_drew1|refine below_set ?_ GE195.out)|exact HB.out)):p:=h
theorem qB41 {p:Prop} (h:p:=by repeat(first|(with_reducible first|exact HB.out|apply below_alloc|apply pw_below_drewN|apply below_drew1|refine below_set ?_ GE179.out)|exact HB.out)):p:=h
theorem qB40 {p:Prop} (h:p:=by repeat(first|(with_reducible first|exact HB.out|apply below_alloc|apply pw_below_drewN|apply below_drew1|refine below_set ?_ GE161.out)|exact HB.out)):p:=h
theorem qB39 {p:Prop} (h:p:=by repeat(first|(with_reducible first|exact HB.out|apply below_alloc|apply pw_below_drewN|apply below_drew1|refine below_set ?_ GE127.out)|exact HB.out)):p:=h
theorem qB38 {p:Prop} (h:p:=by repeat(first|(with_reducible first|exact HB.out|apply below_alloc|apply pw_below_drewN|apply below_drew1|refine below_set ?_ GE116.out)|exact HB.out)):p:=h
theorem qB37 {p:Prop} (h:p:=by repeat(first|(with_reducible first|exact HB.out|apply below_alloc|apply pw_below_drewN|apply below_drew1|refine below_set ?_ GE108.out)|exact HB.out)):p:=h
theorem qB36 {p:Prop} (h:p:=by repeat(first|(with_reducible first|exact HK.out|apply Kept.alloc|apply Kept.drewN|apply Kept.drew|refine Kept.setCell ?_ (.inr GW324.out) _)|exact HK.out)):p:=h
theorem qB35 {p:Prop} (h:p:=by repeat(first|(with_reducible first|exact HI0.out|apply IsS52.alloc|apply IsS52.drewN|apply IsS52.drew|apply IsS52.set_0|apply IsS52.set_1)|exact HI0.out)):p:=h
theorem qB34 {p:Prop} (h:p:=by repeat(first|(with_reducible first|exact HB.out|apply below_alloc|apply pw_below_drewN|apply below_drew1|refine below_set ?_ GE343.out|refine below_set ?_ GE354.out)|exact HB.out)):p:=h
theorem qB33 {p:Prop} (h:p:=by repeat(first|(with_reducible first|exact HB.out|apply below_alloc|apply pw_below_drewN|apply below_drew1|refine below_set ?_ GE251.out|refine below_set ?_ GE252.out)|exact HB.out)):p:=h
theorem qB32 {p:Prop} (h:p:=by repeat(first|(with_reducible first|exact HB.out|apply below_alloc|apply pw_below_drewN|apply below_drew1|refine below_set ?_ GE195.out|refine below_set ?_ GE196.out)|exact HB.out)):p:=h
theorem qB31 {p:Prop} (h:p:=by repeat(first|(with_reducible first|exact HB.out|apply below_alloc|apply pw_below_drewN|apply below_drew1|refine below_set ?_ GE179.out|refine below_set ?_ GE180.out)|exact HB.out)):p:=h
theorem qB30 {p:Prop} (h:p:=by repeat(first|(with_reducible first|exact HB.out|apply below_alloc|apply pw_below_drewN|apply below_drew1|refine below_set ?_ GE108.out|refine below_set ?_ GE109.out)|exact HB.out)):p:=h
theorem qB29 {p:Prop} (h:p:=by first|exact HK.out.1|exact(show Kept w _ (fun k_=>P1_ k_) from by repeat(first|(with_reducible first|exact HK.out|apply Kept.alloc|apply Kept.drewN|apply Kept.drew)|exact HK.out)).1):p:=h
theorem qB28 {p:Prop} (h:p:=by first|(simp only [putAll,Act.put,List.setIfInBounds_toArray,List.set_cons_zero,List.set_cons_succ];done)|(simp only [putAll,Act.put,List.setIfInBounds_toArray,List.set_cons_zero,List.set_cons_succ];rfl)):p:=h
theorem qB27 {p:Prop} (h:p:=by repeat(first|(with_reducible first|exact HB.out|apply below_alloc|apply pw_below_drewN|apply below_drew1|refine below_set ?_ GE343.out|refine below_set ?_ GE354.out|refine below_set ?_ GE359.out)|exact HB.out)):p:=h
theorem qB26 {p:Prop} (h:p:=by repeat(first|(with_reducible first|exact HB.out|apply below_alloc|apply pw_below_drewN|apply below_drew1|refine below_set ?_ GE251.out|refine below_set ?_ GE252.out|refine below_set ?_ GE259.out)|exact HB.out)):p:=h
theorem qB25 {p:Prop} (h:p:=by repeat(first|(with_reducible first|exact HB.out|apply below_alloc|apply pw_below_drewN|apply below_drew1|refine below_set ?_ GE195.out|refine below_set ?_ GE196.out|refine below_set ?_ GE197.out)|exact HB.out)):p:=h
theorem qB24 {p:Prop} (h:p:=by repeat(first|(with_reducible first|exact HB.out|apply below_alloc|apply pw_below_drewN|apply below_drew1|refine below_set ?_ GE108.out|refine below_set ?_ GE109.out|refine below_set ?_ GE110.out)|exact HB.out)):p:=h
theorem qB23 {p:Prop} (h:p:=by repeat(first|(with_reducible first|exact HB.out|apply below_alloc|apply pw_below_drewN|apply below_drew1|refine below_set ?_ GE343.out|refine below_set ?_ GE354.out|refine below_set ?_ GE359.out|refine below_set ?_ GE365.out)|exact HB.out)):p:=h
theorem qB22 {p:Prop} (h:p:=by repeat(first|(with_reducible first|exact HB.out|apply below_alloc|apply pw_below_drewN|apply below_drew1|refine below_set ?_ GE195.out|refine below_set ?_ GE196.out|refine below_set ?_ GE197.out|refine below_set ?_ GE221.out)|exact HB.out)):p:=h
theorem qB21 {p:Prop} (h:p:=by repeat(first|(with_reducible first|exact HB.out|apply below_alloc|apply pw_below_drewN|apply below_drew1|refine below_set ?_ GE195.out|refine below_set ?_ GE196.out|refine below_set ?_ GE197.out|refine below_set ?_ GE220.out)|exact HB.out)):p:=h
theorem qB20 {p:Prop} (h:p:=by repeat(first|(with_reducible first|exact HB.out|apply below_alloc|apply pw_below_drewN|apply below_drew1|refine below_set ?_ GE343.out|refine below_set ?_ GE354.out|refine below_set ?_ GE359.out|refine below_set ?_ GE365.out|refine below_set ?_ GE387.out)|exact HB.out)):p:=h
theorem qB19 {p:Prop} (h:p:=by repeat(first|(with_reducible first|exact HB.out|apply below_alloc|apply pw_below_drewN|apply below_drew1|refine below_set ?_ GE195.out|refine below_set ?_ GE196.out|refine below_set ?_ GE197.out|refine below_set ?_ GE220.out|refine below_set ?_ GE221.out)|exact HB.out)):p:=h
theorem qB18 {p:Prop} (h:p:=by repeat(first|(with_reducible first|exact HB.out|apply below_alloc|apply pw_below_drewN|apply below_drew1|refine below_set ?_ GE195.out|refine below_set ?_ GE196.out|refine below_set ?_ GE197.out|refine below_set ?_ GE221.out|refine below_set ?_ GE220.out)|exact HB.out)):p:=h
theorem qB17 {p:Prop} (h:p:=by repeat(first|(with_reducible first|exact HB.out|apply below_alloc|apply pw_below_drewN|apply below_drew1|refine below_set ?_ GE195.out|refine below_set ?_ GE196.out|refine below_set ?_ GE197.out|refine below_set ?_ GE220.out|refine below_set ?_ GE221.out|refine below_set ?_ GE226.out)|exact HB.out)):p:=h
theorem qB16 {p:Prop} (h:p:=by (with_reducible repeat(first|apply Kd.R_alloc|apply Kd.R_drewN|apply Kd.R_drew));exact(Kd.R_mono (Kd.R_far (p:=⟨gb365,1,none⟩) (Kd.R_far (p:=⟨gb365,0,none⟩) (Kd.R_types HO352.out BK365.out (by decide)) (fun _ hk=>hk.2) (.int .i64 t360)) (fun _ hk=>hk.2) (.slice Ao37 t361.length co37)) (fun _ h_=>h_.1))):p:=h
theorem qB15 {p:Prop} (h:p:=by (with_reducible repeat(first|apply Kd.R_alloc|apply Kd.R_drewN|apply Kd.R_drew));exact(Kd.R_mono (Kd.R_far (p:=⟨gb365,1,none⟩) (Kd.R_far (p:=⟨gb365,0,none⟩) (Kd.R_types HO363.out BK365.out (by decide)) (fun _ hk=>hk.2) (.int .i64 t360)) (fun _ hk=>hk.2) (.slice Ao37 t361.length co37)) (fun _ h_=>h_.1))):p:=h
theorem qB14 {p:Prop} (h:p:=by (with_reducible repeat(first|apply Kd.R_alloc|apply Kd.R_drewN|apply Kd.R_drew));exact(Kd.R_mono (Kd.R_far (p:=⟨gb359,1,none⟩) (Kd.R_far (p:=⟨gb359,0,none⟩) (Kd.R_types HO352.out BK359.out (by decide)) (fun _ hk=>hk.2) (.int .i64 t355)) (fun _ hk=>hk.2) (.slice Ao30 t356.length co30)) (fun _ h_=>h_.1))):p:=h
theorem qB13 {p:Prop} (h:p:=by (with_reducible repeat(first|apply Kd.R_alloc|apply Kd.R_drewN|apply Kd.R_drew));exact(Kd.R_mono (Kd.R_far (p:=⟨gb359,1,none⟩) (Kd.R_far (p:=⟨gb359,0,none⟩) (Kd.R_types HO348.out BK359.out (by decide)) (fun _ hk=>hk.2) (.int .i64 t355)) (fun _ hk=>hk.2) (.slice Ao30 t356.length co30)) (fun _ h_=>h_.1))):p:=h
theorem qB12 {p:Prop} (h:p:=by (with_reducible repeat(first|apply Kd.R_alloc|apply Kd.R_drewN|apply Kd.R_drew));exact(Kd.R_mono (Kd.R_far (p:=⟨gb359,1,none⟩) (Kd.R_far (p:=⟨gb359,0,none⟩) (Kd.R_types HO358.out BK359.out (by decide)) (fun _ hk=>hk.2) (.int .i64 t355)) (fun _ hk=>hk.2) (.slice Ao30 t356.length co30)) (fun _ h_=>h_.1))):p:=h
theorem qB11 {p:Prop} (h:p:=by (with_reducible repeat(first|apply Kd.R_alloc|apply Kd.R_drewN|apply Kd.R_drew));exact(Kd.R_mono (Kd.R_far (p:=⟨gb354,1,none⟩) (Kd.R_far (p:=⟨gb354,0,none⟩) (Kd.R_types HO352.out BK354.out (by decide)) (fun _ hk=>hk.2) (.int .i64 t349)) (fun _ hk=>hk.2) (.slice Ao23 t350.length co23)) (fun _ h_=>h_.1))):p:=h
theorem qB10 {p:Prop} (h:p:=by (with_reducible repeat(first|apply Kd.R_alloc|apply Kd.R_drewN|apply Kd.R_drew));exact(Kd.R_mono (Kd.R_far (p:=⟨gb354,1,none⟩) (Kd.R_far (p:=⟨gb354,0,none⟩) (Kd.R_types HO348.out BK354.out (by decide)) (fun _ hk=>hk.2) (.int .i64 t349)) (fun _ hk=>hk.2) (.slice Ao23 t350.length co23)) (fun _ h_=>h_.1))):p:=h
theorem qB9 {p:Prop} (h:p:=by (with_reducible repeat(first|apply Kd.R_alloc|apply Kd.R_drewN|apply Kd.R_drew));exact(Kd.R_mono (Kd.R_far (p:=⟨gb387,1,none⟩) (Kd.R_far (p:=⟨gb387,0,none⟩) (Kd.R_types HO385.out BK387.out (by decide)) (fun _ hk=>hk.2) (.int .i64 t382)) (fun _ hk=>hk.2) (.slice Ao124 t383.length co124)) (fun _ h_=>h_.1))):p:=h
theorem qB8 {p:Prop} (h:p:=by (with_reducible repeat(first|apply Kd.R_alloc|apply Kd.R_drewN|apply Kd.R_drew));exact(Kd.R_mono (Kd.R_far (p:=⟨gb387,1,none⟩) (Kd.R_far (p:=⟨gb387,0,none⟩) (Kd.R_types HO_355001.out BK387.out (by decide)) (fun _ hk=>hk.2) (.int .i64 t382)) (fun _ hk=>hk.2) (.slice Ao124 t383.length co124)) (fun _ h_=>h_.1))):p:=h
theorem qB7 {p:Prop} (h:p:=by (with_reducible repeat(first|refine blk_drewN ?_ _|refine blk_drew ?_|refine blk_alloc ?_ _));refine blk_put (cs:=#[.int .i64 0,.slice none 0 0]) ?_ 1 _ rfl;(with_reducible repeat(first|refine blk_drewN ?_ _|refine blk_drew ?_|refine blk_alloc ?_ _));refine blk_put (cs:=#[.int .i64 0,.slice none 0 0]) ?_ 0 _ rfl;(with_reducible repeat(first|refine blk_drewN ?_ _|refine blk_drew ?_|refine blk_alloc ?_ _));exact BK252.out):p:=h
theorem qB6 {p:Prop} (h:p:=by (with_reducible repeat(first|refine blk_drewN ?_ _|refine blk_drew ?_|refine blk_alloc ?_ _));refine blk_put (cs:=#[.int .i64 t172,.slice none 0 0]) ?_ 1 _ rfl;(with_reducible repeat(first|refine blk_drewN ?_ _|refine blk_drew ?_|refine blk_alloc ?_ _));refine blk_put (cs:=#[.int .i64 0,.slice none 0 0]) ?_ 0 _ rfl;(with_reducible repeat(first|refine blk_drewN ?_ _|refine blk_drew ?_|refine blk_alloc ?_ _));exact BK161.out):p:=h
theorem qB5 {p:Prop} (h:p:=by (with_reducible repeat(first|refine blk_drewN ?_ _|refine blk_drew ?_|refine blk_alloc ?_ _));refine blk_put (cs:=#[.int .i64 t222,.slice none 0 0]) ?_ 1 _ rfl;(with_reducible repeat(first|refine blk_drewN ?_ _|refine blk_drew ?_|refine blk_alloc ?_ _));refine blk_put (cs:=#[.int .i64 x198000_2,.slice none 0 0]) ?_ 0 _ rfl;(with_reducible repeat(first|refine blk_drewN ?_ _|refine blk_drew ?_|refine blk_alloc ?_ _));exact BK197.out):p:=h
theorem qB4 {p:Prop} (h:p:=by (with_reducible repeat(first|apply Kd.R_alloc|apply Kd.R_drewN|apply Kd.R_drew));exact(Kd.R_mono (Kd.R_mono (Kd.R_far (p:=⟨gb221,1,none⟩) (Kd.R_far (p:=⟨gb221,0,none⟩) (Kd.R_far (p:=⟨gb220,1,none⟩) (Kd.R_far (p:=⟨gb220,0,none⟩) (Kd.R_types (Kd.R_types HO_7.out BK220.out (by decide)) BK221.out (by decide)) (fun _ hk=>hk.1.2) (.int .i64 t212)) (fun _ hk=>hk.1.2) (.slice Ao35 t213.length co35)) (fun _ hk=>hk.2) (.int .i64 t216)) (fun _ hk=>hk.2) (.slice Ao38 t217.length co38)) (fun _ h_=>h_.1)) (fun _ h_=>h_.1))):p:=h
theorem qB3 {p:Prop} (h:p:=by (with_reducible repeat(first|apply Kd.R_alloc|apply Kd.R_drewN|apply Kd.R_drew));exact(Kd.R_mono (Kd.R_mono (Kd.R_far (p:=⟨gb221,1,none⟩) (Kd.R_far (p:=⟨gb221,0,none⟩) (Kd.R_far (p:=⟨gb220,1,none⟩) (Kd.R_far (p:=⟨gb220,0,none⟩) (Kd.R_types (Kd.R_types HO_6.out BK220.out (by decide)) BK221.out (by decide)) (fun _ hk=>hk.1.2) (.int .i64 t212)) (fun _ hk=>hk.1.2) (.slice Ao35 t213.length co35)) (fun _ hk=>hk.2) (.int .i64 t216)) (fun _ hk=>hk.2) (.slice Ao38 t217.length co38)) (fun _ h_=>h_.1)) (fun _ h_=>h_.1))):p:=h
theorem qB2 {p:Prop} (h:p:=by (with_reducible repeat(first|apply Kd.R_alloc|apply Kd.R_drewN|apply Kd.R_drew));exact(Kd.R_mono (Kd.R_mono (Kd.R_far (p:=⟨gb221,1,none⟩) (Kd.R_far (p:=⟨gb221,0,none⟩) (Kd.R_far (p:=⟨gb220,1,none⟩) (Kd.R_far (p:=⟨gb220,0,none⟩) (Kd.R_types (Kd.R_types HO219.out BK220.out (by decide)) BK221.out (by decide)) (fun _ hk=>hk.1.2) (.int .i64 t212)) (fun _ hk=>hk.1.2) (.slice Ao35 t213.length co35)) (fun _ hk=>hk.2) (.int .i64 t216)) (fun _ hk=>hk.2) (.slice Ao38 t217.length co38)) (fun _ h_=>h_.1)) (fun _ h_=>h_.1))):p:=h
theorem qB1 {p:Prop} (h:p:=by (with_reducible repeat(first|apply Kd.R_alloc|apply Kd.R_drewN|apply Kd.R_drew));exact(Kd.R_mono (Kd.R_mono (Kd.R_far (p:=⟨gb221,1,none⟩) (Kd.R_far (p:=⟨gb221,0,none⟩) (Kd.R_far (p:=⟨gb220,1,none⟩) (Kd.R_far (p:=⟨gb220,0,none⟩) (Kd.R_types (Kd.R_types HO215.out BK220.out (by decide)) BK221.out (by decide)) (fun _ hk=>hk.1.2) (.int .i64 t212)) (fun _ hk=>hk.1.2) (.slice Ao35 t213.length co35)) (fun _ hk=>hk.2) (.int .i64 t216)) (fun _ hk=>hk.2) (.slice Ao38 t217.length co38)) (fun _ h_=>h_.1)) (fun _ h_=>h_.1))):p:=h
end Go.Proofs.Ythljmbobccaalaa.PFnExactPowerCyclo
