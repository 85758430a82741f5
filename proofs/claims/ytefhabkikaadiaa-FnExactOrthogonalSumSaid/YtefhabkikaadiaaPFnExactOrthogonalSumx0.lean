/- The functions that the law reaches, as plain functions, each with the proof that the program comes to it; no condition. Written by a program of this session (wip/mp.py) over the printing of the kit; what is marked HAND is told by hand. -/
import Derived.Test.YtefhabkikaadiaaKFnExactOrthogonalSum
import Derived.Test.YtefhabkikaadiaaProg
import Derived.Below
import Derived.Deep.Draws
import Derived.Deep.AppendLies
import Derived.Maps.AppendAt
import Derived.OwnWalk
import Derived.Laws.BytesArg
import Derived.Laws.MakeOwn
import Derived.Laws.OwnMore
import Derived.Deep.OwnRows
import Derived.Tactics
import Derived.Lib.ConvBytes
import Derived.Laws.Slices
import Derived.WalkKit
import Derived.KernelRfl
import Derived.RowKit3
import Derived.Deep.LoopGhost
import Derived.Deep.QuietTactic
import Derived.BigQuiet
import Derived.WideLaws
import Derived.Deep.DeepCutAuto
import Derived.Deep.CutBlock
import Derived.Deep.RegionHeld3
import Derived.Laws.Rows
import Derived.Lib.AppendStr
import Derived.ArgAppend
import Derived.Laws.IdiomCopy
import Derived.OrdersHeld
import Derived.Laws.BitsLemmas
import Derived.RowKit
import Derived.WalkSpells
import Derived.Laws.CopyOwn
namespace Go.Proofs.Ytefhabkikaadiaa.PFnExactOrthogonalSum
open Go.RowKit Go.Proofs.YtefhabkikaadiaaW.PrintWords Go.Proofs.YtefhabkikaadiaaW.PrintLast Go.Proofs.YtefhabkikaadiaaW.PrintMore
attribute [local go_sem] max2_int min2_int max_two min_two max_three min_three max_four min_four   -- for this text's walks alone
set_option linter.unusedVariables false
set_option linter.unusedSimpArgs false



def errW:Option Int→Value
 |none=>.nilIface
 |some c=>.iface 0 (.int .i64 c)
theorem errW_none:errW none=.nilIface:=rfl
theorem errW_some (c:Int):errW (some c)=.iface 0 (.int .i64 c):=rfl

theorem info2:(Try.prog.info? 2).map (fun i=>(i.zero,i.size,i.bytes))=some (some (.int .i64 0),1,8):=by kernel_rfl
theorem info22:(Try.prog.info? 22).map (fun i=>(i.zero,i.size,i.bytes))=some (some (.slice none 0 0),1,24):=by kernel_rfl

theorem hro_cell {w w1:World} {g:Nat} {a:Addr} {v:Value} (hg:w.grownBy w1 (some g)) (h:w.cell? a=some v) (hne:a.block≠g):w1.cell? a=some v:=
 (World.cell?_of_block (hg.block _ (World.block_lt_of_cell? w a h) (fun e=>hne (by injection e)))).trans h
theorem hand_drewN_set (w:World) (n:Nat) (p:Addr) (v:Value):(w.drewN n).setCell p v=(w.setCell p v).drewN n:=rfl
theorem hand_drew_set (w:World) (p:Addr) (v:Value):w.drew.setCell p v=(w.setCell p v).drew:=rfl
theorem hand_V_orR {α:Type} {d:Kd α} {e:Nat} {w:World} {base:Nat} {P Q S:Nat→Prop} {v:Value} {xs:List α} (h:Kd.R d e w base (fun k=>Q k∧S k) v xs):Kd.V d e w base (fun k=>(P k∨Q k)∧S k) v xs:=
 Kd.V_mono (Kd.R_V h) (fun _ hk=>⟨.inr hk.1,hk.2⟩)
theorem hand_V_blk {e base n c g:Nat} {ok:Nat→Prop} {W:World} {ad:Addr} {xs:List Int} {ik:IntKind} (h:Kd.V (Kd.int ik) e W base ok (.slice (some ad) n c) xs) (hn:decide (0<(xs.length:Int))=true) (hok:∀k,ok k→k≠g):ad.block≠g:=by
 intro hg;have hn':0<xs.length:=by simpa using hn
 obtain⟨a1,h1,c1⟩:=Kd.at_int (Kd.V_reads' h).2.2 0 (by omega) (by omega);cases h1
 have hv:=Kd.V_far (p:=ad.add 0) h (fun k hk=>by rw [add_block,hg];exact hok k hk) (.bool true);obtain⟨a2,h2,c2⟩:=Kd.at_int (Kd.V_reads' hv).2.2 0 (by omega) (by omega);cases h2
 have c3:(W.setCell (ad.add 0) (.bool true)).cell? (ad.add (Int.toNat 0))=some (.bool true):=World.cell?_setCell_same' W (ad.add 0) (.bool true) (by rw [show W.cell? (ad.add 0)=_ from c1];rfl);rw [c3] at c2;cases c2

-- the values' own types
def rd_L1 (xs:List (List Int)) (i:Int):(List Int):=xs.getD i.toNat ([]:List Int)
theorem at_L1 {w:World} {A:Option Addr} {n:Nat} {xs:List (List Int)} (h:Kd.C (Kd.slice 2 (Kd.int .i64)) w A n xs) (i:Int) (h0:0≤i) (h1:i<n):∃ad A0 c0,A=some ad∧w.cell? (ad.add i.toNat)=some (.slice A0 (rd_L1 xs i).length c0)∧(rd_L1 xs i).length≤c0∧(Kd.int .i64).C w A0 (rd_L1 xs i).length (rd_L1 xs i):=by
 obtain⟨ad,c,e,_,hK,hc0⟩:=Kd.C_get h ([]:List Int) i h0 h1;have hc:∀j u,c[j]? =some u→w.cell? (ad.add (i.toNat*1+j))=some u:=hc0;obtain⟨A0,c0,rfl,l0,g0⟩:=hK;exact⟨ad,A0,c0,e,by have hq:=hc 0 _ rfl;rwa [Nat.mul_one,Nat.add_zero] at hq,l0,g0⟩

theorem qSa {α:Type _} {l:List α} {i:Nat} {a:α}:l.toArray.setIfInBounds i a=(l.set i a).toArray:=List.setIfInBounds_toArray ..
theorem qSb {α:Type _} {x:α} {l:List α} {a:α}:(x::l).set 0 a=a::l:=List.set_cons_zero
theorem qSc {α:Type _} {x:α} {l:List α} {n:Nat} {a:α}:(x::l).set (n+1) a=x::l.set n a:=List.set_cons_succ
theorem qAm {p:Prop} (h:p):Aside0 p:=⟨h⟩
theorem qOb {α β:Type _} {b:β} {o:Option α} {f:α→Option β} (h:o.bind f=some b):∃a,o=some a∧f a=some b:=Option.bind_eq_some_iff.mp h
theorem qB178 {p:Prop} (h:p:=by first|rfl|(simp;done)|(simp [*];done)):p:=h
theorem qB177 {p:Prop} (h:p:=by first|(with_reducible assumption)|assumption):p:=h
theorem qB176 {p:Prop} (h:p:=by repeat(first|exact HBc.out|apply below_alloc|apply pw_below_drewN|apply below_drew1)):p:=h
theorem qB175 {p:Prop} (h:p:=by simp only [putAll,Act.put,List.setIfInBounds_toArray,List.set_cons_zero,List.set_cons_succ]):p:=h
theorem qB174 {p:Prop} (h:p:=by (with_reducible repeat(first|apply Kd.N_alloc|apply Kd.N_drewN|apply Kd.N_drew));exact HO_6.out):p:=h
theorem qB173 {p:Prop} (h:p:=by (with_reducible repeat(first|apply Kd.R_alloc|apply Kd.R_drewN|apply Kd.R_drew));exact HO_7.out):p:=h
theorem qB172 {p:Prop} (h:p:=by (with_reducible repeat(first|apply Kd.R_alloc|apply Kd.R_drewN|apply Kd.R_drew));exact HO_6.out):p:=h
theorem qB171 {p:Prop} (h:p:=by (with_reducible repeat(first|apply Kd.R_alloc|apply Kd.R_drewN|apply Kd.R_drew));exact HO_5.out):p:=h
theorem qB170 {p:Prop} (h:p:=by (with_reducible repeat(first|apply Kd.R_alloc|apply Kd.R_drewN|apply Kd.R_drew));exact HO_3.out):p:=h
theorem qB169 {p:Prop} (h:p:=by (with_reducible repeat(first|apply Kd.R_alloc|apply Kd.R_drewN|apply Kd.R_drew));exact HO470.out):p:=h
theorem qB168 {p:Prop} (h:p:=by (with_reducible repeat(first|apply Kd.R_alloc|apply Kd.R_drewN|apply Kd.R_drew));exact HO448.out):p:=h
theorem qB167 {p:Prop} (h:p:=by (with_reducible repeat(first|apply Kd.R_alloc|apply Kd.R_drewN|apply Kd.R_drew));exact HO435.out):p:=h
theorem qB166 {p:Prop} (h:p:=by (with_reducible repeat(first|apply Kd.R_alloc|apply Kd.R_drewN|apply Kd.R_drew));exact HO_12.out):p:=h
theorem qB165 {p:Prop} (h:p:=by (with_reducible repeat(first|apply Kd.R_alloc|apply Kd.R_drewN|apply Kd.R_drew));exact HO422.out):p:=h
theorem qB164 {p:Prop} (h:p:=by (with_reducible repeat(first|apply Kd.R_alloc|apply Kd.R_drewN|apply Kd.R_drew));exact HO375.out):p:=h
theorem qB163 {p:Prop} (h:p:=by (with_reducible repeat(first|apply Kd.R_alloc|apply Kd.R_drewN|apply Kd.R_drew));exact HO372.out):p:=h
theorem qB162 {p:Prop} (h:p:=by (with_reducible repeat(first|apply Kd.R_alloc|apply Kd.R_drewN|apply Kd.R_drew));exact HO366.out):p:=h
theorem qB161 {p:Prop} (h:p:=by (with_reducible repeat(first|apply Kd.R_alloc|apply Kd.R_drewN|apply Kd.R_drew));exact HO349.out):p:=h
theorem qB160 {p:Prop} (h:p:=by (with_reducible repeat(first|apply Kd.R_alloc|apply Kd.R_drewN|apply Kd.R_drew));exact HO331.out):p:=h
theorem qB159 {p:Prop} (h:p:=by (with_reducible repeat(first|apply Kd.R_alloc|apply Kd.R_drewN|apply Kd.R_drew));exact HO306.out):p:=h
theorem qB158 {p:Prop} (h:p:=by (with_reducible repeat(first|apply Kd.R_alloc|apply Kd.R_drewN|apply Kd.R_drew));exact HO302.out):p:=h
theorem qB157 {p:Prop} (h:p:=by (with_reducible repeat(first|apply Kd.R_alloc|apply Kd.R_drewN|apply Kd.R_drew));exact HO298.out):p:=h
theorem qB156 {p:Prop} (h:p:=by (with_reducible repeat(first|apply Kd.R_alloc|apply Kd.R_drewN|apply Kd.R_drew));exact HO294.out):p:=h
theorem qB155 {p:Prop} (h:p:=by (with_reducible repeat(first|apply Kd.R_alloc|apply Kd.R_drewN|apply Kd.R_drew));exact HO277.out):p:=h
theorem qB154 {p:Prop} (h:p:=by (with_reducible repeat(first|apply Kd.R_alloc|apply Kd.R_drewN|apply Kd.R_drew));exact HO237.out):p:=h
theorem qB153 {p:Prop} (h:p:=by (with_reducible repeat(first|apply Kd.R_alloc|apply Kd.R_drewN|apply Kd.R_drew));exact HO216.out):p:=h
theorem qB152 {p:Prop} (h:p:=by (with_reducible repeat(first|apply Kd.R_alloc|apply Kd.R_drewN|apply Kd.R_drew));exact HO212.out):p:=h
theorem qB151 {p:Prop} (h:p:=by (with_reducible repeat(first|apply Kd.R_alloc|apply Kd.R_drewN|apply Kd.R_drew));exact HO197.out):p:=h
theorem qB150 {p:Prop} (h:p:=by (with_reducible repeat(first|apply Kd.R_alloc|apply Kd.R_drewN|apply Kd.R_drew));exact HO164.out):p:=h
theorem qB149 {p:Prop} (h:p:=by (with_reducible repeat(first|apply Kd.R_alloc|apply Kd.R_drewN|apply Kd.R_drew));exact HO157.out):p:=h
theorem qB148 {p:Prop} (h:p:=by (with_reducible repeat(first|apply Kd.R_alloc|apply Kd.R_drewN|apply Kd.R_drew));exact HO140.out):p:=h
theorem qB147 {p:Prop} (h:p:=by (with_reducible repeat(first|apply Kd.R_alloc|apply Kd.R_drewN|apply Kd.R_drew));exact HO_485001.out):p:=h
theorem qB146 {p:Prop} (h:p:=by (with_reducible repeat(first|apply Kd.R_alloc|apply Kd.R_drewN|apply Kd.R_drew));exact HO_473001.out):p:=h
theorem qB145 {p:Prop} (h:p:=by (with_reducible repeat(first|apply Kd.R_alloc|apply Kd.R_drewN|apply Kd.R_drew));exact HO_291001.out):p:=h
theorem qB144 {p:Prop} (h:p:=by (with_reducible repeat(first|apply Kd.R_alloc|apply Kd.R_drewN|apply Kd.R_drew));exact HO_224001.out):p:=h
theorem qB143 {p:Prop} (h:p:=by (with_reducible repeat(first|apply Kd.R_alloc|apply Kd.R_drewN|apply Kd.R_drew));exact HO_219001.out):p:=h
theorem qB142 {p:Prop} (h:p:=by (with_reducible repeat(first|apply Kd.R_alloc|apply Kd.R_drewN|apply Kd.R_drew));exact HO_218001.out):p:=h
theorem qB141 {p:Prop} (h:p:=by (with_reducible repeat(first|refine blk_drewN ?_ _|refine blk_drew ?_|refine blk_alloc ?_ _));exact BK500.out):p:=h
theorem qB140 {p:Prop} (h:p:=by (with_reducible repeat(first|refine blk_drewN ?_ _|refine blk_drew ?_|refine blk_alloc ?_ _));exact BK484.out):p:=h
theorem qB139 {p:Prop} (h:p:=by (with_reducible repeat(first|refine blk_drewN ?_ _|refine blk_drew ?_|refine blk_alloc ?_ _));exact BK472.out):p:=h
theorem qB138 {p:Prop} (h:p:=by (with_reducible repeat(first|refine blk_drewN ?_ _|refine blk_drew ?_|refine blk_alloc ?_ _));exact BK460.out):p:=h
theorem qB137 {p:Prop} (h:p:=by (with_reducible repeat(first|refine blk_drewN ?_ _|refine blk_drew ?_|refine blk_alloc ?_ _));exact BK459.out):p:=h
theorem qB136 {p:Prop} (h:p:=by (with_reducible repeat(first|refine blk_drewN ?_ _|refine blk_drew ?_|refine blk_alloc ?_ _));exact BK444.out):p:=h
theorem qB135 {p:Prop} (h:p:=by (with_reducible repeat(first|refine blk_drewN ?_ _|refine blk_drew ?_|refine blk_alloc ?_ _));exact BK443.out):p:=h
theorem qB134 {p:Prop} (h:p:=by (with_reducible repeat(first|refine blk_drewN ?_ _|refine blk_drew ?_|refine blk_alloc ?_ _));exact BK442.out):p:=h
theorem qB133 {p:Prop} (h:p:=by (with_reducible repeat(first|refine blk_drewN ?_ _|refine blk_drew ?_|refine blk_alloc ?_ _));exact BK439.out):p:=h
theorem qB132 {p:Prop} (h:p:=by (with_reducible repeat(first|refine blk_drewN ?_ _|refine blk_drew ?_|refine blk_alloc ?_ _));exact BK419.out):p:=h
theorem qB131 {p:Prop} (h:p:=by (with_reducible repeat(first|refine blk_drewN ?_ _|refine blk_drew ?_|refine blk_alloc ?_ _));exact BK418.out):p:=h
theorem qB130 {p:Prop} (h:p:=by (with_reducible repeat(first|refine blk_drewN ?_ _|refine blk_drew ?_|refine blk_alloc ?_ _));exact BK395.out):p:=h
theorem qB129 {p:Prop} (h:p:=by (with_reducible repeat(first|refine blk_drewN ?_ _|refine blk_drew ?_|refine blk_alloc ?_ _));exact BK337.out):p:=h
theorem qB128 {p:Prop} (h:p:=by (with_reducible repeat(first|refine blk_drewN ?_ _|refine blk_drew ?_|refine blk_alloc ?_ _));exact BK321.out):p:=h
theorem qB127 {p:Prop} (h:p:=by (with_reducible repeat(first|refine blk_drewN ?_ _|refine blk_drew ?_|refine blk_alloc ?_ _));exact BK320.out):p:=h
theorem qB126 {p:Prop} (h:p:=by (with_reducible repeat(first|refine blk_drewN ?_ _|refine blk_drew ?_|refine blk_alloc ?_ _));exact BK308.out):p:=h
theorem qB125 {p:Prop} (h:p:=by (with_reducible repeat(first|refine blk_drewN ?_ _|refine blk_drew ?_|refine blk_alloc ?_ _));exact BK290.out):p:=h
theorem qB124 {p:Prop} (h:p:=by (with_reducible repeat(first|refine blk_drewN ?_ _|refine blk_drew ?_|refine blk_alloc ?_ _));exact BK284.out):p:=h
theorem qB123 {p:Prop} (h:p:=by (with_reducible repeat(first|refine blk_drewN ?_ _|refine blk_drew ?_|refine blk_alloc ?_ _));exact BK283.out):p:=h
theorem qB122 {p:Prop} (h:p:=by (with_reducible repeat(first|refine blk_drewN ?_ _|refine blk_drew ?_|refine blk_alloc ?_ _));exact BK282.out):p:=h
theorem qB121 {p:Prop} (h:p:=by (with_reducible repeat(first|refine blk_drewN ?_ _|refine blk_drew ?_|refine blk_alloc ?_ _));exact BK278.out):p:=h
theorem qB120 {p:Prop} (h:p:=by (with_reducible repeat(first|refine blk_drewN ?_ _|refine blk_drew ?_|refine blk_alloc ?_ _));exact BK274.out):p:=h
theorem qB119 {p:Prop} (h:p:=by (with_reducible repeat(first|refine blk_drewN ?_ _|refine blk_drew ?_|refine blk_alloc ?_ _));exact BK273.out):p:=h
theorem qB118 {p:Prop} (h:p:=by (with_reducible repeat(first|refine blk_drewN ?_ _|refine blk_drew ?_|refine blk_alloc ?_ _));exact BK272.out):p:=h
theorem qB117 {p:Prop} (h:p:=by (with_reducible repeat(first|refine blk_drewN ?_ _|refine blk_drew ?_|refine blk_alloc ?_ _));exact BK266.out):p:=h
theorem qB116 {p:Prop} (h:p:=by (with_reducible repeat(first|refine blk_drewN ?_ _|refine blk_drew ?_|refine blk_alloc ?_ _));exact BK255.out):p:=h
theorem qB115 {p:Prop} (h:p:=by (with_reducible repeat(first|refine blk_drewN ?_ _|refine blk_drew ?_|refine blk_alloc ?_ _));exact BK254.out):p:=h
theorem qB114 {p:Prop} (h:p:=by (with_reducible repeat(first|refine blk_drewN ?_ _|refine blk_drew ?_|refine blk_alloc ?_ _));exact BK244.out):p:=h
theorem qB113 {p:Prop} (h:p:=by (with_reducible repeat(first|refine blk_drewN ?_ _|refine blk_drew ?_|refine blk_alloc ?_ _));exact BK243.out):p:=h
theorem qB112 {p:Prop} (h:p:=by (with_reducible repeat(first|refine blk_drewN ?_ _|refine blk_drew ?_|refine blk_alloc ?_ _));exact BK234.out):p:=h
theorem qB111 {p:Prop} (h:p:=by (with_reducible repeat(first|refine blk_drewN ?_ _|refine blk_drew ?_|refine blk_alloc ?_ _));exact BK223.out):p:=h
theorem qB110 {p:Prop} (h:p:=by (with_reducible repeat(first|refine blk_drewN ?_ _|refine blk_drew ?_|refine blk_alloc ?_ _));exact BK218.out):p:=h
theorem qB109 {p:Prop} (h:p:=by (with_reducible repeat(first|refine blk_drewN ?_ _|refine blk_drew ?_|refine blk_alloc ?_ _));exact BK217.out):p:=h
theorem qB108 {p:Prop} (h:p:=by (with_reducible repeat(first|refine blk_drewN ?_ _|refine blk_drew ?_|refine blk_alloc ?_ _));exact BK194.out):p:=h
theorem qB107 {p:Prop} (h:p:=by (with_reducible repeat(first|refine blk_drewN ?_ _|refine blk_drew ?_|refine blk_alloc ?_ _));exact BK193.out):p:=h
theorem qB106 {p:Prop} (h:p:=by (with_reducible repeat(first|refine blk_drewN ?_ _|refine blk_drew ?_|refine blk_alloc ?_ _));exact BK192.out):p:=h
theorem qB105 {p:Prop} (h:p:=by (with_reducible repeat(first|refine blk_drewN ?_ _|refine blk_drew ?_|refine blk_alloc ?_ _));exact BK180.out):p:=h
theorem qB104 {p:Prop} (h:p:=by (with_reducible repeat(first|refine blk_drewN ?_ _|refine blk_drew ?_|refine blk_alloc ?_ _));exact BK179.out):p:=h
theorem qB103 {p:Prop} (h:p:=by (with_reducible repeat(first|refine blk_drewN ?_ _|refine blk_drew ?_|refine blk_alloc ?_ _));exact BK161.out):p:=h
theorem qB102 {p:Prop} (h:p:=by (with_reducible repeat(first|refine blk_drewN ?_ _|refine blk_drew ?_|refine blk_alloc ?_ _));exact BK124.out):p:=h
theorem qB101 {p:Prop} (h:p:=by (with_reducible repeat(first|refine blk_drewN ?_ _|refine blk_drew ?_|refine blk_alloc ?_ _));exact BK120.out):p:=h
theorem qB100 {p:Prop} (h:p:=by (with_reducible repeat(first|refine blk_drewN ?_ _|refine blk_drew ?_|refine blk_alloc ?_ _));exact BK119.out):p:=h
theorem qB99 {p:Prop} (h:p:=by (with_reducible repeat(first|refine blk_drewN ?_ _|refine blk_drew ?_|refine blk_alloc ?_ _));exact BK111.out):p:=h
theorem qB98 {p:Prop} (h:p:=by (with_reducible repeat(first|refine blk_drewN ?_ _|refine blk_drew ?_|refine blk_alloc ?_ _));exact BK110.out):p:=h
theorem qB97 {p:Prop} (h:p:=by (with_reducible repeat(first|refine blk_drewN ?_ _|refine blk_drew ?_|refine blk_alloc ?_ _));exact BK103.out):p:=h
theorem qB96 {p:Prop} (h:p:=by repeat(first|(with_reducible first|exact HK.out|apply Kept.alloc|apply Kept.drewN|apply Kept.drew)|exact HK.out)):p:=h
theorem qB95 {p:Prop} (h:p:=by repeat(first|(with_reducible first|exact HB.out|apply below_alloc|apply pw_below_drewN|apply below_drew1)|exact HB.out)):p:=h
theorem qB94 {p:Prop} (h:p:=by (with_reducible repeat(first|apply Kd.R_alloc|apply Kd.R_drewN|apply Kd.R_drew));exact Kd.R_mono HO482.out (fun _ hk=>hk.2)):p:=h
theorem qB93 {p:Prop} (h:p:=by (with_reducible repeat(first|apply Kd.R_alloc|apply Kd.R_drewN|apply Kd.R_drew));exact Kd.R_mono HO470.out (fun _ hk=>hk.2)):p:=h
theorem qB92 {p:Prop} (h:p:=by (with_reducible repeat(first|apply Kd.R_alloc|apply Kd.R_drewN|apply Kd.R_drew));exact Kd.R_mono HO294.out (fun _ hk=>hk.2)):p:=h
theorem qB91 {p:Prop} (h:p:=by (with_reducible repeat(first|apply Kd.R_alloc|apply Kd.R_drewN|apply Kd.R_drew));exact Kd.R_mono HO_291001.out (fun _ hk=>hk.2)):p:=h
theorem qB90 {p:Prop} (h:p:=by (try simp only [List.map_toArray,List.map_cons,List.map_nil]);first|done|rfl|(simp only [List.length_drop,List.length_take];rfl)):p:=h
theorem qB89 {p:Prop} (h:p:=by (with_reducible repeat(first|apply Kd.R_alloc|apply Kd.R_drewN|apply Kd.R_drew));exact Kd.R_mono HO_7.out (fun _ hk=>⟨hk.2,hk.1⟩)):p:=h
theorem qB88 {p:Prop} (h:p:=by (with_reducible repeat(first|apply Kd.R_alloc|apply Kd.R_drewN|apply Kd.R_drew));exact Kd.R_mono HO_6.out (fun _ hk=>⟨hk.2,hk.1⟩)):p:=h
theorem qB87 {p:Prop} (h:p:=by (with_reducible repeat(first|apply Kd.R_alloc|apply Kd.R_drewN|apply Kd.R_drew));exact Kd.R_mono HO294.out (fun _ hk=>⟨hk.2,hk.1⟩)):p:=h
theorem qB86 {p:Prop} (h:p:=by (with_reducible repeat(first|apply Kd.R_alloc|apply Kd.R_drewN|apply Kd.R_drew));exact Kd.R_mono HO498.out (fun _ hk=>⟨hk.1.2,hk.2⟩)):p:=h
theorem qB85 {p:Prop} (h:p:=by (with_reducible repeat(first|apply Kd.R_alloc|apply Kd.R_drewN|apply Kd.R_drew));exact Kd.R_mono HO372.out (fun _ hk=>⟨hk.1.1,hk.2⟩)):p:=h
theorem qB84 {p:Prop} (h:p:=by (with_reducible repeat(first|apply Kd.R_alloc|apply Kd.R_drewN|apply Kd.R_drew));exact Kd.R_mono HO298.out (fun _ hk=>⟨hk.2,hk.1.2⟩)):p:=h
theorem qB83 {p:Prop} (h:p:=by (with_reducible repeat(first|apply Kd.R_alloc|apply Kd.R_drewN|apply Kd.R_drew));exact Kd.R_mono HO212.out (fun _ hk=>⟨hk.1.2,hk.2⟩)):p:=h
theorem qB82 {p:Prop} (h:p:=by (with_reducible repeat(first|apply Kd.R_alloc|apply Kd.R_drewN|apply Kd.R_drew));exact Kd.R_mono HO_485001.out (fun _ hk=>⟨hk.2,hk.1⟩)):p:=h
theorem qB81 {p:Prop} (h:p:=by (with_reducible repeat(first|apply Kd.R_alloc|apply Kd.R_drewN|apply Kd.R_drew));exact Kd.R_mono HO_473001.out (fun _ hk=>⟨hk.2,hk.1⟩)):p:=h
theorem qB80 {p:Prop} (h:p:=by repeat(first|(with_reducible first|exact HK.out|apply KeepBut.set_|apply keep_drewN|apply keep_drew|apply keep_alloc)|exact HK.out)):p:=h
theorem qB79 {p:Prop} (h:p:=by (with_reducible repeat(first|apply Kd.R_alloc|apply Kd.R_drewN|apply Kd.R_drew));exact Kd.R_mono HO_7.out (fun _ hk=>⟨hk.1.1,⟨hk.2,hk.1.2⟩⟩)):p:=h
theorem qB78 {p:Prop} (h:p:=by (with_reducible repeat(first|apply Kd.R_alloc|apply Kd.R_drewN|apply Kd.R_drew));exact Kd.R_mono HO_6.out (fun _ hk=>⟨hk.1.1,⟨hk.2,hk.1.2⟩⟩)):p:=h
theorem qB77 {p:Prop} (h:p:=by (with_reducible repeat(first|apply Kd.R_alloc|apply Kd.R_drewN|apply Kd.R_drew));exact Kd.R_mono HO298.out (fun _ hk=>⟨hk.1.1,⟨hk.2,hk.1.2⟩⟩)):p:=h
theorem qB76 {p:Prop} (h:p:=by (with_reducible repeat(first|apply Kd.R_alloc|apply Kd.R_drewN|apply Kd.R_drew));exact Kd.R_mono HO294.out (fun _ hk=>⟨hk.1.1,⟨hk.2,hk.1.2⟩⟩)):p:=h
theorem qB75 {p:Prop} (h:p:=by (with_reducible repeat(first|apply Kd.R_alloc|apply Kd.R_drewN|apply Kd.R_drew));exact Kd.R_mono HO212.out (fun _ hk=>⟨hk.2,⟨hk.1.1,hk.1.2⟩⟩)):p:=h
theorem qB74 {p:Prop} (h:p:=by (with_reducible repeat(first|apply Kd.R_alloc|apply Kd.R_drewN|apply Kd.R_drew));exact Kd.R_mono HO302.out (fun _ hk=>⟨hk.1.2,⟨hk.2,hk.1.1.2⟩⟩)):p:=h
theorem qB73 {p:Prop} (h:p:=by (with_reducible repeat(first|apply Kd.R_alloc|apply Kd.R_drewN|apply Kd.R_drew));exact Kd.R_mono HO216.out (fun _ hk=>⟨hk.2,⟨hk.1.1.2,hk.1.2⟩⟩)):p:=h
theorem qB72 {p:Prop} (h:p:=by (with_reducible repeat(first|apply Kd.R_alloc|apply Kd.R_drewN|apply Kd.R_drew));exact Kd.R_mono HO_291001.out (fun _ hk=>⟨hk.1.1,⟨hk.1.2,hk.2⟩⟩)):p:=h
theorem qB71 {p:Prop} (h:p:=by repeat(first|(with_reducible first|exact HB.out|apply below_alloc|apply pw_below_drewN|apply below_drew1|refine below_set ?_ GE459.out)|exact HB.out)):p:=h
theorem qB70 {p:Prop} (h:p:=by repeat(first|(with_reducible first|exact HB.out|apply below_alloc|apply pw_below_drewN|apply below_drew1|refine below_set ?_ GE442.out)|exact HB.out)):p:=h
theorem qB69 {p:Prop} (h:p:=by repeat(first|(with_reducible first|exact HB.out|apply below_alloc|apply pw_below_drewN|apply below_drew1|refine below_set ?_ GE439.out)|exact HB.out)):p:=h
theorem qB68 {p:Prop} (h:p:=by repeat(first|(with_reducible first|exact HB.out|apply below_alloc|apply pw_below_drewN|apply below_drew1|refine below_set ?_ GE418.out)|exact HB.out)):p:=h
theorem qB67 {p:Prop} (h:p:=by repeat(first|(with_reducible first|exact HB.out|apply below_alloc|apply pw_below_drewN|apply below_drew1|refine below_set ?_ GE414.out)|exact HB.out)):p:=h
theorem qB66 {p:Prop} (h:p:=by repeat(first|(with_reducible first|exact HB.out|apply below_alloc|apply pw_below_drewN|apply below_drew1|refine below_set ?_ GE395.out)|exact HB.out)):p:=h
theorem qB65 {p:Prop} (h:p:=by repeat(first|(with_reducible first|exact HB.out|apply below_alloc|apply pw_below_drewN|apply below_drew1|refine below_set ?_ GE337.out)|exact HB.out)):p:=h
theorem qB64 {p:Prop} (h:p:=by repeat(first|(with_reducible first|exact HB.out|apply below_alloc|apply pw_below_drewN|apply below_drew1|refine below_set ?_ GE320.out)|exact HB.out)):p:=h
theorem qB63 {p:Prop} (h:p:=by repeat(first|(with_reducible first|exact HB.out|apply below_alloc|apply pw_below_drewN|apply below_drew1|refine below_set ?_ GE282.out)|exact HB.out)):p:=h
theorem qB62 {p:Prop} (h:p:=by repeat(first|(with_reducible first|exact HB.out|apply below_alloc|apply pw_below_drewN|apply below_drew1|refine below_set ?_ GE272.out)|exact HB.out)):p:=h
theorem qB61 {p:Prop} (h:p:=by repeat(first|(with_reducible first|exact HB.out|apply below_alloc|apply pw_below_drewN|apply below_drew1|refine below_set ?_ GE266.out)|exact HB.out)):p:=h
theorem qB60 {p:Prop} (h:p:=by repeat(first|(with_reducible first|exact HB.out|apply below_alloc|apply pw_below_drewN|apply below_drew1|refine below_set ?_ GE254.out)|exact HB.out)):p:=h
theorem qB59 {p:Prop} (h:p:=by repeat(first|(with_reducible first|exact HB.out|apply below_alloc|apply pw_below_drewN|apply below_drew1|refine below_set ?_ GE243.out)|exact HB.out)):p:=h
theorem qB58 {p:Prop} (h:p:=by repeat(first|(with_reducible first|exact HB.out|apply below_alloc|apply pw_below_drewN|apply below_drew1|refine below_set ?_ GE234.out)|exact HB.out)):p:=h
theorem qB57 {p:Prop} (h:p:=by repeat(first|(with_reducible first|exact HB.out|apply below_alloc|apply pw_below_drewN|apply below_drew1|refine below_set ?_ GE192.out)|exact HB.out)):p:=h
theorem qB56 {p:Prop} (h:p:=by repeat(first|(with_reducible first|exact HB.out|apply below_alloc|apply pw_below_drewN|apply below_drew1|refine below_set ?_ GE179.out)|exact HB.out)):p:=h
theorem qB55 {p:Prop} (h:p:=by repeat(first|(with_reducible first|exact HB.out|apply below_alloc|apply pw_below_drewN|apply below_drew1|refine below_set ?_ GE161.out)|exact HB.out)):p:=h
theorem qB54 {p:Prop} (h:p:=by repeat(first|(with_reducible first|exact HB.out|apply below_alloc|apply pw_below_drewN|apply below_drew1|refine below_set ?_ GE124.out)|exact HB.out)):p:=h
theorem qB53 {p:Prop} (h:p:=by repeat(first|(with_reducible first|exact HB.out|apply below_alloc|apply pw_below_drewN|apply below_drew1|refine below_set ?_ GE119.out)|exact HB.out)):p:=h
theorem qB52 {p:Prop} (h:p:=by repeat(first|(with_reducible first|exact HB.out|apply below_alloc|apply pw_below_drewN|apply below_drew1|refine below_set ?_ GE110.out)|exact HB.out)):p:=h
theorem qB51 {p:Prop} (h:p:=by repeat(first|(with_reducible first|exact HB.out|apply below_alloc|apply pw_below_drewN|apply below_drew1|refine below_set ?_ GE103.out)|exact HB.out)):p:=h
theorem qB50 {p:Prop} (h:p:=by (with_reducible repeat(first|apply Kd.R_alloc|apply Kd.R_drewN|apply Kd.R_drew));exact Kd.R_mono HO302.out (fun _ hk=>⟨hk.1.1,⟨hk.1.2.1,⟨hk.2,hk.1.2.2⟩⟩⟩)):p:=h
theorem qB49 {p:Prop} (h:p:=by (with_reducible repeat(first|apply Kd.R_alloc|apply Kd.R_drewN|apply Kd.R_drew));exact Kd.R_mono HO298.out (fun _ hk=>⟨hk.1.1,⟨hk.1.2.1,⟨hk.2,hk.1.2.2⟩⟩⟩)):p:=h
theorem qB48 {p:Prop} (h:p:=by (with_reducible repeat(first|apply Kd.R_alloc|apply Kd.R_drewN|apply Kd.R_drew));exact Kd.R_mono HO294.out (fun _ hk=>⟨hk.1.1,⟨hk.1.2.1,⟨hk.2,hk.1.2.2⟩⟩⟩)):p:=h
theorem qB47 {p:Prop} (h:p:=by (with_reducible repeat(first|apply Kd.R_alloc|apply Kd.R_drewN|apply Kd.R_drew));exact Kd.R_mono HO306.out (fun _ hk=>⟨hk.1.1.2,⟨hk.1.2,⟨hk.2,hk.1.1.1.2⟩⟩⟩)):p:=h
theorem qB46 {p:Prop} (h:p:=by (with_reducible repeat(first|apply Kd.R_alloc|apply Kd.R_drewN|apply Kd.R_drew));exact Kd.R_mono HO_291001.out (fun _ hk=>⟨hk.1.1,⟨hk.1.2.1,⟨hk.1.2.2,hk.2⟩⟩⟩)):p:=h
theorem qB45 {p:Prop} (h:p:=by repeat(first|(with_reducible first|exact HI0.out|apply IsS131.alloc|apply IsS131.drewN|apply IsS131.drew|apply IsS131.set_0|apply IsS131.set_1)|exact HI0.out)):p:=h
theorem qB44 {p:Prop} (h:p:=by repeat(first|(with_reducible first|exact HB.out|apply below_alloc|apply pw_below_drewN|apply below_drew1|refine below_set ?_ GE459.out|refine below_set ?_ GE460.out)|exact HB.out)):p:=h
theorem qB43 {p:Prop} (h:p:=by repeat(first|(with_reducible first|exact HB.out|apply below_alloc|apply pw_below_drewN|apply below_drew1|refine below_set ?_ GE442.out|refine below_set ?_ GE443.out)|exact HB.out)):p:=h
theorem qB42 {p:Prop} (h:p:=by repeat(first|(with_reducible first|exact HB.out|apply below_alloc|apply pw_below_drewN|apply below_drew1|refine below_set ?_ GE418.out|refine below_set ?_ GE419.out)|exact HB.out)):p:=h
theorem qB41 {p:Prop} (h:p:=by repeat(first|(with_reducible first|exact HB.out|apply below_alloc|apply pw_below_drewN|apply below_drew1|refine below_set ?_ GE320.out|refine below_set ?_ GE321.out)|exact HB.out)):p:=h
theorem qB40 {p:Prop} (h:p:=by repeat(first|(with_reducible first|exact HB.out|apply below_alloc|apply pw_below_drewN|apply below_drew1|refine below_set ?_ GE282.out|refine below_set ?_ GE283.out)|exact HB.out)):p:=h
theorem qB39 {p:Prop} (h:p:=by repeat(first|(with_reducible first|exact HB.out|apply below_alloc|apply pw_below_drewN|apply below_drew1|refine below_set ?_ GE272.out|refine below_set ?_ GE273.out)|exact HB.out)):p:=h
theorem qB38 {p:Prop} (h:p:=by repeat(first|(with_reducible first|exact HB.out|apply below_alloc|apply pw_below_drewN|apply below_drew1|refine below_set ?_ GE266.out|refine below_set ?_ GE267.out)|exact HB.out)):p:=h
theorem qB37 {p:Prop} (h:p:=by repeat(first|(with_reducible first|exact HB.out|apply below_alloc|apply pw_below_drewN|apply below_drew1|refine below_set ?_ GE254.out|refine below_set ?_ GE255.out)|exact HB.out)):p:=h
theorem qB36 {p:Prop} (h:p:=by repeat(first|(with_reducible first|exact HB.out|apply below_alloc|apply pw_below_drewN|apply below_drew1|refine below_set ?_ GE243.out|refine below_set ?_ GE244.out)|exact HB.out)):p:=h
theorem qB35 {p:Prop} (h:p:=by repeat(first|(with_reducible first|exact HB.out|apply below_alloc|apply pw_below_drewN|apply below_drew1|refine below_set ?_ GE192.out|refine below_set ?_ GE193.out)|exact HB.out)):p:=h
theorem qB34 {p:Prop} (h:p:=by repeat(first|(with_reducible first|exact HB.out|apply below_alloc|apply pw_below_drewN|apply below_drew1|refine below_set ?_ GE179.out|refine below_set ?_ GE180.out)|exact HB.out)):p:=h
theorem qB33 {p:Prop} (h:p:=by repeat(first|(with_reducible first|exact HB.out|apply below_alloc|apply pw_below_drewN|apply below_drew1|refine below_set ?_ GE119.out|refine below_set ?_ GE120.out)|exact HB.out)):p:=h
theorem qB32 {p:Prop} (h:p:=by repeat(first|(with_reducible first|exact HB.out|apply below_alloc|apply pw_below_drewN|apply below_drew1|refine below_set ?_ GE110.out|refine below_set ?_ GE111.out)|exact HB.out)):p:=h
theorem qB31 {p:Prop} (h:p:=by first|(simp only [putAll,Act.put,List.setIfInBounds_toArray,List.set_cons_zero,List.set_cons_succ];done)|(simp only [putAll,Act.put,List.setIfInBounds_toArray,List.set_cons_zero,List.set_cons_succ];rfl)):p:=h
theorem qB30 {p:Prop} (h:p:=by repeat(first|(with_reducible first|exact HB.out|apply below_alloc|apply pw_below_drewN|apply below_drew1|refine below_set ?_ GE459.out|refine below_set ?_ GE460.out|refine below_set ?_ GE472.out)|exact HB.out)):p:=h
theorem qB29 {p:Prop} (h:p:=by repeat(first|(with_reducible first|exact HB.out|apply below_alloc|apply pw_below_drewN|apply below_drew1|refine below_set ?_ GE442.out|refine below_set ?_ GE443.out|refine below_set ?_ GE444.out)|exact HB.out)):p:=h
theorem qB28 {p:Prop} (h:p:=by repeat(first|(with_reducible first|exact HB.out|apply below_alloc|apply pw_below_drewN|apply below_drew1|refine below_set ?_ GE282.out|refine below_set ?_ GE283.out|refine below_set ?_ GE284.out)|exact HB.out)):p:=h
theorem qB27 {p:Prop} (h:p:=by repeat(first|(with_reducible first|exact HB.out|apply below_alloc|apply pw_below_drewN|apply below_drew1|refine below_set ?_ GE272.out|refine below_set ?_ GE273.out|refine below_set ?_ GE274.out)|exact HB.out)):p:=h
theorem qB26 {p:Prop} (h:p:=by repeat(first|(with_reducible first|exact HB.out|apply below_alloc|apply pw_below_drewN|apply below_drew1|refine below_set ?_ GE192.out|refine below_set ?_ GE193.out|refine below_set ?_ GE194.out)|exact HB.out)):p:=h
theorem qB25 {p:Prop} (h:p:=by repeat(first|(with_reducible first|exact HB.out|apply below_alloc|apply pw_below_drewN|apply below_drew1|refine below_set ?_ GE459.out|refine below_set ?_ GE460.out|refine below_set ?_ GE472.out|refine below_set ?_ GE484.out)|exact HB.out)):p:=h
theorem qB24 {p:Prop} (h:p:=by repeat(first|(with_reducible first|exact HB.out|apply below_alloc|apply pw_below_drewN|apply below_drew1|refine below_set ?_ GE282.out|refine below_set ?_ GE283.out|refine below_set ?_ GE284.out|refine below_set ?_ GE290.out)|exact HB.out)):p:=h
theorem qB23 {p:Prop} (h:p:=by repeat(first|(with_reducible first|exact HB.out|apply below_alloc|apply pw_below_drewN|apply below_drew1|refine below_set ?_ GE272.out|refine below_set ?_ GE273.out|refine below_set ?_ GE274.out|refine below_set ?_ GE278.out)|exact HB.out)):p:=h
theorem qB22 {p:Prop} (h:p:=by repeat(first|(with_reducible first|exact HB.out|apply below_alloc|apply pw_below_drewN|apply below_drew1|refine below_set ?_ GE192.out|refine below_set ?_ GE193.out|refine below_set ?_ GE194.out|refine below_set ?_ GE218.out)|exact HB.out)):p:=h
theorem qB21 {p:Prop} (h:p:=by repeat(first|(with_reducible first|exact HB.out|apply below_alloc|apply pw_below_drewN|apply below_drew1|refine below_set ?_ GE192.out|refine below_set ?_ GE193.out|refine below_set ?_ GE194.out|refine below_set ?_ GE217.out)|exact HB.out)):p:=h
theorem qB20 {p:Prop} (h:p:=by repeat(first|(with_reducible first|exact HB.out|apply below_alloc|apply pw_below_drewN|apply below_drew1|refine below_set ?_ GE459.out|refine below_set ?_ GE460.out|refine below_set ?_ GE472.out|refine below_set ?_ GE484.out|refine below_set ?_ GE500.out)|exact HB.out)):p:=h
theorem qB19 {p:Prop} (h:p:=by repeat(first|(with_reducible first|exact HB.out|apply below_alloc|apply pw_below_drewN|apply below_drew1|refine below_set ?_ GE282.out|refine below_set ?_ GE283.out|refine below_set ?_ GE284.out|refine below_set ?_ GE290.out|refine below_set ?_ GE308.out)|exact HB.out)):p:=h
theorem qB18 {p:Prop} (h:p:=by repeat(first|(with_reducible first|exact HB.out|apply below_alloc|apply pw_below_drewN|apply below_drew1|refine below_set ?_ GE192.out|refine below_set ?_ GE193.out|refine below_set ?_ GE194.out|refine below_set ?_ GE217.out|refine below_set ?_ GE218.out)|exact HB.out)):p:=h
theorem qB17 {p:Prop} (h:p:=by repeat(first|(with_reducible first|exact HB.out|apply below_alloc|apply pw_below_drewN|apply below_drew1|refine below_set ?_ GE192.out|refine below_set ?_ GE193.out|refine below_set ?_ GE194.out|refine below_set ?_ GE218.out|refine below_set ?_ GE217.out)|exact HB.out)):p:=h
theorem qB16 {p:Prop} (h:p:=by repeat(first|(with_reducible first|exact HB.out|apply below_alloc|apply pw_below_drewN|apply below_drew1|refine below_set ?_ GE192.out|refine below_set ?_ GE193.out|refine below_set ?_ GE194.out|refine below_set ?_ GE217.out|refine below_set ?_ GE218.out|refine below_set ?_ GE223.out)|exact HB.out)):p:=h
theorem qB15 {p:Prop} (h:p:=by (with_reducible repeat(first|apply Kd.R_alloc|apply Kd.R_drewN|apply Kd.R_drew));exact(Kd.R_mono (Kd.R_far (p:=⟨gb500,1,none⟩) (Kd.R_far (p:=⟨gb500,0,none⟩) (Kd.R_types HO498.out BK500.out (by decide)) (fun _ hk=>hk.2) (.int .i64 t495)) (fun _ hk=>hk.2) (.slice Ao79 t496.length co79)) (fun _ h_=>h_.1))):p:=h
theorem qB14 {p:Prop} (h:p:=by (with_reducible repeat(first|apply Kd.R_alloc|apply Kd.R_drewN|apply Kd.R_drew));exact(Kd.R_mono (Kd.R_far (p:=⟨gb484,1,none⟩) (Kd.R_far (p:=⟨gb484,0,none⟩) (Kd.R_types HO470.out BK484.out (by decide)) (fun _ hk=>hk.2) (.int .i64 t479)) (fun _ hk=>hk.2) (.slice Ao29 t480.length co29)) (fun _ h_=>h_.1))):p:=h
theorem qB13 {p:Prop} (h:p:=by (with_reducible repeat(first|apply Kd.R_alloc|apply Kd.R_drewN|apply Kd.R_drew));exact(Kd.R_mono (Kd.R_far (p:=⟨gb484,1,none⟩) (Kd.R_far (p:=⟨gb484,0,none⟩) (Kd.R_types HO482.out BK484.out (by decide)) (fun _ hk=>hk.2) (.int .i64 t479)) (fun _ hk=>hk.2) (.slice Ao29 t480.length co29)) (fun _ h_=>h_.1))):p:=h
theorem qB12 {p:Prop} (h:p:=by (with_reducible repeat(first|apply Kd.R_alloc|apply Kd.R_drewN|apply Kd.R_drew));exact(Kd.R_mono (Kd.R_far (p:=⟨gb308,1,none⟩) (Kd.R_far (p:=⟨gb308,0,none⟩) (Kd.R_types HO302.out BK308.out (by decide)) (fun _ hk=>hk.2) (.int .i64 t303)) (fun _ hk=>hk.2) (.slice Ao44 t304.length co44)) (fun _ h_=>h_.1))):p:=h
theorem qB11 {p:Prop} (h:p:=by (with_reducible repeat(first|apply Kd.R_alloc|apply Kd.R_drewN|apply Kd.R_drew));exact(Kd.R_mono (Kd.R_far (p:=⟨gb308,1,none⟩) (Kd.R_far (p:=⟨gb308,0,none⟩) (Kd.R_types HO298.out BK308.out (by decide)) (fun _ hk=>hk.2) (.int .i64 t303)) (fun _ hk=>hk.2) (.slice Ao44 t304.length co44)) (fun _ h_=>h_.1))):p:=h
theorem qB10 {p:Prop} (h:p:=by (with_reducible repeat(first|apply Kd.R_alloc|apply Kd.R_drewN|apply Kd.R_drew));exact(Kd.R_mono (Kd.R_far (p:=⟨gb308,1,none⟩) (Kd.R_far (p:=⟨gb308,0,none⟩) (Kd.R_types HO294.out BK308.out (by decide)) (fun _ hk=>hk.2) (.int .i64 t303)) (fun _ hk=>hk.2) (.slice Ao44 t304.length co44)) (fun _ h_=>h_.1))):p:=h
theorem qB9 {p:Prop} (h:p:=by (with_reducible repeat(first|apply Kd.R_alloc|apply Kd.R_drewN|apply Kd.R_drew));exact(Kd.R_mono (Kd.R_far (p:=⟨gb308,1,none⟩) (Kd.R_far (p:=⟨gb308,0,none⟩) (Kd.R_types HO306.out BK308.out (by decide)) (fun _ hk=>hk.2) (.int .i64 t303)) (fun _ hk=>hk.2) (.slice Ao44 t304.length co44)) (fun _ h_=>h_.1))):p:=h
theorem qB8 {p:Prop} (h:p:=by (with_reducible repeat(first|apply Kd.R_alloc|apply Kd.R_drewN|apply Kd.R_drew));exact(Kd.R_mono (Kd.R_far (p:=⟨gb500,1,none⟩) (Kd.R_far (p:=⟨gb500,0,none⟩) (Kd.R_types HO_473001.out BK500.out (by decide)) (fun _ hk=>hk.2) (.int .i64 t495)) (fun _ hk=>hk.2) (.slice Ao79 t496.length co79)) (fun _ h_=>h_.1))):p:=h
theorem qB7 {p:Prop} (h:p:=by (with_reducible repeat(first|apply Kd.R_alloc|apply Kd.R_drewN|apply Kd.R_drew));exact(Kd.R_mono (Kd.R_far (p:=⟨gb308,1,none⟩) (Kd.R_far (p:=⟨gb308,0,none⟩) (Kd.R_types HO_291001.out BK308.out (by decide)) (fun _ hk=>hk.2) (.int .i64 t303)) (fun _ hk=>hk.2) (.slice Ao44 t304.length co44)) (fun _ h_=>h_.1))):p:=h
theorem qB6 {p:Prop} (h:p:=by (with_reducible repeat(first|refine blk_drewN ?_ _|refine blk_drew ?_|refine blk_alloc ?_ _));refine blk_put (cs:=#[.int .i64 t172,.slice none 0 0]) ?_ 1 _ rfl;(with_reducible repeat(first|refine blk_drewN ?_ _|refine blk_drew ?_|refine blk_alloc ?_ _));refine blk_put (cs:=#[.int .i64 0,.slice none 0 0]) ?_ 0 _ rfl;(with_reducible repeat(first|refine blk_drewN ?_ _|refine blk_drew ?_|refine blk_alloc ?_ _));exact BK161.out):p:=h
theorem qB5 {p:Prop} (h:p:=by (with_reducible repeat(first|refine blk_drewN ?_ _|refine blk_drew ?_|refine blk_alloc ?_ _));refine blk_put (cs:=#[.int .i64 t219,.slice none 0 0]) ?_ 1 _ rfl;(with_reducible repeat(first|refine blk_drewN ?_ _|refine blk_drew ?_|refine blk_alloc ?_ _));refine blk_put (cs:=#[.int .i64 x195000_2,.slice none 0 0]) ?_ 0 _ rfl;(with_reducible repeat(first|refine blk_drewN ?_ _|refine blk_drew ?_|refine blk_alloc ?_ _));exact BK194.out):p:=h
theorem qB4 {p:Prop} (h:p:=by (with_reducible repeat(first|apply Kd.R_alloc|apply Kd.R_drewN|apply Kd.R_drew));exact(Kd.R_mono (Kd.R_mono (Kd.R_far (p:=⟨gb218,1,none⟩) (Kd.R_far (p:=⟨gb218,0,none⟩) (Kd.R_far (p:=⟨gb217,1,none⟩) (Kd.R_far (p:=⟨gb217,0,none⟩) (Kd.R_types (Kd.R_types HO_7.out BK217.out (by decide)) BK218.out (by decide)) (fun _ hk=>hk.1.2) (.int .i64 t209)) (fun _ hk=>hk.1.2) (.slice Ao35 t210.length co35)) (fun _ hk=>hk.2) (.int .i64 t213)) (fun _ hk=>hk.2) (.slice Ao38 t214.length co38)) (fun _ h_=>h_.1)) (fun _ h_=>h_.1))):p:=h
theorem qB3 {p:Prop} (h:p:=by (with_reducible repeat(first|apply Kd.R_alloc|apply Kd.R_drewN|apply Kd.R_drew));exact(Kd.R_mono (Kd.R_mono (Kd.R_far (p:=⟨gb218,1,none⟩) (Kd.R_far (p:=⟨gb218,0,none⟩) (Kd.R_far (p:=⟨gb217,1,none⟩) (Kd.R_far (p:=⟨gb217,0,none⟩) (Kd.R_types (Kd.R_types HO_6.out BK217.out (by decide)) BK218.out (by decide)) (fun _ hk=>hk.1.2) (.int .i64 t209)) (fun _ hk=>hk.1.2) (.slice Ao35 t210.length co35)) (fun _ hk=>hk.2) (.int .i64 t213)) (fun _ hk=>hk.2) (.slice Ao38 t214.length co38)) (fun _ h_=>h_.1)) (fun _ h_=>h_.1))):p:=h
theorem qB2 {p:Prop} (h:p:=by (with_reducible repeat(first|apply Kd.R_alloc|apply Kd.R_drewN|apply Kd.R_drew));exact(Kd.R_mono (Kd.R_mono (Kd.R_far (p:=⟨gb218,1,none⟩) (Kd.R_far (p:=⟨gb218,0,none⟩) (Kd.R_far (p:=⟨gb217,1,none⟩) (Kd.R_far (p:=⟨gb217,0,none⟩) (Kd.R_types (Kd.R_types HO216.out BK217.out (by decide)) BK218.out (by decide)) (fun _ hk=>hk.1.2) (.int .i64 t209)) (fun _ hk=>hk.1.2) (.slice Ao35 t210.length co35)) (fun _ hk=>hk.2) (.int .i64 t213)) (fun _ hk=>hk.2) (.slice Ao38 t214.length co38)) (fun _ h_=>h_.1)) (fun _ h_=>h_.1))):p:=h
theorem qB1 {p:Prop} (h:p:=by (with_reducible repeat(first|apply Kd.R_alloc|apply Kd.R_drewN|apply Kd.R_drew));exact(Kd.R_mono (Kd.R_mono (Kd.R_far (p:=⟨gb218,1,none⟩) (Kd.R_far (p:=⟨gb218,0,none⟩) (Kd.R_far (p:=⟨gb217,1,none⟩) (Kd.R_far (p:=⟨gb217,0,none⟩) (Kd.R_types (Kd.R_types HO212.out BK217.out (by decide)) BK218.out (by decide)) (fun _ hk=>hk.1.2) (.int .i64 t209)) (fun _ hk=>hk.1.2) (.slice Ao35 t210.length co35)) (fun _ hk=>hk.2) (.int .i64 t213)) (fun _ hk=>hk.2) (.slice Ao38 t214.length co38)) (fun _ h_=>h_.1)) (fun _ h_=>h_.1))):p:=h
end Go.Proofs.Ytefhabkikaadiaa.PFnExactOrthogonalSum
