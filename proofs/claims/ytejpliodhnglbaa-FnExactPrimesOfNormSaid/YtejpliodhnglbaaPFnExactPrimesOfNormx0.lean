/- The functions that the law reaches, as plain functions, each with the proof that the program comes to it; no condition. Written by a program of this session (wip/mp.py) over the printing of the kit; what is marked HAND is told by hand. -/
import Derived.Test.YtejpliodhnglbaaKFnExactPrimesOfNorm
import Derived.Test.YtejpliodhnglbaaProg
import Derived.Below
import Derived.Deep.Draws
import Derived.Deep.AppendLies
import Derived.Maps.AppendAt
import Derived.OwnWalk
import Derived.Laws.BytesArg
import Derived.Laws.MakeOwn
import Derived.Laws.OwnMore
import Derived.Deep.OwnRows
import Derived.Tactics
import Derived.Lib.ConvBytes
import Derived.Laws.Slices
import Derived.WalkKit
import Derived.KernelRfl
import Derived.RowKit3
import Derived.Deep.LoopGhost
import Derived.Deep.QuietTactic
import Derived.BigQuiet
import Derived.WideLaws
import Derived.Deep.DeepCutAuto
import Derived.Deep.CutBlock
import Derived.Deep.RegionHeld3
import Derived.Laws.Rows
import Derived.Lib.AppendStr
import Derived.ArgAppend
import Derived.Laws.IdiomCopy
import Derived.OrdersHeld
import Derived.Laws.BitsLemmas
import Derived.RowKit
import Derived.WalkSpells
import Derived.Laws.CopyOwn
namespace Go.Proofs.Ytejpliodhnglbaa.PFnExactPrimesOfNorm
open Go.RowKit Go.Proofs.YtejpliodhnglbaaW.PrintWords Go.Proofs.YtejpliodhnglbaaW.PrintLast Go.Proofs.YtejpliodhnglbaaW.PrintMore
attribute [local go_sem] max2_int min2_int max_two min_two max_three min_three max_four min_four   -- for this text's walks alone
set_option linter.unusedVariables false
set_option linter.unusedSimpArgs false



def errW:Option Int→Value
  |none=>.nilIface
  |some c=>.iface 0 (.int .i64 c)
theorem errW_none:errW none=.nilIface:=rfl
theorem errW_some (c:Int):errW (some c)=.iface 0 (.int .i64 c):=rfl

theorem info2:(Try.prog.info? 2).map (fun i=>(i.zero,i.size,i.bytes))=some (some (.int .i64 0),1,8):=by kernel_rfl
theorem info26:(Try.prog.info? 26).map (fun i=>(i.zero,i.size,i.bytes))=some (some (.agg #[(.int .i64 0),(.slice none 0 0)]),2,32):=by kernel_rfl
theorem info54:(Try.prog.info? 54).map (fun i=>(i.zero,i.size,i.bytes))=some (some (.agg #[(.int .i64 0),(.int .i64 0)]),2,16):=by kernel_rfl

theorem hro_cell {w w1:World} {g:Nat} {a:Addr} {v:Value} (hg:w.grownBy w1 (some g)) (h:w.cell? a=some v) (hne:a.block≠g):w1.cell? a=some v:=
  (World.cell?_of_block (hg.block _ (World.block_lt_of_cell? w a h) (fun e=>hne (by injection e)))).trans h
theorem hand_drewN_set (w:World) (n:Nat) (p:Addr) (v:Value):(w.drewN n).setCell p v=(w.setCell p v).drewN n:=rfl
theorem hand_drew_set (w:World) (p:Addr) (v:Value):w.drew.setCell p v=(w.setCell p v).drew:=rfl
theorem hand_V_orR {α:Type} {d:Kd α} {e:Nat} {w:World} {base:Nat} {P Q S:Nat→Prop} {v:Value} {xs:List α} (h:Kd.R d e w base (fun k=>Q k∧S k) v xs):Kd.V d e w base (fun k=>(P k∨Q k)∧S k) v xs:=
  Kd.V_mono (Kd.R_V h) (fun _ hk=>⟨.inr hk.1,hk.2⟩)
theorem hand_V_blk {e base n c g:Nat} {ok:Nat→Prop} {W:World} {ad:Addr} {xs:List Int} {ik:IntKind} (h:Kd.V (Kd.int ik) e W base ok (.slice (some ad) n c) xs) (hn:decide (0<(xs.length:Int))=true) (hok:∀k,ok k→k≠g):ad.block≠g:=by
  intro hg;have hn':0<xs.length:=by simpa using hn
  obtain⟨a1,h1,c1⟩:=Kd.at_int (Kd.V_reads' h).2.2 0 (by omega) (by omega);cases h1
  have hv:=Kd.V_far (p:=ad.add 0) h (fun k hk=>by rw [add_block,hg];exact hok k hk) (.bool true);obtain⟨a2,h2,c2⟩:=Kd.at_int (Kd.V_reads' hv).2.2 0 (by omega) (by omega);cases h2
  have c3:(W.setCell (ad.add 0) (.bool true)).cell? (ad.add (Int.toNat 0))=some (.bool true):=World.cell?_setCell_same' W (ad.add 0) (.bool true) (by rw [show W.cell? (ad.add 0)=_ from c1];rfl);rw [c3] at c2;cases c2

-- the values' own types
def rd_L1 (xs:List (List Int)) (i:Int):(List Int):=xs.getD i.toNat ([]:List Int)
theorem at_L1 {w:World} {A:Option Addr} {n:Nat} {xs:List (List Int)} (h:Kd.C (Kd.slice 2 (Kd.int .i64)) w A n xs) (i:Int) (h0:0≤i) (h1:i<n):∃ad A0 c0,A=some ad∧w.cell? (ad.add i.toNat)=some (.slice A0 (rd_L1 xs i).length c0)∧(rd_L1 xs i).length≤c0∧(Kd.int .i64).C w A0 (rd_L1 xs i).length (rd_L1 xs i):=by
  obtain⟨ad,c,e,_,hK,hc0⟩:=Kd.C_get h ([]:List Int) i h0 h1;have hc:∀j u,c[j]? =some u→w.cell? (ad.add (i.toNat*1+j))=some u:=hc0;obtain⟨A0,c0,rfl,l0,g0⟩:=hK;exact⟨ad,A0,c0,e,by have hq:=hc 0 _ rfl;rwa [Nat.mul_one,Nat.add_zero] at hq,l0,g0⟩

/-! #### struct type 26 -/
structure S26 where
  f0:Int
  f1:(List Int)
def z26:S26:=⟨(0:Int),([]:List Int)⟩
def k26:Kd S26:=Kd.iso (Kd.pair (Kd.int .i64) (Kd.slice 2 (Kd.int .i64))) (fun x:S26=>(x.f0,x.f1))
theorem k26_open {w:World} {x:S26} {cs:List Value} (h:k26.K w x cs):∃A1 c1,cs=[.int .i64 x.f0,.slice A1 x.f1.length c1]∧x.f1.length≤c1∧(Kd.int .i64).C w A1 x.f1.length x.f1:=by
  obtain⟨_,_,rfl,rfl,⟨A1,c1,rfl,l1,g1⟩⟩:=h;exact⟨A1,c1,rfl,l1,g1⟩
theorem k26_openM {w:World} {base:Nat} {ok:Nat→Prop} {x:S26} {cs:List Value} (h:k26.M w base ok x cs):∃v1,cs=[.int .i64 x.f0,v1]∧(Kd.int .i64).R 2 w base ok v1 x.f1:=by
  obtain⟨_,_,rfl,rfl,⟨v1,rfl,g1⟩⟩:=h;exact⟨v1,rfl,g1⟩
theorem k26_mk (w:World) (x:S26) {A1:Option Addr} {c1:Nat} (l1:x.f1.length≤c1) (g1:(Kd.int .i64).C w A1 x.f1.length x.f1):k26.K w x [.int .i64 x.f0,.slice A1 x.f1.length c1]:=⟨[.int .i64 x.f0],[.slice A1 x.f1.length c1],rfl,rfl,⟨A1,c1,rfl,l1,g1⟩⟩
theorem k26_mkM (w:World) (base:Nat) (ok:Nat→Prop) (x:S26) {v1:Value} (g1:(Kd.int .i64).R 2 w base ok v1 x.f1):k26.M w base ok x [.int .i64 x.f0,v1]:=⟨[.int .i64 x.f0],[v1],rfl,rfl,⟨v1,rfl,g1⟩⟩
theorem k26_openF {W:World} {ok:Nat→Prop} {x:S26} {cs:List Value} (h:Kd.FK k26 W ok x cs):∃A1 c1,cs=[.int .i64 x.f0,.slice A1 x.f1.length c1]∧x.f1.length≤c1∧Kd.F (Kd.int .i64) W ok A1 x.f1.length x.f1:=by
  obtain⟨A1,c1,rfl,l1,_⟩:=k26_open (Kd.FK_now h);exact⟨A1,c1,rfl,l1,(fun W' hW=>by obtain⟨A1_,c1_,he,l1_,g1_⟩:=k26_open (h W' hW);injection (Option.some.inj (show some (Value.slice A1 x.f1.length c1)=some (Value.slice A1_ x.f1.length c1_) from congrArg (fun l=>l[1]?) he)) with ha_ _ _;rw [ha_];exact g1_)⟩
theorem k26_mkF (W:World) (ok:Nat→Prop) (x:S26) {A1:Option Addr} {c1:Nat} (l1:x.f1.length≤c1) (g1:Kd.F (Kd.int .i64) W ok A1 x.f1.length x.f1):Kd.FK k26 W ok x [.int .i64 x.f0,.slice A1 x.f1.length c1]:=fun W2 hW=>k26_mk W2 x l1 (g1 W2 hW)
def rd_T26 (xs:List S26) (i:Int):S26:=xs.getD i.toNat z26
theorem at_T26 {w:World} {A:Option Addr} {n:Nat} {xs:List S26} (h:Kd.C k26 w A n xs) (i:Int) (h0:0≤i) (h1:i<n):∃ad A1 c1,A=some ad∧w.cell? (ad.add (i.toNat*2))=some (.int .i64 (rd_T26 xs i).f0)∧w.cell? ⟨(ad.add (i.toNat*2)).block,(ad.add (i.toNat*2)).off+1,none⟩=some (.slice A1 (rd_T26 xs i).f1.length c1)∧(rd_T26 xs i).f1.length≤c1∧(Kd.int .i64).C w A1 (rd_T26 xs i).f1.length (rd_T26 xs i).f1:=by
  obtain⟨ad,c,e,_,hK,hc0⟩:=Kd.C_get h z26 i h0 h1;have hc:∀j u,c[j]? =some u→w.cell? (ad.add (i.toNat*2+j))=some u:=hc0;obtain⟨A1,c1,rfl,l1,g1⟩:=k26_open hK;exact⟨ad,A1,c1,e,hc 0 _ rfl,by rw [← add_field _ _ 1 (by omega)];exact hc 1 _ rfl,l1,g1⟩

/-! #### struct type 54 -/
structure S54 where
  f0:Int
  f1:Int
def z54:S54:=⟨(0:Int),(0:Int)⟩
def k54:Kd S54:=Kd.iso (Kd.pair (Kd.int .i64) (Kd.int .i64)) (fun x:S54=>(x.f0,x.f1))
theorem k54_open {w:World} {x:S54} {cs:List Value} (h:k54.K w x cs):cs=[.int .i64 x.f0,.int .i64 x.f1]:=by
  obtain⟨_,_,rfl,rfl,rfl⟩:=h;exact rfl
theorem k54_openM {w:World} {base:Nat} {ok:Nat→Prop} {x:S54} {cs:List Value} (h:k54.M w base ok x cs):cs=[.int .i64 x.f0,.int .i64 x.f1]:=by
  obtain⟨_,_,rfl,rfl,rfl⟩:=h;exact rfl
theorem k54_mk (w:World) (x:S54)  :k54.K w x [.int .i64 x.f0,.int .i64 x.f1]:=⟨[.int .i64 x.f0],[.int .i64 x.f1],rfl,rfl,rfl⟩
theorem k54_mkM (w:World) (base:Nat) (ok:Nat→Prop) (x:S54)  :k54.M w base ok x [.int .i64 x.f0,.int .i64 x.f1]:=⟨[.int .i64 x.f0],[.int .i64 x.f1],rfl,rfl,rfl⟩
theorem k54_mkF (W:World) (ok:Nat→Prop) (x:S54):Kd.FK k54 W ok x [.int .i64 x.f0,.int .i64 x.f1]:=fun W2 _=>k54_mk W2 x
def rd_T54 (xs:List S54) (i:Int):S54:=xs.getD i.toNat z54
theorem at_T54 {w:World} {A:Option Addr} {n:Nat} {xs:List S54} (h:Kd.C k54 w A n xs) (i:Int) (h0:0≤i) (h1:i<n):∃ad ,A=some ad∧w.cell? (ad.add (i.toNat*2))=some (.int .i64 (rd_T54 xs i).f0)∧w.cell? ⟨(ad.add (i.toNat*2)).block,(ad.add (i.toNat*2)).off+1,none⟩=some (.int .i64 (rd_T54 xs i).f1):=by
  obtain⟨ad,c,e,_,hK,hc0⟩:=Kd.C_get h z54 i h0 h1;have hc:∀j u,c[j]? =some u→w.cell? (ad.add (i.toNat*2+j))=some u:=hc0;obtain rfl:=k54_open hK;exact⟨ad,e,hc 0 _ rfl,by rw [← add_field _ _ 1 (by omega)];exact hc 1 _ rfl⟩

theorem qSa {α:Type _} {l:List α} {i:Nat} {a:α}:l.toArray.setIfInBounds i a=(l.set i a).toArray:=List.setIfInBounds_toArray ..
theorem qSb {α:Type _} {x:α} {l:List α} {a:α}:(x::l).set 0 a=a::l:=List.set_cons_zero
theorem qSc {α:Type _} {x:α} {l:List α} {n:Nat} {a:α}:(x::l).set (n+1) a=x::l.set n a:=List.set_cons_succ
theorem qAm {p:Prop} (h:p):Aside0 p:=⟨h⟩
theorem qOb {α β:Type _} {b:β} {o:Option α} {f:α→Option β} (h:o.bind f=some b):∃a,o=some a∧f a=some b:=Option.bind_eq_some_iff.mp h
theorem qB37 {p:Prop} (h:p:=by first|rfl|(simp;done)|(simp [*];done)):p:=h
theorem qB36 {p:Prop} (h:p:=by first|(with_reducible assumption)|assumption):p:=h
theorem qB35 {p:Prop} (h:p:=by (with_reducible repeat(first|apply Kd.N_alloc|apply Kd.N_drewN|apply Kd.N_drew));exact HO_3.out):p:=h
theorem qB34 {p:Prop} (h:p:=by (with_reducible repeat(first|apply Kd.S_alloc|apply Kd.S_drewN|apply Kd.S_drew));exact HO_4.out):p:=h
theorem qB33 {p:Prop} (h:p:=by (with_reducible repeat(first|apply Kd.R_alloc|apply Kd.R_drewN|apply Kd.R_drew));exact HO_3.out):p:=h
theorem qB32 {p:Prop} (h:p:=by (with_reducible repeat(first|apply Kd.N_alloc|apply Kd.N_drewN|apply Kd.N_drew));exact HO_5.out):p:=h
theorem qB31 {p:Prop} (h:p:=by (with_reducible repeat(first|apply Kd.N_alloc|apply Kd.N_drewN|apply Kd.N_drew));exact HO_4.out):p:=h
theorem qB30 {p:Prop} (h:p:=by (with_reducible repeat(first|apply Kd.S_alloc|apply Kd.S_drewN|apply Kd.S_drew));exact HO_3.out):p:=h
theorem qB29 {p:Prop} (h:p:=by (with_reducible repeat(first|apply Kd.N_alloc|apply Kd.N_drewN|apply Kd.N_drew));exact HO236.out):p:=h
theorem qB28 {p:Prop} (h:p:=by (with_reducible repeat(first|apply Kd.N_alloc|apply Kd.N_drewN|apply Kd.N_drew));exact HO226.out):p:=h
theorem qB27 {p:Prop} (h:p:=by (with_reducible repeat(first|apply Kd.R_alloc|apply Kd.R_drewN|apply Kd.R_drew));exact HO_23.out):p:=h
theorem qB26 {p:Prop} (h:p:=by (with_reducible repeat(first|apply Kd.R_alloc|apply Kd.R_drewN|apply Kd.R_drew));exact HO_16.out):p:=h
theorem qB25 {p:Prop} (h:p:=by (with_reducible repeat(first|apply Kd.R_alloc|apply Kd.R_drewN|apply Kd.R_drew));exact HO152.out):p:=h
theorem qB24 {p:Prop} (h:p:=by (with_reducible repeat(first|apply Kd.N_alloc|apply Kd.N_drewN|apply Kd.N_drew));exact HO138.out):p:=h
theorem qB23 {p:Prop} (h:p:=by (with_reducible repeat(first|apply Kd.V_alloc|apply Kd.V_drewN|apply Kd.V_drew));exact HL142_1.out):p:=h
theorem qB22 {p:Prop} (h:p:=by (with_reducible repeat(first|refine blk_drewN ?_ _|refine blk_drew ?_|refine blk_alloc ?_ _));exact BK210.out):p:=h
theorem qB21 {p:Prop} (h:p:=by (with_reducible repeat(first|refine blk_drewN ?_ _|refine blk_drew ?_|refine blk_alloc ?_ _));exact BK204.out):p:=h
theorem qB20 {p:Prop} (h:p:=by (with_reducible repeat(first|refine blk_drewN ?_ _|refine blk_drew ?_|refine blk_alloc ?_ _));exact BK197.out):p:=h
theorem qB19 {p:Prop} (h:p:=by (with_reducible repeat(first|refine blk_drewN ?_ _|refine blk_drew ?_|refine blk_alloc ?_ _));exact BK149.out):p:=h
theorem qB18 {p:Prop} (h:p:=by (with_reducible repeat(first|refine blk_drewN ?_ _|refine blk_drew ?_|refine blk_alloc ?_ _));exact BK148.out):p:=h
theorem qB17 {p:Prop} (h:p:=by (with_reducible repeat(first|refine blk_drewN ?_ _|refine blk_drew ?_|refine blk_alloc ?_ _));exact BK104.out):p:=h
theorem qB16 {p:Prop} (h:p:=by repeat(first|(with_reducible first|exact HB.out|apply below_alloc|apply pw_below_drewN|apply below_drew1)|exact HB.out)):p:=h
theorem qB15 {p:Prop} (h:p:=by (try simp only [List.map_toArray,List.map_cons,List.map_nil]);first|done|rfl|(simp only [List.length_drop,List.length_take];rfl)):p:=h
theorem qB14 {p:Prop} (h:p:=by first|exact q142|exact of_decide_eq_true qB36|(have e_:=(Kd.N_reads' HO_4.out).1;omega)):p:=h
theorem qB13 {p:Prop} (h:p:=by (with_reducible repeat(first|apply Kd.S_alloc|apply Kd.S_drewN|apply Kd.S_drew));exact Kd.S_mono HO_3.out (fun k_ hk=>⟨trivial,fun e_=>hk.2 e_⟩)):p:=h
theorem qB12 {p:Prop} (h:p:=by repeat(first|(with_reducible first|exact HB.out|apply below_alloc|apply pw_below_drewN|apply below_drew1|refine below_set ?_ GE210.out)|exact HB.out)):p:=h
theorem qB11 {p:Prop} (h:p:=by repeat(first|(with_reducible first|exact HB.out|apply below_alloc|apply pw_below_drewN|apply below_drew1|refine below_set ?_ GE197.out)|exact HB.out)):p:=h
theorem qB10 {p:Prop} (h:p:=by repeat(first|(with_reducible first|exact HB.out|apply below_alloc|apply pw_below_drewN|apply below_drew1|refine below_set ?_ GE148.out)|exact HB.out)):p:=h
theorem qB9 {p:Prop} (h:p:=by repeat(first|(with_reducible first|exact HB.out|apply below_alloc|apply pw_below_drewN|apply below_drew1|refine below_set ?_ GE107.out)|exact HB.out)):p:=h
theorem qB8 {p:Prop} (h:p:=by repeat(first|(with_reducible first|exact HB.out|apply below_alloc|apply pw_below_drewN|apply below_drew1|refine below_set ?_ GE104.out)|exact HB.out)):p:=h
theorem qB7 {p:Prop} (h:p:=by repeat(first|(with_reducible exact HR142_1.out)|(with_reducible refine Kd.C_alloc ?_ _)|(with_reducible refine Kd.C_drewN ?_ _)|(with_reducible refine Kd.C_drew ?_)|exact HR142_1.out)):p:=h
theorem qB6 {p:Prop} (h:p:=by repeat(first|(with_reducible first|exact HB.out|apply below_alloc|apply pw_below_drewN|apply below_drew1|refine below_set ?_ GE197.out|refine below_set ?_ GE204.out)|exact HB.out)):p:=h
theorem qB5 {p:Prop} (h:p:=by repeat(first|(with_reducible first|exact HB.out|apply below_alloc|apply pw_below_drewN|apply below_drew1|refine below_set ?_ GE148.out|refine below_set ?_ GE149.out)|exact HB.out)):p:=h
theorem qB4 {p:Prop} (h:p:=by (with_reducible repeat(first|apply Kd.S_alloc|apply Kd.S_drewN|apply Kd.S_drew));exact(Kd.S_mono (Kd.S_far (p:=⟨gb197,1,none⟩) (Kd.S_far (p:=⟨gb197,0,none⟩) (Kd.S_types HO_4.out BK197.out (by decide)) (fun _ hk=>hk.2) (.int .i64 ((rd_T54 t193 x25_2).f0))) (fun _ hk=>hk.2) (.int .i64 ((rd_T54 t193 x25_2).f1))) (fun _ h_=>h_.1))):p:=h
theorem qB3 {p:Prop} (h:p:=by (with_reducible repeat(first|apply Kd.R_alloc|apply Kd.R_drewN|apply Kd.R_drew));exact(Kd.R_mono (Kd.R_far (p:=⟨gb197,1,none⟩) (Kd.R_far (p:=⟨gb197,0,none⟩) (Kd.R_types HO_16.out BK197.out (by decide)) (fun _ hk=>hk.2) (.int .i64 ((rd_T54 t193 x25_2).f0))) (fun _ hk=>hk.2) (.int .i64 ((rd_T54 t193 x25_2).f1))) (fun _ h_=>h_.1))):p:=h
theorem qB2 {p:Prop} (h:p:=by (with_reducible repeat(first|apply Kd.R_alloc|apply Kd.R_drewN|apply Kd.R_drew));exact(Kd.R_mono (Kd.R_far (p:=⟨gb197,1,none⟩) (Kd.R_far (p:=⟨gb197,0,none⟩) (Kd.R_mono HO_23.out (fun k_ hk=>(⟨hk,hk.2⟩:_∧k_≠gb197))) (fun _ hk=>hk.2) (.int .i64 ((rd_T54 t193 x25_2).f0))) (fun _ hk=>hk.2) (.int .i64 ((rd_T54 t193 x25_2).f1))) (fun _ h_=>h_.1))):p:=h
theorem qB1 {p:Prop} (h:p:=by (with_reducible repeat(first|refine blk_drewN ?_ _|refine blk_drew ?_|refine blk_alloc ?_ _));refine blk_put (cs:=#[.int .i64 ((rd_T54 t193 x25_2).f0),.int .i64 0]) ?_ 1 _ rfl;(with_reducible repeat(first|refine blk_drewN ?_ _|refine blk_drew ?_|refine blk_alloc ?_ _));refine blk_put (cs:=#[.int .i64 0,.int .i64 0]) ?_ 0 _ rfl;(with_reducible repeat(first|refine blk_drewN ?_ _|refine blk_drew ?_|refine blk_alloc ?_ _));exact BK197.out):p:=h
end Go.Proofs.Ytejpliodhnglbaa.PFnExactPrimesOfNorm
