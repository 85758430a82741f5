/- The functions that the law reaches, as plain functions, each with the proof that the program comes to it; no condition. Written by a program of this session (wip/mp.py) over the printing of the kit; what is marked HAND is told by hand. -/
import Derived.Test.YtejpliodhnglbaaKFnExactCubicSymbol
import Derived.Test.YtejpliodhnglbaaProg
import Derived.Below
import Derived.Deep.Draws
import Derived.Deep.AppendLies
import Derived.Maps.AppendAt
import Derived.OwnWalk
import Derived.Laws.BytesArg
import Derived.Laws.MakeOwn
import Derived.Laws.OwnMore
import Derived.Deep.OwnRows
import Derived.Tactics
import Derived.Lib.ConvBytes
import Derived.Laws.Slices
import Derived.WalkKit
import Derived.KernelRfl
import Derived.RowKit3
import Derived.Deep.LoopGhost
import Derived.Deep.QuietTactic
import Derived.BigQuiet
import Derived.WideLaws
import Derived.Deep.DeepCutAuto
import Derived.Deep.CutBlock
import Derived.Deep.RegionHeld3
import Derived.Laws.Rows
import Derived.Lib.AppendStr
import Derived.ArgAppend
import Derived.Laws.IdiomCopy
import Derived.OrdersHeld
import Derived.Laws.BitsLemmas
import Derived.RowKit
import Derived.WalkSpells
import Derived.Laws.CopyOwn
namespace Go.Proofs.Ytejpliodhnglbaa.PFnExactCubicSymbol
open Go.RowKit Go.Proofs.YtejpliodhnglbaaW.PrintWords Go.Proofs.YtejpliodhnglbaaW.PrintLast Go.Proofs.YtejpliodhnglbaaW.PrintMore
attribute [local go_sem] max2_int min2_int max_two min_two max_three min_three max_four min_four   -- for this text's walks alone
set_option linter.unusedVariables false
set_option linter.unusedSimpArgs false



def errW:Option Int→Value
 |none=>.nilIface
 |some c=>.iface 0 (.int .i64 c)
theorem errW_none:errW none=.nilIface:=rfl
theorem errW_some (c:Int):errW (some c)=.iface 0 (.int .i64 c):=rfl

theorem info2:(Try.prog.info? 2).map (fun i=>(i.zero,i.size,i.bytes))=some (some (.int .i64 0),1,8):=by kernel_rfl
theorem info26:(Try.prog.info? 26).map (fun i=>(i.zero,i.size,i.bytes))=some (some (.agg #[(.int .i64 0),(.slice none 0 0)]),2,32):=by kernel_rfl
theorem info54:(Try.prog.info? 54).map (fun i=>(i.zero,i.size,i.bytes))=some (some (.agg #[(.int .i64 0),(.int .i64 0)]),2,16):=by kernel_rfl

theorem hro_cell {w w1:World} {g:Nat} {a:Addr} {v:Value} (hg:w.grownBy w1 (some g)) (h:w.cell? a=some v) (hne:a.block≠g):w1.cell? a=some v:=
 (World.cell?_of_block (hg.block _ (World.block_lt_of_cell? w a h) (fun e=>hne (by injection e)))).trans h
theorem hand_drewN_set (w:World) (n:Nat) (p:Addr) (v:Value):(w.drewN n).setCell p v=(w.setCell p v).drewN n:=rfl
theorem hand_drew_set (w:World) (p:Addr) (v:Value):w.drew.setCell p v=(w.setCell p v).drew:=rfl
theorem hand_V_orR {α:Type} {d:Kd α} {e:Nat} {w:World} {base:Nat} {P Q S:Nat→Prop} {v:Value} {xs:List α} (h:Kd.R d e w base (fun k=>Q k∧S k) v xs):Kd.V d e w base (fun k=>(P k∨Q k)∧S k) v xs:=
 Kd.V_mono (Kd.R_V h) (fun _ hk=>⟨.inr hk.1,hk.2⟩)
theorem hand_V_blk {e base n c g:Nat} {ok:Nat→Prop} {W:World} {ad:Addr} {xs:List Int} {ik:IntKind} (h:Kd.V (Kd.int ik) e W base ok (.slice (some ad) n c) xs) (hn:decide (0<(xs.length:Int))=true) (hok:∀k,ok k→k≠g):ad.block≠g:=by
 intro hg;have hn':0<xs.length:=by simpa using hn
 obtain⟨a1,h1,c1⟩:=Kd.at_int (Kd.V_reads' h).2.2 0 (by omega) (by omega);cases h1
 have hv:=Kd.V_far (p:=ad.add 0) h (fun k hk=>by rw [add_block,hg];exact hok k hk) (.bool true);obtain⟨a2,h2,c2⟩:=Kd.at_int (Kd.V_reads' hv).2.2 0 (by omega) (by omega);cases h2
 have c3:(W.setCell (ad.add 0) (.bool true)).cell? (ad.add (Int.toNat 0))=some (.bool true):=World.cell?_setCell_same' W (ad.add 0) (.bool true) (by rw [show W.cell? (ad.add 0)=_ from c1];rfl);rw [c3] at c2;cases c2

-- the values' own types
def rd_L1 (xs:List (List Int)) (i:Int):(List Int):=xs.getD i.toNat ([]:List Int)
theorem at_L1 {w:World} {A:Option Addr} {n:Nat} {xs:List (List Int)} (h:Kd.C (Kd.slice 2 (Kd.int .i64)) w A n xs) (i:Int) (h0:0≤i) (h1:i<n):∃ad A0 c0,A=some ad∧w.cell? (ad.add i.toNat)=some (.slice A0 (rd_L1 xs i).length c0)∧(rd_L1 xs i).length≤c0∧(Kd.int .i64).C w A0 (rd_L1 xs i).length (rd_L1 xs i):=by
 obtain⟨ad,c,e,_,hK,hc0⟩:=Kd.C_get h ([]:List Int) i h0 h1;have hc:∀j u,c[j]? =some u→w.cell? (ad.add (i.toNat*1+j))=some u:=hc0;obtain⟨A0,c0,rfl,l0,g0⟩:=hK;exact⟨ad,A0,c0,e,by have hq:=hc 0 _ rfl;rwa [Nat.mul_one,Nat.add_zero] at hq,l0,g0⟩

/-! #### struct type 26 -/
structure S26 where
 f0:Int
 f1:(List Int)
def z26:S26:=⟨(0:Int),([]:List Int)⟩
def k26:Kd S26:=Kd.iso (Kd.pair (Kd.int .i64) (Kd.slice 2 (Kd.int .i64))) (fun x:S26=>(x.f0,x.f1))
theorem k26_open {w:World} {x:S26} {cs:List Value} (h:k26.K w x cs):∃A1 c1,cs=[.int .i64 x.f0,.slice A1 x.f1.length c1]∧x.f1.length≤c1∧(Kd.int .i64).C w A1 x.f1.length x.f1:=by
 obtain⟨_,_,rfl,rfl,⟨A1,c1,rfl,l1,g1⟩⟩:=h;exact⟨A1,c1,rfl,l1,g1⟩
theorem k26_openM {w:World} {base:Nat} {ok:Nat→Prop} {x:S26} {cs:List Value} (h:k26.M w base ok x cs):∃v1,cs=[.int .i64 x.f0,v1]∧(Kd.int .i64).R 2 w base ok v1 x.f1:=by
 obtain⟨_,_,rfl,rfl,⟨v1,rfl,g1⟩⟩:=h;exact⟨v1,rfl,g1⟩
theorem k26_mk (w:World) (x:S26) {A1:Option Addr} {c1:Nat} (l1:x.f1.length≤c1) (g1:(Kd.int .i64).C w A1 x.f1.length x.f1):k26.K w x [.int .i64 x.f0,.slice A1 x.f1.length c1]:=⟨[.int .i64 x.f0],[.slice A1 x.f1.length c1],rfl,rfl,⟨A1,c1,rfl,l1,g1⟩⟩
theorem k26_mkM (w:World) (base:Nat) (ok:Nat→Prop) (x:S26) {v1:Value} (g1:(Kd.int .i64).R 2 w base ok v1 x.f1):k26.M w base ok x [.int .i64 x.f0,v1]:=⟨[.int .i64 x.f0],[v1],rfl,rfl,⟨v1,rfl,g1⟩⟩
theorem k26_openF {W:World} {ok:Nat→Prop} {x:S26} {cs:List Value} (h:Kd.FK k26 W ok x cs):∃A1 c1,cs=[.int .i64 x.f0,.slice A1 x.f1.length c1]∧x.f1.length≤c1∧Kd.F (Kd.int .i64) W ok A1 x.f1.length x.f1:=by
 obtain⟨A1,c1,rfl,l1,_⟩:=k26_open (Kd.FK_now h);exact⟨A1,c1,rfl,l1,(fun W' hW=>by obtain⟨A1_,c1_,he,l1_,g1_⟩:=k26_open (h W' hW);injection (Option.some.inj (show some (Value.slice A1 x.f1.length c1)=some (Value.slice A1_ x.f1.length c1_) from congrArg (fun l=>l[1]?) he)) with ha_ _ _;rw [ha_];exact g1_)⟩
theorem k26_mkF (W:World) (ok:Nat→Prop) (x:S26) {A1:Option Addr} {c1:Nat} (l1:x.f1.length≤c1) (g1:Kd.F (Kd.int .i64) W ok A1 x.f1.length x.f1):Kd.FK k26 W ok x [.int .i64 x.f0,.slice A1 x.f1.length c1]:=fun W2 hW=>k26_mk W2 x l1 (g1 W2 hW)
def rd_T26 (xs:List S26) (i:Int):S26:=xs.getD i.toNat z26
theorem at_T26 {w:World} {A:Option Addr} {n:Nat} {xs:List S26} (h:Kd.C k26 w A n xs) (i:Int) (h0:0≤i) (h1:i<n):∃ad A1 c1,A=some ad∧w.cell? (ad.add (i.toNat*2))=some (.int .i64 (rd_T26 xs i).f0)∧w.cell? ⟨(ad.add (i.toNat*2)).block,(ad.add (i.toNat*2)).off+1,none⟩=some (.slice A1 (rd_T26 xs i).f1.length c1)∧(rd_T26 xs i).f1.length≤c1∧(Kd.int .i64).C w A1 (rd_T26 xs i).f1.length (rd_T26 xs i).f1:=by
 obtain⟨ad,c,e,_,hK,hc0⟩:=Kd.C_get h z26 i h0 h1;have hc:∀j u,c[j]? =some u→w.cell? (ad.add (i.toNat*2+j))=some u:=hc0;obtain⟨A1,c1,rfl,l1,g1⟩:=k26_open hK;exact⟨ad,A1,c1,e,hc 0 _ rfl,by rw [← add_field _ _ 1 (by omega)];exact hc 1 _ rfl,l1,g1⟩

/-! #### struct type 54 -/
structure S54 where
 f0:Int
 f1:Int
def z54:S54:=⟨(0:Int),(0:Int)⟩
def k54:Kd S54:=Kd.iso (Kd.pair (Kd.int .i64) (Kd.int .i64)) (fun x:S54=>(x.f0,x.f1))
theorem k54_open {w:World} {x:S54} {cs:List Value} (h:k54.K w x cs):cs=[.int .i64 x.f0,.int .i64 x.f1]:=by
 obtain⟨_,_,rfl,rfl,rfl⟩:=h;exact rfl
theorem k54_openM {w:World} {base:Nat} {ok:Nat→Prop} {x:S54} {cs:List Value} (h:k54.M w base ok x cs):cs=[.int .i64 x.f0,.int .i64 x.f1]:=by
 obtain⟨_,_,rfl,rfl,rfl⟩:=h;exact rfl
theorem k54_mk (w:World) (x:S54)  :k54.K w x [.int .i64 x.f0,.int .i64 x.f1]:=⟨[.int .i64 x.f0],[.int .i64 x.f1],rfl,rfl,rfl⟩
theorem k54_mkM (w:World) (base:Nat) (ok:Nat→Prop) (x:S54)  :k54.M w base ok x [.int .i64 x.f0,.int .i64 x.f1]:=⟨[.int .i64 x.f0],[.int .i64 x.f1],rfl,rfl,rfl⟩
theorem k54_mkF (W:World) (ok:Nat→Prop) (x:S54):Kd.FK k54 W ok x [.int .i64 x.f0,.int .i64 x.f1]:=fun W2 _=>k54_mk W2 x
def rd_T54 (xs:List S54) (i:Int):S54:=xs.getD i.toNat z54
theorem at_T54 {w:World} {A:Option Addr} {n:Nat} {xs:List S54} (h:Kd.C k54 w A n xs) (i:Int) (h0:0≤i) (h1:i<n):∃ad ,A=some ad∧w.cell? (ad.add (i.toNat*2))=some (.int .i64 (rd_T54 xs i).f0)∧w.cell? ⟨(ad.add (i.toNat*2)).block,(ad.add (i.toNat*2)).off+1,none⟩=some (.int .i64 (rd_T54 xs i).f1):=by
 obtain⟨ad,c,e,_,hK,hc0⟩:=Kd.C_get h z54 i h0 h1;have hc:∀j u,c[j]? =some u→w.cell? (ad.add (i.toNat*2+j))=some u:=hc0;obtain rfl:=k54_open hK;exact⟨ad,e,hc 0 _ rfl,by rw [← add_field _ _ 1 (by omega)];exact hc 1 _ rfl⟩

theorem qSa {α:Type _} {l:List α} {i:Nat} {a:α}:l.toArray.setIfInBounds i a=(l.set i a).toArray:=List.setIfInBounds_toArray ..
theorem qSb {α:Type _} {x:α} {l:List α} {a:α}:(x::l).set 0 a=a::l:=List.set_cons_zero
theorem qSc {α:Type _} {x:α} {l:List α} {n:Nat} {a:α}:(x::l).set (n+1) a=x::l.set n a:=List.set_cons_succ
theorem qAm {p:Prop} (h:p):Aside0 p:=⟨h⟩
theorem qOb {α β:Type _} {b:β} {o:Option α} {f:α→Option β} (h:o.bind f=some b):∃a,o=some a∧f a=some b:=Option.bind_eq_some_iff.mp h
theorem qL {p : Prop} (h : p := by rfl) : p := h
theorem qR {p : Prop} (h : p := by first | (go_simp; done) | (go_simp; rfl)) : p := h
theorem qU {p : Prop} (h : p := by simp only [Act.put, qSa, qSb, qSc, i64_w, i32_w]; rfl) : p := h
theorem qW {p : Prop} (h : p := by simp only [putAll, Act.put, qSa, qSb, qSc]; rfl) : p := h
theorem qB216 {p:Prop} (h:p:=by first|rfl|(simp;done)|(simp [*];done)):p:=h
theorem qB215 {p:Prop} (h:p:=by first|(with_reducible assumption)|assumption):p:=h
theorem qB214 {p:Prop} (h:p:=by have:=World.block_lt_of_cell? _ _ hw191_0;first|rwa [add_block] at this|exact this):p:=h
theorem qB213 {p:Prop} (h:p:=by have:=World.block_lt_of_cell? _ _ hw189_0;first|rwa [add_block] at this|exact this):p:=h
theorem qB212 {p:Prop} (h:p:=by have:=World.block_lt_of_cell? _ _ hw165_0;first|rwa [add_block] at this|exact this):p:=h
theorem qB211 {p:Prop} (h:p:=by have:=World.block_lt_of_cell? _ _ hw164_0;first|rwa [add_block] at this|exact this):p:=h
theorem qB210 {p:Prop} (h:p:=by have:=World.block_lt_of_cell? _ _ hw163_0;first|rwa [add_block] at this|exact this):p:=h
theorem qB209 {p:Prop} (h:p:=by simp only [putAll,Act.put,List.setIfInBounds_toArray,List.set_cons_zero,List.set_cons_succ]):p:=h
theorem qB208 {p:Prop} (h:p:=by (with_reducible repeat(first|apply Kd.R_alloc|apply Kd.R_drewN|apply Kd.R_drew));exact HO_4.out):p:=h
theorem qB207 {p:Prop} (h:p:=by (with_reducible repeat(first|apply Kd.R_alloc|apply Kd.R_drewN|apply Kd.R_drew));exact HO_6.out):p:=h
theorem qB206 {p:Prop} (h:p:=by (with_reducible repeat(first|apply Kd.R_alloc|apply Kd.R_drewN|apply Kd.R_drew));exact HO_5.out):p:=h
theorem qB205 {p:Prop} (h:p:=by (with_reducible repeat(first|apply Kd.R_alloc|apply Kd.R_drewN|apply Kd.R_drew));exact HO_3.out):p:=h
theorem qB204 {p:Prop} (h:p:=by (with_reducible repeat(first|apply Kd.R_alloc|apply Kd.R_drewN|apply Kd.R_drew));exact HO500.out):p:=h
theorem qB203 {p:Prop} (h:p:=by (with_reducible repeat(first|apply Kd.R_alloc|apply Kd.R_drewN|apply Kd.R_drew));exact HO493.out):p:=h
theorem qB202 {p:Prop} (h:p:=by (with_reducible repeat(first|apply Kd.R_alloc|apply Kd.R_drewN|apply Kd.R_drew));exact HO488.out):p:=h
theorem qB201 {p:Prop} (h:p:=by (with_reducible repeat(first|apply Kd.R_alloc|apply Kd.R_drewN|apply Kd.R_drew));exact HO482.out):p:=h
theorem qB200 {p:Prop} (h:p:=by (with_reducible repeat(first|apply Kd.R_alloc|apply Kd.R_drewN|apply Kd.R_drew));exact HO478.out):p:=h
theorem qB199 {p:Prop} (h:p:=by (with_reducible repeat(first|apply Kd.R_alloc|apply Kd.R_drewN|apply Kd.R_drew));exact HO_78.out):p:=h
theorem qB198 {p:Prop} (h:p:=by (with_reducible repeat(first|apply Kd.R_alloc|apply Kd.R_drewN|apply Kd.R_drew));exact HO433.out):p:=h
theorem qB197 {p:Prop} (h:p:=by (with_reducible repeat(first|apply Kd.N_alloc|apply Kd.N_drewN|apply Kd.N_drew));exact HO429.out):p:=h
theorem qB196 {p:Prop} (h:p:=by (with_reducible repeat(first|apply Kd.N_alloc|apply Kd.N_drewN|apply Kd.N_drew));exact HO344.out):p:=h
theorem qB195 {p:Prop} (h:p:=by (with_reducible repeat(first|apply Kd.V_alloc|apply Kd.V_drewN|apply Kd.V_drew));exact HO1_1.out):p:=h
theorem qB194 {p:Prop} (h:p:=by (with_reducible repeat(first|apply Kd.V_alloc|apply Kd.V_drewN|apply Kd.V_drew));exact HO0_1.out):p:=h
theorem qB193 {p:Prop} (h:p:=by (with_reducible repeat(first|apply Kd.R_alloc|apply Kd.R_drewN|apply Kd.R_drew));exact HO338.out):p:=h
theorem qB192 {p:Prop} (h:p:=by (with_reducible repeat(first|apply Kd.R_alloc|apply Kd.R_drewN|apply Kd.R_drew));exact HO329.out):p:=h
theorem qB191 {p:Prop} (h:p:=by (with_reducible repeat(first|apply Kd.R_alloc|apply Kd.R_drewN|apply Kd.R_drew));exact HO317.out):p:=h
theorem qB190 {p:Prop} (h:p:=by (with_reducible repeat(first|apply Kd.R_alloc|apply Kd.R_drewN|apply Kd.R_drew));exact HO305.out):p:=h
theorem qB189 {p:Prop} (h:p:=by (with_reducible repeat(first|apply Kd.R_alloc|apply Kd.R_drewN|apply Kd.R_drew));exact HO301.out):p:=h
theorem qB188 {p:Prop} (h:p:=by (with_reducible repeat(first|apply Kd.R_alloc|apply Kd.R_drewN|apply Kd.R_drew));exact HO297.out):p:=h
theorem qB187 {p:Prop} (h:p:=by (with_reducible repeat(first|apply Kd.R_alloc|apply Kd.R_drewN|apply Kd.R_drew));exact HO293.out):p:=h
theorem qB186 {p:Prop} (h:p:=by (with_reducible repeat(first|apply Kd.R_alloc|apply Kd.R_drewN|apply Kd.R_drew));exact HO280.out):p:=h
theorem qB185 {p:Prop} (h:p:=by (with_reducible repeat(first|apply Kd.R_alloc|apply Kd.R_drewN|apply Kd.R_drew));exact HO276.out):p:=h
theorem qB184 {p:Prop} (h:p:=by (with_reducible repeat(first|apply Kd.R_alloc|apply Kd.R_drewN|apply Kd.R_drew));exact HO267.out):p:=h
theorem qB183 {p:Prop} (h:p:=by (with_reducible repeat(first|apply Kd.R_alloc|apply Kd.R_drewN|apply Kd.R_drew));exact HO263.out):p:=h
theorem qB182 {p:Prop} (h:p:=by (with_reducible repeat(first|apply Kd.R_alloc|apply Kd.R_drewN|apply Kd.R_drew));exact HO252.out):p:=h
theorem qB181 {p:Prop} (h:p:=by (with_reducible repeat(first|apply Kd.R_alloc|apply Kd.R_drewN|apply Kd.R_drew));exact HO234.out):p:=h
theorem qB180 {p:Prop} (h:p:=by (with_reducible repeat(first|apply Kd.R_alloc|apply Kd.R_drewN|apply Kd.R_drew));exact HO222.out):p:=h
theorem qB179 {p:Prop} (h:p:=by (with_reducible repeat(first|apply Kd.R_alloc|apply Kd.R_drewN|apply Kd.R_drew));exact HO205.out):p:=h
theorem qB178 {p:Prop} (h:p:=by (with_reducible repeat(first|apply Kd.R_alloc|apply Kd.R_drewN|apply Kd.R_drew));exact HO187.out):p:=h
theorem qB177 {p:Prop} (h:p:=by (with_reducible repeat(first|apply Kd.R_alloc|apply Kd.R_drewN|apply Kd.R_drew));exact HO182.out):p:=h
theorem qB176 {p:Prop} (h:p:=by (with_reducible repeat(first|apply Kd.R_alloc|apply Kd.R_drewN|apply Kd.R_drew));exact HO173.out):p:=h
theorem qB175 {p:Prop} (h:p:=by (with_reducible repeat(first|apply Kd.R_alloc|apply Kd.R_drewN|apply Kd.R_drew));exact HO169.out):p:=h
theorem qB174 {p:Prop} (h:p:=by (with_reducible repeat(first|apply Kd.R_alloc|apply Kd.R_drewN|apply Kd.R_drew));exact HO_495001.out):p:=h
theorem qB173 {p:Prop} (h:p:=by (with_reducible repeat(first|apply Kd.R_alloc|apply Kd.R_drewN|apply Kd.R_drew));exact HO_490001.out):p:=h
theorem qB172 {p:Prop} (h:p:=by (with_reducible repeat(first|apply Kd.V_alloc|apply Kd.V_drewN|apply Kd.V_drew));exact HO_427001.out):p:=h
theorem qB171 {p:Prop} (h:p:=by (with_reducible repeat(first|apply Kd.V_alloc|apply Kd.V_drewN|apply Kd.V_drew));exact HO_426001.out):p:=h
theorem qB170 {p:Prop} (h:p:=by (with_reducible repeat(first|apply Kd.R_alloc|apply Kd.R_drewN|apply Kd.R_drew));exact HO_289001.out):p:=h
theorem qB169 {p:Prop} (h:p:=by (with_reducible repeat(first|apply Kd.R_alloc|apply Kd.R_drewN|apply Kd.R_drew));exact HO_283001.out):p:=h
theorem qB168 {p:Prop} (h:p:=by (with_reducible repeat(first|apply Kd.R_alloc|apply Kd.R_drewN|apply Kd.R_drew));exact HO_282001.out):p:=h
theorem qB167 {p:Prop} (h:p:=by (with_reducible repeat(first|refine blk_drewN ?_ _|refine blk_drew ?_|refine blk_alloc ?_ _));exact BK494.out):p:=h
theorem qB166 {p:Prop} (h:p:=by (with_reducible repeat(first|refine blk_drewN ?_ _|refine blk_drew ?_|refine blk_alloc ?_ _));exact BK489.out):p:=h
theorem qB165 {p:Prop} (h:p:=by (with_reducible repeat(first|refine blk_drewN ?_ _|refine blk_drew ?_|refine blk_alloc ?_ _));exact BK472.out):p:=h
theorem qB164 {p:Prop} (h:p:=by (with_reducible repeat(first|refine blk_drewN ?_ _|refine blk_drew ?_|refine blk_alloc ?_ _));exact BK471.out):p:=h
theorem qB163 {p:Prop} (h:p:=by (with_reducible repeat(first|refine blk_drewN ?_ _|refine blk_drew ?_|refine blk_alloc ?_ _));exact BK467.out):p:=h
theorem qB162 {p:Prop} (h:p:=by (with_reducible repeat(first|refine blk_drewN ?_ _|refine blk_drew ?_|refine blk_alloc ?_ _));exact BK443.out):p:=h
theorem qB161 {p:Prop} (h:p:=by (with_reducible repeat(first|refine blk_drewN ?_ _|refine blk_drew ?_|refine blk_alloc ?_ _));exact BK441.out):p:=h
theorem qB160 {p:Prop} (h:p:=by (with_reducible repeat(first|refine blk_drewN ?_ _|refine blk_drew ?_|refine blk_alloc ?_ _));exact BK440.out):p:=h
theorem qB159 {p:Prop} (h:p:=by (with_reducible repeat(first|refine blk_drewN ?_ _|refine blk_drew ?_|refine blk_alloc ?_ _));exact BK426.out):p:=h
theorem qB158 {p:Prop} (h:p:=by (with_reducible repeat(first|refine blk_drewN ?_ _|refine blk_drew ?_|refine blk_alloc ?_ _));exact BK425.out):p:=h
theorem qB157 {p:Prop} (h:p:=by (with_reducible repeat(first|refine blk_drewN ?_ _|refine blk_drew ?_|refine blk_alloc ?_ _));exact BK423.out):p:=h
theorem qB156 {p:Prop} (h:p:=by (with_reducible repeat(first|refine blk_drewN ?_ _|refine blk_drew ?_|refine blk_alloc ?_ _));exact BK418.out):p:=h
theorem qB155 {p:Prop} (h:p:=by (with_reducible repeat(first|refine blk_drewN ?_ _|refine blk_drew ?_|refine blk_alloc ?_ _));exact BK417.out):p:=h
theorem qB154 {p:Prop} (h:p:=by (with_reducible repeat(first|refine blk_drewN ?_ _|refine blk_drew ?_|refine blk_alloc ?_ _));exact BK408.out):p:=h
theorem qB153 {p:Prop} (h:p:=by (with_reducible repeat(first|refine blk_drewN ?_ _|refine blk_drew ?_|refine blk_alloc ?_ _));exact BK394.out):p:=h
theorem qB152 {p:Prop} (h:p:=by (with_reducible repeat(first|refine blk_drewN ?_ _|refine blk_drew ?_|refine blk_alloc ?_ _));exact BK391.out):p:=h
theorem qB151 {p:Prop} (h:p:=by (with_reducible repeat(first|refine blk_drewN ?_ _|refine blk_drew ?_|refine blk_alloc ?_ _));exact BK385.out):p:=h
theorem qB150 {p:Prop} (h:p:=by (with_reducible repeat(first|refine blk_drewN ?_ _|refine blk_drew ?_|refine blk_alloc ?_ _));exact BK384.out):p:=h
theorem qB149 {p:Prop} (h:p:=by (with_reducible repeat(first|refine blk_drewN ?_ _|refine blk_drew ?_|refine blk_alloc ?_ _));exact BK383.out):p:=h
theorem qB148 {p:Prop} (h:p:=by (with_reducible repeat(first|refine blk_drewN ?_ _|refine blk_drew ?_|refine blk_alloc ?_ _));exact BK382.out):p:=h
theorem qB147 {p:Prop} (h:p:=by (with_reducible repeat(first|refine blk_drewN ?_ _|refine blk_drew ?_|refine blk_alloc ?_ _));exact BK379.out):p:=h
theorem qB146 {p:Prop} (h:p:=by (with_reducible repeat(first|refine blk_drewN ?_ _|refine blk_drew ?_|refine blk_alloc ?_ _));exact BK377.out):p:=h
theorem qB145 {p:Prop} (h:p:=by (with_reducible repeat(first|refine blk_drewN ?_ _|refine blk_drew ?_|refine blk_alloc ?_ _));exact BK376.out):p:=h
theorem qB144 {p:Prop} (h:p:=by (with_reducible repeat(first|refine blk_drewN ?_ _|refine blk_drew ?_|refine blk_alloc ?_ _));exact BK374.out):p:=h
theorem qB143 {p:Prop} (h:p:=by (with_reducible repeat(first|refine blk_drewN ?_ _|refine blk_drew ?_|refine blk_alloc ?_ _));exact BK373.out):p:=h
theorem qB142 {p:Prop} (h:p:=by (with_reducible repeat(first|refine blk_drewN ?_ _|refine blk_drew ?_|refine blk_alloc ?_ _));exact BK358.out):p:=h
theorem qB141 {p:Prop} (h:p:=by (with_reducible repeat(first|refine blk_drewN ?_ _|refine blk_drew ?_|refine blk_alloc ?_ _));exact BK354.out):p:=h
theorem qB140 {p:Prop} (h:p:=by (with_reducible repeat(first|refine blk_drewN ?_ _|refine blk_drew ?_|refine blk_alloc ?_ _));exact BK341.out):p:=h
theorem qB139 {p:Prop} (h:p:=by (with_reducible repeat(first|refine blk_drewN ?_ _|refine blk_drew ?_|refine blk_alloc ?_ _));exact BK340.out):p:=h
theorem qB138 {p:Prop} (h:p:=by (with_reducible repeat(first|refine blk_drewN ?_ _|refine blk_drew ?_|refine blk_alloc ?_ _));exact BK330.out):p:=h
theorem qB137 {p:Prop} (h:p:=by (with_reducible repeat(first|refine blk_drewN ?_ _|refine blk_drew ?_|refine blk_alloc ?_ _));exact BK288.out):p:=h
theorem qB136 {p:Prop} (h:p:=by (with_reducible repeat(first|refine blk_drewN ?_ _|refine blk_drew ?_|refine blk_alloc ?_ _));exact BK282.out):p:=h
theorem qB135 {p:Prop} (h:p:=by (with_reducible repeat(first|refine blk_drewN ?_ _|refine blk_drew ?_|refine blk_alloc ?_ _));exact BK281.out):p:=h
theorem qB134 {p:Prop} (h:p:=by (with_reducible repeat(first|refine blk_drewN ?_ _|refine blk_drew ?_|refine blk_alloc ?_ _));exact BK272.out):p:=h
theorem qB133 {p:Prop} (h:p:=by (with_reducible repeat(first|refine blk_drewN ?_ _|refine blk_drew ?_|refine blk_alloc ?_ _));exact BK271.out):p:=h
theorem qB132 {p:Prop} (h:p:=by (with_reducible repeat(first|refine blk_drewN ?_ _|refine blk_drew ?_|refine blk_alloc ?_ _));exact BK268.out):p:=h
theorem qB131 {p:Prop} (h:p:=by (with_reducible repeat(first|refine blk_drewN ?_ _|refine blk_drew ?_|refine blk_alloc ?_ _));exact BK259.out):p:=h
theorem qB130 {p:Prop} (h:p:=by (with_reducible repeat(first|refine blk_drewN ?_ _|refine blk_drew ?_|refine blk_alloc ?_ _));exact BK258.out):p:=h
theorem qB129 {p:Prop} (h:p:=by (with_reducible repeat(first|refine blk_drewN ?_ _|refine blk_drew ?_|refine blk_alloc ?_ _));exact BK249.out):p:=h
theorem qB128 {p:Prop} (h:p:=by (with_reducible repeat(first|refine blk_drewN ?_ _|refine blk_drew ?_|refine blk_alloc ?_ _));exact BK231.out):p:=h
theorem qB127 {p:Prop} (h:p:=by (with_reducible repeat(first|refine blk_drewN ?_ _|refine blk_drew ?_|refine blk_alloc ?_ _));exact BK226.out):p:=h
theorem qB126 {p:Prop} (h:p:=by (with_reducible repeat(first|refine blk_drewN ?_ _|refine blk_drew ?_|refine blk_alloc ?_ _));exact BK183.out):p:=h
theorem qB125 {p:Prop} (h:p:=by (with_reducible repeat(first|refine blk_drewN ?_ _|refine blk_drew ?_|refine blk_alloc ?_ _));exact BK174.out):p:=h
theorem qB124 {p:Prop} (h:p:=by (with_reducible repeat(first|refine blk_drewN ?_ _|refine blk_drew ?_|refine blk_alloc ?_ _));exact BK161.out):p:=h
theorem qB123 {p:Prop} (h:p:=by (with_reducible repeat(first|refine blk_drewN ?_ _|refine blk_drew ?_|refine blk_alloc ?_ _));exact BK160.out):p:=h
theorem qB122 {p:Prop} (h:p:=by (with_reducible repeat(first|refine blk_drewN ?_ _|refine blk_drew ?_|refine blk_alloc ?_ _));exact BK159.out):p:=h
theorem qB121 {p:Prop} (h:p:=by (with_reducible repeat(first|refine blk_drewN ?_ _|refine blk_drew ?_|refine blk_alloc ?_ _));exact BK158.out):p:=h
theorem qB120 {p:Prop} (h:p:=by (with_reducible repeat(first|refine blk_drewN ?_ _|refine blk_drew ?_|refine blk_alloc ?_ _));exact BK149.out):p:=h
theorem qB119 {p:Prop} (h:p:=by (with_reducible repeat(first|refine blk_drewN ?_ _|refine blk_drew ?_|refine blk_alloc ?_ _));exact BK148.out):p:=h
theorem qB118 {p:Prop} (h:p:=by (with_reducible repeat(first|refine blk_drewN ?_ _|refine blk_drew ?_|refine blk_alloc ?_ _));exact BK147.out):p:=h
theorem qB117 {p:Prop} (h:p:=by (with_reducible repeat(first|refine blk_drewN ?_ _|refine blk_drew ?_|refine blk_alloc ?_ _));exact BK140.out):p:=h
theorem qB116 {p:Prop} (h:p:=by (with_reducible repeat(first|refine blk_drewN ?_ _|refine blk_drew ?_|refine blk_alloc ?_ _));exact BK132.out):p:=h
theorem qB115 {p:Prop} (h:p:=by (with_reducible repeat(first|refine blk_drewN ?_ _|refine blk_drew ?_|refine blk_alloc ?_ _));exact BK128.out):p:=h
theorem qB114 {p:Prop} (h:p:=by (with_reducible repeat(first|refine blk_drewN ?_ _|refine blk_drew ?_|refine blk_alloc ?_ _));exact BK116.out):p:=h
theorem qB113 {p:Prop} (h:p:=by (with_reducible repeat(first|refine blk_drewN ?_ _|refine blk_drew ?_|refine blk_alloc ?_ _));exact BK109.out):p:=h
theorem qB112 {p:Prop} (h:p:=by (with_reducible repeat(first|refine blk_drewN ?_ _|refine blk_drew ?_|refine blk_alloc ?_ _));exact BK108.out):p:=h
theorem qB111 {p:Prop} (h:p:=by repeat(first|(with_reducible first|exact HB.out|apply below_alloc|apply pw_below_drewN|apply below_drew1)|exact HB.out)):p:=h
theorem qB110 {p:Prop} (h:p:=by (with_reducible repeat(first|apply Kd.R_alloc|apply Kd.R_drewN|apply Kd.R_drew));exact Kd.R_mono HO173.out (fun _ hk=>hk.2)):p:=h
theorem qB109 {p:Prop} (h:p:=by (with_reducible repeat(first|apply Kd.R_alloc|apply Kd.R_drewN|apply Kd.R_drew));exact Kd.R_mono HO169.out (fun _ hk=>hk.2)):p:=h
theorem qB108 {p:Prop} (h:p:=by (try simp only [List.map_toArray,List.map_cons,List.map_nil]);first|done|rfl|(simp only [List.length_drop,List.length_take];rfl)):p:=h
theorem qB107 {p:Prop} (h:p:=by (with_reducible repeat(first|apply Kd.R_alloc|apply Kd.R_drewN|apply Kd.R_drew));exact Kd.R_mono HO182.out (fun _ hk=>⟨hk.1.2,hk.2⟩)):p:=h
theorem qB106 {p:Prop} (h:p:=by (with_reducible repeat(first|apply Kd.R_alloc|apply Kd.R_drewN|apply Kd.R_drew));exact Kd.R_mono HO433.out (fun _ hk=>⟨hk.1.1.1,⟨hk.2,hk.1.2⟩⟩)):p:=h
theorem qB105 {p:Prop} (h:p:=by (with_reducible repeat(first|apply Kd.R_alloc|apply Kd.R_drewN|apply Kd.R_drew));exact Kd.R_mono HO433.out (fun _ hk=>⟨hk.1.1.1,⟨hk.1.2,hk.2⟩⟩)):p:=h
theorem qB104 {p:Prop} (h:p:=by repeat(first|(with_reducible first|exact HB.out|apply below_alloc|apply pw_below_drewN|apply below_drew1|refine below_set ?_ GE471.out)|exact HB.out)):p:=h
theorem qB103 {p:Prop} (h:p:=by repeat(first|(with_reducible first|exact HB.out|apply below_alloc|apply pw_below_drewN|apply below_drew1|refine below_set ?_ GE425.out)|exact HB.out)):p:=h
theorem qB102 {p:Prop} (h:p:=by repeat(first|(with_reducible first|exact HB.out|apply below_alloc|apply pw_below_drewN|apply below_drew1|refine below_set ?_ GE417.out)|exact HB.out)):p:=h
theorem qB101 {p:Prop} (h:p:=by repeat(first|(with_reducible first|exact HB.out|apply below_alloc|apply pw_below_drewN|apply below_drew1|refine below_set ?_ GE408.out)|exact HB.out)):p:=h
theorem qB100 {p:Prop} (h:p:=by repeat(first|(with_reducible first|exact HB.out|apply below_alloc|apply pw_below_drewN|apply below_drew1|refine below_set ?_ GE382.out)|exact HB.out)):p:=h
theorem qB99 {p:Prop} (h:p:=by repeat(first|(with_reducible first|exact HB.out|apply below_alloc|apply pw_below_drewN|apply below_drew1|refine below_set ?_ GE379.out)|exact HB.out)):p:=h
theorem qB98 {p:Prop} (h:p:=by repeat(first|(with_reducible first|exact HB.out|apply below_alloc|apply pw_below_drewN|apply below_drew1|refine below_set ?_ GE376.out)|exact HB.out)):p:=h
theorem qB97 {p:Prop} (h:p:=by repeat(first|(with_reducible first|exact HB.out|apply below_alloc|apply pw_below_drewN|apply below_drew1|refine below_set ?_ GE373.out)|exact HB.out)):p:=h
theorem qB96 {p:Prop} (h:p:=by repeat(first|(with_reducible first|exact HB.out|apply below_alloc|apply pw_below_drewN|apply below_drew1|refine below_set ?_ GE365.out)|exact HB.out)):p:=h
theorem qB95 {p:Prop} (h:p:=by repeat(first|(with_reducible first|exact HB.out|apply below_alloc|apply pw_below_drewN|apply below_drew1|refine below_set ?_ GE358.out)|exact HB.out)):p:=h
theorem qB94 {p:Prop} (h:p:=by repeat(first|(with_reducible first|exact HB.out|apply below_alloc|apply pw_below_drewN|apply below_drew1|refine below_set ?_ GE354.out)|exact HB.out)):p:=h
theorem qB93 {p:Prop} (h:p:=by repeat(first|(with_reducible first|exact HB.out|apply below_alloc|apply pw_below_drewN|apply below_drew1|refine below_set ?_ GE340.out)|exact HB.out)):p:=h
theorem qB92 {p:Prop} (h:p:=by repeat(first|(with_reducible first|exact HB.out|apply below_alloc|apply pw_below_drewN|apply below_drew1|refine below_set ?_ GE271.out)|exact HB.out)):p:=h
theorem qB91 {p:Prop} (h:p:=by repeat(first|(with_reducible first|exact HB.out|apply below_alloc|apply pw_below_drewN|apply below_drew1|refine below_set ?_ GE258.out)|exact HB.out)):p:=h
theorem qB90 {p:Prop} (h:p:=by repeat(first|(with_reducible first|exact HB.out|apply below_alloc|apply pw_below_drewN|apply below_drew1|refine below_set ?_ GE249.out)|exact HB.out)):p:=h
theorem qB89 {p:Prop} (h:p:=by repeat(first|(with_reducible first|exact HB.out|apply below_alloc|apply pw_below_drewN|apply below_drew1|refine below_set ?_ GE231.out)|exact HB.out)):p:=h
theorem qB88 {p:Prop} (h:p:=by repeat(first|(with_reducible first|exact HB.out|apply below_alloc|apply pw_below_drewN|apply below_drew1|refine below_set ?_ GE226.out)|exact HB.out)):p:=h
theorem qB87 {p:Prop} (h:p:=by repeat(first|(with_reducible first|exact HB.out|apply below_alloc|apply pw_below_drewN|apply below_drew1|refine below_set ?_ GE158.out)|exact HB.out)):p:=h
theorem qB86 {p:Prop} (h:p:=by repeat(first|(with_reducible first|exact HB.out|apply below_alloc|apply pw_below_drewN|apply below_drew1|refine below_set ?_ GE147.out)|exact HB.out)):p:=h
theorem qB85 {p:Prop} (h:p:=by repeat(first|(with_reducible first|exact HB.out|apply below_alloc|apply pw_below_drewN|apply below_drew1|refine below_set ?_ GE143.out)|exact HB.out)):p:=h
theorem qB84 {p:Prop} (h:p:=by repeat(first|(with_reducible first|exact HB.out|apply below_alloc|apply pw_below_drewN|apply below_drew1|refine below_set ?_ GE140.out)|exact HB.out)):p:=h
theorem qB83 {p:Prop} (h:p:=by repeat(first|(with_reducible first|exact HB.out|apply below_alloc|apply pw_below_drewN|apply below_drew1|refine below_set ?_ GE132.out)|exact HB.out)):p:=h
theorem qB82 {p:Prop} (h:p:=by repeat(first|(with_reducible first|exact HB.out|apply below_alloc|apply pw_below_drewN|apply below_drew1|refine below_set ?_ GE128.out)|exact HB.out)):p:=h
theorem qB81 {p:Prop} (h:p:=by repeat(first|(with_reducible first|exact HB.out|apply below_alloc|apply pw_below_drewN|apply below_drew1|refine below_set ?_ GE116.out)|exact HB.out)):p:=h
theorem qB80 {p:Prop} (h:p:=by repeat(first|(with_reducible first|exact HB.out|apply below_alloc|apply pw_below_drewN|apply below_drew1|refine below_set ?_ GE108.out)|exact HB.out)):p:=h
theorem qB79 {p:Prop} (h:p:=by repeat(first|(with_reducible first|exact HB.out|apply below_alloc|apply pw_below_drewN|apply below_drew1|refine below_set ?_ GE471.out|refine below_set ?_ GE472.out)|exact HB.out)):p:=h
theorem qB78 {p:Prop} (h:p:=by repeat(first|(with_reducible first|exact HB.out|apply below_alloc|apply pw_below_drewN|apply below_drew1|refine below_set ?_ GE425.out|refine below_set ?_ GE426.out)|exact HB.out)):p:=h
theorem qB77 {p:Prop} (h:p:=by repeat(first|(with_reducible first|exact HB.out|apply below_alloc|apply pw_below_drewN|apply below_drew1|refine below_set ?_ GE417.out|refine below_set ?_ GE418.out)|exact HB.out)):p:=h
theorem qB76 {p:Prop} (h:p:=by repeat(first|(with_reducible first|exact HB.out|apply below_alloc|apply pw_below_drewN|apply below_drew1|refine below_set ?_ GE382.out|refine below_set ?_ GE383.out)|exact HB.out)):p:=h
theorem qB75 {p:Prop} (h:p:=by repeat(first|(with_reducible first|exact HB.out|apply below_alloc|apply pw_below_drewN|apply below_drew1|refine below_set ?_ GE376.out|refine below_set ?_ GE377.out)|exact HB.out)):p:=h
theorem qB74 {p:Prop} (h:p:=by repeat(first|(with_reducible first|exact HB.out|apply below_alloc|apply pw_below_drewN|apply below_drew1|refine below_set ?_ GE373.out|refine below_set ?_ GE374.out)|exact HB.out)):p:=h
theorem qB73 {p:Prop} (h:p:=by repeat(first|(with_reducible first|exact HB.out|apply below_alloc|apply pw_below_drewN|apply below_drew1|refine below_set ?_ GE340.out|refine below_set ?_ GE341.out)|exact HB.out)):p:=h
theorem qB72 {p:Prop} (h:p:=by repeat(first|(with_reducible first|exact HB.out|apply below_alloc|apply pw_below_drewN|apply below_drew1|refine below_set ?_ GE271.out|refine below_set ?_ GE272.out)|exact HB.out)):p:=h
theorem qB71 {p:Prop} (h:p:=by repeat(first|(with_reducible first|exact HB.out|apply below_alloc|apply pw_below_drewN|apply below_drew1|refine below_set ?_ GE258.out|refine below_set ?_ GE259.out)|exact HB.out)):p:=h
theorem qB70 {p:Prop} (h:p:=by repeat(first|(with_reducible first|exact HB.out|apply below_alloc|apply pw_below_drewN|apply below_drew1|refine below_set ?_ GE158.out|refine below_set ?_ GE159.out)|exact HB.out)):p:=h
theorem qB69 {p:Prop} (h:p:=by repeat(first|(with_reducible first|exact HB.out|apply below_alloc|apply pw_below_drewN|apply below_drew1|refine below_set ?_ GE147.out|refine below_set ?_ GE148.out)|exact HB.out)):p:=h
theorem qB68 {p:Prop} (h:p:=by repeat(first|(with_reducible first|exact HB.out|apply below_alloc|apply pw_below_drewN|apply below_drew1|refine below_set ?_ GE108.out|refine below_set ?_ GE109.out)|exact HB.out)):p:=h
theorem qB67 {p:Prop} (h:p:=by (with_reducible repeat(first|apply Kd.N_alloc|apply Kd.N_drewN|apply Kd.N_drew));exact Kd.N_mono HO429.out (fun _ hk=>⟨hk.1.1.1.1,⟨hk.1.1.2,⟨hk.1.1.1.2.1,⟨hk.1.1.1.2.2,⟨hk.2,hk.1.2⟩⟩⟩⟩⟩)):p:=h
theorem qB66 {p:Prop} (h:p:=by (with_reducible repeat(first|apply Kd.N_alloc|apply Kd.N_drewN|apply Kd.N_drew));exact Kd.N_mono HO429.out (fun _ hk=>⟨hk.1.1.1.1,⟨hk.1.1.2,⟨hk.1.1.1.2.1,⟨hk.1.1.1.2.2,⟨hk.1.2,hk.2⟩⟩⟩⟩⟩)):p:=h
theorem qB65 {p:Prop} (h:p:=by (with_reducible repeat(first|apply Kd.V_alloc|apply Kd.V_drewN|apply Kd.V_drew));exact Kd.V_mono HO1_1.out (fun _ hk=>⟨hk.1.1.1.1.1.1,⟨hk.1.1.1.2,⟨hk.1.1.2,⟨hk.1.1.1.1.1.2,⟨hk.1.1.1.1.2,⟨hk.2,hk.1.2⟩⟩⟩⟩⟩⟩)):p:=h
theorem qB64 {p:Prop} (h:p:=by (with_reducible repeat(first|apply Kd.V_alloc|apply Kd.V_drewN|apply Kd.V_drew));exact Kd.V_mono HO0_1.out (fun _ hk=>⟨hk.1.1.1.1.1.1,⟨hk.1.1.1.2,⟨hk.1.1.2,⟨hk.1.1.1.1.1.2,⟨hk.1.1.1.1.2,⟨hk.2,hk.1.2⟩⟩⟩⟩⟩⟩)):p:=h
theorem qB63 {p:Prop} (h:p:=by (with_reducible repeat(first|apply Kd.V_alloc|apply Kd.V_drewN|apply Kd.V_drew));exact Kd.V_mono HO1_1.out (fun _ hk=>⟨hk.1.1.1.1.1.1,⟨hk.1.1.1.2,⟨hk.1.1.2,⟨hk.1.1.1.1.1.2,⟨hk.1.1.1.1.2,⟨hk.1.2,hk.2⟩⟩⟩⟩⟩⟩)):p:=h
theorem qB62 {p:Prop} (h:p:=by (with_reducible repeat(first|apply Kd.V_alloc|apply Kd.V_drewN|apply Kd.V_drew));exact Kd.V_mono HO0_1.out (fun _ hk=>⟨hk.1.1.1.1.1.1,⟨hk.1.1.1.2,⟨hk.1.1.2,⟨hk.1.1.1.1.1.2,⟨hk.1.1.1.1.2,⟨hk.1.2,hk.2⟩⟩⟩⟩⟩⟩)):p:=h
theorem qB61 {p:Prop} (h:p:=by repeat(first|(with_reducible first|exact HB.out|apply below_alloc|apply pw_below_drewN|apply below_drew1|refine below_set ?_ GE471.out|refine below_set ?_ GE472.out|refine below_set ?_ GE489.out)|exact HB.out)):p:=h
theorem qB60 {p:Prop} (h:p:=by repeat(first|(with_reducible first|exact HB.out|apply below_alloc|apply pw_below_drewN|apply below_drew1|refine below_set ?_ GE425.out|refine below_set ?_ GE426.out|refine below_set ?_ GE441.out)|exact HB.out)):p:=h
theorem qB59 {p:Prop} (h:p:=by repeat(first|(with_reducible first|exact HB.out|apply below_alloc|apply pw_below_drewN|apply below_drew1|refine below_set ?_ GE425.out|refine below_set ?_ GE426.out|refine below_set ?_ GE440.out)|exact HB.out)):p:=h
theorem qB58 {p:Prop} (h:p:=by repeat(first|(with_reducible first|exact HB.out|apply below_alloc|apply pw_below_drewN|apply below_drew1|refine below_set ?_ GE417.out|refine below_set ?_ GE418.out|refine below_set ?_ GE423.out)|exact HB.out)):p:=h
theorem qB57 {p:Prop} (h:p:=by repeat(first|(with_reducible first|exact HB.out|apply below_alloc|apply pw_below_drewN|apply below_drew1|refine below_set ?_ GE382.out|refine below_set ?_ GE383.out|refine below_set ?_ GE384.out)|exact HB.out)):p:=h
theorem qB56 {p:Prop} (h:p:=by repeat(first|(with_reducible first|exact HB.out|apply below_alloc|apply pw_below_drewN|apply below_drew1|refine below_set ?_ GE271.out|refine below_set ?_ GE272.out|refine below_set ?_ GE281.out)|exact HB.out)):p:=h
theorem qB55 {p:Prop} (h:p:=by repeat(first|(with_reducible first|exact HB.out|apply below_alloc|apply pw_below_drewN|apply below_drew1|refine below_set ?_ GE258.out|refine below_set ?_ GE259.out|refine below_set ?_ GE268.out)|exact HB.out)):p:=h
theorem qB54 {p:Prop} (h:p:=by repeat(first|(with_reducible first|exact HB.out|apply below_alloc|apply pw_below_drewN|apply below_drew1|refine below_set ?_ GE158.out|refine below_set ?_ GE159.out|refine below_set ?_ GE160.out)|exact HB.out)):p:=h
theorem qB53 {p:Prop} (h:p:=by repeat(first|(with_reducible first|exact HB.out|apply below_alloc|apply pw_below_drewN|apply below_drew1|refine below_set ?_ GE147.out|refine below_set ?_ GE148.out|refine below_set ?_ GE149.out)|exact HB.out)):p:=h
theorem qB52 {p:Prop} (h:p:=by repeat(first|(with_reducible first|exact HB.out|apply below_alloc|apply pw_below_drewN|apply below_drew1|refine below_set ?_ GE108.out|refine below_set ?_ GE109.out|refine below_set ?_ GE110.out)|exact HB.out)):p:=h
theorem qB51 {p:Prop} (h:p:=by repeat(first|(with_reducible first|exact HB.out|apply below_alloc|apply pw_below_drewN|apply below_drew1|refine below_set ?_ GE471.out|refine below_set ?_ GE472.out|refine below_set ?_ GE489.out|refine below_set ?_ GE494.out)|exact HB.out)):p:=h
theorem qB50 {p:Prop} (h:p:=by repeat(first|(with_reducible first|exact HB.out|apply below_alloc|apply pw_below_drewN|apply below_drew1|refine below_set ?_ GE425.out|refine below_set ?_ GE426.out|refine below_set ?_ GE441.out|refine below_set ?_ GE440.out)|exact HB.out)):p:=h
theorem qB49 {p:Prop} (h:p:=by repeat(first|(with_reducible first|exact HB.out|apply below_alloc|apply pw_below_drewN|apply below_drew1|refine below_set ?_ GE425.out|refine below_set ?_ GE426.out|refine below_set ?_ GE440.out|refine below_set ?_ GE441.out)|exact HB.out)):p:=h
theorem qB48 {p:Prop} (h:p:=by repeat(first|(with_reducible first|exact HB.out|apply below_alloc|apply pw_below_drewN|apply below_drew1|refine below_set ?_ GE382.out|refine below_set ?_ GE383.out|refine below_set ?_ GE384.out|refine below_set ?_ GE385.out)|exact HB.out)):p:=h
theorem qB47 {p:Prop} (h:p:=by repeat(first|(with_reducible first|exact HB.out|apply below_alloc|apply pw_below_drewN|apply below_drew1|refine below_set ?_ GE271.out|refine below_set ?_ GE272.out|refine below_set ?_ GE281.out|refine below_set ?_ GE282.out)|exact HB.out)):p:=h
theorem qB46 {p:Prop} (h:p:=by repeat(first|(with_reducible first|exact HB.out|apply below_alloc|apply pw_below_drewN|apply below_drew1|refine below_set ?_ GE158.out|refine below_set ?_ GE159.out|refine below_set ?_ GE160.out|refine below_set ?_ GE161.out)|exact HB.out)):p:=h
theorem qB45 {p:Prop} (h:p:=by repeat(first|(with_reducible first|exact HB.out|apply below_alloc|apply pw_below_drewN|apply below_drew1|refine below_set ?_ GE425.out|refine below_set ?_ GE426.out|refine below_set ?_ GE440.out|refine below_set ?_ GE441.out|refine below_set ?_ GE443.out)|exact HB.out)):p:=h
theorem qB44 {p:Prop} (h:p:=by repeat(first|(with_reducible first|exact HB.out|apply below_alloc|apply pw_below_drewN|apply below_drew1|refine below_set ?_ GE382.out|refine below_set ?_ GE383.out|refine below_set ?_ GE384.out|refine below_set ?_ GE385.out|refine below_set ?_ GE391.out)|exact HB.out)):p:=h
theorem qB43 {p:Prop} (h:p:=by repeat(first|(with_reducible first|exact HB.out|apply below_alloc|apply pw_below_drewN|apply below_drew1|refine below_set ?_ GE271.out|refine below_set ?_ GE272.out|refine below_set ?_ GE281.out|refine below_set ?_ GE282.out|refine below_set ?_ GE288.out)|exact HB.out)):p:=h
theorem qB42 {p:Prop} (h:p:=by repeat(first|(with_reducible first|exact HB.out|apply below_alloc|apply pw_below_drewN|apply below_drew1|refine below_set ?_ GE158.out|refine below_set ?_ GE159.out|refine below_set ?_ GE160.out|refine below_set ?_ GE161.out|refine below_set ?_ GE174.out)|exact HB.out)):p:=h
theorem qB41 {p:Prop} (h:p:=by repeat(first|(with_reducible first|exact HB.out|apply below_alloc|apply pw_below_drewN|apply below_drew1|refine below_set ?_ GE425.out|refine below_set ?_ GE426.out|refine below_set ?_ GE440.out|refine below_set ?_ GE441.out|refine below_set ?_ GE443.out|refine below_set ?_ GE467.out)|exact HB.out)):p:=h
theorem qB40 {p:Prop} (h:p:=by repeat(first|(with_reducible first|exact HB.out|apply below_alloc|apply pw_below_drewN|apply below_drew1|refine below_set ?_ GE382.out|refine below_set ?_ GE383.out|refine below_set ?_ GE384.out|refine below_set ?_ GE385.out|refine below_set ?_ GE391.out|refine below_set ?_ GE394.out)|exact HB.out)):p:=h
theorem qB39 {p:Prop} (h:p:=by repeat(first|(with_reducible first|exact HB.out|apply below_alloc|apply pw_below_drewN|apply below_drew1|refine below_set ?_ GE271.out|refine below_set ?_ GE272.out|refine below_set ?_ GE281.out|refine below_set ?_ GE282.out|refine below_set ?_ GE288.out|refine below_set ?_ GE330.out)|exact HB.out)):p:=h
theorem qB38 {p:Prop} (h:p:=by repeat(first|(with_reducible first|exact HB.out|apply below_alloc|apply pw_below_drewN|apply below_drew1|refine below_set ?_ GE158.out|refine below_set ?_ GE159.out|refine below_set ?_ GE160.out|refine below_set ?_ GE161.out|refine below_set ?_ GE174.out|refine below_set ?_ GE183.out)|exact HB.out)):p:=h
theorem qB37 {p:Prop} (h:p:=by (with_reducible repeat(first|apply Kd.R_alloc|apply Kd.R_drewN|apply Kd.R_drew));exact(Kd.R_mono (Kd.R_far (p:=⟨gb489,1,none⟩) (Kd.R_far (p:=⟨gb489,0,none⟩) (Kd.R_types HO488.out BK489.out (by decide)) (fun _ hk=>hk.2) (.int .i64 t485)) (fun _ hk=>hk.2) (.slice Ao45 t486.length co45)) (fun _ h_=>h_.1))):p:=h
theorem qB36 {p:Prop} (h:p:=by (with_reducible repeat(first|apply Kd.R_alloc|apply Kd.R_drewN|apply Kd.R_drew));exact(Kd.R_mono (Kd.R_far (p:=⟨gb489,1,none⟩) (Kd.R_far (p:=⟨gb489,0,none⟩) (Kd.R_types HO482.out BK489.out (by decide)) (fun _ hk=>hk.2) (.int .i64 t485)) (fun _ hk=>hk.2) (.slice Ao45 t486.length co45)) (fun _ h_=>h_.1))):p:=h
theorem qB35 {p:Prop} (h:p:=by (with_reducible repeat(first|apply Kd.R_alloc|apply Kd.R_drewN|apply Kd.R_drew));exact(Kd.R_mono (Kd.R_far (p:=⟨gb489,1,none⟩) (Kd.R_far (p:=⟨gb489,0,none⟩) (Kd.R_types HO478.out BK489.out (by decide)) (fun _ hk=>hk.2) (.int .i64 t485)) (fun _ hk=>hk.2) (.slice Ao45 t486.length co45)) (fun _ h_=>h_.1))):p:=h
theorem qB34 {p:Prop} (h:p:=by (with_reducible repeat(first|apply Kd.R_alloc|apply Kd.R_drewN|apply Kd.R_drew));exact(Kd.R_mono (Kd.R_far (p:=⟨gb183,1,none⟩) (Kd.R_far (p:=⟨gb183,0,none⟩) (Kd.R_types HO173.out BK183.out (by decide)) (fun _ hk=>hk.2) (.int .i64 t179)) (fun _ hk=>hk.2) (.slice Ao43 t180.length co43)) (fun _ h_=>h_.1))):p:=h
theorem qB33 {p:Prop} (h:p:=by (with_reducible repeat(first|apply Kd.R_alloc|apply Kd.R_drewN|apply Kd.R_drew));exact(Kd.R_mono (Kd.R_far (p:=⟨gb183,1,none⟩) (Kd.R_far (p:=⟨gb183,0,none⟩) (Kd.R_types HO169.out BK183.out (by decide)) (fun _ hk=>hk.2) (.int .i64 t179)) (fun _ hk=>hk.2) (.slice Ao43 t180.length co43)) (fun _ h_=>h_.1))):p:=h
theorem qB32 {p:Prop} (h:p:=by (with_reducible repeat(first|apply Kd.R_alloc|apply Kd.R_drewN|apply Kd.R_drew));exact(Kd.R_mono (Kd.R_far (p:=⟨gb183,1,none⟩) (Kd.R_far (p:=⟨gb183,0,none⟩) (Kd.R_types HO182.out BK183.out (by decide)) (fun _ hk=>hk.2) (.int .i64 t179)) (fun _ hk=>hk.2) (.slice Ao43 t180.length co43)) (fun _ h_=>h_.1))):p:=h
theorem qB31 {p:Prop} (h:p:=by first|(rw [add_block];exact Kd.own_blk (Kd.R_ne HO187.out BK161.out (by decide)))|(show(Addr.add _ _).block≠_;rw [add_block];exact Kd.own_blk (Kd.R_ne HO187.out BK161.out (by decide)))|(dsimp only;exact Kd.own_blk (Kd.R_ne HO187.out BK161.out (by decide)))|exact Kd.own_blk (Kd.R_ne HO187.out BK161.out (by decide))):p:=h
theorem qB30 {p:Prop} (h:p:=by first|(rw [add_block];exact Kd.own_blk (Kd.R_ne HO187.out BK160.out (by decide)))|(show(Addr.add _ _).block≠_;rw [add_block];exact Kd.own_blk (Kd.R_ne HO187.out BK160.out (by decide)))|(dsimp only;exact Kd.own_blk (Kd.R_ne HO187.out BK160.out (by decide)))|exact Kd.own_blk (Kd.R_ne HO187.out BK160.out (by decide))):p:=h
theorem qB29 {p:Prop} (h:p:=by first|(rw [add_block];exact Kd.own_blk (Kd.R_ne HO173.out BK183.out (by decide)))|(show(Addr.add _ _).block≠_;rw [add_block];exact Kd.own_blk (Kd.R_ne HO173.out BK183.out (by decide)))|(dsimp only;exact Kd.own_blk (Kd.R_ne HO173.out BK183.out (by decide)))|exact Kd.own_blk (Kd.R_ne HO173.out BK183.out (by decide))):p:=h
theorem qB28 {p:Prop} (h:p:=by first|(rw [add_block];exact Kd.own_blk (Kd.R_away HO433.out (fun _ hk=>hk.2.2)))|(show(Addr.add _ _).block≠_;rw [add_block];exact Kd.own_blk (Kd.R_away HO433.out (fun _ hk=>hk.2.2)))|(dsimp only;exact Kd.own_blk (Kd.R_away HO433.out (fun _ hk=>hk.2.2)))|exact Kd.own_blk (Kd.R_away HO433.out (fun _ hk=>hk.2.2))):p:=h
theorem qB27 {p:Prop} (h:p:=by first|(rw [add_block];exact Kd.own_blk (Kd.R_away HO433.out (fun _ hk=>hk.2.1)))|(show(Addr.add _ _).block≠_;rw [add_block];exact Kd.own_blk (Kd.R_away HO433.out (fun _ hk=>hk.2.1)))|(dsimp only;exact Kd.own_blk (Kd.R_away HO433.out (fun _ hk=>hk.2.1)))|exact Kd.own_blk (Kd.R_away HO433.out (fun _ hk=>hk.2.1))):p:=h
theorem qB26 {p:Prop} (h:p:=by repeat(first|(with_reducible first|exact HB.out|apply below_alloc|apply pw_below_drewN|apply below_drew1|refine below_set ?_ GE158.out|refine below_set ?_ GE159.out|refine below_set ?_ GE160.out|refine below_set ?_ GE161.out|refine below_set ?_ GE174.out|refine below_set ?_ GE183.out|refine below_set ?_ GE188.out)|exact HB.out)):p:=h
theorem qB25 {p:Prop} (h:p:=by (with_reducible repeat(first|apply Kd.R_alloc|apply Kd.R_drewN|apply Kd.R_drew));exact(Kd.R_mono (Kd.R_far (p:=⟨gb365,1,none⟩) (Kd.R_far (p:=⟨gb365,0,none⟩) (Kd.R_types HO_4.out BK365.out (by decide)) (fun _ hk=>hk.2) (.int .i64 ((rd_T26 l0 x10_1).f0))) (fun _ hk=>hk.2) (.slice A364_1 ((rd_T26 l0 x10_1).f1).length c364_1)) (fun _ h_=>h_.1))):p:=h
theorem qB24 {p:Prop} (h:p:=by (with_reducible repeat(first|refine blk_drewN ?_ _|refine blk_drew ?_|refine blk_alloc ?_ _));refine blk_put (cs:=#[.int .i64 t242,.slice none 0 0]) ?_ 1 _ rfl;(with_reducible repeat(first|refine blk_drewN ?_ _|refine blk_drew ?_|refine blk_alloc ?_ _));refine blk_put (cs:=#[.int .i64 0,.slice none 0 0]) ?_ 0 _ rfl;(with_reducible repeat(first|refine blk_drewN ?_ _|refine blk_drew ?_|refine blk_alloc ?_ _));exact BK231.out):p:=h
theorem qB23 {p:Prop} (h:p:=by (with_reducible repeat(first|refine blk_drewN ?_ _|refine blk_drew ?_|refine blk_alloc ?_ _));refine blk_put (cs:=#[.int .i64 ((rd_T26 l0 x10_1).f0),.slice none 0 0]) ?_ 1 _ rfl;(with_reducible repeat(first|refine blk_drewN ?_ _|refine blk_drew ?_|refine blk_alloc ?_ _));refine blk_put (cs:=#[.int .i64 0,.slice none 0 0]) ?_ 0 _ rfl;(with_reducible repeat(first|refine blk_drewN ?_ _|refine blk_drew ?_|refine blk_alloc ?_ _));exact BK365.out):p:=h
theorem qB22 {p:Prop} (h:p:=by (with_reducible repeat(first|apply Kd.R_alloc|apply Kd.R_drewN|apply Kd.R_drew));exact(Kd.R_mono (Kd.R_mono (Kd.R_far (p:=⟨gb282,1,none⟩) (Kd.R_far (p:=⟨gb282,0,none⟩) (Kd.R_far (p:=⟨gb281,1,none⟩) (Kd.R_far (p:=⟨gb281,0,none⟩) (Kd.R_types (Kd.R_types HO280.out BK281.out (by decide)) BK282.out (by decide)) (fun _ hk=>hk.1.2) (.int .i64 t273)) (fun _ hk=>hk.1.2) (.slice Ao38 t274.length co38)) (fun _ hk=>hk.2) (.int .i64 t277)) (fun _ hk=>hk.2) (.slice Ao42 t278.length co42)) (fun _ h_=>h_.1)) (fun _ h_=>h_.1))):p:=h
theorem qB21 {p:Prop} (h:p:=by (with_reducible repeat(first|apply Kd.R_alloc|apply Kd.R_drewN|apply Kd.R_drew));exact(Kd.R_mono (Kd.R_mono (Kd.R_far (p:=⟨gb282,1,none⟩) (Kd.R_far (p:=⟨gb282,0,none⟩) (Kd.R_far (p:=⟨gb281,1,none⟩) (Kd.R_far (p:=⟨gb281,0,none⟩) (Kd.R_types (Kd.R_types HO280.out BK281.out (by decide)) BK282.out (by decide)) (fun _ hk=>hk.1.2) (.int .i64 t273)) (fun _ hk=>hk.1.2) (.slice Ao18 t274.length co18)) (fun _ hk=>hk.2) (.int .i64 t277)) (fun _ hk=>hk.2) (.slice Ao22 t278.length co22)) (fun _ h_=>h_.1)) (fun _ h_=>h_.1))):p:=h
theorem qB20 {p:Prop} (h:p:=by (with_reducible repeat(first|apply Kd.R_alloc|apply Kd.R_drewN|apply Kd.R_drew));exact(Kd.R_mono (Kd.R_mono (Kd.R_far (p:=⟨gb269,1,none⟩) (Kd.R_far (p:=⟨gb269,0,none⟩) (Kd.R_far (p:=⟨gb268,1,none⟩) (Kd.R_far (p:=⟨gb268,0,none⟩) (Kd.R_types (Kd.R_types HO267.out BK268.out (by decide)) BK269.out (by decide)) (fun _ hk=>hk.1.2) (.int .i64 t260)) (fun _ hk=>hk.1.2) (.slice Ao17 t261.length co17)) (fun _ hk=>hk.2) (.int .i64 t264)) (fun _ hk=>hk.2) (.slice Ao21 t265.length co21)) (fun _ h_=>h_.1)) (fun _ h_=>h_.1))):p:=h
theorem qB19 {p:Prop} (h:p:=by (with_reducible repeat(first|apply Kd.R_alloc|apply Kd.R_drewN|apply Kd.R_drew));exact(Kd.R_mono (Kd.R_mono (Kd.R_far (p:=⟨gb441,1,none⟩) (Kd.R_far (p:=⟨gb441,0,none⟩) (Kd.R_far (p:=⟨gb440,1,none⟩) (Kd.R_far (p:=⟨gb440,0,none⟩) (Kd.R_mono (Kd.R_mono HO433.out (fun k_ hk=>(⟨hk,hk.2.1⟩:_∧k_≠gb440))) (fun k_ hk=>(⟨hk,hk.1.2.2⟩:_∧k_≠gb441))) (fun _ hk=>hk.1.2) (.int .i64 ((rd_T54 t430 0).f0))) (fun _ hk=>hk.1.2) (.int .i64 ((rd_T54 t430 0).f1))) (fun _ hk=>hk.2) (.int .i64 ((rd_T54 t430 1).f0))) (fun _ hk=>hk.2) (.int .i64 ((rd_T54 t430 1).f1))) (fun _ h_=>h_.1)) (fun _ h_=>h_.1))):p:=h
theorem qB18 {p:Prop} (h:p:=by (with_reducible repeat(first|apply Kd.N_alloc|apply Kd.N_drewN|apply Kd.N_drew));exact(Kd.N_mono (Kd.N_mono (Kd.N_far (p:=⟨gb441,1,none⟩) (Kd.N_far (p:=⟨gb441,0,none⟩) (Kd.N_far (p:=⟨gb440,1,none⟩) (Kd.N_far (p:=⟨gb440,0,none⟩) (Kd.N_mono (Kd.N_mono HO429.out (fun k_ hk=>(⟨hk,hk.2.2.2.2.1⟩:_∧k_≠gb440))) (fun k_ hk=>(⟨hk,hk.1.2.2.2.2.2⟩:_∧k_≠gb441))) (fun _ hk=>hk.1.2) (.int .i64 ((rd_T54 t430 0).f0))) (fun _ hk=>hk.1.2) (.int .i64 ((rd_T54 t430 0).f1))) (fun _ hk=>hk.2) (.int .i64 ((rd_T54 t430 1).f0))) (fun _ hk=>hk.2) (.int .i64 ((rd_T54 t430 1).f1))) (fun _ h_=>h_.1)) (fun _ h_=>h_.1))):p:=h
theorem qB17 {p:Prop} (h:p:=by (with_reducible repeat(first|apply Kd.V_alloc|apply Kd.V_drewN|apply Kd.V_drew));exact(Kd.V_mono (Kd.V_mono (Kd.V_far (p:=⟨gb441,1,none⟩) (Kd.V_far (p:=⟨gb441,0,none⟩) (Kd.V_far (p:=⟨gb440,1,none⟩) (Kd.V_far (p:=⟨gb440,0,none⟩) (Kd.V_mono (Kd.V_mono HO1_1.out (fun k_ hk=>(⟨hk,hk.2.2.2.2.2.1⟩:_∧k_≠gb440))) (fun k_ hk=>(⟨hk,hk.1.2.2.2.2.2.2⟩:_∧k_≠gb441))) (fun _ hk=>hk.1.2) (.int .i64 ((rd_T54 t430 0).f0))) (fun _ hk=>hk.1.2) (.int .i64 ((rd_T54 t430 0).f1))) (fun _ hk=>hk.2) (.int .i64 ((rd_T54 t430 1).f0))) (fun _ hk=>hk.2) (.int .i64 ((rd_T54 t430 1).f1))) (fun _ h_=>h_.1)) (fun _ h_=>h_.1))):p:=h
theorem qB16 {p:Prop} (h:p:=by (with_reducible repeat(first|apply Kd.V_alloc|apply Kd.V_drewN|apply Kd.V_drew));exact(Kd.V_mono (Kd.V_mono (Kd.V_far (p:=⟨gb441,1,none⟩) (Kd.V_far (p:=⟨gb441,0,none⟩) (Kd.V_far (p:=⟨gb440,1,none⟩) (Kd.V_far (p:=⟨gb440,0,none⟩) (Kd.V_mono (Kd.V_mono HO0_1.out (fun k_ hk=>(⟨hk,hk.2.2.2.2.2.1⟩:_∧k_≠gb440))) (fun k_ hk=>(⟨hk,hk.1.2.2.2.2.2.2⟩:_∧k_≠gb441))) (fun _ hk=>hk.1.2) (.int .i64 ((rd_T54 t430 0).f0))) (fun _ hk=>hk.1.2) (.int .i64 ((rd_T54 t430 0).f1))) (fun _ hk=>hk.2) (.int .i64 ((rd_T54 t430 1).f0))) (fun _ hk=>hk.2) (.int .i64 ((rd_T54 t430 1).f1))) (fun _ h_=>h_.1)) (fun _ h_=>h_.1))):p:=h
theorem qB15 {p:Prop} (h:p:=by (with_reducible repeat(first|refine blk_drewN ?_ _|refine blk_drew ?_|refine blk_alloc ?_ _));refine blk_far ?_ NB426_441.out _;(with_reducible repeat(first|refine blk_drewN ?_ _|refine blk_drew ?_|refine blk_alloc ?_ _));refine blk_far ?_ NB426_441.out _;(with_reducible repeat(first|refine blk_drewN ?_ _|refine blk_drew ?_|refine blk_alloc ?_ _));refine blk_far ?_ NB426_440.out _;(with_reducible repeat(first|refine blk_drewN ?_ _|refine blk_drew ?_|refine blk_alloc ?_ _));refine blk_far ?_ NB426_440.out _;(with_reducible repeat(first|refine blk_drewN ?_ _|refine blk_drew ?_|refine blk_alloc ?_ _));exact BK426.out):p:=h
theorem qB14 {p:Prop} (h:p:=by (with_reducible repeat(first|refine blk_drewN ?_ _|refine blk_drew ?_|refine blk_alloc ?_ _));refine blk_far ?_ NB425_441.out _;(with_reducible repeat(first|refine blk_drewN ?_ _|refine blk_drew ?_|refine blk_alloc ?_ _));refine blk_far ?_ NB425_441.out _;(with_reducible repeat(first|refine blk_drewN ?_ _|refine blk_drew ?_|refine blk_alloc ?_ _));refine blk_far ?_ NB425_440.out _;(with_reducible repeat(first|refine blk_drewN ?_ _|refine blk_drew ?_|refine blk_alloc ?_ _));refine blk_far ?_ NB425_440.out _;(with_reducible repeat(first|refine blk_drewN ?_ _|refine blk_drew ?_|refine blk_alloc ?_ _));exact BK425.out):p:=h
theorem qB13 {p:Prop} (h:p:=by (with_reducible repeat(first|refine blk_drewN ?_ _|refine blk_drew ?_|refine blk_alloc ?_ _));refine blk_far ?_ NB272_282.out _;(with_reducible repeat(first|refine blk_drewN ?_ _|refine blk_drew ?_|refine blk_alloc ?_ _));refine blk_far ?_ NB272_282.out _;(with_reducible repeat(first|refine blk_drewN ?_ _|refine blk_drew ?_|refine blk_alloc ?_ _));refine blk_far ?_ NB272_281.out _;(with_reducible repeat(first|refine blk_drewN ?_ _|refine blk_drew ?_|refine blk_alloc ?_ _));refine blk_far ?_ NB272_281.out _;(with_reducible repeat(first|refine blk_drewN ?_ _|refine blk_drew ?_|refine blk_alloc ?_ _));exact BK272.out):p:=h
theorem qB12 {p:Prop} (h:p:=by (with_reducible repeat(first|refine blk_drewN ?_ _|refine blk_drew ?_|refine blk_alloc ?_ _));refine blk_far ?_ NB271_282.out _;(with_reducible repeat(first|refine blk_drewN ?_ _|refine blk_drew ?_|refine blk_alloc ?_ _));refine blk_far ?_ NB271_282.out _;(with_reducible repeat(first|refine blk_drewN ?_ _|refine blk_drew ?_|refine blk_alloc ?_ _));refine blk_far ?_ NB271_281.out _;(with_reducible repeat(first|refine blk_drewN ?_ _|refine blk_drew ?_|refine blk_alloc ?_ _));refine blk_far ?_ NB271_281.out _;(with_reducible repeat(first|refine blk_drewN ?_ _|refine blk_drew ?_|refine blk_alloc ?_ _));exact BK271.out):p:=h
theorem qB11 {p:Prop} (h:p:=by first|exact Nat.ne_of_lt (Nat.lt_of_lt_of_le qB214 GW161.out)|(rw [add_block];exact Nat.ne_of_lt (Nat.lt_of_lt_of_le qB214 GW161.out))|(show(Addr.add _ _).block≠_;rw [add_block];exact Nat.ne_of_lt (Nat.lt_of_lt_of_le qB214 GW161.out))|(dsimp only;exact Nat.ne_of_lt (Nat.lt_of_lt_of_le qB214 GW161.out))):p:=h
theorem qB10 {p:Prop} (h:p:=by first|exact Nat.ne_of_lt (Nat.lt_of_lt_of_le qB213 GW161.out)|(rw [add_block];exact Nat.ne_of_lt (Nat.lt_of_lt_of_le qB213 GW161.out))|(show(Addr.add _ _).block≠_;rw [add_block];exact Nat.ne_of_lt (Nat.lt_of_lt_of_le qB213 GW161.out))|(dsimp only;exact Nat.ne_of_lt (Nat.lt_of_lt_of_le qB213 GW161.out))):p:=h
theorem qB9 {p:Prop} (h:p:=by first|exact Nat.ne_of_lt (Nat.lt_of_lt_of_le qB214 GW160.out)|(rw [add_block];exact Nat.ne_of_lt (Nat.lt_of_lt_of_le qB214 GW160.out))|(show(Addr.add _ _).block≠_;rw [add_block];exact Nat.ne_of_lt (Nat.lt_of_lt_of_le qB214 GW160.out))|(dsimp only;exact Nat.ne_of_lt (Nat.lt_of_lt_of_le qB214 GW160.out))):p:=h
theorem qB8 {p:Prop} (h:p:=by first|exact Nat.ne_of_lt (Nat.lt_of_lt_of_le qB213 GW160.out)|(rw [add_block];exact Nat.ne_of_lt (Nat.lt_of_lt_of_le qB213 GW160.out))|(show(Addr.add _ _).block≠_;rw [add_block];exact Nat.ne_of_lt (Nat.lt_of_lt_of_le qB213 GW160.out))|(dsimp only;exact Nat.ne_of_lt (Nat.lt_of_lt_of_le qB213 GW160.out))):p:=h
theorem qB7 {p:Prop} (h:p:=by first|exact Nat.ne_of_lt (Nat.lt_of_lt_of_le qB212 GW174.out)|(rw [add_block];exact Nat.ne_of_lt (Nat.lt_of_lt_of_le qB212 GW174.out))|(show(Addr.add _ _).block≠_;rw [add_block];exact Nat.ne_of_lt (Nat.lt_of_lt_of_le qB212 GW174.out))|(dsimp only;exact Nat.ne_of_lt (Nat.lt_of_lt_of_le qB212 GW174.out))):p:=h
theorem qB6 {p:Prop} (h:p:=by first|exact Nat.ne_of_lt (Nat.lt_of_lt_of_le qB211 GW174.out)|(rw [add_block];exact Nat.ne_of_lt (Nat.lt_of_lt_of_le qB211 GW174.out))|(show(Addr.add _ _).block≠_;rw [add_block];exact Nat.ne_of_lt (Nat.lt_of_lt_of_le qB211 GW174.out))|(dsimp only;exact Nat.ne_of_lt (Nat.lt_of_lt_of_le qB211 GW174.out))):p:=h
theorem qB5 {p:Prop} (h:p:=by first|exact Nat.ne_of_lt (Nat.lt_of_lt_of_le qB210 GW174.out)|(rw [add_block];exact Nat.ne_of_lt (Nat.lt_of_lt_of_le qB210 GW174.out))|(show(Addr.add _ _).block≠_;rw [add_block];exact Nat.ne_of_lt (Nat.lt_of_lt_of_le qB210 GW174.out))|(dsimp only;exact Nat.ne_of_lt (Nat.lt_of_lt_of_le qB210 GW174.out))):p:=h
theorem qB4 {p:Prop} (h:p:=by (with_reducible repeat(first|refine blk_drewN ?_ _|refine blk_drew ?_|refine blk_alloc ?_ _));refine blk_put (cs:=#[.int .i64 t277,.slice none 0 0]) ?_ 1 _ rfl;(with_reducible repeat(first|refine blk_drewN ?_ _|refine blk_drew ?_|refine blk_alloc ?_ _));refine blk_put (cs:=#[.int .i64 0,.slice none 0 0]) ?_ 0 _ rfl;(with_reducible repeat(first|refine blk_drewN ?_ _|refine blk_drew ?_|refine blk_alloc ?_ _));refine blk_far ?_ NB282_281.out _;(with_reducible repeat(first|refine blk_drewN ?_ _|refine blk_drew ?_|refine blk_alloc ?_ _));refine blk_far ?_ NB282_281.out _;(with_reducible repeat(first|refine blk_drewN ?_ _|refine blk_drew ?_|refine blk_alloc ?_ _));exact BK282.out):p:=h
theorem qB3 {p:Prop} (h:p:=by (with_reducible repeat(first|refine blk_drewN ?_ _|refine blk_drew ?_|refine blk_alloc ?_ _));refine blk_far ?_ NB281_282.out _;(with_reducible repeat(first|refine blk_drewN ?_ _|refine blk_drew ?_|refine blk_alloc ?_ _));refine blk_far ?_ NB281_282.out _;(with_reducible repeat(first|refine blk_drewN ?_ _|refine blk_drew ?_|refine blk_alloc ?_ _));refine blk_put (cs:=#[.int .i64 t273,.slice none 0 0]) ?_ 1 _ rfl;(with_reducible repeat(first|refine blk_drewN ?_ _|refine blk_drew ?_|refine blk_alloc ?_ _));refine blk_put (cs:=#[.int .i64 0,.slice none 0 0]) ?_ 0 _ rfl;(with_reducible repeat(first|refine blk_drewN ?_ _|refine blk_drew ?_|refine blk_alloc ?_ _));exact BK281.out):p:=h
theorem qB2 {p:Prop} (h:p:=by (with_reducible repeat(first|refine blk_drewN ?_ _|refine blk_drew ?_|refine blk_alloc ?_ _));refine blk_put (cs:=#[.int .i64 ((rd_T54 t430 1).f0),.int .i64 0]) ?_ 1 _ rfl;(with_reducible repeat(first|refine blk_drewN ?_ _|refine blk_drew ?_|refine blk_alloc ?_ _));refine blk_put (cs:=#[.int .i64 0,.int .i64 0]) ?_ 0 _ rfl;(with_reducible repeat(first|refine blk_drewN ?_ _|refine blk_drew ?_|refine blk_alloc ?_ _));refine blk_far ?_ NB441_440.out _;(with_reducible repeat(first|refine blk_drewN ?_ _|refine blk_drew ?_|refine blk_alloc ?_ _));refine blk_far ?_ NB441_440.out _;(with_reducible repeat(first|refine blk_drewN ?_ _|refine blk_drew ?_|refine blk_alloc ?_ _));exact BK441.out):p:=h
theorem qB1 {p:Prop} (h:p:=by (with_reducible repeat(first|refine blk_drewN ?_ _|refine blk_drew ?_|refine blk_alloc ?_ _));refine blk_far ?_ NB440_441.out _;(with_reducible repeat(first|refine blk_drewN ?_ _|refine blk_drew ?_|refine blk_alloc ?_ _));refine blk_far ?_ NB440_441.out _;(with_reducible repeat(first|refine blk_drewN ?_ _|refine blk_drew ?_|refine blk_alloc ?_ _));refine blk_put (cs:=#[.int .i64 ((rd_T54 t430 0).f0),.int .i64 0]) ?_ 1 _ rfl;(with_reducible repeat(first|refine blk_drewN ?_ _|refine blk_drew ?_|refine blk_alloc ?_ _));refine blk_put (cs:=#[.int .i64 0,.int .i64 0]) ?_ 0 _ rfl;(with_reducible repeat(first|refine blk_drewN ?_ _|refine blk_drew ?_|refine blk_alloc ?_ _));exact BK440.out):p:=h
end Go.Proofs.Ytejpliodhnglbaa.PFnExactCubicSymbol
