/- The functions that the law reaches, as plain functions, each with the proof that the program comes to it; no condition. Written by a program of this session (wip/mp.py) over the printing of the kit; what is marked HAND is told by hand. -/
import Derived.Test.YtefhabkikaadiaaPFnExactOrthogonalSumx0
import Derived.Test.YtefhabkikaadiaaPFnExactOrthogonalSumx1
namespace Go.Proofs.Ytefhabkikaadiaa.PFnExactOrthogonalSum
open Go.RowKit Go.Proofs.YtefhabkikaadiaaW.PrintWords Go.Proofs.YtefhabkikaadiaaW.PrintLast Go.Proofs.YtefhabkikaadiaaW.PrintMore
attribute [local go_sem] max2_int min2_int max_two min_two max_three min_three max_four min_four   -- for this text's walks alone
set_option linter.unusedVariables false
set_option linter.unusedSimpArgs false

/-! ### spec_l01Gcd: function 128 -/
def spec_l01Gcd.l0:Nat→Int→Int→Option (Int)
 |0,_,_=>none
 |k+1,x0,x1=>if x1=0 then (some (mx x0 (wrap64 (-x0)))) else (spec_l01Gcd.l0 k x1 (Int.tmod x0 x1))
def spec_l01Gcd.f (k:Nat) (a0:Int) (a1:Int):Option (Int):=spec_l01Gcd.l0 k a0 a1
theorem spec_l01Gcd.mono_l:∀k,(∀y0 y1,LeO (spec_l01Gcd.l0 k y0 y1) (spec_l01Gcd.l0 (k+1) y0 y1))
 |0=>fun _ _ r h=>by simp [spec_l01Gcd.l0] at h
 |k+1=>by
  have ih0:=spec_l01Gcd.mono_l k
  ·intro y0 y1;unfold spec_l01Gcd.l0;repeat' first
   |(with_reducible exact ih0 _ _)
   |(with_reducible exact LeO.refl _)
   |(with_reducible exact LeO.none _)
   |(with_reducible refine LeO.ite ?_ ?_)
   |(with_reducible refine LeO.bind ?_ (fun _=>?_))
   |exact ih0 _ _
   |exact LeO.none _
   |refine LeO.ite ?_ ?_
   |refine LeO.bind ?_ (fun _=>?_)
theorem spec_l01Gcd.mono:∀a0 a1 k,LeO (spec_l01Gcd.f k a0 a1) (spec_l01Gcd.f (k+1) a0 a1):=by
 intro a0 a1 k;have ih0:=spec_l01Gcd.mono_l k;unfold spec_l01Gcd.f;repeat' first
   |(with_reducible exact ih0 _ _)
   |(with_reducible exact LeO.refl _)
   |(with_reducible exact LeO.none _)
   |(with_reducible refine LeO.ite ?_ ?_)
   |(with_reducible refine LeO.bind ?_ (fun _=>?_))
   |exact ih0 _ _
   |exact LeO.none _
   |refine LeO.ite ?_ ?_
   |refine LeO.bind ?_ (fun _=>?_)
set_option maxHeartbeats 8000000 in
set_option maxRecDepth 100000 in
theorem spec_l01Gcd.calls (k:Nat) (a0:Int) (a1:Int) (r:Int) (w:World) (h:spec_l01Gcd.f k a0 a1=some r):
  Calls Try.prog 128 #[.int .i64 a0,.int .i64 a1] w fun e w'=>e=.returned (.int .i64 r)∧Below w.heap.size w w':=by
 have HB:=qAm (Below.refl w.heap.size w);have H:(spec_l01Gcd.l0 k a0 a1)=some r:=h;clear h;have H':=qAm H;clear H;go_enter Try.func128,Try.ntmps128;go_wp2;try simp only [Act.put,qSa,qSc,qSb]
 go_loopg [0,1] k (fun kq v0 v1 w'=>∃(x0_1:Int) (x1_1:Int),v0=.int .i64 x0_1∧v1=.int .i64 x1_1∧Aside0 (spec_l01Gcd.l0 kq x0_1 x1_1=some r)∧Aside0 (kq≤k)∧Aside0 (Below w.heap.size w w'))
 case atStart=>exact⟨(a0),(a1),qB178,qB178,H',⟨Nat.le_refl _⟩,⟨by repeat(first|(with_reducible first|exact HB.1|apply below_alloc|apply pw_below_drewN|apply below_drew1)|exact HB.1)⟩⟩
 case round=>
  clear H';try clear c1
  try clear p2
  obtain⟨x0_1,x1_1,rfl,rfl,HA,HK1,HB⟩:=hrel;cases gk with
  |zero=>exact absurd HA.1 (by simp [spec_l01Gcd.l0])
  |succ k1=>
   have H:=HA.1;clear HA;simp only [spec_l01Gcd.l0] at H
   by_cases c3:x1_1=0
   ·rw [if_pos c3] at H;have c3b0:(x1_1==0)=true:=beq_iff_eq.mpr c3;have c3b1:(x1_1 !=0)=false:=bne_eq_false_iff_eq.mpr c3;clear c3;obtain⟨ji4,hji4⟩:∃j_:Int,(mx x0_1 (wrap64 (-x0_1)))=j_:=⟨_,rfl⟩
    replace H:(some ji4)=some r:=by first|(rw [hji4] at H;exact H)|(simp only [hji4] at H ⊢;exact H)
    have hji4_:(if x0_1<(wrap64 (-x0_1)) then (wrap64 (-x0_1)) else x0_1)=ji4:=hji4;obtain rfl:=Option.some.inj H;go_wp2;go_ret;exact⟨by first|rfl|(simp [errW_none,errW_some] <;> rfl)|(simp only [← hji4];first|rfl|(simp [errW_none,errW_some] <;> rfl))|(simp [*,errW_none,errW_some] <;> rfl),by repeat(first|(with_reducible first|exact HB.1|apply below_alloc|apply pw_below_drewN|apply below_drew1)|exact HB.1)⟩
   ·rw [if_neg c3] at H;have c3b0:(x1_1==0)=false:=beq_eq_false_iff_ne.mpr c3;have c3b1:(x1_1 !=0)=true:=bne_iff_ne.mpr c3;have H':=qAm H;clear H;go_wp2
    (first|go_roundg k1|((try simp only [add_plain] at *);go_roundg k1))
    case measure=>have:=HK1.1;omega
    case rel=>exact⟨(x1_1),(Int.tmod x0_1 x1_1),qB178,qB178,H',⟨by have:=HK1.1;omega⟩,⟨by repeat(first|(with_reducible first|exact HB.1|apply below_alloc|apply pw_below_drewN|apply below_drew1)|exact HB.1)⟩⟩

/-! ### spec_l01Phi: function 99 -/
def spec_l01Phi.l0:Nat→Int→Int→Int→Option (Int)
 |0,_,_,_=>none
 |k+1,x0,x3,x4=>if x4≤x0 then ((spec_l01Gcd.f k x4 x0).bind fun t123=>(if t123=1 then (spec_l01Phi.l0 k x0 (wrap64 (x3+1)) (wrap64 (x4+1))) else (spec_l01Phi.l0 k x0 x3 (wrap64 (x4+1))))) else (some x3)
def spec_l01Phi.f (k:Nat) (a0:Int):Option (Int):=spec_l01Phi.l0 k a0 0 1
theorem spec_l01Phi.mono_l:∀k,(∀y0 y1 y2,LeO (spec_l01Phi.l0 k y0 y1 y2) (spec_l01Phi.l0 (k+1) y0 y1 y2))
 |0=>fun _ _ _ r h=>by simp [spec_l01Phi.l0] at h
 |k+1=>by
  have ih0:=spec_l01Phi.mono_l k
  ·intro y0 y1 y2;unfold spec_l01Phi.l0;repeat' first
   |(with_reducible exact ih0 _ _ _)
   |(with_reducible exact spec_l01Gcd.mono _ _ _)
   |(with_reducible exact LeO.refl _)
   |(with_reducible exact LeO.none _)
   |(with_reducible refine LeO.ite ?_ ?_)
   |(with_reducible refine LeO.bind ?_ (fun _=>?_))
   |exact ih0 _ _ _
   |exact spec_l01Gcd.mono _ _ _
   |exact LeO.none _
   |refine LeO.ite ?_ ?_
   |refine LeO.bind ?_ (fun _=>?_)
theorem spec_l01Phi.mono:∀a0 k,LeO (spec_l01Phi.f k a0) (spec_l01Phi.f (k+1) a0):=by
 intro a0 k;have ih0:=spec_l01Phi.mono_l k;unfold spec_l01Phi.f;repeat' first
   |(with_reducible exact ih0 _ _ _)
   |(with_reducible exact spec_l01Gcd.mono _ _ _)
   |(with_reducible exact LeO.refl _)
   |(with_reducible exact LeO.none _)
   |(with_reducible refine LeO.ite ?_ ?_)
   |(with_reducible refine LeO.bind ?_ (fun _=>?_))
   |exact ih0 _ _ _
   |exact spec_l01Gcd.mono _ _ _
   |exact LeO.none _
   |refine LeO.ite ?_ ?_
   |refine LeO.bind ?_ (fun _=>?_)
set_option maxHeartbeats 8000000 in
set_option maxRecDepth 100000 in
theorem spec_l01Phi.calls (k:Nat) (a0:Int) (r:Int) (w:World) (h:spec_l01Phi.f k a0=some r):
  Calls Try.prog 99 #[.int .i64 a0] w fun e w'=>e=.returned (.int .i64 r)∧Below w.heap.size w w':=by
 have HB:=qAm (Below.refl w.heap.size w);have H:(spec_l01Phi.l0 k a0 0 1)=some r:=h;clear h;have H':=qAm H;clear H;go_enter Try.func99,Try.ntmps99;go_wp2;try simp only [Act.put,qSa,qSc,qSb]
 go_loopg [3,4] k (fun kq v3 v4 w'=>∃(x3_1:Int) (x4_1:Int),v3=.int .i64 x3_1∧v4=.int .i64 x4_1∧Aside0 (spec_l01Phi.l0 kq a0 x3_1 x4_1=some r)∧Aside0 (kq≤k)∧Aside0 (Below w.heap.size w w'))
 case atStart=>exact⟨(0),(1),qB178,qB178,H',⟨Nat.le_refl _⟩,⟨by repeat(first|(with_reducible first|exact HB.1|apply below_alloc|apply pw_below_drewN|apply below_drew1)|exact HB.1)⟩⟩
 case round=>
  clear H';obtain⟨x3_1,x4_1,rfl,rfl,HA,HK1,HB⟩:=hrel;cases gk with
  |zero=>exact absurd HA.1 (by simp [spec_l01Phi.l0])
  |succ k1=>
   have H:=HA.1;clear HA;simp only [spec_l01Phi.l0] at H
   by_cases c2:x4_1≤a0
   ·rw [if_pos c2] at H;have c2b0:decide (x4_1≤a0)=true:=decide_eq_true c2;clear c2;replace H:=qOb H;obtain⟨t123,A30,H⟩:=H;replace H:(if t123=1 then (spec_l01Phi.l0 k1 a0 (wrap64 (x3_1+1)) (wrap64 (x4_1+1))) else (spec_l01Phi.l0 k1 a0 x3_1 (wrap64 (x4_1+1))))=some r:=H;have A3:=qAm A30;clear A30
    by_cases c4:t123=1
    ·rw [if_pos c4] at H;have c4b0:(t123==1)=true:=beq_iff_eq.mpr c4;have c4b1:(t123 !=1)=false:=bne_eq_false_iff_eq.mpr c4;clear c4;have H':=qAm H;clear H;go_wp2_with (first|((with_reducible refine gate_callee (f:=128) rfl ?_);refine goesL_ (some 12) rfl rfl Try.func128 (by kernel_rfl) rfl #[.int .i64 x4_1,.int .i64 a0] rfl qB90 ?_;(with_reducible refine(spec_l01Gcd.calls k1 x4_1 a0 t123 _ A3.1).mono ?_);rintro e w5 ⟨rfl,hb⟩;refine⟨_,rfl,?_⟩;have n0_:=qAm (below_step qB95 hb);clear HB;have HB:=n0_;clear n0_;(try clear hb);(try clear hb2);(try clear hk);(try clear hi)))
     (first|go_roundg k1|((try simp only [add_plain] at *);go_roundg k1))
     case measure=>have:=HK1.1;omega
     case rel=>exact⟨(wrap64 (x3_1+1)),(wrap64 (x4_1+1)),qB178,qB178,H',⟨by have:=HK1.1;omega⟩,⟨by repeat(first|(with_reducible first|exact HB.1|apply below_alloc|apply pw_below_drewN|apply below_drew1)|exact HB.1)⟩⟩
    ·rw [if_neg c4] at H;have c4b0:(t123==1)=false:=beq_eq_false_iff_ne.mpr c4;have c4b1:(t123 !=1)=true:=bne_iff_ne.mpr c4;have H':=qAm H;clear H;go_wp2_with (first|((with_reducible refine gate_callee (f:=128) rfl ?_);refine goesL_ (some 12) rfl rfl Try.func128 (by kernel_rfl) rfl #[.int .i64 x4_1,.int .i64 a0] rfl qB90 ?_;(with_reducible refine(spec_l01Gcd.calls k1 x4_1 a0 t123 _ A3.1).mono ?_);rintro e w6 ⟨rfl,hb⟩;refine⟨_,rfl,?_⟩;have n0_:=qAm (below_step qB95 hb);clear HB;have HB:=n0_;clear n0_;(try clear hb);(try clear hb2);(try clear hk);(try clear hi)))
     (first|go_roundg k1|((try simp only [add_plain] at *);go_roundg k1))
     case measure=>have:=HK1.1;omega
     case rel=>exact⟨(x3_1),(wrap64 (x4_1+1)),qB178,qB178,H',⟨by have:=HK1.1;omega⟩,⟨by repeat(first|(with_reducible first|exact HB.1|apply below_alloc|apply pw_below_drewN|apply below_drew1)|exact HB.1)⟩⟩
   ·rw [if_neg c2] at H;have c2b0:decide (x4_1≤a0)=false:=decide_eq_false c2;clear c2;obtain rfl:=Option.some.inj H;go_wp2;go_ret;exact⟨by first|rfl|(simp [errW_none,errW_some] <;> rfl)|(simp [*,errW_none,errW_some] <;> rfl),by repeat(first|(with_reducible first|exact HB.1|apply below_alloc|apply pw_below_drewN|apply below_drew1)|exact HB.1)⟩

/-! ### spec_l01Zero: function 70 -/
def spec_l01Zero.f (k:Nat) (a0:Int):Option (Int×List Int):=(spec_l01Phi.f k a0).bind fun t125=>(if 0≤t125 then (if (t125:Int).toNat≤35184372088832 then (some (a0,(List.replicate (t125:Int).toNat 0))) else (none)) else (none))
theorem spec_l01Zero.mono:∀a0 k,LeO (spec_l01Zero.f k a0) (spec_l01Zero.f (k+1) a0):=by
 intro a0 k;unfold spec_l01Zero.f;repeat' first
   |(with_reducible exact spec_l01Phi.mono _ _)
   |(with_reducible exact LeO.refl _)
   |(with_reducible exact LeO.none _)
   |(with_reducible refine LeO.ite ?_ ?_)
   |(with_reducible refine LeO.bind ?_ (fun _=>?_))
   |exact spec_l01Phi.mono _ _
   |exact LeO.none _
   |refine LeO.ite ?_ ?_
   |refine LeO.bind ?_ (fun _=>?_)
set_option maxHeartbeats 8000000 in
set_option maxRecDepth 100000 in
theorem spec_l01Zero.calls (k:Nat) (a0:Int) (r1:Int) (r2:List Int) (w:World) (h:spec_l01Zero.f k a0=some (r1,r2)):
  Calls Try.prog 70 #[.int .i64 a0] w fun e w'=>∃v1_:Value,e=.returned (.agg #[.int .i64 r1,v1_])∧Kd.R (Kd.int .i64) 2 w' w.heap.size (fun _=>True) v1_ r2∧Below w.heap.size w w':=by
 have hu28:=Try.underlying28;have HB:=qAm (Below.refl w.heap.size w);have H:((spec_l01Phi.f k a0).bind fun t125=>(if 0≤t125 then (if (t125:Int).toNat≤35184372088832 then (some (a0,(List.replicate (t125:Int).toNat 0))) else (none)) else (none)))=some (r1,r2):=h;clear h;replace H:=qOb H;obtain⟨t125,A20,H⟩:=H;replace H:(if 0≤t125 then (if (t125:Int).toNat≤35184372088832 then (some (a0,(List.replicate (t125:Int).toNat 0))) else (none)) else (none))=some (r1,r2):=H;have A2:=qAm A20;clear A20
 by_cases c3:0≤t125
 ·rw [if_pos c3] at H;have c3b0:=eq_true c3;have c3b1:decide (0≤t125)=true:=decide_eq_true c3;clear c3
  by_cases c4:(t125:Int).toNat≤35184372088832
  ·rw [if_pos c4] at H;have c4b0:=eq_true c4;have c4b1:decide ((t125:Int).toNat≤35184372088832)=true:=decide_eq_true c4;clear c4;obtain⟨y126,hy126⟩:∃y_:List Int,y_=(List.replicate (t125:Int).toNat 0):=⟨_,rfl⟩
   replace H:(some (a0,y126))=some (r1,r2):=by first|(rw [hy126];with_reducible exact H)|(have H2_:=(Option.bind_some _ _).symm.trans H;rw [hy126];with_reducible exact H2_)|(have H2_:=(Option.bind_some _ _).symm.trans H;with_reducible exact H2_)|with_reducible exact H|(rw [hy126];exact H)|exact H
   have Ny126:=qAm hy126;clear hy126;simp only [Option.some.injEq,Prod.mk.injEq] at H;obtain⟨rfl,rfl⟩:=H;go_enter Try.func70,Try.ntmps70;go_wp2_with (first|((with_reducible refine gate_dst (N:=2) rfl ?_);refine box_event ?hg (N:=2) ?hd (cs:=#[.int .i64 0,.slice none 0 0]) (t:=28) ?hr ?_;(case hd=>rfl);(case hg=>rfl);(case hr=>first|(go_simp;done)|(go_simp;rfl));intro gb124 hg w5 hbox hb;have n0_:=qAm (below_step qB95 hb);have n1_:=qAm (hbox);have n2_:=qAm ((by rw [hg];exact(below_size qB95):w.heap.size≤gb124));have n3_:=qAm ((by rw [hg];exact(below_size qB95):w.heap.size≤gb124));clear HB;have HB:=n0_;have BK124:=n1_;have GW124:=n2_;have GE124:=n3_;clear n0_ n1_ n2_ n3_;clear hb hbox hg)|((with_reducible refine gate_callee (f:=99) rfl ?_);refine goesL_ (some 5) rfl rfl Try.func99 (by kernel_rfl) rfl #[.int .i64 a0] rfl qB90 ?_;(with_reducible refine(spec_l01Phi.calls k a0 t125 _ A2.1).mono ?_);rintro e w6 ⟨rfl,hb⟩;refine⟨_,rfl,?_⟩;have n0_:=qAm (blk_below (g:=gb124) (o:=.cells #[.int .i64 0,.slice none 0 0] 28 (0,0)) qB102 hb);have n1_:=qAm (below_step qB54 hb);clear BK124;clear HB;have BK124:=n0_;have HB:=n1_;clear n0_ n1_;(try clear hb);(try clear hb2);(try clear hk);(try clear hi))|((with_reducible refine gate_dst (N:=6) rfl ?_);refine Kd.R_make (Kd.int .i64) _ 2 rfl (N:=6) rfl 22 _ _ rfl t125 rfl rfl Try.underlying22 (.int .i64 0) 8 info2 rfl (by decide) (by omega) 0 (ok:=fun _=>True) (okp:=fun _=>True) rfl (fun _ hk=>hk) trivial (of_decide_eq_true qB177) (Nat.le_trans (Nat.mul_le_mul_right _ (of_decide_eq_true qB177:t125.toNat≤35184372088832)) (by omega)) (Below.refl _ _) (Nat.le_refl _) ?_;intro v127 w7 ho8 hb hg_ hnew_;clear hg_ hnew_;(first|rw [← Ny126.1] at ho8|(simp only [Int.reduceToNat] at ho8;rw [← Ny126.1] at ho8));have n0_:=qAm (Kd.R_lower ho8 (below_size qB54));have n1_:=qAm (blk_below (g:=gb124) (o:=.cells #[.int .i64 0,.slice none 0 0] 28 (0,0)) qB102 hb);have n2_:=qAm (below_step qB54 hb);clear BK124;clear HB;have HO128:=n0_;have BK124:=n1_;have HB:=n2_;clear n0_ n1_ n2_;clear hb ho8;obtain⟨Ao9,co9,eo9⟩:=Kd.R_slice HO128.1;subst eo9;have hcz10_0:w7.cell? ⟨gb124,0,none⟩=some (.int .i64 0):=(blk_cell BK124.1 0).trans rfl;have hcz10_1:w7.cell? ⟨gb124,1,none⟩=some (.slice none 0 0):=(blk_cell BK124.1 1).trans rfl;have hfz10_0:=blk_frozen BK124.1 0;have hfz10_1:=blk_frozen BK124.1 1));refine bodyPost_ret (results_cell_row rfl _ _ gb124 28 #[.int .i64 a0,.slice Ao9 y126.length co9] (0,0) _ rfl (by (with_reducible repeat(first|refine blk_drewN ?_ _|refine blk_drew ?_|refine blk_alloc ?_ _));refine blk_put (cs:=#[.int .i64 a0,.slice none 0 0]) ?_ 1 _ rfl;(with_reducible repeat(first|refine blk_drewN ?_ _|refine blk_drew ?_|refine blk_alloc ?_ _));refine blk_put (cs:=#[.int .i64 0,.slice none 0 0]) ?_ 0 _ rfl;(with_reducible repeat(first|refine blk_drewN ?_ _|refine blk_drew ?_|refine blk_alloc ?_ _));exact BK124.1) Try.underlying28 rfl (by kernel_rfl)) rfl ?_;exact⟨_,by first|rfl|(simp [errW_none,errW_some] <;> rfl)|(simp [*,errW_none,errW_some] <;> rfl),by (with_reducible repeat(first|apply Kd.R_alloc|apply Kd.R_drewN|apply Kd.R_drew));exact Kd.R_mono (Kd.R_far (p:=⟨gb124,1,none⟩) (Kd.R_far (p:=⟨gb124,0,none⟩) (Kd.R_types HO128.1 BK124.1 (by decide)) (fun _ hk=>hk.2) (.int .i64 a0)) (fun _ hk=>hk.2) (.slice Ao9 y126.length co9)) (fun _ hk=>trivial),by repeat(first|(with_reducible first|exact HB.1|apply below_alloc|apply pw_below_drewN|apply below_drew1|refine below_set ?_ GE124.1)|exact HB.1)⟩
  ·rw [if_neg c4] at H;exact absurd H (by simp)
 ·rw [if_neg c3] at H;exact absurd H (by simp)

/-! ### spec_l01Fits: function 100 -/
def spec_l01Fits.l0:Nat→Int→Int→List Int→Option (Bool)
 |0,_,_,_=>none
 |k+1,x3,x130000,x130001=>if x3<(x130001.length:Int) then (if 0≤x3 then ((spec_l01In.f (rd x130001 x3) (-1000000000) 1000000000).bind fun t131=>(if t131=true then (spec_l01Fits.l0 k (wrap64 (x3+1)) x130000 x130001) else (some false))) else (none)) else (some true)
def spec_l01Fits.f (k:Nat) (a0_0:Int) (l0_1:List Int):Option (Bool):=spec_l01Fits.l0 k 0 a0_0 l0_1
theorem spec_l01Fits.mono_l:∀k,(∀y0 y1 y2,LeO (spec_l01Fits.l0 k y0 y1 y2) (spec_l01Fits.l0 (k+1) y0 y1 y2))
 |0=>fun _ _ _ r h=>by simp [spec_l01Fits.l0] at h
 |k+1=>by
  have ih0:=spec_l01Fits.mono_l k
  ·intro y0 y1 y2;unfold spec_l01Fits.l0;repeat' first
   |(with_reducible exact ih0 _ _ _)
   |(with_reducible exact LeO.refl _)
   |(with_reducible exact LeO.none _)
   |(with_reducible refine LeO.ite ?_ ?_)
   |(with_reducible refine LeO.bind ?_ (fun _=>?_))
   |exact ih0 _ _ _
   |exact LeO.none _
   |refine LeO.ite ?_ ?_
   |refine LeO.bind ?_ (fun _=>?_)
theorem spec_l01Fits.mono:∀a0 a1 k,LeO (spec_l01Fits.f k a0 a1) (spec_l01Fits.f (k+1) a0 a1):=by
 intro a0 a1 k;have ih0:=spec_l01Fits.mono_l k;unfold spec_l01Fits.f;repeat' first
   |(with_reducible exact ih0 _ _ _)
   |(with_reducible exact LeO.refl _)
   |(with_reducible exact LeO.none _)
   |(with_reducible refine LeO.ite ?_ ?_)
   |(with_reducible refine LeO.bind ?_ (fun _=>?_))
   |exact ih0 _ _ _
   |exact LeO.none _
   |refine LeO.ite ?_ ?_
   |refine LeO.bind ?_ (fun _=>?_)
set_option maxHeartbeats 8000000 in
set_option maxRecDepth 100000 in
theorem spec_l01Fits.calls (k:Nat) (a0_0:Int) (A0_1:Option Addr) (c0_1:Nat) (l0_1:List Int) (r:Bool) (w:World) (hr0_1:Kd.C (Kd.int .i64) w A0_1 l0_1.length l0_1) (hc0_1:l0_1.length≤c0_1) (h:spec_l01Fits.f k a0_0 l0_1=some r):
  Calls Try.prog 100 #[.agg #[.int .i64 a0_0,.slice A0_1 l0_1.length c0_1]] w fun e w'=>e=.returned (.bool r)∧Below w.heap.size w w':=by
 have hu28:=Try.underlying28;have HR0_1:=qAm hr0_1;have HC0_1:=qAm hc0_1;clear hr0_1 hc0_1;have HB:=qAm (Below.refl w.heap.size w);have H:(spec_l01Fits.l0 k 0 a0_0 l0_1)=some r:=h;clear h;have H':=qAm H;clear H;go_enter Try.func100,Try.ntmps100;go_wp2_with (first|((with_reducible refine gate_dst (N:=1) rfl ?_);refine box_event ?hg (N:=1) ?hd (cs:=#[.int .i64 a0_0,.slice A0_1 l0_1.length c0_1]) (t:=28) ?hr ?_;(case hd=>rfl);(case hg=>rfl);(case hr=>first|(go_simp;done)|(go_simp;rfl));intro gb129 hg w2 hbox hb;have n0_:=qAm (below_step qB95 hb);have n1_:=qAm (hbox);have n2_:=qAm ((by rw [hg];exact(below_size qB95):w.heap.size≤gb129));have n3_:=qAm ((by rw [hg];exact(below_size qB95):w.heap.size≤gb129));clear HB;have HB:=n0_;have BK129:=n1_;have GW129:=n2_;have GE129:=n3_;clear n0_ n1_ n2_ n3_;clear hb hbox hg));try simp only [Act.put,qSa,qSc,qSb]
 go_loopg [3] k (fun kq v3 w'=>∃(x3_1:Int),v3=.int .i64 x3_1∧Aside0 (spec_l01Fits.l0 kq x3_1 a0_0 l0_1=some r)∧Aside0 (kq≤k)∧Aside0 (w'.heap[gb129]? =some (.cells #[.int .i64 a0_0,(.slice A0_1 l0_1.length c0_1)] 28 (0,0)))∧Aside0 (Below w.heap.size w w'))
 case atStart=>exact⟨(0),qB178,H',⟨Nat.le_refl _⟩,⟨by (with_reducible repeat(first|refine blk_drewN ?_ _|refine blk_drew ?_|refine blk_alloc ?_ _));exact BK129.1⟩,⟨by repeat(first|(with_reducible first|exact HB.1|apply below_alloc|apply pw_below_drewN|apply below_drew1|refine below_set ?_ GE129.1)|exact HB.1)⟩⟩
 case round=>
  clear H';try clear c1
  try clear p2
  obtain⟨x3_1,rfl,HA,HK1,BK129,HB⟩:=hrel;cases gk with
  |zero=>exact absurd HA.1 (by simp [spec_l01Fits.l0])
  |succ k1=>
   have H:=HA.1;clear HA;simp only [spec_l01Fits.l0] at H
   by_cases c3:x3_1<(l0_1.length:Int)
   ·rw [if_pos c3] at H;have c3b0:decide (x3_1<(l0_1.length:Int))=true:=decide_eq_true c3;clear c3
    by_cases c4:0≤x3_1
    ·rw [if_pos c4] at H;have c4b0:decide (0≤x3_1)=true:=decide_eq_true c4;clear c4;replace H:=qOb H;obtain⟨t131,A50,H⟩:=H;replace H:(if t131=true then (spec_l01Fits.l0 k1 (wrap64 (x3_1+1)) a0_0 l0_1) else (some false))=some r:=H;have A5:=qAm A50;clear A50
     by_cases c6:t131=true
     ·subst c6;have H1:(spec_l01Fits.l0 k1 (wrap64 (x3_1+1)) a0_0 l0_1)=some r:=by rw [if_pos rfl] at H;exact H
      clear H;have H:=H1;clear H1;have H':=qAm H;clear H;have hcz7_0:wr.cell? ⟨gb129,0,none⟩=some (.int .i64 a0_0):=(blk_cell BK129.1 0).trans rfl;have hcz7_1:wr.cell? ⟨gb129,1,none⟩=some (.slice A0_1 l0_1.length c0_1):=(blk_cell BK129.1 1).trans rfl;have hfz7_0:=blk_frozen BK129.1 0;have hfz7_1:=blk_frozen BK129.1 1;have p130:0≤(x3_1:Int):=of_decide_eq_true qB177;have q130:x3_1<(l0_1.length:Int):=of_decide_eq_true qB177;obtain⟨ad130,e130,hx130_0⟩:=Kd.at_int HR0_1.1 x3_1 p130 q130;cases e130
      replace hx130_0:=(HB.1.cell (World.block_lt_of_cell? w _ hx130_0)).trans hx130_0;replace p130:=eq_true p130;replace q130:=eq_true q130;go_wp2_with (first|((with_reducible refine gate_callee (f:=83) rfl ?_);refine goesL_ (some 16) rfl rfl Try.func83 (by kernel_rfl) rfl #[.int .i64 (rd l0_1 x3_1),.int .i64 (-1000000000),.int .i64 1000000000] rfl qB90 ?_;(with_reducible refine(spec_l01In.calls (rd l0_1 x3_1) (-1000000000) 1000000000 true _ A5.1).mono ?_);rintro e w' ⟨rfl,⟨nd,rfl⟩⟩;refine⟨_,rfl,?_⟩))
      (first|go_roundg k1|((try simp only [add_plain] at *);go_roundg k1))
      case measure=>have:=HK1.1;omega
      case rel=>exact⟨(wrap64 (x3_1+1)),qB178,H',⟨by have:=HK1.1;omega⟩,⟨by (with_reducible repeat(first|refine blk_drewN ?_ _|refine blk_drew ?_|refine blk_alloc ?_ _));exact BK129.1⟩,⟨by repeat(first|(with_reducible first|exact HB.1|apply below_alloc|apply pw_below_drewN|apply below_drew1|refine below_set ?_ GE129.1)|exact HB.1)⟩⟩
     ·replace c6:=Bool.eq_false_iff.mpr c6;subst c6;have H1:(some false)=some r:=by rw [if_neg (show ¬(false=true) by decide)] at H;exact H
      clear H;have H:=H1;clear H1;obtain rfl:=Option.some.inj H;have hcz8_0:wr.cell? ⟨gb129,0,none⟩=some (.int .i64 a0_0):=(blk_cell BK129.1 0).trans rfl;have hcz8_1:wr.cell? ⟨gb129,1,none⟩=some (.slice A0_1 l0_1.length c0_1):=(blk_cell BK129.1 1).trans rfl;have hfz8_0:=blk_frozen BK129.1 0;have hfz8_1:=blk_frozen BK129.1 1;have p130:0≤(x3_1:Int):=of_decide_eq_true qB177;have q130:x3_1<(l0_1.length:Int):=of_decide_eq_true qB177;obtain⟨ad130,e130,hx130_0⟩:=Kd.at_int HR0_1.1 x3_1 p130 q130;cases e130
      replace hx130_0:=(HB.1.cell (World.block_lt_of_cell? w _ hx130_0)).trans hx130_0;replace p130:=eq_true p130;replace q130:=eq_true q130;go_wp2_with (first|((with_reducible refine gate_callee (f:=83) rfl ?_);refine goesL_ (some 16) rfl rfl Try.func83 (by kernel_rfl) rfl #[.int .i64 (rd l0_1 x3_1),.int .i64 (-1000000000),.int .i64 1000000000] rfl qB90 ?_;(with_reducible refine(spec_l01In.calls (rd l0_1 x3_1) (-1000000000) 1000000000 false _ A5.1).mono ?_);rintro e w' ⟨rfl,⟨nd,rfl⟩⟩;refine⟨_,rfl,?_⟩));go_ret;exact⟨by first|rfl|(simp [errW_none,errW_some] <;> rfl)|(simp [*,errW_none,errW_some] <;> rfl),by repeat(first|(with_reducible first|exact HB.1|apply below_alloc|apply pw_below_drewN|apply below_drew1|refine below_set ?_ GE129.1)|exact HB.1)⟩
    ·rw [if_neg c4] at H;exact absurd H (by simp)
   ·rw [if_neg c3] at H;have c3b0:decide (x3_1<(l0_1.length:Int))=false:=decide_eq_false c3;clear c3;obtain rfl:=Option.some.inj H;have hcz9_0:wr.cell? ⟨gb129,0,none⟩=some (.int .i64 a0_0):=(blk_cell BK129.1 0).trans rfl;have hcz9_1:wr.cell? ⟨gb129,1,none⟩=some (.slice A0_1 l0_1.length c0_1):=(blk_cell BK129.1 1).trans rfl;have hfz9_0:=blk_frozen BK129.1 0;have hfz9_1:=blk_frozen BK129.1 1;go_wp2;go_ret;exact⟨by first|rfl|(simp [errW_none,errW_some] <;> rfl)|(simp [*,errW_none,errW_some] <;> rfl),by repeat(first|(with_reducible first|exact HB.1|apply below_alloc|apply pw_below_drewN|apply below_drew1|refine below_set ?_ GE129.1)|exact HB.1)⟩

/-! ### spec_l01Own: function 119 -/
def spec_l01Own.f (l0:List Int):Option (List Int):=(some (([]:List Int):List Int)).bind fun y132=>(if y132.length+l0.length<17592186044416 then (some (y132 ++ l0)) else (none))
set_option maxHeartbeats 8000000 in
set_option maxRecDepth 100000 in
theorem spec_l01Own.calls (A0:Option Addr) (c0:Nat) (l0:List Int) (r:List Int) (w:World) (hr0:Kd.C (Kd.int .i64) w A0 l0.length l0) (hc0:l0.length≤c0) (h:spec_l01Own.f l0=some r):
  Calls Try.prog 119 #[.slice A0 l0.length c0] w fun e w'=>∃v0_:Value,e=.returned (v0_)∧Kd.R (Kd.int .i64) 2 w' w.heap.size (fun _=>True) v0_ r∧Below w.heap.size w w':=by
 have HR0:=qAm hr0;have HC0:=qAm hc0;clear hr0 hc0;have HB:=qAm (Below.refl w.heap.size w);have H:((some (([]:List Int):List Int)).bind fun y132=>(if y132.length+l0.length<17592186044416 then (some (y132 ++ l0)) else (none)))=some r:=h;clear h;obtain⟨y132,hy132⟩:∃y_:List Int,y_=(([]:List Int)):=⟨_,rfl⟩
 replace H:(if y132.length+l0.length<17592186044416 then (some (y132 ++ l0)) else (none))=some r:=by first|(rw [hy132];with_reducible exact H)|(have H2_:=(Option.bind_some _ _).symm.trans H;rw [hy132];with_reducible exact H2_)|(have H2_:=(Option.bind_some _ _).symm.trans H;with_reducible exact H2_)|with_reducible exact H|(rw [hy132];exact H)|exact H
 have Ny132:=qAm hy132;clear hy132
 by_cases c2:y132.length+l0.length<17592186044416
 ·rw [if_pos c2] at H;have LMc2:=qAm c2;clear c2;obtain⟨y135,hy135⟩:∃y_:List Int,y_=(y132 ++ l0):=⟨_,rfl⟩
  replace H:(some y135)=some r:=by first|(rw [hy135];with_reducible exact H)|(have H2_:=(Option.bind_some _ _).symm.trans H;rw [hy135];with_reducible exact H2_)|(have H2_:=(Option.bind_some _ _).symm.trans H;with_reducible exact H2_)|with_reducible exact H|(rw [hy135];exact H)|exact H
  have Ny135:=qAm hy135;clear hy135;obtain rfl:=Option.some.inj H;go_enter Try.func119,Try.ntmps119;go_wp2_with (first|((with_reducible refine gate_dst (N:=3) rfl ?_);refine Kd.R_lit (Kd.int .i64) _ 2 ?hg (N:=3) ?hd (xs:=([]:List Int)) (inner:=[]) (ok:=fun _=>True) (okp:=fun _=>True) ?hr ?hp (fun _ hk=>hk) trivial (Below.refl _ _) (Nat.le_refl _) (by simp) ?_;(case hd=>rfl);(case hg=>rfl);(case hr=>first|(go_simp;done)|(go_simp;rfl));(case hp=>exact(Reps.none _ _));intro v133 w3 ho4 hb hg_ hnew_;clear hg_ hnew_;(first|rw [← Ny132.1] at ho4|(simp only [Int.reduceToNat] at ho4;rw [← Ny132.1] at ho4));have n0_:=qAm (Kd.R_lower ho4 (below_size qB95));have n1_:=qAm (below_step qB95 hb);clear HB;have HO134:=n0_;have HB:=n1_;clear n0_ n1_;clear hb ho4)|((with_reducible refine gate_builtin (b:=.append) (xs:=#[.tmp 3,.tmp 4]) rfl ?_);at_builtin;refine Kd.R_append_rows (Kd.int .i64) (w0:=w) w.heap.size rfl (.tmp 3) (.tmp 4) 22 2 (.int .i64 0) 8 rfl Try.underlying22 info2 rfl (by decide) (by omega) v133 y132 l0 _ _ _ (fun _=>True) (fun _=>False) rfl rfl ?aO ?aR (fun _ _ h=>h) (fun _ h=>h.elim) ?aF ?aB ?aS ?aL ?_;(case aR=>repeat(first|exact(Kd.C_below HR0.1 HB.1)|(with_reducible refine Kd.C_alloc ?_ _)|(with_reducible refine Kd.C_drewN ?_ _)|(with_reducible refine Kd.C_drew ?_)));(case aB=>exact qB95);(case aF=>exact(fun _ _=>trivial));(case aO=>exact(by (with_reducible repeat(first|apply Kd.R_alloc|apply Kd.R_drewN|apply Kd.R_drew));exact HO134.1));(case aS=>exact(below_size qB95));(case aL=>have:=LMc2.1;omega);intro v136 w5 ho hb hg hat;rw [← Ny135.1] at ho;have n0_:=qAm (hb);have n1_:=qAm (ho);clear HB;clear HO134;have HB:=n0_;have HO137:=n1_;clear n0_ n1_;clear ho hb hg hat));go_ret;exact⟨_,by first|rfl|(simp [errW_none,errW_some] <;> rfl)|(simp [*,errW_none,errW_some] <;> rfl),by (with_reducible repeat(first|apply Kd.R_alloc|apply Kd.R_drewN|apply Kd.R_drew));exact HO137.1,by repeat(first|(with_reducible first|exact HB.1|apply below_alloc|apply pw_below_drewN|apply below_drew1)|exact HB.1)⟩
 ·rw [if_neg c2] at H;exact absurd H (by simp)

end Go.Proofs.Ytefhabkikaadiaa.PFnExactOrthogonalSum
