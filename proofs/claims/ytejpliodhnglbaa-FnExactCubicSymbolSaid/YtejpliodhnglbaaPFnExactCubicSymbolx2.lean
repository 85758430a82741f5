/- The functions that the law reaches, as plain functions, each with the proof that the program comes to it; no condition. Written by a program of this session (wip/mp.py) over the printing of the kit; what is marked HAND is told by hand. -/
import Derived.Test.YtejpliodhnglbaaPFnExactCubicSymbolx0
namespace Go.Proofs.Ytejpliodhnglbaa.PFnExactCubicSymbol
open Go.RowKit Go.Proofs.YtejpliodhnglbaaW.PrintWords Go.Proofs.YtejpliodhnglbaaW.PrintLast Go.Proofs.YtejpliodhnglbaaW.PrintMore
attribute [local go_sem] max2_int min2_int max_two min_two max_three min_three max_four min_four   -- for this text's walks alone
set_option linter.unusedVariables false
set_option linter.unusedSimpArgs false

/-! ### laws_szInt64S: function 23 -/
def laws_szInt64S.f (l0:List Int) (a1:Int):Option (Int):=if (wrap64 (a1 - (l0.length:Int)))<0 then (some (-1)) else (some (wrap64 (a1 - (l0.length:Int))))
set_option maxHeartbeats 8000000 in
set_option maxRecDepth 100000 in
theorem laws_szInt64S.calls (A0:Option Addr) (c0:Nat) (l0:List Int) (a1:Int) (r:Int) (w:World) (hr0:Kd.C (Kd.int .i64) w A0 l0.length l0) (hc0:l0.length≤c0) (h:laws_szInt64S.f l0 a1=some r):
  Calls Try.prog 23 #[.slice A0 l0.length c0,.int .i64 a1] w fun e w'=>e=.returned (.int .i64 r)∧Drawn0 w w':=by
 have HR0:=qAm hr0;have HC0:=qAm hc0;clear hr0 hc0;have H:(if (wrap64 (a1 - (l0.length:Int)))<0 then (some (-1)) else (some (wrap64 (a1 - (l0.length:Int)))))=some r:=h;clear h
 by_cases c3:(wrap64 (a1 - (l0.length:Int)))<0
 ·rw [if_pos c3] at H;have c3b0:decide ((wrap64 (a1 - (l0.length:Int)))<0)=true:=decide_eq_true c3;clear c3;obtain rfl:=Option.some.inj H;go_enter Try.func23,Try.ntmps23;go_wp2;go_ret;exact⟨by first|rfl|(simp;done)|(simp [*];done),by repeat(first|exact Drawn0.refl _|apply Drawn0.step)⟩
 ·rw [if_neg c3] at H;have c3b0:decide ((wrap64 (a1 - (l0.length:Int)))<0)=false:=decide_eq_false c3;clear c3;obtain rfl:=Option.some.inj H;go_enter Try.func23,Try.ntmps23;go_wp2;go_ret;exact⟨by first|rfl|(simp;done)|(simp [*];done),by repeat(first|exact Drawn0.refl _|apply Drawn0.step)⟩

/-! ### laws_szCyclo: function 7 -/
def laws_szCyclo.f (a0_0:Int) (l0_1:List Int) (a1:Int):Option (Int):=(laws_szInt64S.f l0_1 a1).bind fun t102=>(if t102<0 then (some (-1)) else (some t102))
set_option maxHeartbeats 8000000 in
set_option maxRecDepth 100000 in
theorem laws_szCyclo.calls (a0_0:Int) (A0_1:Option Addr) (c0_1:Nat) (l0_1:List Int) (a1:Int) (r:Int) (w:World) (hr0_1:Kd.C (Kd.int .i64) w A0_1 l0_1.length l0_1) (hc0_1:l0_1.length≤c0_1) (h:laws_szCyclo.f a0_0 l0_1 a1=some r):
  Calls Try.prog 7 #[.agg #[.int .i64 a0_0,.slice A0_1 l0_1.length c0_1],.int .i64 a1] w fun e w'=>e=.returned (.int .i64 r)∧Below w.heap.size w w':=by
 have hu24:=Try.underlying24;have HR0_1:=qAm hr0_1;have HC0_1:=qAm hc0_1;clear hr0_1 hc0_1;have HB:=qAm (Below.refl w.heap.size w);have H:((laws_szInt64S.f l0_1 a1).bind fun t102=>(if t102<0 then (some (-1)) else (some t102)))=some r:=h;clear h;replace H:=qOb H;obtain⟨t102,A30,H⟩:=H;replace H:(if t102<0 then (some (-1)) else (some t102))=some r:=H;have A3:=qAm A30;clear A30
 by_cases c4:t102<0
 ·rw [if_pos c4] at H;have c4b0:decide (t102<0)=true:=decide_eq_true c4;clear c4;obtain rfl:=Option.some.inj H;go_enter Try.func7,Try.ntmps7;go_wp2_with (first|((with_reducible refine gate_dst (N:=2) rfl ?_);refine box_event qL (N:=2) qL (cs:=#[.int .i64 a0_0,.slice A0_1 l0_1.length c0_1]) (t:=24) qR ?_;intro gb101 hg w5 hbox hb;have n0_:=qAm (below_step qB111 hb);have n1_:=qAm (hbox);have n2_:=qAm ((by rw [hg];exact(below_size qB111):w.heap.size≤gb101));have n3_:=qAm ((by rw [hg];exact(below_size qB111):w.heap.size≤gb101));clear HB;have HB:=n0_;have BK101:=n1_;have GW101:=n2_;have GE101:=n3_;clear n0_ n1_ n2_ n3_;clear hb hbox hg;have hcz6_0:w5.cell? ⟨gb101,0,none⟩=some (.int .i64 a0_0):=(blk_cell BK101.1 0).trans rfl;have hcz6_1:w5.cell? ⟨gb101,1,none⟩=some (.slice A0_1 l0_1.length c0_1):=(blk_cell BK101.1 1).trans rfl;have hfz6_0:=blk_frozen BK101.1 0;have hfz6_1:=blk_frozen BK101.1 1)|((with_reducible refine gate_callee (f:=23) rfl ?_);refine goesL_ (some 8) rfl rfl Try.func23 (by kernel_rfl) rfl #[.slice A0_1 l0_1.length c0_1,.int .i64 a1] rfl qB108 ?_;(with_reducible refine(laws_szInt64S.calls _ _ l0_1 a1 t102 _ ?side1 ?side2 A3.1).mono ?_);(case side1=>repeat(first|exact(Kd.C_below HR0_1.1 HB.1)|(with_reducible refine Kd.C_alloc ?_ _)|(with_reducible refine Kd.C_drewN ?_ _)|(with_reducible refine Kd.C_drew ?_)));(case side2=>exact HC0_1.1);rintro e w' ⟨rfl,⟨nd,rfl⟩⟩;refine⟨_,rfl,?_⟩));go_ret;exact⟨by first|rfl|(simp [errW_none,errW_some] <;> rfl)|(simp [*,errW_none,errW_some] <;> rfl),by repeat(first|(with_reducible first|exact HB.1|apply below_alloc|apply pw_below_drewN|apply below_drew1|refine below_set ?_ GE101.1)|exact HB.1)⟩
 ·rw [if_neg c4] at H;have c4b0:decide (t102<0)=false:=decide_eq_false c4;clear c4;obtain rfl:=Option.some.inj H;go_enter Try.func7,Try.ntmps7;go_wp2_with (first|((with_reducible refine gate_dst (N:=2) rfl ?_);refine box_event qL (N:=2) qL (cs:=#[.int .i64 a0_0,.slice A0_1 l0_1.length c0_1]) (t:=24) qR ?_;intro gb101 hg w7 hbox hb;have n0_:=qAm (below_step qB111 hb);have n1_:=qAm (hbox);have n2_:=qAm ((by rw [hg];exact(below_size qB111):w.heap.size≤gb101));have n3_:=qAm ((by rw [hg];exact(below_size qB111):w.heap.size≤gb101));clear HB;have HB:=n0_;have BK101:=n1_;have GW101:=n2_;have GE101:=n3_;clear n0_ n1_ n2_ n3_;clear hb hbox hg;have hcz8_0:w7.cell? ⟨gb101,0,none⟩=some (.int .i64 a0_0):=(blk_cell BK101.1 0).trans rfl;have hcz8_1:w7.cell? ⟨gb101,1,none⟩=some (.slice A0_1 l0_1.length c0_1):=(blk_cell BK101.1 1).trans rfl;have hfz8_0:=blk_frozen BK101.1 0;have hfz8_1:=blk_frozen BK101.1 1)|((with_reducible refine gate_callee (f:=23) rfl ?_);refine goesL_ (some 8) rfl rfl Try.func23 (by kernel_rfl) rfl #[.slice A0_1 l0_1.length c0_1,.int .i64 a1] rfl qB108 ?_;(with_reducible refine(laws_szInt64S.calls _ _ l0_1 a1 t102 _ ?side1 ?side2 A3.1).mono ?_);(case side1=>repeat(first|exact(Kd.C_below HR0_1.1 HB.1)|(with_reducible refine Kd.C_alloc ?_ _)|(with_reducible refine Kd.C_drewN ?_ _)|(with_reducible refine Kd.C_drew ?_)));(case side2=>exact HC0_1.1);rintro e w' ⟨rfl,⟨nd,rfl⟩⟩;refine⟨_,rfl,?_⟩));go_ret;exact⟨by first|rfl|(simp [errW_none,errW_some] <;> rfl)|(simp [*,errW_none,errW_some] <;> rfl),by repeat(first|(with_reducible first|exact HB.1|apply below_alloc|apply pw_below_drewN|apply below_drew1|refine below_set ?_ GE101.1)|exact HB.1)⟩

/-! ### laws_toInt64S: function 28 -/
def laws_toInt64S.l0:Nat→List Int→List Int→Int→Option (List Int)
 |0,_,_,_=>none
 |k+1,x0,x3,x4=>if x4<(x0.length:Int) then (if 0≤x4 then (if x4<(x3.length:Int) then (laws_toInt64S.l0 k x0 (x3.set (x4:Int).toNat (rd x0 x4)) (wrap64 (x4+1))) else (none)) else (none)) else (some x3)
def laws_toInt64S.f (k:Nat) (l0:List Int):Option (List Int):=if 0≤(l0.length:Int) then (if ((l0.length:Int):Int).toNat≤35184372088832 then (laws_toInt64S.l0 k l0 (List.replicate ((l0.length:Int):Int).toNat 0) 0) else (none)) else (none)
theorem laws_toInt64S.mono_l:∀k,(∀y0 y1 y2,LeO (laws_toInt64S.l0 k y0 y1 y2) (laws_toInt64S.l0 (k+1) y0 y1 y2))
 |0=>fun _ _ _ r h=>by simp [laws_toInt64S.l0] at h
 |k+1=>by
  have ih0:=laws_toInt64S.mono_l k
  ·intro y0 y1 y2;unfold laws_toInt64S.l0;repeat' first
   |(with_reducible exact ih0 _ _ _)
   |(with_reducible exact LeO.refl _)
   |(with_reducible exact LeO.none _)
   |(with_reducible refine LeO.ite ?_ ?_)
   |(with_reducible refine LeO.bind ?_ (fun _=>?_))
   |exact ih0 _ _ _
   |exact LeO.none _
   |refine LeO.ite ?_ ?_
   |refine LeO.bind ?_ (fun _=>?_)
theorem laws_toInt64S.mono:∀a0 k,LeO (laws_toInt64S.f k a0) (laws_toInt64S.f (k+1) a0):=by
 intro a0 k;have ih0:=laws_toInt64S.mono_l k;unfold laws_toInt64S.f;repeat' first
   |(with_reducible exact ih0 _ _ _)
   |(with_reducible exact LeO.refl _)
   |(with_reducible exact LeO.none _)
   |(with_reducible refine LeO.ite ?_ ?_)
   |(with_reducible refine LeO.bind ?_ (fun _=>?_))
   |exact ih0 _ _ _
   |exact LeO.none _
   |refine LeO.ite ?_ ?_
   |refine LeO.bind ?_ (fun _=>?_)
set_option maxHeartbeats 8000000 in
set_option maxRecDepth 100000 in
theorem laws_toInt64S.calls (k:Nat) (A0:Option Addr) (c0:Nat) (l0:List Int) (r:List Int) (w:World) (hr0:Kd.C (Kd.int .i64) w A0 l0.length l0) (hc0:l0.length≤c0) (h:laws_toInt64S.f k l0=some r):
  Calls Try.prog 28 #[.slice A0 l0.length c0] w fun e w'=>∃v0_:Value,e=.returned (v0_)∧Kd.R (Kd.int .i64) 2 w' w.heap.size (fun _=>True) v0_ r∧Below w.heap.size w w':=by
 have HR0:=qAm hr0;have HC0:=qAm hc0;clear hr0 hc0;have HB:=qAm (Below.refl w.heap.size w);have H:(if 0≤(l0.length:Int) then (if ((l0.length:Int):Int).toNat≤35184372088832 then (laws_toInt64S.l0 k l0 (List.replicate ((l0.length:Int):Int).toNat 0) 0) else (none)) else (none))=some r:=h;clear h
 by_cases c2:0≤(l0.length:Int)
 ·rw [if_pos c2] at H;have c2b0:=eq_true c2;have c2b1:decide (0≤(l0.length:Int))=true:=decide_eq_true c2;clear c2
  by_cases c3:((l0.length:Int):Int).toNat≤35184372088832
  ·rw [if_pos c3] at H;have c3b0:=eq_true c3;have c3b1:decide (((l0.length:Int):Int).toNat≤35184372088832)=true:=decide_eq_true c3;clear c3;obtain⟨y103,hy103⟩:∃y_:List Int,y_=(List.replicate ((l0.length:Int):Int).toNat 0):=⟨_,rfl⟩
   replace H:(laws_toInt64S.l0 k l0 y103 0)=some r:=by first|(rw [hy103];with_reducible exact H)|(have H2_:=(Option.bind_some _ _).symm.trans H;rw [hy103];with_reducible exact H2_)|(have H2_:=(Option.bind_some _ _).symm.trans H;with_reducible exact H2_)|with_reducible exact H|(rw [hy103];exact H)|exact H
   have Ny103:=qAm hy103;clear hy103;have H':=qAm H;clear H;go_enter Try.func28,Try.ntmps28;go_wp2_with (first|((with_reducible refine gate_dst (N:=7) rfl ?_);refine Kd.R_make (Kd.int .i64) _ 2 rfl (N:=7) rfl 22 _ _ rfl (l0.length:Int) rfl rfl Try.underlying22 (.int .i64 0) 8 info2 rfl (by decide) (by omega) 0 (ok:=fun _=>True) (okp:=fun _=>True) rfl (fun _ hk=>hk) trivial (of_decide_eq_true qB215) (Nat.le_trans (Nat.mul_le_mul_right _ (of_decide_eq_true qB215:(l0.length:Int).toNat≤35184372088832)) (by omega)) (Below.refl _ _) (Nat.le_refl _) ?_;intro v104 w4 ho5 hb hg_ hnew_;clear hg_ hnew_;(first|rw [← Ny103.1] at ho5|(simp only [Int.reduceToNat] at ho5;rw [← Ny103.1] at ho5));have n0_:=qAm (Kd.R_lower ho5 (below_size qB111));have n1_:=qAm (below_step qB111 hb);clear HB;have HO105:=n0_;have HB:=n1_;clear n0_ n1_;clear hb ho5));try simp only [Act.put,qSa,qSc,qSb]
   go_loopg [4] k (fun kq v4 w'=>∃(x3_1:List Int) (x4_1:Int),v4=.int .i64 x4_1∧Aside0 (laws_toInt64S.l0 kq l0 x3_1 x4_1=some r)∧Aside0 (kq≤k)∧Aside0 (Kd.R (Kd.int .i64) 2 w' w.heap.size (fun _=>True) v104 x3_1)∧Aside0 (Below w.heap.size w w'))
   case atStart=>exact⟨(y103),(0),qB216,H',⟨Nat.le_refl _⟩,⟨by (with_reducible repeat(first|apply Kd.R_alloc|apply Kd.R_drewN|apply Kd.R_drew));exact HO105.1⟩,⟨by repeat(first|(with_reducible first|exact HB.1|apply below_alloc|apply pw_below_drewN|apply below_drew1)|exact HB.1)⟩⟩
   case round=>
    clear H';try clear c2
    try clear c2b0
    try clear c2b1
    try clear p2
    try clear c3
    try clear c3b0
    try clear c3b1
    obtain⟨x3_1,x4_1,rfl,HA,HK1,HO_3,HB⟩:=hrel;cases gk with
    |zero=>exact absurd HA.1 (by simp [laws_toInt64S.l0])
    |succ k1=>
     have H:=HA.1;clear HA;simp only [laws_toInt64S.l0] at H
     by_cases c6:x4_1<(l0.length:Int)
     ·rw [if_pos c6] at H;have c6b0:decide (x4_1<(l0.length:Int))=true:=decide_eq_true c6;clear c6
      by_cases c7:0≤x4_1
      ·rw [if_pos c7] at H;have c7b0:decide (0≤x4_1)=true:=decide_eq_true c7;clear c7
       by_cases c8:x4_1<(x3_1.length:Int)
       ·rw [if_pos c8] at H;have c8b0:decide (x4_1<(x3_1.length:Int))=true:=decide_eq_true c8;clear c8;obtain⟨y107,hy107⟩:∃y_:List Int,y_=(x3_1.set (x4_1:Int).toNat (rd l0 x4_1)):=⟨_,rfl⟩
        replace H:(laws_toInt64S.l0 k1 l0 y107 (wrap64 (x4_1+1)))=some r:=by first|(rw [hy107];with_reducible exact H)|(have H2_:=(Option.bind_some _ _).symm.trans H;rw [hy107];with_reducible exact H2_)|(have H2_:=(Option.bind_some _ _).symm.trans H;with_reducible exact H2_)|with_reducible exact H|(rw [hy107];exact H)|exact H
        have Ny107:=qAm hy107;clear hy107;have H':=qAm H;clear H;have p106:0≤(x4_1:Int):=of_decide_eq_true qB215;have q106:x4_1<(l0.length:Int):=of_decide_eq_true qB215;obtain⟨ad106,e106,hx106_0⟩:=Kd.at_int HR0.1 x4_1 p106 q106;cases e106
        replace hx106_0:=(HB.1.cell (World.block_lt_of_cell? w _ hx106_0)).trans hx106_0;replace p106:=eq_true p106;replace q106:=eq_true q106;have p9:0≤(x4_1:Int):=of_decide_eq_true qB215;have q9:(x4_1:Int)<((x3_1.length:Int):Int):=of_decide_eq_true qB215;obtain⟨go9,co9,eo9,gb9,gl9,cl9,HG9⟩:=Kd.R_form HO_3.1 (by omega)
        (first|cases eo9|(injection eo9 with ea_ en_ ec_;(first|subst ea_|(injection ea_ with ea_;subst ea_));subst ec_;clear en_))
        have GB9:=qAm gb9;have GG9:=qAm HG9;clear gb9 gl9 HG9;obtain⟨hx9_0,hf9_0⟩:=Kd.R_celln 0 HO_3.1 (x4_1:Int) p9 q9;replace p9:=eq_true p9;replace q9:=eq_true q9;have HP10:=Kd.R_putg HO_3.1 (x4_1:Int) (rd l0 x4_1);go_wp2_with (first|((with_reducible refine gate_store (t:=2) (p:=20) rfl ?_);refine store_event (t:=2) (p:=20) (v:=?vo_w11) (w1:=(wr.setCell ⟨go9,(x4_1:Int).toNat,none⟩ (.int .i64 (rd l0 x4_1)))) ?hg ?ho ?hn ?hr ?_;(case ho=>rfl);(case hg=>rfl);(case hn=>rfl);(case hr=>first|(go_simp;done)|(go_simp;rfl));intro w11 hw;have hg:wr.grownBy w11 (some go9):=(by rw [hw];exact HP10.2);have hp_:Kd.R (Kd.int .i64) 2 w11 w.heap.size (fun _=>True) (.slice (some ⟨go9,0,none⟩) x3_1.length co9) y107:=(by rw [hw,Ny107.1];exact HP10.1);clear HP10;have n0_:=qAm (hp_);have n1_:=qAm ((by rw [hw];exact below_set (HB.1) GB9.1:Below w.heap.size w w11));clear HO_3;clear HB;have HO_3:=n0_;have HB:=n1_;clear n0_ n1_;clear hg hw hp_))
        (first|go_roundg k1|((try simp only [add_plain] at *);go_roundg k1))
        case measure=>have:=HK1.1;omega
        case rel=>exact⟨(y107),(wrap64 (x4_1+1)),qB216,H',⟨by have:=HK1.1;omega⟩,⟨by (with_reducible repeat(first|apply Kd.R_alloc|apply Kd.R_drewN|apply Kd.R_drew));exact HO_3.1⟩,⟨by repeat(first|(with_reducible first|exact HB.1|apply below_alloc|apply pw_below_drewN|apply below_drew1)|exact HB.1)⟩⟩
       ·rw [if_neg c8] at H;exact absurd H (by simp)
      ·rw [if_neg c7] at H;exact absurd H (by simp)
     ·rw [if_neg c6] at H;have c6b0:decide (x4_1<(l0.length:Int))=false:=decide_eq_false c6;clear c6;obtain rfl:=Option.some.inj H;go_wp2;go_ret;exact⟨_,by first|rfl|(simp [errW_none,errW_some] <;> rfl)|(simp [*,errW_none,errW_some] <;> rfl),by (with_reducible repeat(first|apply Kd.R_alloc|apply Kd.R_drewN|apply Kd.R_drew));exact HO_3.1,by repeat(first|(with_reducible first|exact HB.1|apply below_alloc|apply pw_below_drewN|apply below_drew1)|exact HB.1)⟩
  ·rw [if_neg c3] at H;exact absurd H (by simp)
 ·rw [if_neg c2] at H;exact absurd H (by simp)

/-! ### laws_toCyclo: function 9 -/
def laws_toCyclo.f (k:Nat) (a0_0:Int) (l0_1:List Int):Option (Int×List Int):=(laws_toInt64S.f k l0_1).bind fun t111=>(some (a0_0,t111))
theorem laws_toCyclo.mono:∀a0 a1 k,LeO (laws_toCyclo.f k a0 a1) (laws_toCyclo.f (k+1) a0 a1):=by
 intro a0 a1 k;unfold laws_toCyclo.f;repeat' first
   |(with_reducible exact laws_toInt64S.mono _ _)
   |(with_reducible exact LeO.refl _)
   |(with_reducible exact LeO.none _)
   |(with_reducible refine LeO.ite ?_ ?_)
   |(with_reducible refine LeO.bind ?_ (fun _=>?_))
   |exact laws_toInt64S.mono _ _
   |exact LeO.none _
   |refine LeO.ite ?_ ?_
   |refine LeO.bind ?_ (fun _=>?_)
set_option maxHeartbeats 8000000 in
set_option maxRecDepth 100000 in
theorem laws_toCyclo.calls (k:Nat) (a0_0:Int) (A0_1:Option Addr) (c0_1:Nat) (l0_1:List Int) (r1:Int) (r2:List Int) (w:World) (hr0_1:Kd.C (Kd.int .i64) w A0_1 l0_1.length l0_1) (hc0_1:l0_1.length≤c0_1) (h:laws_toCyclo.f k a0_0 l0_1=some (r1,r2)):
  Calls Try.prog 9 #[.agg #[.int .i64 a0_0,.slice A0_1 l0_1.length c0_1]] w fun e w'=>∃v1_:Value,e=.returned (.agg #[.int .i64 r1,v1_])∧Kd.R (Kd.int .i64) 2 w' w.heap.size (fun _=>True) v1_ r2∧Below w.heap.size w w':=by
 have hu24:=Try.underlying24;have hu26:=Try.underlying26;have HR0_1:=qAm hr0_1;have HC0_1:=qAm hc0_1;clear hr0_1 hc0_1;have HB:=qAm (Below.refl w.heap.size w);have H:((laws_toInt64S.f k l0_1).bind fun t111=>(some (a0_0,t111)))=some (r1,r2):=h;clear h;replace H:=qOb H;obtain⟨t111,A20,H⟩:=H;replace H:(some (a0_0,t111))=some (r1,r2):=H;have A2:=qAm A20;clear A20;simp only [Option.some.injEq,Prod.mk.injEq] at H;obtain⟨rfl,rfl⟩:=H;go_enter Try.func9,Try.ntmps9;go_wp2_with (first|((with_reducible refine gate_dst (N:=1) rfl ?_);refine box_event qL (N:=1) qL (cs:=#[.int .i64 a0_0,.slice A0_1 l0_1.length c0_1]) (t:=24) qR ?_;intro gb108 hg w3 hbox hb;have n0_:=qAm (below_step qB111 hb);have n1_:=qAm (hbox);have n2_:=qAm ((by rw [hg];exact(below_size qB111):w.heap.size≤gb108));have n3_:=qAm ((by rw [hg];exact(below_size qB111):w.heap.size≤gb108));clear HB;have HB:=n0_;have BK108:=n1_;have GW108:=n2_;have GE108:=n3_;clear n0_ n1_ n2_ n3_;clear hb hbox hg)|((with_reducible refine gate_dst (N:=2) rfl ?_);refine box_event qL (N:=2) qL (cs:=#[.int .i64 0,.slice none 0 0]) (t:=26) qR ?_;intro gb109 hg w4 hbox hb;have n0_:=qAm (blk_below (g:=gb108) (o:=.cells #[.int .i64 a0_0,.slice A0_1 l0_1.length c0_1] 24 (0,0)) qB112 hb);have n1_:=qAm (below_step qB80 hb);have n2_:=qAm (hbox);have n3_:=qAm ((by rw [hg];exact(below_size qB80):w.heap.size≤gb109));have n4_:=qAm ((by rw [hg];exact(below_size qB80):w.heap.size≤gb109));have n5_:=qAm ((by rw [hg];exact Nat.ne_of_lt (blk_lt (g:=gb108) (o:=.cells #[.int .i64 a0_0,.slice A0_1 l0_1.length c0_1] 24 (0,0)) qB112):gb108≠gb109));have n6_:=qAm ((by rw [hg];exact Nat.ne_of_gt (blk_lt (g:=gb108) (o:=.cells #[.int .i64 a0_0,.slice A0_1 l0_1.length c0_1] 24 (0,0)) qB112):gb109≠gb108));clear BK108;clear HB;have BK108:=n0_;have HB:=n1_;have BK109:=n2_;have GW109:=n3_;have GE109:=n4_;have NB108_109:=n5_;have NB109_108:=n6_;clear n0_ n1_ n2_ n3_ n4_ n5_ n6_;clear hb hbox hg)|((with_reducible refine gate_dst (N:=3) rfl ?_);refine box_event qL (N:=3) qL (cs:=#[.int .i64 0,.slice none 0 0]) (t:=26) qR ?_;intro gb110 hg w5 hbox hb;have n0_:=qAm (blk_below (g:=gb108) (o:=.cells #[.int .i64 a0_0,.slice A0_1 l0_1.length c0_1] 24 (0,0)) qB112 hb);have n1_:=qAm (blk_below (g:=gb109) (o:=.cells #[.int .i64 0,.slice none 0 0] 26 (0,0)) qB113 hb);have n2_:=qAm (below_step qB68 hb);have n3_:=qAm (hbox);have n4_:=qAm ((by rw [hg];exact(below_size qB68):w.heap.size≤gb110));have n5_:=qAm ((by rw [hg];exact(below_size qB68):w.heap.size≤gb110));have n6_:=qAm ((by rw [hg];exact Nat.ne_of_lt (blk_lt (g:=gb108) (o:=.cells #[.int .i64 a0_0,.slice A0_1 l0_1.length c0_1] 24 (0,0)) qB112):gb108≠gb110));have n7_:=qAm ((by rw [hg];exact Nat.ne_of_gt (blk_lt (g:=gb108) (o:=.cells #[.int .i64 a0_0,.slice A0_1 l0_1.length c0_1] 24 (0,0)) qB112):gb110≠gb108));have n8_:=qAm ((by rw [hg];exact Nat.ne_of_lt (blk_lt (g:=gb109) (o:=.cells #[.int .i64 0,.slice none 0 0] 26 (0,0)) qB113):gb109≠gb110));have n9_:=qAm ((by rw [hg];exact Nat.ne_of_gt (blk_lt (g:=gb109) (o:=.cells #[.int .i64 0,.slice none 0 0] 26 (0,0)) qB113):gb110≠gb109));clear BK108;clear BK109;clear HB;have BK108:=n0_;have BK109:=n1_;have HB:=n2_;have BK110:=n3_;have GW110:=n4_;have GE110:=n5_;have NB108_110:=n6_;have NB110_108:=n7_;have NB109_110:=n8_;have NB110_109:=n9_;clear n0_ n1_ n2_ n3_ n4_ n5_ n6_ n7_ n8_ n9_;clear hb hbox hg;have hnb6:=NB108_109.1;have hnc6:=NB109_108.1;have hnb7:=NB108_110.1;have hnc7:=NB110_108.1;have hcz8_0:w5.cell? ⟨gb108,0,none⟩=some (.int .i64 a0_0):=(blk_cell BK108.1 0).trans rfl;have hcz8_1:w5.cell? ⟨gb108,1,none⟩=some (.slice A0_1 l0_1.length c0_1):=(blk_cell BK108.1 1).trans rfl;have hfz8_0:=blk_frozen BK108.1 0;have hfz8_1:=blk_frozen BK108.1 1;have hnb9:=NB110_109.1;have hnc9:=NB109_110.1;have hcz10_0:w5.cell? ⟨gb110,0,none⟩=some (.int .i64 0):=(blk_cell BK110.1 0).trans rfl;have hcz10_1:w5.cell? ⟨gb110,1,none⟩=some (.slice none 0 0):=(blk_cell BK110.1 1).trans rfl;have hfz10_0:=blk_frozen BK110.1 0;have hfz10_1:=blk_frozen BK110.1 1)|((with_reducible refine gate_callee (f:=28) rfl ?_);refine goesL_ (some 9) rfl rfl Try.func28 (by kernel_rfl) rfl #[.slice A0_1 l0_1.length c0_1] rfl qB108 ?_;(with_reducible refine(laws_toInt64S.calls k _ _ l0_1 t111 _ ?side1 ?side2 A2.1).mono ?_);(case side1=>exact Kd.C_below HR0_1.1 qB52);(case side2=>exact HC0_1.1);rintro e w11 ⟨v112,rfl,ho0,hb⟩;refine⟨_,rfl,?_⟩;have n0_:=qAm (Kd.R_lower ho0 (below_size qB52));have n1_:=qAm (blk_below (g:=gb108) (o:=.cells #[.int .i64 a0_0,.slice A0_1 l0_1.length c0_1] 24 (0,0)) (by (with_reducible repeat(first|refine blk_drewN ?_ _|refine blk_drew ?_|refine blk_alloc ?_ _));refine blk_far ?_ NB108_110.1 _;(with_reducible repeat(first|refine blk_drewN ?_ _|refine blk_drew ?_|refine blk_alloc ?_ _));exact BK108.1) hb);have n2_:=qAm (blk_below (g:=gb109) (o:=.cells #[.int .i64 0,.slice none 0 0] 26 (0,0)) (by (with_reducible repeat(first|refine blk_drewN ?_ _|refine blk_drew ?_|refine blk_alloc ?_ _));refine blk_far ?_ NB109_110.1 _;(with_reducible repeat(first|refine blk_drewN ?_ _|refine blk_drew ?_|refine blk_alloc ?_ _));exact BK109.1) hb);have n3_:=qAm (blk_below (g:=gb110) (o:=.cells #[.int .i64 a0_0,.slice none 0 0] 26 (0,0)) (by (with_reducible repeat(first|refine blk_drewN ?_ _|refine blk_drew ?_|refine blk_alloc ?_ _));refine blk_put (cs:=#[.int .i64 0,.slice none 0 0]) ?_ 0 _ rfl;(with_reducible repeat(first|refine blk_drewN ?_ _|refine blk_drew ?_|refine blk_alloc ?_ _));exact BK110.1) hb);have n4_:=qAm (below_step qB52 hb);clear BK108;clear BK109;clear BK110;clear HB;have HO113:=n0_;have BK108:=n1_;have BK109:=n2_;have BK110:=n3_;have HB:=n4_;clear n0_ n1_ n2_ n3_ n4_;(try clear hb);(try clear hb2);(try clear hk);(try clear hi);(try clear ho0);obtain⟨Ao12,co12,eo12⟩:=Kd.R_slice HO113.1;subst eo12;have hcz13_0:w11.cell? ⟨gb110,0,none⟩=some (.int .i64 a0_0):=(blk_cell BK110.1 0).trans rfl;have hcz13_1:w11.cell? ⟨gb110,1,none⟩=some (.slice none 0 0):=(blk_cell BK110.1 1).trans rfl;have hfz13_0:=blk_frozen BK110.1 0;have hfz13_1:=blk_frozen BK110.1 1;have hcz14_0:w11.cell? ⟨gb109,0,none⟩=some (.int .i64 0):=(blk_cell BK109.1 0).trans rfl;have hcz14_1:w11.cell? ⟨gb109,1,none⟩=some (.slice none 0 0):=(blk_cell BK109.1 1).trans rfl;have hfz14_0:=blk_frozen BK109.1 0;have hfz14_1:=blk_frozen BK109.1 1));refine bodyPost_ret (results_cell_row rfl _ _ gb109 26 #[.int .i64 a0_0,.slice Ao12 t111.length co12] (0,0) _ rfl (by (with_reducible repeat(first|refine blk_drewN ?_ _|refine blk_drew ?_|refine blk_alloc ?_ _));refine blk_put (cs:=#[.int .i64 a0_0,.slice none 0 0]) ?_ 1 _ rfl;(with_reducible repeat(first|refine blk_drewN ?_ _|refine blk_drew ?_|refine blk_alloc ?_ _));refine blk_put (cs:=#[.int .i64 0,.slice none 0 0]) ?_ 0 _ rfl;(with_reducible repeat(first|refine blk_drewN ?_ _|refine blk_drew ?_|refine blk_alloc ?_ _));refine blk_far ?_ NB109_110.1 _;(with_reducible repeat(first|refine blk_drewN ?_ _|refine blk_drew ?_|refine blk_alloc ?_ _));exact BK109.1) Try.underlying26 rfl (by kernel_rfl)) rfl ?_;exact⟨_,by first|rfl|(simp [errW_none,errW_some] <;> rfl)|(simp [*,errW_none,errW_some] <;> rfl),by (with_reducible repeat(first|apply Kd.R_alloc|apply Kd.R_drewN|apply Kd.R_drew));exact Kd.R_mono (Kd.R_far (p:=⟨gb109,1,none⟩) (Kd.R_far (p:=⟨gb109,0,none⟩) (Kd.R_far (p:=⟨gb110,1,none⟩) (Kd.R_types (Kd.R_types HO113.1 BK110.1 (by decide)) BK109.1 (by decide)) (fun _ hk=>hk.1.2) (.slice Ao12 t111.length co12)) (fun _ hk=>hk.2) (.int .i64 a0_0)) (fun _ hk=>hk.2) (.slice Ao12 t111.length co12)) (fun _ hk=>trivial),by repeat(first|(with_reducible first|exact HB.1|apply below_alloc|apply pw_below_drewN|apply below_drew1|refine below_set ?_ GE108.1|refine below_set ?_ GE109.1|refine below_set ?_ GE110.1)|exact HB.1)⟩

/-! ### laws_eqInt64S: function 32 -/
def laws_eqInt64S.l0:Nat→List Int→List Int→Int→Option (Bool)
 |0,_,_,_=>none
 |k+1,x0,x1,x5=>if x5<(x0.length:Int) then (if 0≤x5 then (if x5<(x1.length:Int) then (if (rd x0 x5)=(rd x1 x5) then (laws_eqInt64S.l0 k x0 x1 (wrap64 (x5+1))) else (some false)) else (none)) else (none)) else (some true)
def laws_eqInt64S.f (k:Nat) (l0:List Int) (l1:List Int):Option (Bool):=if (l0.length:Int)=(l1.length:Int) then (laws_eqInt64S.l0 k l0 l1 0) else (some false)
theorem laws_eqInt64S.mono_l:∀k,(∀y0 y1 y2,LeO (laws_eqInt64S.l0 k y0 y1 y2) (laws_eqInt64S.l0 (k+1) y0 y1 y2))
 |0=>fun _ _ _ r h=>by simp [laws_eqInt64S.l0] at h
 |k+1=>by
  have ih0:=laws_eqInt64S.mono_l k
  ·intro y0 y1 y2;unfold laws_eqInt64S.l0;repeat' first
   |(with_reducible exact ih0 _ _ _)
   |(with_reducible exact LeO.refl _)
   |(with_reducible exact LeO.none _)
   |(with_reducible refine LeO.ite ?_ ?_)
   |(with_reducible refine LeO.bind ?_ (fun _=>?_))
   |exact ih0 _ _ _
   |exact LeO.none _
   |refine LeO.ite ?_ ?_
   |refine LeO.bind ?_ (fun _=>?_)
theorem laws_eqInt64S.mono:∀a0 a1 k,LeO (laws_eqInt64S.f k a0 a1) (laws_eqInt64S.f (k+1) a0 a1):=by
 intro a0 a1 k;have ih0:=laws_eqInt64S.mono_l k;unfold laws_eqInt64S.f;repeat' first
   |(with_reducible exact ih0 _ _ _)
   |(with_reducible exact LeO.refl _)
   |(with_reducible exact LeO.none _)
   |(with_reducible refine LeO.ite ?_ ?_)
   |(with_reducible refine LeO.bind ?_ (fun _=>?_))
   |exact ih0 _ _ _
   |exact LeO.none _
   |refine LeO.ite ?_ ?_
   |refine LeO.bind ?_ (fun _=>?_)
set_option maxHeartbeats 8000000 in
set_option maxRecDepth 100000 in
theorem laws_eqInt64S.calls (k:Nat) (A0:Option Addr) (c0:Nat) (l0:List Int) (A1:Option Addr) (c1:Nat) (l1:List Int) (r:Bool) (w:World) (hr0:Kd.C (Kd.int .i64) w A0 l0.length l0) (hc0:l0.length≤c0) (hr1:Kd.C (Kd.int .i64) w A1 l1.length l1) (hc1:l1.length≤c1) (h:laws_eqInt64S.f k l0 l1=some r):
  Calls Try.prog 32 #[.slice A0 l0.length c0,.slice A1 l1.length c1] w fun e w'=>e=.returned (.bool r)∧Drawn0 w w':=by
 have HR0:=qAm hr0;have HC0:=qAm hc0;clear hr0 hc0;have HR1:=qAm hr1;have HC1:=qAm hc1;clear hr1 hc1;have H:(if (l0.length:Int)=(l1.length:Int) then (laws_eqInt64S.l0 k l0 l1 0) else (some false))=some r:=h;clear h
 by_cases c3:(l0.length:Int)=(l1.length:Int)
 ·rw [if_pos c3] at H;have c3b0:((l0.length:Int)==(l1.length:Int))=true:=beq_iff_eq.mpr c3;have c3b1:((l0.length:Int) !=(l1.length:Int))=false:=bne_eq_false_iff_eq.mpr c3;have c3b2:(l0.length==l1.length)=true:=by first|simpa using c3|(simp at c3 ⊢;omega)
  clear c3;have H':=qAm H;clear H;go_enter Try.func32,Try.ntmps32;go_wp2;repeat(go_quiet (fail);try go_wp2)
  try simp only [Act.put,qSa,qSc,qSb]
  go_loopg [5] k (fun kq v5 w'=>∃(x5_1:Int),v5=.int .i64 x5_1∧Aside0 (laws_eqInt64S.l0 kq l0 l1 x5_1=some r)∧Aside0 (kq≤k)∧Drawn0 w w')
  case atStart=>exact⟨(0),qB216,H',⟨Nat.le_refl _⟩,by repeat(first|exact Drawn0.refl _|apply Drawn0.step)⟩
  case round=>
   clear H';try clear c1
   try clear p2
   try clear c3
   try clear c3b0
   try clear c3b1
   try clear c3b2
   obtain⟨x5_1,rfl,HA,HK1,⟨m1,rfl⟩⟩:=hrel;cases gk with
   |zero=>exact absurd HA.1 (by simp [laws_eqInt64S.l0])
   |succ k1=>
    have H:=HA.1;clear HA;simp only [laws_eqInt64S.l0] at H
    by_cases c4:x5_1<(l0.length:Int)
    ·rw [if_pos c4] at H;have c4b0:decide (x5_1<(l0.length:Int))=true:=decide_eq_true c4;clear c4
     by_cases c5:0≤x5_1
     ·rw [if_pos c5] at H;have c5b0:decide (0≤x5_1)=true:=decide_eq_true c5;clear c5
      by_cases c6:x5_1<(l1.length:Int)
      ·rw [if_pos c6] at H;have c6b0:decide (x5_1<(l1.length:Int))=true:=decide_eq_true c6;clear c6
       by_cases c7:(rd l0 x5_1)=(rd l1 x5_1)
       ·rw [if_pos c7] at H;have c7b0:((rd l0 x5_1)==(rd l1 x5_1))=true:=beq_iff_eq.mpr c7;have c7b1:((rd l0 x5_1) !=(rd l1 x5_1))=false:=bne_eq_false_iff_eq.mpr c7;clear c7;have H':=qAm H;clear H;have p114:0≤(x5_1:Int):=of_decide_eq_true qB215;have q114:x5_1<(l0.length:Int):=of_decide_eq_true qB215;obtain⟨ad114,e114,hx114_0⟩:=Kd.at_int HR0.1 x5_1 p114 q114;cases e114
        replace p114:=eq_true p114;replace q114:=eq_true q114;have p115:0≤(x5_1:Int):=of_decide_eq_true qB215;have q115:x5_1<(l1.length:Int):=of_decide_eq_true qB215;obtain⟨ad115,e115,hx115_0⟩:=Kd.at_int HR1.1 x5_1 p115 q115;cases e115
        replace p115:=eq_true p115;replace q115:=eq_true q115;go_wp2;repeat(go_quiet (fail);try go_wp2)
        (first|go_roundg k1|((try simp only [add_plain] at *);go_roundg k1))
        case measure=>have:=HK1.1;omega
        case rel=>exact⟨(wrap64 (x5_1+1)),qB216,H',⟨by have:=HK1.1;omega⟩,by repeat(first|exact Drawn0.refl _|apply Drawn0.step)⟩
       ·rw [if_neg c7] at H;have c7b0:((rd l0 x5_1)==(rd l1 x5_1))=false:=beq_eq_false_iff_ne.mpr c7;have c7b1:((rd l0 x5_1) !=(rd l1 x5_1))=true:=bne_iff_ne.mpr c7;obtain rfl:=Option.some.inj H;have p114:0≤(x5_1:Int):=of_decide_eq_true qB215;have q114:x5_1<(l0.length:Int):=of_decide_eq_true qB215;obtain⟨ad114,e114,hx114_0⟩:=Kd.at_int HR0.1 x5_1 p114 q114;cases e114
        replace p114:=eq_true p114;replace q114:=eq_true q114;have p115:0≤(x5_1:Int):=of_decide_eq_true qB215;have q115:x5_1<(l1.length:Int):=of_decide_eq_true qB215;obtain⟨ad115,e115,hx115_0⟩:=Kd.at_int HR1.1 x5_1 p115 q115;cases e115
        replace p115:=eq_true p115;replace q115:=eq_true q115;go_wp2;repeat(go_quiet (fail);try go_wp2)
        go_ret;exact⟨by first|rfl|(simp;done)|(simp [*];done),by repeat(first|exact Drawn0.refl _|apply Drawn0.step)⟩
      ·rw [if_neg c6] at H;exact absurd H (by simp)
     ·rw [if_neg c5] at H;exact absurd H (by simp)
    ·rw [if_neg c4] at H;have c4b0:decide (x5_1<(l0.length:Int))=false:=decide_eq_false c4;clear c4;obtain rfl:=Option.some.inj H;go_wp2;repeat(go_quiet (fail);try go_wp2)
     go_ret;exact⟨by first|rfl|(simp;done)|(simp [*];done),by repeat(first|exact Drawn0.refl _|apply Drawn0.step)⟩
 ·rw [if_neg c3] at H;have c3b0:((l0.length:Int)==(l1.length:Int))=false:=beq_eq_false_iff_ne.mpr c3;have c3b1:((l0.length:Int) !=(l1.length:Int))=true:=bne_iff_ne.mpr c3;have c3b2:(l0.length==l1.length)=false:=by first|simpa using c3|(simp at c3 ⊢;omega)
  obtain rfl:=Option.some.inj H;go_enter Try.func32,Try.ntmps32;go_wp2;repeat(go_quiet (fail);try go_wp2)
  go_ret;exact⟨by first|rfl|(simp;done)|(simp [*];done),by repeat(first|exact Drawn0.refl _|apply Drawn0.step)⟩

/-! ### laws_eqCyclo: function 11 -/
def laws_eqCyclo.f (k:Nat) (a0_0:Int) (l0_1:List Int) (a1_0:Int) (l1_1:List Int):Option (Bool):=if a0_0=a1_0 then ((laws_eqInt64S.f k l0_1 l1_1).bind fun t118=>(if t118=true then (some true) else (some false))) else (some false)
theorem laws_eqCyclo.mono:∀a0 a1 a2 a3 k,LeO (laws_eqCyclo.f k a0 a1 a2 a3) (laws_eqCyclo.f (k+1) a0 a1 a2 a3):=by
 intro a0 a1 a2 a3 k;unfold laws_eqCyclo.f;repeat' first
   |(with_reducible exact laws_eqInt64S.mono _ _ _)
   |(with_reducible exact LeO.refl _)
   |(with_reducible exact LeO.none _)
   |(with_reducible refine LeO.ite ?_ ?_)
   |(with_reducible refine LeO.bind ?_ (fun _=>?_))
   |exact laws_eqInt64S.mono _ _ _
   |exact LeO.none _
   |refine LeO.ite ?_ ?_
   |refine LeO.bind ?_ (fun _=>?_)
set_option maxHeartbeats 8000000 in
set_option maxRecDepth 100000 in
theorem laws_eqCyclo.calls (k:Nat) (a0_0:Int) (A0_1:Option Addr) (c0_1:Nat) (l0_1:List Int) (a1_0:Int) (A1_1:Option Addr) (c1_1:Nat) (l1_1:List Int) (r:Bool) (w:World) (hr0_1:Kd.C (Kd.int .i64) w A0_1 l0_1.length l0_1) (hc0_1:l0_1.length≤c0_1) (hr1_1:Kd.C (Kd.int .i64) w A1_1 l1_1.length l1_1) (hc1_1:l1_1.length≤c1_1) (h:laws_eqCyclo.f k a0_0 l0_1 a1_0 l1_1=some r):
  Calls Try.prog 11 #[.agg #[.int .i64 a0_0,.slice A0_1 l0_1.length c0_1],.agg #[.int .i64 a1_0,.slice A1_1 l1_1.length c1_1]] w fun e w'=>e=.returned (.bool r)∧Below w.heap.size w w':=by
 have hu26:=Try.underlying26;have HR0_1:=qAm hr0_1;have HC0_1:=qAm hc0_1;clear hr0_1 hc0_1;have HR1_1:=qAm hr1_1;have HC1_1:=qAm hc1_1;clear hr1_1 hc1_1;have HB:=qAm (Below.refl w.heap.size w);have H:(if a0_0=a1_0 then ((laws_eqInt64S.f k l0_1 l1_1).bind fun t118=>(if t118=true then (some true) else (some false))) else (some false))=some r:=h;clear h
 by_cases c3:a0_0=a1_0
 ·rw [if_pos c3] at H;have c3b0:(a0_0==a1_0)=true:=beq_iff_eq.mpr c3;have c3b1:(a0_0 !=a1_0)=false:=bne_eq_false_iff_eq.mpr c3;clear c3;replace H:=qOb H;obtain⟨t118,A40,H⟩:=H;replace H:(if t118=true then (some true) else (some false))=some r:=H;have A4:=qAm A40;clear A40
  by_cases c5:t118=true
  ·subst c5;have H1:(some true)=some r:=by rw [if_pos rfl] at H;exact H
   clear H;have H:=H1;clear H1;obtain rfl:=Option.some.inj H;go_enter Try.func11,Try.ntmps11;go_wp2_with (first|((with_reducible refine gate_dst (N:=2) rfl ?_);refine box_event qL (N:=2) qL (cs:=#[.int .i64 a0_0,.slice A0_1 l0_1.length c0_1]) (t:=26) qR ?_;intro gb116 hg w6 hbox hb;have n0_:=qAm (below_step qB111 hb);have n1_:=qAm (hbox);have n2_:=qAm ((by rw [hg];exact(below_size qB111):w.heap.size≤gb116));have n3_:=qAm ((by rw [hg];exact(below_size qB111):w.heap.size≤gb116));clear HB;have HB:=n0_;have BK116:=n1_;have GW116:=n2_;have GE116:=n3_;clear n0_ n1_ n2_ n3_;clear hb hbox hg)|((with_reducible refine gate_dst (N:=3) rfl ?_);refine box_event qL (N:=3) qL (cs:=#[.int .i64 a1_0,.slice A1_1 l1_1.length c1_1]) (t:=26) qR ?_;intro gb117 hg w7 hbox hb;have n0_:=qAm (blk_below (g:=gb116) (o:=.cells #[.int .i64 a0_0,.slice A0_1 l0_1.length c0_1] 26 (0,0)) qB114 hb);have n1_:=qAm (below_step qB81 hb);have n2_:=qAm (hbox);have n3_:=qAm ((by rw [hg];exact(below_size qB81):w.heap.size≤gb117));have n4_:=qAm ((by rw [hg];exact(below_size qB81):w.heap.size≤gb117));have n5_:=qAm ((by rw [hg];exact Nat.ne_of_lt (blk_lt (g:=gb116) (o:=.cells #[.int .i64 a0_0,.slice A0_1 l0_1.length c0_1] 26 (0,0)) qB114):gb116≠gb117));have n6_:=qAm ((by rw [hg];exact Nat.ne_of_gt (blk_lt (g:=gb116) (o:=.cells #[.int .i64 a0_0,.slice A0_1 l0_1.length c0_1] 26 (0,0)) qB114):gb117≠gb116));clear BK116;clear HB;have BK116:=n0_;have HB:=n1_;have BK117:=n2_;have GW117:=n3_;have GE117:=n4_;have NB116_117:=n5_;have NB117_116:=n6_;clear n0_ n1_ n2_ n3_ n4_ n5_ n6_;clear hb hbox hg;have hnb8:=NB116_117.1;have hnc8:=NB117_116.1;have hcz9_0:w7.cell? ⟨gb116,0,none⟩=some (.int .i64 a0_0):=(blk_cell BK116.1 0).trans rfl;have hcz9_1:w7.cell? ⟨gb116,1,none⟩=some (.slice A0_1 l0_1.length c0_1):=(blk_cell BK116.1 1).trans rfl;have hfz9_0:=blk_frozen BK116.1 0;have hfz9_1:=blk_frozen BK116.1 1;have hcz10_0:w7.cell? ⟨gb117,0,none⟩=some (.int .i64 a1_0):=(blk_cell BK117.1 0).trans rfl;have hcz10_1:w7.cell? ⟨gb117,1,none⟩=some (.slice A1_1 l1_1.length c1_1):=(blk_cell BK117.1 1).trans rfl;have hfz10_0:=blk_frozen BK117.1 0;have hfz10_1:=blk_frozen BK117.1 1)|((with_reducible refine gate_callee (f:=32) rfl ?_);refine goesL_ (some 14) rfl rfl Try.func32 (by kernel_rfl) rfl #[.slice A0_1 l0_1.length c0_1,.slice A1_1 l1_1.length c1_1] rfl qB108 ?_;(with_reducible refine(laws_eqInt64S.calls k _ _ l0_1 _ _ l1_1 true _ ?side1 ?side2 ?side3 ?side4 A4.1).mono ?_);(case side1=>repeat(first|exact(Kd.C_below HR0_1.1 HB.1)|(with_reducible refine Kd.C_alloc ?_ _)|(with_reducible refine Kd.C_drewN ?_ _)|(with_reducible refine Kd.C_drew ?_)));(case side2=>exact HC0_1.1);(case side3=>repeat(first|exact(Kd.C_below HR1_1.1 HB.1)|(with_reducible refine Kd.C_alloc ?_ _)|(with_reducible refine Kd.C_drewN ?_ _)|(with_reducible refine Kd.C_drew ?_)));(case side4=>exact HC1_1.1);rintro e w' ⟨rfl,⟨nd,rfl⟩⟩;refine⟨_,rfl,?_⟩));go_ret;exact⟨by first|rfl|(simp [errW_none,errW_some] <;> rfl)|(simp [*,errW_none,errW_some] <;> rfl),by repeat(first|(with_reducible first|exact HB.1|apply below_alloc|apply pw_below_drewN|apply below_drew1|refine below_set ?_ GE116.1|refine below_set ?_ GE117.1)|exact HB.1)⟩
  ·replace c5:=Bool.eq_false_iff.mpr c5;subst c5;have H1:(some false)=some r:=by rw [if_neg (show ¬(false=true) by decide)] at H;exact H
   clear H;have H:=H1;clear H1;obtain rfl:=Option.some.inj H;go_enter Try.func11,Try.ntmps11;go_wp2_with (first|((with_reducible refine gate_dst (N:=2) rfl ?_);refine box_event qL (N:=2) qL (cs:=#[.int .i64 a0_0,.slice A0_1 l0_1.length c0_1]) (t:=26) qR ?_;intro gb116 hg w11 hbox hb;have n0_:=qAm (below_step qB111 hb);have n1_:=qAm (hbox);have n2_:=qAm ((by rw [hg];exact(below_size qB111):w.heap.size≤gb116));have n3_:=qAm ((by rw [hg];exact(below_size qB111):w.heap.size≤gb116));clear HB;have HB:=n0_;have BK116:=n1_;have GW116:=n2_;have GE116:=n3_;clear n0_ n1_ n2_ n3_;clear hb hbox hg)|((with_reducible refine gate_dst (N:=3) rfl ?_);refine box_event qL (N:=3) qL (cs:=#[.int .i64 a1_0,.slice A1_1 l1_1.length c1_1]) (t:=26) qR ?_;intro gb117 hg w12 hbox hb;have n0_:=qAm (blk_below (g:=gb116) (o:=.cells #[.int .i64 a0_0,.slice A0_1 l0_1.length c0_1] 26 (0,0)) qB114 hb);have n1_:=qAm (below_step qB81 hb);have n2_:=qAm (hbox);have n3_:=qAm ((by rw [hg];exact(below_size qB81):w.heap.size≤gb117));have n4_:=qAm ((by rw [hg];exact(below_size qB81):w.heap.size≤gb117));have n5_:=qAm ((by rw [hg];exact Nat.ne_of_lt (blk_lt (g:=gb116) (o:=.cells #[.int .i64 a0_0,.slice A0_1 l0_1.length c0_1] 26 (0,0)) qB114):gb116≠gb117));have n6_:=qAm ((by rw [hg];exact Nat.ne_of_gt (blk_lt (g:=gb116) (o:=.cells #[.int .i64 a0_0,.slice A0_1 l0_1.length c0_1] 26 (0,0)) qB114):gb117≠gb116));clear BK116;clear HB;have BK116:=n0_;have HB:=n1_;have BK117:=n2_;have GW117:=n3_;have GE117:=n4_;have NB116_117:=n5_;have NB117_116:=n6_;clear n0_ n1_ n2_ n3_ n4_ n5_ n6_;clear hb hbox hg;have hnb13:=NB116_117.1;have hnc13:=NB117_116.1;have hcz14_0:w12.cell? ⟨gb116,0,none⟩=some (.int .i64 a0_0):=(blk_cell BK116.1 0).trans rfl;have hcz14_1:w12.cell? ⟨gb116,1,none⟩=some (.slice A0_1 l0_1.length c0_1):=(blk_cell BK116.1 1).trans rfl;have hfz14_0:=blk_frozen BK116.1 0;have hfz14_1:=blk_frozen BK116.1 1;have hcz15_0:w12.cell? ⟨gb117,0,none⟩=some (.int .i64 a1_0):=(blk_cell BK117.1 0).trans rfl;have hcz15_1:w12.cell? ⟨gb117,1,none⟩=some (.slice A1_1 l1_1.length c1_1):=(blk_cell BK117.1 1).trans rfl;have hfz15_0:=blk_frozen BK117.1 0;have hfz15_1:=blk_frozen BK117.1 1)|((with_reducible refine gate_callee (f:=32) rfl ?_);refine goesL_ (some 14) rfl rfl Try.func32 (by kernel_rfl) rfl #[.slice A0_1 l0_1.length c0_1,.slice A1_1 l1_1.length c1_1] rfl qB108 ?_;(with_reducible refine(laws_eqInt64S.calls k _ _ l0_1 _ _ l1_1 false _ ?side1 ?side2 ?side3 ?side4 A4.1).mono ?_);(case side1=>repeat(first|exact(Kd.C_below HR0_1.1 HB.1)|(with_reducible refine Kd.C_alloc ?_ _)|(with_reducible refine Kd.C_drewN ?_ _)|(with_reducible refine Kd.C_drew ?_)));(case side2=>exact HC0_1.1);(case side3=>repeat(first|exact(Kd.C_below HR1_1.1 HB.1)|(with_reducible refine Kd.C_alloc ?_ _)|(with_reducible refine Kd.C_drewN ?_ _)|(with_reducible refine Kd.C_drew ?_)));(case side4=>exact HC1_1.1);rintro e w' ⟨rfl,⟨nd,rfl⟩⟩;refine⟨_,rfl,?_⟩));go_ret;exact⟨by first|rfl|(simp [errW_none,errW_some] <;> rfl)|(simp [*,errW_none,errW_some] <;> rfl),by repeat(first|(with_reducible first|exact HB.1|apply below_alloc|apply pw_below_drewN|apply below_drew1|refine below_set ?_ GE116.1|refine below_set ?_ GE117.1)|exact HB.1)⟩
 ·rw [if_neg c3] at H;have c3b0:(a0_0==a1_0)=false:=beq_eq_false_iff_ne.mpr c3;have c3b1:(a0_0 !=a1_0)=true:=bne_iff_ne.mpr c3;obtain rfl:=Option.some.inj H;go_enter Try.func11,Try.ntmps11;go_wp2_with (first|((with_reducible refine gate_dst (N:=2) rfl ?_);refine box_event qL (N:=2) qL (cs:=#[.int .i64 a0_0,.slice A0_1 l0_1.length c0_1]) (t:=26) qR ?_;intro gb116 hg w16 hbox hb;have n0_:=qAm (below_step qB111 hb);have n1_:=qAm (hbox);have n2_:=qAm ((by rw [hg];exact(below_size qB111):w.heap.size≤gb116));have n3_:=qAm ((by rw [hg];exact(below_size qB111):w.heap.size≤gb116));clear HB;have HB:=n0_;have BK116:=n1_;have GW116:=n2_;have GE116:=n3_;clear n0_ n1_ n2_ n3_;clear hb hbox hg)|((with_reducible refine gate_dst (N:=3) rfl ?_);refine box_event qL (N:=3) qL (cs:=#[.int .i64 a1_0,.slice A1_1 l1_1.length c1_1]) (t:=26) qR ?_;intro gb117 hg w17 hbox hb;have n0_:=qAm (blk_below (g:=gb116) (o:=.cells #[.int .i64 a0_0,.slice A0_1 l0_1.length c0_1] 26 (0,0)) qB114 hb);have n1_:=qAm (below_step qB81 hb);have n2_:=qAm (hbox);have n3_:=qAm ((by rw [hg];exact(below_size qB81):w.heap.size≤gb117));have n4_:=qAm ((by rw [hg];exact(below_size qB81):w.heap.size≤gb117));have n5_:=qAm ((by rw [hg];exact Nat.ne_of_lt (blk_lt (g:=gb116) (o:=.cells #[.int .i64 a0_0,.slice A0_1 l0_1.length c0_1] 26 (0,0)) qB114):gb116≠gb117));have n6_:=qAm ((by rw [hg];exact Nat.ne_of_gt (blk_lt (g:=gb116) (o:=.cells #[.int .i64 a0_0,.slice A0_1 l0_1.length c0_1] 26 (0,0)) qB114):gb117≠gb116));clear BK116;clear HB;have BK116:=n0_;have HB:=n1_;have BK117:=n2_;have GW117:=n3_;have GE117:=n4_;have NB116_117:=n5_;have NB117_116:=n6_;clear n0_ n1_ n2_ n3_ n4_ n5_ n6_;clear hb hbox hg;have hnb18:=NB116_117.1;have hnc18:=NB117_116.1;have hcz19_0:w17.cell? ⟨gb116,0,none⟩=some (.int .i64 a0_0):=(blk_cell BK116.1 0).trans rfl;have hcz19_1:w17.cell? ⟨gb116,1,none⟩=some (.slice A0_1 l0_1.length c0_1):=(blk_cell BK116.1 1).trans rfl;have hfz19_0:=blk_frozen BK116.1 0;have hfz19_1:=blk_frozen BK116.1 1;have hcz20_0:w17.cell? ⟨gb117,0,none⟩=some (.int .i64 a1_0):=(blk_cell BK117.1 0).trans rfl;have hcz20_1:w17.cell? ⟨gb117,1,none⟩=some (.slice A1_1 l1_1.length c1_1):=(blk_cell BK117.1 1).trans rfl;have hfz20_0:=blk_frozen BK117.1 0;have hfz20_1:=blk_frozen BK117.1 1));go_ret;exact⟨by first|rfl|(simp [errW_none,errW_some] <;> rfl)|(simp [*,errW_none,errW_some] <;> rfl),by repeat(first|(with_reducible first|exact HB.1|apply below_alloc|apply pw_below_drewN|apply below_drew1|refine below_set ?_ GE116.1|refine below_set ?_ GE117.1)|exact HB.1)⟩

/-! ### spec_l01In: function 46 -/
def spec_l01In.f (a0:Int) (a1:Int) (a2:Int):Option (Bool):=if a0≥a1 then (some (decide (a0≤a2))) else (some false)
set_option maxHeartbeats 8000000 in
set_option maxRecDepth 100000 in
theorem spec_l01In.calls (a0:Int) (a1:Int) (a2:Int) (r:Bool) (w:World) (h:spec_l01In.f a0 a1 a2=some r):
  Calls Try.prog 46 #[.int .i64 a0,.int .i64 a1,.int .i64 a2] w fun e w'=>e=.returned (.bool r)∧Drawn0 w w':=by
 have H:(if a0≥a1 then (some (decide (a0≤a2))) else (some false))=some r:=h;clear h
 by_cases c4:a0≥a1
 ·rw [if_pos c4] at H;have c4b0:decide (a1≤a0)=true:=decide_eq_true c4;clear c4;obtain rfl:=Option.some.inj H;go_enter Try.func46,Try.ntmps46;go_wp2;go_ret;exact⟨by first|rfl|(simp;done)|(simp [*];done),by repeat(first|exact Drawn0.refl _|apply Drawn0.step)⟩
 ·rw [if_neg c4] at H;have c4b0:decide (a1≤a0)=false:=decide_eq_false c4;clear c4;obtain rfl:=Option.some.inj H;go_enter Try.func46,Try.ntmps46;go_wp2;go_ret;exact⟨by first|rfl|(simp;done)|(simp [*];done),by repeat(first|exact Drawn0.refl _|apply Drawn0.step)⟩

/-! ### spec_l09Fits: function 27 -/
def spec_l09Fits.f (a0_0:Int) (l0_1:List Int):Option (Bool):=if 0<(l0_1.length:Int) then ((spec_l01In.f (rd l0_1 0) (-10000) 10000).bind fun t121=>(if t121=true then (if 1<(l0_1.length:Int) then ((spec_l01In.f (rd l0_1 1) (-10000) 10000).bind fun t123=>(some t123)) else (none)) else (some false))) else (none)
set_option maxHeartbeats 8000000 in
set_option maxRecDepth 100000 in
theorem spec_l09Fits.calls (a0_0:Int) (A0_1:Option Addr) (c0_1:Nat) (l0_1:List Int) (r:Bool) (w:World) (hr0_1:Kd.C (Kd.int .i64) w A0_1 l0_1.length l0_1) (hc0_1:l0_1.length≤c0_1) (h:spec_l09Fits.f a0_0 l0_1=some r):
  Calls Try.prog 27 #[.agg #[.int .i64 a0_0,.slice A0_1 l0_1.length c0_1]] w fun e w'=>e=.returned (.bool r)∧Below w.heap.size w w':=by
 have hu26:=Try.underlying26;have HR0_1:=qAm hr0_1;have HC0_1:=qAm hc0_1;clear hr0_1 hc0_1;have HB:=qAm (Below.refl w.heap.size w);have H:(if 0<(l0_1.length:Int) then ((spec_l01In.f (rd l0_1 0) (-10000) 10000).bind fun t121=>(if t121=true then (if 1<(l0_1.length:Int) then ((spec_l01In.f (rd l0_1 1) (-10000) 10000).bind fun t123=>(some t123)) else (none)) else (some false))) else (none))=some r:=h;clear h
 by_cases c2:0<(l0_1.length:Int)
 ·rw [if_pos c2] at H;have c2b0:decide (0<(l0_1.length:Int))=true:=decide_eq_true c2;have c2b1:decide (0<l0_1.length)=true:=decide_eq_true (by omega);clear c2;replace H:=qOb H;obtain⟨t121,A30,H⟩:=H;replace H:(if t121=true then (if 1<(l0_1.length:Int) then ((spec_l01In.f (rd l0_1 1) (-10000) 10000).bind fun t123=>(some t123)) else (none)) else (some false))=some r:=H;have A3:=qAm A30;clear A30
  by_cases c4:t121=true
  ·subst c4;have H1:(if 1<(l0_1.length:Int) then ((spec_l01In.f (rd l0_1 1) (-10000) 10000).bind fun t123=>(some t123)) else (none))=some r:=by rw [if_pos rfl] at H;exact H
   clear H;have H:=H1;clear H1
   by_cases c5:1<(l0_1.length:Int)
   ·rw [if_pos c5] at H;have c5b0:decide (1<(l0_1.length:Int))=true:=decide_eq_true c5;have c5b1:decide (1<l0_1.length)=true:=decide_eq_true (by omega);clear c5;replace H:=qOb H;obtain⟨t123,A60,H⟩:=H;replace H:(some t123)=some r:=H;have A6:=qAm A60;clear A60;obtain rfl:=Option.some.inj H;go_enter Try.func27,Try.ntmps27;go_wp2_with (first|((with_reducible refine gate_dst (N:=1) rfl ?_);refine box_event qL (N:=1) qL (cs:=#[.int .i64 a0_0,.slice A0_1 l0_1.length c0_1]) (t:=26) qR ?_;intro gb119 hg w7 hbox hb;have n0_:=qAm (below_step qB111 hb);have n1_:=qAm (hbox);have n2_:=qAm ((by rw [hg];exact(below_size qB111):w.heap.size≤gb119));have n3_:=qAm ((by rw [hg];exact(below_size qB111):w.heap.size≤gb119));clear HB;have HB:=n0_;have BK119:=n1_;have GW119:=n2_;have GE119:=n3_;clear n0_ n1_ n2_ n3_;clear hb hbox hg;have hcz8_0:w7.cell? ⟨gb119,0,none⟩=some (.int .i64 a0_0):=(blk_cell BK119.1 0).trans rfl;have hcz8_1:w7.cell? ⟨gb119,1,none⟩=some (.slice A0_1 l0_1.length c0_1):=(blk_cell BK119.1 1).trans rfl;have hfz8_0:=blk_frozen BK119.1 0;have hfz8_1:=blk_frozen BK119.1 1;have p120:0≤(0:Int):=(by omega);have q120:0<(l0_1.length:Int):=of_decide_eq_true qB215;obtain⟨ad120,e120,hx120_0⟩:=Kd.at_int HR0_1.1 0 p120 q120;cases e120;have qi120:(0<l0_1.length)=True:=eq_true (by omega);(try rw [show((0:Int)).toNat=0 from rfl] at hx120_0);(try rw [Addr.add_zero'] at hx120_0);replace hx120_0:=(HB.1.cell (World.block_lt_of_cell? w _ hx120_0)).trans hx120_0;replace p120:=eq_true p120;replace q120:=eq_true q120)|((with_reducible refine gate_callee (f:=46) rfl ?_);refine goesL_ (some 7) rfl rfl Try.func46 (by kernel_rfl) rfl #[.int .i64 (rd l0_1 0),.int .i64 (-10000),.int .i64 10000] rfl qB108 ?_;(with_reducible refine(spec_l01In.calls (rd l0_1 0) (-10000) 10000 true _ A3.1).mono ?_);rintro e w' ⟨rfl,⟨nd,rfl⟩⟩;refine⟨_,rfl,?_⟩;have p122:0≤(1:Int):=(by omega);have q122:1<(l0_1.length:Int):=of_decide_eq_true qB215;obtain⟨ad122,e122,hx122_0⟩:=Kd.at_int HR0_1.1 1 p122 q122;obtain rfl:ad120=ad122:=(by injection e122);(try simp only [show(1:Int).toNat=1 from rfl,Nat.reduceMul,Nat.reduceEqDiff,Go.Addr.add,↓reduceIte] at hx122_0);have qi122:(1<l0_1.length)=True:=eq_true (by omega);(try rw [show((1:Int)).toNat=1 from rfl] at hx122_0);replace hx122_0:=(HB.1.cell (World.block_lt_of_cell? w _ hx122_0)).trans hx122_0;replace p122:=eq_true p122;replace q122:=eq_true q122)|(go_at_call 46;(with_reducible refine(spec_l01In.calls (rd l0_1 1) (-10000) 10000 t123 _ A6.1).mono ?_);rintro e w' ⟨rfl,⟨nd,rfl⟩⟩));go_ret;exact⟨by first|rfl|(simp [errW_none,errW_some] <;> rfl)|(simp [*,errW_none,errW_some] <;> rfl),by repeat(first|(with_reducible first|exact HB.1|apply below_alloc|apply pw_below_drewN|apply below_drew1|refine below_set ?_ GE119.1)|exact HB.1)⟩
   ·rw [if_neg c5] at H;exact absurd H (by simp)
  ·replace c4:=Bool.eq_false_iff.mpr c4;subst c4;have H1:(some false)=some r:=by rw [if_neg (show ¬(false=true) by decide)] at H;exact H
   clear H;have H:=H1;clear H1;obtain rfl:=Option.some.inj H;go_enter Try.func27,Try.ntmps27;go_wp2_with (first|((with_reducible refine gate_dst (N:=1) rfl ?_);refine box_event qL (N:=1) qL (cs:=#[.int .i64 a0_0,.slice A0_1 l0_1.length c0_1]) (t:=26) qR ?_;intro gb119 hg w9 hbox hb;have n0_:=qAm (below_step qB111 hb);have n1_:=qAm (hbox);have n2_:=qAm ((by rw [hg];exact(below_size qB111):w.heap.size≤gb119));have n3_:=qAm ((by rw [hg];exact(below_size qB111):w.heap.size≤gb119));clear HB;have HB:=n0_;have BK119:=n1_;have GW119:=n2_;have GE119:=n3_;clear n0_ n1_ n2_ n3_;clear hb hbox hg;have hcz10_0:w9.cell? ⟨gb119,0,none⟩=some (.int .i64 a0_0):=(blk_cell BK119.1 0).trans rfl;have hcz10_1:w9.cell? ⟨gb119,1,none⟩=some (.slice A0_1 l0_1.length c0_1):=(blk_cell BK119.1 1).trans rfl;have hfz10_0:=blk_frozen BK119.1 0;have hfz10_1:=blk_frozen BK119.1 1;have p120:0≤(0:Int):=(by omega);have q120:0<(l0_1.length:Int):=of_decide_eq_true qB215;obtain⟨ad120,e120,hx120_0⟩:=Kd.at_int HR0_1.1 0 p120 q120;cases e120;have qi120:(0<l0_1.length)=True:=eq_true (by omega);(try rw [show((0:Int)).toNat=0 from rfl] at hx120_0);(try rw [Addr.add_zero'] at hx120_0);replace hx120_0:=(HB.1.cell (World.block_lt_of_cell? w _ hx120_0)).trans hx120_0;replace p120:=eq_true p120;replace q120:=eq_true q120)|((with_reducible refine gate_callee (f:=46) rfl ?_);refine goesL_ (some 7) rfl rfl Try.func46 (by kernel_rfl) rfl #[.int .i64 (rd l0_1 0),.int .i64 (-10000),.int .i64 10000] rfl qB108 ?_;(with_reducible refine(spec_l01In.calls (rd l0_1 0) (-10000) 10000 false _ A3.1).mono ?_);rintro e w' ⟨rfl,⟨nd,rfl⟩⟩;refine⟨_,rfl,?_⟩));go_ret;exact⟨by first|rfl|(simp [errW_none,errW_some] <;> rfl)|(simp [*,errW_none,errW_some] <;> rfl),by repeat(first|(with_reducible first|exact HB.1|apply below_alloc|apply pw_below_drewN|apply below_drew1|refine below_set ?_ GE119.1)|exact HB.1)⟩
 ·rw [if_neg c2] at H;exact absurd H (by simp)

/-! ### spec_l01Gcd: function 79 -/
def spec_l01Gcd.l0:Nat→Int→Int→Option (Int)
 |0,_,_=>none
 |k+1,x0,x1=>if x1=0 then (some (mx x0 (wrap64 (-x0)))) else (spec_l01Gcd.l0 k x1 (Int.tmod x0 x1))
def spec_l01Gcd.f (k:Nat) (a0:Int) (a1:Int):Option (Int):=spec_l01Gcd.l0 k a0 a1
theorem spec_l01Gcd.mono_l:∀k,(∀y0 y1,LeO (spec_l01Gcd.l0 k y0 y1) (spec_l01Gcd.l0 (k+1) y0 y1))
 |0=>fun _ _ r h=>by simp [spec_l01Gcd.l0] at h
 |k+1=>by
  have ih0:=spec_l01Gcd.mono_l k
  ·intro y0 y1;unfold spec_l01Gcd.l0;repeat' first
   |(with_reducible exact ih0 _ _)
   |(with_reducible exact LeO.refl _)
   |(with_reducible exact LeO.none _)
   |(with_reducible refine LeO.ite ?_ ?_)
   |(with_reducible refine LeO.bind ?_ (fun _=>?_))
   |exact ih0 _ _
   |exact LeO.none _
   |refine LeO.ite ?_ ?_
   |refine LeO.bind ?_ (fun _=>?_)
theorem spec_l01Gcd.mono:∀a0 a1 k,LeO (spec_l01Gcd.f k a0 a1) (spec_l01Gcd.f (k+1) a0 a1):=by
 intro a0 a1 k;have ih0:=spec_l01Gcd.mono_l k;unfold spec_l01Gcd.f;repeat' first
   |(with_reducible exact ih0 _ _)
   |(with_reducible exact LeO.refl _)
   |(with_reducible exact LeO.none _)
   |(with_reducible refine LeO.ite ?_ ?_)
   |(with_reducible refine LeO.bind ?_ (fun _=>?_))
   |exact ih0 _ _
   |exact LeO.none _
   |refine LeO.ite ?_ ?_
   |refine LeO.bind ?_ (fun _=>?_)
set_option maxHeartbeats 8000000 in
set_option maxRecDepth 100000 in
theorem spec_l01Gcd.calls (k:Nat) (a0:Int) (a1:Int) (r:Int) (w:World) (h:spec_l01Gcd.f k a0 a1=some r):
  Calls Try.prog 79 #[.int .i64 a0,.int .i64 a1] w fun e w'=>e=.returned (.int .i64 r)∧Below w.heap.size w w':=by
 have HB:=qAm (Below.refl w.heap.size w);have H:(spec_l01Gcd.l0 k a0 a1)=some r:=h;clear h;have H':=qAm H;clear H;go_enter Try.func79,Try.ntmps79;go_wp2;try simp only [Act.put,qSa,qSc,qSb]
 go_loopg [0,1] k (fun kq v0 v1 w'=>∃(x0_1:Int) (x1_1:Int),v0=.int .i64 x0_1∧v1=.int .i64 x1_1∧Aside0 (spec_l01Gcd.l0 kq x0_1 x1_1=some r)∧Aside0 (kq≤k)∧Aside0 (Below w.heap.size w w'))
 case atStart=>exact⟨(a0),(a1),qB216,qB216,H',⟨Nat.le_refl _⟩,⟨by repeat(first|(with_reducible first|exact HB.1|apply below_alloc|apply pw_below_drewN|apply below_drew1)|exact HB.1)⟩⟩
 case round=>
  clear H';try clear p2
  obtain⟨x0_1,x1_1,rfl,rfl,HA,HK1,HB⟩:=hrel;cases gk with
  |zero=>exact absurd HA.1 (by simp [spec_l01Gcd.l0])
  |succ k1=>
   have H:=HA.1;clear HA;simp only [spec_l01Gcd.l0] at H
   by_cases c3:x1_1=0
   ·rw [if_pos c3] at H;have c3b0:(x1_1==0)=true:=beq_iff_eq.mpr c3;have c3b1:(x1_1 !=0)=false:=bne_eq_false_iff_eq.mpr c3;clear c3;obtain⟨ji4,hji4⟩:∃j_:Int,(mx x0_1 (wrap64 (-x0_1)))=j_:=⟨_,rfl⟩
    replace H:(some ji4)=some r:=by first|(rw [hji4] at H;exact H)|(simp only [hji4] at H ⊢;exact H)
    have hji4_:(if x0_1<(wrap64 (-x0_1)) then (wrap64 (-x0_1)) else x0_1)=ji4:=hji4;obtain rfl:=Option.some.inj H;go_wp2;go_ret;exact⟨by first|rfl|(simp [errW_none,errW_some] <;> rfl)|(simp only [← hji4];first|rfl|(simp [errW_none,errW_some] <;> rfl))|(simp [*,errW_none,errW_some] <;> rfl),by repeat(first|(with_reducible first|exact HB.1|apply below_alloc|apply pw_below_drewN|apply below_drew1)|exact HB.1)⟩
   ·rw [if_neg c3] at H;have c3b0:(x1_1==0)=false:=beq_eq_false_iff_ne.mpr c3;have c3b1:(x1_1 !=0)=true:=bne_iff_ne.mpr c3;have H':=qAm H;clear H;go_wp2
    (first|go_roundg k1|((try simp only [add_plain] at *);go_roundg k1))
    case measure=>have:=HK1.1;omega
    case rel=>exact⟨(x1_1),(Int.tmod x0_1 x1_1),qB216,qB216,H',⟨by have:=HK1.1;omega⟩,⟨by repeat(first|(with_reducible first|exact HB.1|apply below_alloc|apply pw_below_drewN|apply below_drew1)|exact HB.1)⟩⟩

/-! ### spec_l01Phi: function 71 -/
def spec_l01Phi.l0:Nat→Int→Int→Int→Option (Int)
 |0,_,_,_=>none
 |k+1,x0,x3,x4=>if x4≤x0 then ((spec_l01Gcd.f k x4 x0).bind fun t124=>(if t124=1 then (spec_l01Phi.l0 k x0 (wrap64 (x3+1)) (wrap64 (x4+1))) else (spec_l01Phi.l0 k x0 x3 (wrap64 (x4+1))))) else (some x3)
def spec_l01Phi.f (k:Nat) (a0:Int):Option (Int):=spec_l01Phi.l0 k a0 0 1
theorem spec_l01Phi.mono_l:∀k,(∀y0 y1 y2,LeO (spec_l01Phi.l0 k y0 y1 y2) (spec_l01Phi.l0 (k+1) y0 y1 y2))
 |0=>fun _ _ _ r h=>by simp [spec_l01Phi.l0] at h
 |k+1=>by
  have ih0:=spec_l01Phi.mono_l k
  ·intro y0 y1 y2;unfold spec_l01Phi.l0;repeat' first
   |(with_reducible exact ih0 _ _ _)
   |(with_reducible exact spec_l01Gcd.mono _ _ _)
   |(with_reducible exact LeO.refl _)
   |(with_reducible exact LeO.none _)
   |(with_reducible refine LeO.ite ?_ ?_)
   |(with_reducible refine LeO.bind ?_ (fun _=>?_))
   |exact ih0 _ _ _
   |exact spec_l01Gcd.mono _ _ _
   |exact LeO.none _
   |refine LeO.ite ?_ ?_
   |refine LeO.bind ?_ (fun _=>?_)
theorem spec_l01Phi.mono:∀a0 k,LeO (spec_l01Phi.f k a0) (spec_l01Phi.f (k+1) a0):=by
 intro a0 k;have ih0:=spec_l01Phi.mono_l k;unfold spec_l01Phi.f;repeat' first
   |(with_reducible exact ih0 _ _ _)
   |(with_reducible exact spec_l01Gcd.mono _ _ _)
   |(with_reducible exact LeO.refl _)
   |(with_reducible exact LeO.none _)
   |(with_reducible refine LeO.ite ?_ ?_)
   |(with_reducible refine LeO.bind ?_ (fun _=>?_))
   |exact ih0 _ _ _
   |exact spec_l01Gcd.mono _ _ _
   |exact LeO.none _
   |refine LeO.ite ?_ ?_
   |refine LeO.bind ?_ (fun _=>?_)
set_option maxHeartbeats 8000000 in
set_option maxRecDepth 100000 in
theorem spec_l01Phi.calls (k:Nat) (a0:Int) (r:Int) (w:World) (h:spec_l01Phi.f k a0=some r):
  Calls Try.prog 71 #[.int .i64 a0] w fun e w'=>e=.returned (.int .i64 r)∧Below w.heap.size w w':=by
 have HB:=qAm (Below.refl w.heap.size w);have H:(spec_l01Phi.l0 k a0 0 1)=some r:=h;clear h;have H':=qAm H;clear H;go_enter Try.func71,Try.ntmps71;go_wp2;try simp only [Act.put,qSa,qSc,qSb]
 go_loopg [3,4] k (fun kq v3 v4 w'=>∃(x3_1:Int) (x4_1:Int),v3=.int .i64 x3_1∧v4=.int .i64 x4_1∧Aside0 (spec_l01Phi.l0 kq a0 x3_1 x4_1=some r)∧Aside0 (kq≤k)∧Aside0 (Below w.heap.size w w'))
 case atStart=>exact⟨(0),(1),qB216,qB216,H',⟨Nat.le_refl _⟩,⟨by repeat(first|(with_reducible first|exact HB.1|apply below_alloc|apply pw_below_drewN|apply below_drew1)|exact HB.1)⟩⟩
 case round=>
  clear H';obtain⟨x3_1,x4_1,rfl,rfl,HA,HK1,HB⟩:=hrel;cases gk with
  |zero=>exact absurd HA.1 (by simp [spec_l01Phi.l0])
  |succ k1=>
   have H:=HA.1;clear HA;simp only [spec_l01Phi.l0] at H
   by_cases c2:x4_1≤a0
   ·rw [if_pos c2] at H;have c2b0:decide (x4_1≤a0)=true:=decide_eq_true c2;clear c2;replace H:=qOb H;obtain⟨t124,A30,H⟩:=H;replace H:(if t124=1 then (spec_l01Phi.l0 k1 a0 (wrap64 (x3_1+1)) (wrap64 (x4_1+1))) else (spec_l01Phi.l0 k1 a0 x3_1 (wrap64 (x4_1+1))))=some r:=H;have A3:=qAm A30;clear A30
    by_cases c4:t124=1
    ·rw [if_pos c4] at H;have c4b0:(t124==1)=true:=beq_iff_eq.mpr c4;have c4b1:(t124 !=1)=false:=bne_eq_false_iff_eq.mpr c4;clear c4;have H':=qAm H;clear H;go_wp2_with (first|((with_reducible refine gate_callee (f:=79) rfl ?_);refine goesL_ (some 12) rfl rfl Try.func79 (by kernel_rfl) rfl #[.int .i64 x4_1,.int .i64 a0] rfl qB108 ?_;(with_reducible refine(spec_l01Gcd.calls k1 x4_1 a0 t124 _ A3.1).mono ?_);rintro e w5 ⟨rfl,hb⟩;refine⟨_,rfl,?_⟩;have n0_:=qAm (below_step qB111 hb);clear HB;have HB:=n0_;clear n0_;(try clear hb);(try clear hb2);(try clear hk);(try clear hi)))
     (first|go_roundg k1|((try simp only [add_plain] at *);go_roundg k1))
     case measure=>have:=HK1.1;omega
     case rel=>exact⟨(wrap64 (x3_1+1)),(wrap64 (x4_1+1)),qB216,qB216,H',⟨by have:=HK1.1;omega⟩,⟨by repeat(first|(with_reducible first|exact HB.1|apply below_alloc|apply pw_below_drewN|apply below_drew1)|exact HB.1)⟩⟩
    ·rw [if_neg c4] at H;have c4b0:(t124==1)=false:=beq_eq_false_iff_ne.mpr c4;have c4b1:(t124 !=1)=true:=bne_iff_ne.mpr c4;have H':=qAm H;clear H;go_wp2_with (first|((with_reducible refine gate_callee (f:=79) rfl ?_);refine goesL_ (some 12) rfl rfl Try.func79 (by kernel_rfl) rfl #[.int .i64 x4_1,.int .i64 a0] rfl qB108 ?_;(with_reducible refine(spec_l01Gcd.calls k1 x4_1 a0 t124 _ A3.1).mono ?_);rintro e w6 ⟨rfl,hb⟩;refine⟨_,rfl,?_⟩;have n0_:=qAm (below_step qB111 hb);clear HB;have HB:=n0_;clear n0_;(try clear hb);(try clear hb2);(try clear hk);(try clear hi)))
     (first|go_roundg k1|((try simp only [add_plain] at *);go_roundg k1))
     case measure=>have:=HK1.1;omega
     case rel=>exact⟨(x3_1),(wrap64 (x4_1+1)),qB216,qB216,H',⟨by have:=HK1.1;omega⟩,⟨by repeat(first|(with_reducible first|exact HB.1|apply below_alloc|apply pw_below_drewN|apply below_drew1)|exact HB.1)⟩⟩
   ·rw [if_neg c2] at H;have c2b0:decide (x4_1≤a0)=false:=decide_eq_false c2;clear c2;obtain rfl:=Option.some.inj H;go_wp2;go_ret;exact⟨by first|rfl|(simp [errW_none,errW_some] <;> rfl)|(simp [*,errW_none,errW_some] <;> rfl),by repeat(first|(with_reducible first|exact HB.1|apply below_alloc|apply pw_below_drewN|apply below_drew1)|exact HB.1)⟩

/-! ### spec_l01Fits: function 72 -/
def spec_l01Fits.l0:Nat→Int→Int→List Int→Option (Bool)
 |0,_,_,_=>none
 |k+1,x3,x126000,x126001=>if x3<(x126001.length:Int) then (if 0≤x3 then ((spec_l01In.f (rd x126001 x3) (-1000000000) 1000000000).bind fun t127=>(if t127=true then (spec_l01Fits.l0 k (wrap64 (x3+1)) x126000 x126001) else (some false))) else (none)) else (some true)
def spec_l01Fits.f (k:Nat) (a0_0:Int) (l0_1:List Int):Option (Bool):=spec_l01Fits.l0 k 0 a0_0 l0_1
theorem spec_l01Fits.mono_l:∀k,(∀y0 y1 y2,LeO (spec_l01Fits.l0 k y0 y1 y2) (spec_l01Fits.l0 (k+1) y0 y1 y2))
 |0=>fun _ _ _ r h=>by simp [spec_l01Fits.l0] at h
 |k+1=>by
  have ih0:=spec_l01Fits.mono_l k
  ·intro y0 y1 y2;unfold spec_l01Fits.l0;repeat' first
   |(with_reducible exact ih0 _ _ _)
   |(with_reducible exact LeO.refl _)
   |(with_reducible exact LeO.none _)
   |(with_reducible refine LeO.ite ?_ ?_)
   |(with_reducible refine LeO.bind ?_ (fun _=>?_))
   |exact ih0 _ _ _
   |exact LeO.none _
   |refine LeO.ite ?_ ?_
   |refine LeO.bind ?_ (fun _=>?_)
theorem spec_l01Fits.mono:∀a0 a1 k,LeO (spec_l01Fits.f k a0 a1) (spec_l01Fits.f (k+1) a0 a1):=by
 intro a0 a1 k;have ih0:=spec_l01Fits.mono_l k;unfold spec_l01Fits.f;repeat' first
   |(with_reducible exact ih0 _ _ _)
   |(with_reducible exact LeO.refl _)
   |(with_reducible exact LeO.none _)
   |(with_reducible refine LeO.ite ?_ ?_)
   |(with_reducible refine LeO.bind ?_ (fun _=>?_))
   |exact ih0 _ _ _
   |exact LeO.none _
   |refine LeO.ite ?_ ?_
   |refine LeO.bind ?_ (fun _=>?_)
set_option maxHeartbeats 8000000 in
set_option maxRecDepth 100000 in
theorem spec_l01Fits.calls (k:Nat) (a0_0:Int) (A0_1:Option Addr) (c0_1:Nat) (l0_1:List Int) (r:Bool) (w:World) (hr0_1:Kd.C (Kd.int .i64) w A0_1 l0_1.length l0_1) (hc0_1:l0_1.length≤c0_1) (h:spec_l01Fits.f k a0_0 l0_1=some r):
  Calls Try.prog 72 #[.agg #[.int .i64 a0_0,.slice A0_1 l0_1.length c0_1]] w fun e w'=>e=.returned (.bool r)∧Below w.heap.size w w':=by
 have hu26:=Try.underlying26;have HR0_1:=qAm hr0_1;have HC0_1:=qAm hc0_1;clear hr0_1 hc0_1;have HB:=qAm (Below.refl w.heap.size w);have H:(spec_l01Fits.l0 k 0 a0_0 l0_1)=some r:=h;clear h;have H':=qAm H;clear H;go_enter Try.func72,Try.ntmps72;go_wp2_with (first|((with_reducible refine gate_dst (N:=1) rfl ?_);refine box_event qL (N:=1) qL (cs:=#[.int .i64 a0_0,.slice A0_1 l0_1.length c0_1]) (t:=26) qR ?_;intro gb125 hg w2 hbox hb;have n0_:=qAm (below_step qB111 hb);have n1_:=qAm (hbox);have n2_:=qAm ((by rw [hg];exact(below_size qB111):w.heap.size≤gb125));have n3_:=qAm ((by rw [hg];exact(below_size qB111):w.heap.size≤gb125));clear HB;have HB:=n0_;have BK125:=n1_;have GW125:=n2_;have GE125:=n3_;clear n0_ n1_ n2_ n3_;clear hb hbox hg));try simp only [Act.put,qSa,qSc,qSb]
 go_loopg [3] k (fun kq v3 w'=>∃(x3_1:Int),v3=.int .i64 x3_1∧Aside0 (spec_l01Fits.l0 kq x3_1 a0_0 l0_1=some r)∧Aside0 (kq≤k)∧Aside0 (w'.heap[gb125]? =some (.cells #[.int .i64 a0_0,(.slice A0_1 l0_1.length c0_1)] 26 (0,0)))∧Aside0 (Below w.heap.size w w'))
 case atStart=>exact⟨(0),qB216,H',⟨Nat.le_refl _⟩,⟨by (with_reducible repeat(first|refine blk_drewN ?_ _|refine blk_drew ?_|refine blk_alloc ?_ _));exact BK125.1⟩,⟨by repeat(first|(with_reducible first|exact HB.1|apply below_alloc|apply pw_below_drewN|apply below_drew1|refine below_set ?_ GE125.1)|exact HB.1)⟩⟩
 case round=>
  clear H';try clear p2
  obtain⟨x3_1,rfl,HA,HK1,BK125,HB⟩:=hrel;cases gk with
  |zero=>exact absurd HA.1 (by simp [spec_l01Fits.l0])
  |succ k1=>
   have H:=HA.1;clear HA;simp only [spec_l01Fits.l0] at H
   by_cases c3:x3_1<(l0_1.length:Int)
   ·rw [if_pos c3] at H;have c3b0:decide (x3_1<(l0_1.length:Int))=true:=decide_eq_true c3;clear c3
    by_cases c4:0≤x3_1
    ·rw [if_pos c4] at H;have c4b0:decide (0≤x3_1)=true:=decide_eq_true c4;clear c4;replace H:=qOb H;obtain⟨t127,A50,H⟩:=H;replace H:(if t127=true then (spec_l01Fits.l0 k1 (wrap64 (x3_1+1)) a0_0 l0_1) else (some false))=some r:=H;have A5:=qAm A50;clear A50
     by_cases c6:t127=true
     ·subst c6;have H1:(spec_l01Fits.l0 k1 (wrap64 (x3_1+1)) a0_0 l0_1)=some r:=by rw [if_pos rfl] at H;exact H
      clear H;have H:=H1;clear H1;have H':=qAm H;clear H;have hcz7_0:wr.cell? ⟨gb125,0,none⟩=some (.int .i64 a0_0):=(blk_cell BK125.1 0).trans rfl;have hcz7_1:wr.cell? ⟨gb125,1,none⟩=some (.slice A0_1 l0_1.length c0_1):=(blk_cell BK125.1 1).trans rfl;have hfz7_0:=blk_frozen BK125.1 0;have hfz7_1:=blk_frozen BK125.1 1;have p126:0≤(x3_1:Int):=of_decide_eq_true qB215;have q126:x3_1<(l0_1.length:Int):=of_decide_eq_true qB215;obtain⟨ad126,e126,hx126_0⟩:=Kd.at_int HR0_1.1 x3_1 p126 q126;cases e126
      replace hx126_0:=(HB.1.cell (World.block_lt_of_cell? w _ hx126_0)).trans hx126_0;replace p126:=eq_true p126;replace q126:=eq_true q126;go_wp2_with (first|((with_reducible refine gate_callee (f:=46) rfl ?_);refine goesL_ (some 16) rfl rfl Try.func46 (by kernel_rfl) rfl #[.int .i64 (rd l0_1 x3_1),.int .i64 (-1000000000),.int .i64 1000000000] rfl qB108 ?_;(with_reducible refine(spec_l01In.calls (rd l0_1 x3_1) (-1000000000) 1000000000 true _ A5.1).mono ?_);rintro e w' ⟨rfl,⟨nd,rfl⟩⟩;refine⟨_,rfl,?_⟩))
      (first|go_roundg k1|((try simp only [add_plain] at *);go_roundg k1))
      case measure=>have:=HK1.1;omega
      case rel=>exact⟨(wrap64 (x3_1+1)),qB216,H',⟨by have:=HK1.1;omega⟩,⟨by (with_reducible repeat(first|refine blk_drewN ?_ _|refine blk_drew ?_|refine blk_alloc ?_ _));exact BK125.1⟩,⟨by repeat(first|(with_reducible first|exact HB.1|apply below_alloc|apply pw_below_drewN|apply below_drew1|refine below_set ?_ GE125.1)|exact HB.1)⟩⟩
     ·replace c6:=Bool.eq_false_iff.mpr c6;subst c6;have H1:(some false)=some r:=by rw [if_neg (show ¬(false=true) by decide)] at H;exact H
      clear H;have H:=H1;clear H1;obtain rfl:=Option.some.inj H;have hcz8_0:wr.cell? ⟨gb125,0,none⟩=some (.int .i64 a0_0):=(blk_cell BK125.1 0).trans rfl;have hcz8_1:wr.cell? ⟨gb125,1,none⟩=some (.slice A0_1 l0_1.length c0_1):=(blk_cell BK125.1 1).trans rfl;have hfz8_0:=blk_frozen BK125.1 0;have hfz8_1:=blk_frozen BK125.1 1;have p126:0≤(x3_1:Int):=of_decide_eq_true qB215;have q126:x3_1<(l0_1.length:Int):=of_decide_eq_true qB215;obtain⟨ad126,e126,hx126_0⟩:=Kd.at_int HR0_1.1 x3_1 p126 q126;cases e126
      replace hx126_0:=(HB.1.cell (World.block_lt_of_cell? w _ hx126_0)).trans hx126_0;replace p126:=eq_true p126;replace q126:=eq_true q126;go_wp2_with (first|((with_reducible refine gate_callee (f:=46) rfl ?_);refine goesL_ (some 16) rfl rfl Try.func46 (by kernel_rfl) rfl #[.int .i64 (rd l0_1 x3_1),.int .i64 (-1000000000),.int .i64 1000000000] rfl qB108 ?_;(with_reducible refine(spec_l01In.calls (rd l0_1 x3_1) (-1000000000) 1000000000 false _ A5.1).mono ?_);rintro e w' ⟨rfl,⟨nd,rfl⟩⟩;refine⟨_,rfl,?_⟩));go_ret;exact⟨by first|rfl|(simp [errW_none,errW_some] <;> rfl)|(simp [*,errW_none,errW_some] <;> rfl),by repeat(first|(with_reducible first|exact HB.1|apply below_alloc|apply pw_below_drewN|apply below_drew1|refine below_set ?_ GE125.1)|exact HB.1)⟩
    ·rw [if_neg c4] at H;exact absurd H (by simp)
   ·rw [if_neg c3] at H;have c3b0:decide (x3_1<(l0_1.length:Int))=false:=decide_eq_false c3;clear c3;obtain rfl:=Option.some.inj H;have hcz9_0:wr.cell? ⟨gb125,0,none⟩=some (.int .i64 a0_0):=(blk_cell BK125.1 0).trans rfl;have hcz9_1:wr.cell? ⟨gb125,1,none⟩=some (.slice A0_1 l0_1.length c0_1):=(blk_cell BK125.1 1).trans rfl;have hfz9_0:=blk_frozen BK125.1 0;have hfz9_1:=blk_frozen BK125.1 1;go_wp2;go_ret;exact⟨by first|rfl|(simp [errW_none,errW_some] <;> rfl)|(simp [*,errW_none,errW_some] <;> rfl),by repeat(first|(with_reducible first|exact HB.1|apply below_alloc|apply pw_below_drewN|apply below_drew1|refine below_set ?_ GE125.1)|exact HB.1)⟩

end Go.Proofs.Ytejpliodhnglbaa.PFnExactCubicSymbol
