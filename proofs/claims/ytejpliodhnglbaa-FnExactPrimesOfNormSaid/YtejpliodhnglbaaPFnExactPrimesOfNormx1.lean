/- The functions that the law reaches, as plain functions, each with the proof that the program comes to it; no condition. Written by a program of this session (wip/mp.py) over the printing of the kit; what is marked HAND is told by hand. -/
import Derived.Test.YtejpliodhnglbaaPFnExactPrimesOfNormx0
namespace Go.Proofs.Ytejpliodhnglbaa.PFnExactPrimesOfNorm
open Go.RowKit Go.Proofs.YtejpliodhnglbaaW.PrintWords Go.Proofs.YtejpliodhnglbaaW.PrintLast Go.Proofs.YtejpliodhnglbaaW.PrintMore
attribute [local go_sem] max2_int min2_int max_two min_two max_three min_three max_four min_four   -- for this text's walks alone
set_option linter.unusedVariables false
set_option linter.unusedSimpArgs false

/-! ### spec_l09Norm: function 25 -/
def spec_l09Norm.f (a0_0:Int) (l0_1:List Int):Option (Int):=if 0<(l0_1.length:Int) then (if 1<(l0_1.length:Int) then (some (wrap64 ((wrap64 ((wrap64 ((rd l0_1 0)*(rd l0_1 0))) - (wrap64 ((rd l0_1 0)*(rd l0_1 1)))))+(wrap64 ((rd l0_1 1)*(rd l0_1 1)))))) else (none)) else (none)
set_option maxHeartbeats 8000000 in
set_option maxRecDepth 100000 in
theorem spec_l09Norm.calls (a0_0:Int) (A0_1:Option Addr) (c0_1:Nat) (l0_1:List Int) (r:Int) (w:World) (hr0_1:Kd.C (Kd.int .i64) w A0_1 l0_1.length l0_1) (hc0_1:l0_1.length≤c0_1) (h:spec_l09Norm.f a0_0 l0_1=some r):
    Calls Try.prog 25 #[.agg #[.int .i64 a0_0,.slice A0_1 l0_1.length c0_1]] w fun e w'=>e=.returned (.int .i64 r)∧Below w.heap.size w w':=by
  have hu26:=Try.underlying26;have HR0_1:=qAm hr0_1;have HC0_1:=qAm hc0_1;clear hr0_1 hc0_1;have HB:=qAm (Below.refl w.heap.size w);have H:(if 0<(l0_1.length:Int) then (if 1<(l0_1.length:Int) then (some (wrap64 ((wrap64 ((wrap64 ((rd l0_1 0)*(rd l0_1 0))) - (wrap64 ((rd l0_1 0)*(rd l0_1 1)))))+(wrap64 ((rd l0_1 1)*(rd l0_1 1)))))) else (none)) else (none))=some r:=h;clear h
  by_cases c2:0<(l0_1.length:Int)
  · rw [if_pos c2] at H
    have c2b0:decide (0<(l0_1.length:Int))=true:=decide_eq_true c2;have c2b1:decide (0<l0_1.length)=true:=decide_eq_true (by omega);clear c2
    by_cases c3:1<(l0_1.length:Int)
    · rw [if_pos c3] at H
      have c3b0:decide (1<(l0_1.length:Int))=true:=decide_eq_true c3;have c3b1:decide (1<l0_1.length)=true:=decide_eq_true (by omega);clear c3;obtain rfl:=Option.some.inj H;go_enter Try.func25,Try.ntmps25;go_wp2_with (first|((with_reducible refine gate_dst (N:=1) rfl ?_);refine box_event ?hg (N:=1) ?hd (cs:=#[.int .i64 a0_0,.slice A0_1 l0_1.length c0_1]) (t:=26) ?hr ?_;(case hd=>rfl);(case hg=>rfl);(case hr=>first|(go_simp;done)|(go_simp;rfl));intro gb101 hg w4 hbox hb;have n0_:=qAm (below_step qB16 hb);have n1_:=qAm (hbox);have n2_:=qAm ((by rw [hg];exact(below_size qB16):w.heap.size≤gb101));have n3_:=qAm ((by rw [hg];exact(below_size qB16):w.heap.size≤gb101));clear HB;have HB:=n0_;have BK101:=n1_;have GW101:=n2_;have GE101:=n3_;clear n0_ n1_ n2_ n3_;clear hb hbox hg;have hcz5_0:w4.cell? ⟨gb101,0,none⟩=some (.int .i64 a0_0):=(blk_cell BK101.1 0).trans rfl;have hcz5_1:w4.cell? ⟨gb101,1,none⟩=some (.slice A0_1 l0_1.length c0_1):=(blk_cell BK101.1 1).trans rfl;have hfz5_0:=blk_frozen BK101.1 0;have hfz5_1:=blk_frozen BK101.1 1;have p102:0≤(0:Int):=(by omega);have q102:0<(l0_1.length:Int):=of_decide_eq_true qB36;obtain⟨ad102,e102,hx102_0⟩:=Kd.at_int HR0_1.1 0 p102 q102;cases e102;have qi102:(0<l0_1.length)=True:=eq_true (by omega);(try rw [show((0:Int)).toNat=0 from rfl] at hx102_0);(try rw [Addr.add_zero'] at hx102_0);replace hx102_0:=(HB.1.cell (World.block_lt_of_cell? w _ hx102_0)).trans hx102_0;replace p102:=eq_true p102;replace q102:=eq_true q102;have p103:0≤(1:Int):=(by omega);have q103:1<(l0_1.length:Int):=of_decide_eq_true qB36;obtain⟨ad103,e103,hx103_0⟩:=Kd.at_int HR0_1.1 1 p103 q103;obtain rfl:ad102=ad103:=(by injection e103);(try simp only [show(1:Int).toNat=1 from rfl,Nat.reduceMul,Nat.reduceEqDiff,Go.Addr.add,↓reduceIte] at hx103_0);have qi103:(1<l0_1.length)=True:=eq_true (by omega);(try rw [show((1:Int)).toNat=1 from rfl] at hx103_0);replace hx103_0:=(HB.1.cell (World.block_lt_of_cell? w _ hx103_0)).trans hx103_0;replace p103:=eq_true p103;replace q103:=eq_true q103));repeat(go_quiet (first|((with_reducible refine gate_dst (N:=1) rfl ?_);refine box_event ?hg (N:=1) ?hd (cs:=#[.int .i64 a0_0,.slice A0_1 l0_1.length c0_1]) (t:=26) ?hr ?_;(case hd=>rfl);(case hg=>rfl);(case hr=>first|(go_simp;done)|(go_simp;rfl));intro gb101 hg w4 hbox hb;have n0_:=qAm (below_step qB16 hb);have n1_:=qAm (hbox);have n2_:=qAm ((by rw [hg];exact(below_size qB16):w.heap.size≤gb101));have n3_:=qAm ((by rw [hg];exact(below_size qB16):w.heap.size≤gb101));clear HB;have HB:=n0_;have BK101:=n1_;have GW101:=n2_;have GE101:=n3_;clear n0_ n1_ n2_ n3_;clear hb hbox hg;have hcz5_0:w4.cell? ⟨gb101,0,none⟩=some (.int .i64 a0_0):=(blk_cell BK101.1 0).trans rfl;have hcz5_1:w4.cell? ⟨gb101,1,none⟩=some (.slice A0_1 l0_1.length c0_1):=(blk_cell BK101.1 1).trans rfl;have hfz5_0:=blk_frozen BK101.1 0;have hfz5_1:=blk_frozen BK101.1 1;have p102:0≤(0:Int):=(by omega);have q102:0<(l0_1.length:Int):=of_decide_eq_true qB36;obtain⟨ad102,e102,hx102_0⟩:=Kd.at_int HR0_1.1 0 p102 q102;cases e102;have qi102:(0<l0_1.length)=True:=eq_true (by omega);(try rw [show((0:Int)).toNat=0 from rfl] at hx102_0);(try rw [Addr.add_zero'] at hx102_0);replace hx102_0:=(HB.1.cell (World.block_lt_of_cell? w _ hx102_0)).trans hx102_0;replace p102:=eq_true p102;replace q102:=eq_true q102;have p103:0≤(1:Int):=(by omega);have q103:1<(l0_1.length:Int):=of_decide_eq_true qB36;obtain⟨ad103,e103,hx103_0⟩:=Kd.at_int HR0_1.1 1 p103 q103;obtain rfl:ad102=ad103:=(by injection e103);(try simp only [show(1:Int).toNat=1 from rfl,Nat.reduceMul,Nat.reduceEqDiff,Go.Addr.add,↓reduceIte] at hx103_0);have qi103:(1<l0_1.length)=True:=eq_true (by omega);(try rw [show((1:Int)).toNat=1 from rfl] at hx103_0);replace hx103_0:=(HB.1.cell (World.block_lt_of_cell? w _ hx103_0)).trans hx103_0;replace p103:=eq_true p103;replace q103:=eq_true q103));try go_wp2_with (first|((with_reducible refine gate_dst (N:=1) rfl ?_);refine box_event ?hg (N:=1) ?hd (cs:=#[.int .i64 a0_0,.slice A0_1 l0_1.length c0_1]) (t:=26) ?hr ?_;(case hd=>rfl);(case hg=>rfl);(case hr=>first|(go_simp;done)|(go_simp;rfl));intro gb101 hg w4 hbox hb;have n0_:=qAm (below_step qB16 hb);have n1_:=qAm (hbox);have n2_:=qAm ((by rw [hg];exact(below_size qB16):w.heap.size≤gb101));have n3_:=qAm ((by rw [hg];exact(below_size qB16):w.heap.size≤gb101));clear HB;have HB:=n0_;have BK101:=n1_;have GW101:=n2_;have GE101:=n3_;clear n0_ n1_ n2_ n3_;clear hb hbox hg;have hcz5_0:w4.cell? ⟨gb101,0,none⟩=some (.int .i64 a0_0):=(blk_cell BK101.1 0).trans rfl;have hcz5_1:w4.cell? ⟨gb101,1,none⟩=some (.slice A0_1 l0_1.length c0_1):=(blk_cell BK101.1 1).trans rfl;have hfz5_0:=blk_frozen BK101.1 0;have hfz5_1:=blk_frozen BK101.1 1;have p102:0≤(0:Int):=(by omega);have q102:0<(l0_1.length:Int):=of_decide_eq_true qB36;obtain⟨ad102,e102,hx102_0⟩:=Kd.at_int HR0_1.1 0 p102 q102;cases e102;have qi102:(0<l0_1.length)=True:=eq_true (by omega);(try rw [show((0:Int)).toNat=0 from rfl] at hx102_0);(try rw [Addr.add_zero'] at hx102_0);replace hx102_0:=(HB.1.cell (World.block_lt_of_cell? w _ hx102_0)).trans hx102_0;replace p102:=eq_true p102;replace q102:=eq_true q102;have p103:0≤(1:Int):=(by omega);have q103:1<(l0_1.length:Int):=of_decide_eq_true qB36;obtain⟨ad103,e103,hx103_0⟩:=Kd.at_int HR0_1.1 1 p103 q103;obtain rfl:ad102=ad103:=(by injection e103);(try simp only [show(1:Int).toNat=1 from rfl,Nat.reduceMul,Nat.reduceEqDiff,Go.Addr.add,↓reduceIte] at hx103_0);have qi103:(1<l0_1.length)=True:=eq_true (by omega);(try rw [show((1:Int)).toNat=1 from rfl] at hx103_0);replace hx103_0:=(HB.1.cell (World.block_lt_of_cell? w _ hx103_0)).trans hx103_0;replace p103:=eq_true p103;replace q103:=eq_true q103)))
      go_ret;exact⟨by first|rfl|(simp [errW_none,errW_some] <;> rfl)|(simp [*,errW_none,errW_some] <;> rfl),by repeat(first|(with_reducible first|exact HB.1|apply below_alloc|apply pw_below_drewN|apply below_drew1|refine below_set ?_ GE101.1)|exact HB.1)⟩
    · rw [if_neg c3] at H
      exact absurd H (by simp)
  · rw [if_neg c2] at H
    exact absurd H (by simp)

/-! ### spec_l09Least: function 61 -/
def spec_l09Least.l0:Nat→Int→Int→Option (Int)
  |0,_,_=>none
  |k+1,x0,x3=>if (wrap64 (x3*x3))≤x0 then (if x3=0 then (none) else (if (Int.tmod x0 x3)=0 then (some x3) else (spec_l09Least.l0 k x0 (wrap64 (x3+1))))) else (some x0)
def spec_l09Least.f (k:Nat) (a0:Int):Option (Int):=spec_l09Least.l0 k a0 2
theorem spec_l09Least.mono_l:∀k,(∀y0 y1,LeO (spec_l09Least.l0 k y0 y1) (spec_l09Least.l0 (k+1) y0 y1))
  |0=>fun _ _ r h=>by simp [spec_l09Least.l0] at h
  |k+1=>by
    have ih0:=spec_l09Least.mono_l k
    · intro y0 y1
      unfold spec_l09Least.l0;repeat' first
      |(with_reducible exact ih0 _ _)
      |(with_reducible exact LeO.refl _)
      |(with_reducible exact LeO.none _)
      |(with_reducible refine LeO.ite ?_ ?_)
      |(with_reducible refine LeO.bind ?_ (fun _=>?_))
      |exact ih0 _ _
      |exact LeO.none _
      |refine LeO.ite ?_ ?_
      |refine LeO.bind ?_ (fun _=>?_)
theorem spec_l09Least.mono:∀a0 k,LeO (spec_l09Least.f k a0) (spec_l09Least.f (k+1) a0):=by
  intro a0 k;have ih0:=spec_l09Least.mono_l k;unfold spec_l09Least.f;repeat' first
      |(with_reducible exact ih0 _ _)
      |(with_reducible exact LeO.refl _)
      |(with_reducible exact LeO.none _)
      |(with_reducible refine LeO.ite ?_ ?_)
      |(with_reducible refine LeO.bind ?_ (fun _=>?_))
      |exact ih0 _ _
      |exact LeO.none _
      |refine LeO.ite ?_ ?_
      |refine LeO.bind ?_ (fun _=>?_)
set_option maxHeartbeats 8000000 in
set_option maxRecDepth 100000 in
theorem spec_l09Least.calls (k:Nat) (a0:Int) (r:Int) (w:World) (h:spec_l09Least.f k a0=some r):
    Calls Try.prog 61 #[.int .i64 a0] w fun e w'=>e=.returned (.int .i64 r)∧Drawn0 w w':=by
  have H:(spec_l09Least.l0 k a0 2)=some r:=h;clear h;have H':=qAm H;clear H;go_enter Try.func61,Try.ntmps61;go_wp2;try simp only [Act.put,qSa,qSc,qSb]
  go_loopg [3] k (fun kq v3 w'=>∃(x3_1:Int),v3=.int .i64 x3_1∧Aside0 (spec_l09Least.l0 kq a0 x3_1=some r)∧Aside0 (kq≤k)∧Drawn0 w w')
  case atStart=>exact⟨(2),qB37,H',⟨Nat.le_refl _⟩,by repeat(first|exact Drawn0.refl _|apply Drawn0.step)⟩
  case round=>
    clear H';obtain⟨x3_1,rfl,HA,HK1,⟨m1,rfl⟩⟩:=hrel;cases gk with
    |zero=>exact absurd HA.1 (by simp [spec_l09Least.l0])
    |succ k1=>
      have H:=HA.1;clear HA;simp only [spec_l09Least.l0] at H
      by_cases c2:(wrap64 (x3_1*x3_1))≤a0
      · rw [if_pos c2] at H
        have c2b0:decide ((wrap64 (x3_1*x3_1))≤a0)=true:=decide_eq_true c2;clear c2
        by_cases c3:x3_1=0
        · rw [if_pos c3] at H
          exact absurd H (by simp)
        · rw [if_neg c3] at H
          have c3b0:(x3_1==0)=false:=beq_eq_false_iff_ne.mpr c3;have c3b1:(x3_1 !=0)=true:=bne_iff_ne.mpr c3
          by_cases c4:(Int.tmod a0 x3_1)=0
          · rw [if_pos c4] at H
            have c4b0:((Int.tmod a0 x3_1)==0)=true:=beq_iff_eq.mpr c4;have c4b1:((Int.tmod a0 x3_1) !=0)=false:=bne_eq_false_iff_eq.mpr c4;clear c4;obtain rfl:=Option.some.inj H;go_wp2;go_ret;exact⟨by first|rfl|(simp;done)|(simp [*];done),by repeat(first|exact Drawn0.refl _|apply Drawn0.step)⟩
          · rw [if_neg c4] at H
            have c4b0:((Int.tmod a0 x3_1)==0)=false:=beq_eq_false_iff_ne.mpr c4;have c4b1:((Int.tmod a0 x3_1) !=0)=true:=bne_iff_ne.mpr c4;have H':=qAm H;clear H;go_wp2
            (first|go_roundg k1|((try simp only [add_plain] at *);go_roundg k1))
            case measure=>have:=HK1.1;omega
            case rel=>exact⟨(wrap64 (x3_1+1)),qB37,H',⟨by have:=HK1.1;omega⟩,by repeat(first|exact Drawn0.refl _|apply Drawn0.step)⟩
      · rw [if_neg c2] at H
        have c2b0:decide ((wrap64 (x3_1*x3_1))≤a0)=false:=decide_eq_false c2;clear c2;obtain rfl:=Option.some.inj H;go_wp2;go_ret;exact⟨by first|rfl|(simp;done)|(simp [*];done),by repeat(first|exact Drawn0.refl _|apply Drawn0.step)⟩

/-! ### spec_l09Prime: function 39 -/
def spec_l09Prime.f (k:Nat) (a0_0:Int) (l0_1:List Int):Option (Bool):=(spec_l09Norm.f a0_0 l0_1).bind fun t105=>(if t105<2 then (some false) else ((spec_l09Least.f k t105).bind fun t106=>(if t106=t105 then (some true) else (if (Int.tmod t106 3)=2 then (some ((wrap64 (t106*t106))==t105)) else (some false)))))
theorem spec_l09Prime.mono:∀a0 a1 k,LeO (spec_l09Prime.f k a0 a1) (spec_l09Prime.f (k+1) a0 a1):=by
  intro a0 a1 k;unfold spec_l09Prime.f;repeat' first
      |(with_reducible exact spec_l09Least.mono _ _)
      |(with_reducible exact LeO.refl _)
      |(with_reducible exact LeO.none _)
      |(with_reducible refine LeO.ite ?_ ?_)
      |(with_reducible refine LeO.bind ?_ (fun _=>?_))
      |exact spec_l09Least.mono _ _
      |exact LeO.none _
      |refine LeO.ite ?_ ?_
      |refine LeO.bind ?_ (fun _=>?_)
set_option maxHeartbeats 8000000 in
set_option maxRecDepth 100000 in
theorem spec_l09Prime.calls (k:Nat) (a0_0:Int) (A0_1:Option Addr) (c0_1:Nat) (l0_1:List Int) (r:Bool) (w:World) (hr0_1:Kd.C (Kd.int .i64) w A0_1 l0_1.length l0_1) (hc0_1:l0_1.length≤c0_1) (h:spec_l09Prime.f k a0_0 l0_1=some r):
    Calls Try.prog 39 #[.agg #[.int .i64 a0_0,.slice A0_1 l0_1.length c0_1]] w fun e w'=>e=.returned (.bool r)∧Below w.heap.size w w':=by
  have hu26:=Try.underlying26;have HR0_1:=qAm hr0_1;have HC0_1:=qAm hc0_1;clear hr0_1 hc0_1;have HB:=qAm (Below.refl w.heap.size w);have H:((spec_l09Norm.f a0_0 l0_1).bind fun t105=>(if t105<2 then (some false) else ((spec_l09Least.f k t105).bind fun t106=>(if t106=t105 then (some true) else (if (Int.tmod t106 3)=2 then (some ((wrap64 (t106*t106))==t105)) else (some false))))))=some r:=h;clear h;replace H:=qOb H;obtain⟨t105,A20,H⟩:=H;replace H:(if t105<2 then (some false) else ((spec_l09Least.f k t105).bind fun t106=>(if t106=t105 then (some true) else (if (Int.tmod t106 3)=2 then (some ((wrap64 (t106*t106))==t105)) else (some false)))))=some r:=H;have A2:=qAm A20;clear A20
  by_cases c3:t105<2
  · rw [if_pos c3] at H
    have c3b0:decide (t105<2)=true:=decide_eq_true c3;clear c3;obtain rfl:=Option.some.inj H;go_enter Try.func39,Try.ntmps39;go_wp2_with (first|((with_reducible refine gate_dst (N:=1) rfl ?_);refine box_event ?hg (N:=1) ?hd (cs:=#[.int .i64 a0_0,.slice A0_1 l0_1.length c0_1]) (t:=26) ?hr ?_;(case hd=>rfl);(case hg=>rfl);(case hr=>first|(go_simp;done)|(go_simp;rfl));intro gb104 hg w4 hbox hb;have n0_:=qAm (below_step qB16 hb);have n1_:=qAm (hbox);have n2_:=qAm ((by rw [hg];exact(below_size qB16):w.heap.size≤gb104));have n3_:=qAm ((by rw [hg];exact(below_size qB16):w.heap.size≤gb104));clear HB;have HB:=n0_;have BK104:=n1_;have GW104:=n2_;have GE104:=n3_;clear n0_ n1_ n2_ n3_;clear hb hbox hg;have hcz5_0:w4.cell? ⟨gb104,0,none⟩=some (.int .i64 a0_0):=(blk_cell BK104.1 0).trans rfl;have hcz5_1:w4.cell? ⟨gb104,1,none⟩=some (.slice A0_1 l0_1.length c0_1):=(blk_cell BK104.1 1).trans rfl;have hfz5_0:=blk_frozen BK104.1 0;have hfz5_1:=blk_frozen BK104.1 1)|((with_reducible refine gate_callee (f:=25) rfl ?_);refine goesL_ (some 6) rfl rfl Try.func25 (by kernel_rfl) rfl #[.agg #[.int .i64 a0_0,.slice A0_1 l0_1.length c0_1]] rfl qB15 ?_;(with_reducible refine(spec_l09Norm.calls a0_0 _ _ l0_1 t105 _ ?side1 ?side2 A2.1).mono ?_);(case side1=>repeat(first|exact(Kd.C_below HR0_1.1 HB.1)|(with_reducible refine Kd.C_alloc ?_ _)|(with_reducible refine Kd.C_drewN ?_ _)|(with_reducible refine Kd.C_drew ?_)));(case side2=>exact HC0_1.1);rintro e w6 ⟨rfl,hb⟩;refine⟨_,rfl,?_⟩;have n0_:=qAm (blk_below (g:=gb104) (o:=.cells #[.int .i64 a0_0,.slice A0_1 l0_1.length c0_1] 26 (0,0)) qB17 hb);have n1_:=qAm (below_step qB8 hb);clear BK104;clear HB;have BK104:=n0_;have HB:=n1_;clear n0_ n1_;(try clear hb);(try clear hb2);(try clear hk);(try clear hi)));go_ret;exact⟨by first|rfl|(simp [errW_none,errW_some] <;> rfl)|(simp [*,errW_none,errW_some] <;> rfl),by repeat(first|(with_reducible first|exact HB.1|apply below_alloc|apply pw_below_drewN|apply below_drew1|refine below_set ?_ GE104.1)|exact HB.1)⟩
  · rw [if_neg c3] at H
    have c3b0:decide (t105<2)=false:=decide_eq_false c3;clear c3;replace H:=qOb H;obtain⟨t106,A70,H⟩:=H;replace H:(if t106=t105 then (some true) else (if (Int.tmod t106 3)=2 then (some ((wrap64 (t106*t106))==t105)) else (some false)))=some r:=H;have A7:=qAm A70;clear A70
    by_cases c8:t106=t105
    · rw [if_pos c8] at H
      have c8b0:(t106==t105)=true:=beq_iff_eq.mpr c8;have c8b1:(t106 !=t105)=false:=bne_eq_false_iff_eq.mpr c8;clear c8;obtain rfl:=Option.some.inj H;go_enter Try.func39,Try.ntmps39;go_wp2_with (first|((with_reducible refine gate_dst (N:=1) rfl ?_);refine box_event ?hg (N:=1) ?hd (cs:=#[.int .i64 a0_0,.slice A0_1 l0_1.length c0_1]) (t:=26) ?hr ?_;(case hd=>rfl);(case hg=>rfl);(case hr=>first|(go_simp;done)|(go_simp;rfl));intro gb104 hg w9 hbox hb;have n0_:=qAm (below_step qB16 hb);have n1_:=qAm (hbox);have n2_:=qAm ((by rw [hg];exact(below_size qB16):w.heap.size≤gb104));have n3_:=qAm ((by rw [hg];exact(below_size qB16):w.heap.size≤gb104));clear HB;have HB:=n0_;have BK104:=n1_;have GW104:=n2_;have GE104:=n3_;clear n0_ n1_ n2_ n3_;clear hb hbox hg;have hcz10_0:w9.cell? ⟨gb104,0,none⟩=some (.int .i64 a0_0):=(blk_cell BK104.1 0).trans rfl;have hcz10_1:w9.cell? ⟨gb104,1,none⟩=some (.slice A0_1 l0_1.length c0_1):=(blk_cell BK104.1 1).trans rfl;have hfz10_0:=blk_frozen BK104.1 0;have hfz10_1:=blk_frozen BK104.1 1)|((with_reducible refine gate_callee (f:=25) rfl ?_);refine goesL_ (some 6) rfl rfl Try.func25 (by kernel_rfl) rfl #[.agg #[.int .i64 a0_0,.slice A0_1 l0_1.length c0_1]] rfl qB15 ?_;(with_reducible refine(spec_l09Norm.calls a0_0 _ _ l0_1 t105 _ ?side1 ?side2 A2.1).mono ?_);(case side1=>repeat(first|exact(Kd.C_below HR0_1.1 HB.1)|(with_reducible refine Kd.C_alloc ?_ _)|(with_reducible refine Kd.C_drewN ?_ _)|(with_reducible refine Kd.C_drew ?_)));(case side2=>exact HC0_1.1);rintro e w11 ⟨rfl,hb⟩;refine⟨_,rfl,?_⟩;have n0_:=qAm (blk_below (g:=gb104) (o:=.cells #[.int .i64 a0_0,.slice A0_1 l0_1.length c0_1] 26 (0,0)) qB17 hb);have n1_:=qAm (below_step qB8 hb);clear BK104;clear HB;have BK104:=n0_;have HB:=n1_;clear n0_ n1_;(try clear hb);(try clear hb2);(try clear hk);(try clear hi))|((with_reducible refine gate_callee (f:=61) rfl ?_);refine goesL_ (some 10) rfl rfl Try.func61 (by kernel_rfl) rfl #[.int .i64 t105] rfl qB15 ?_;(with_reducible refine(spec_l09Least.calls k t105 t106 _ A7.1).mono ?_);rintro e w' ⟨rfl,⟨nd,rfl⟩⟩;refine⟨_,rfl,?_⟩));go_ret;exact⟨by first|rfl|(simp [errW_none,errW_some] <;> rfl)|(simp [*,errW_none,errW_some] <;> rfl),by repeat(first|(with_reducible first|exact HB.1|apply below_alloc|apply pw_below_drewN|apply below_drew1|refine below_set ?_ GE104.1)|exact HB.1)⟩
    · rw [if_neg c8] at H
      have c8b0:(t106==t105)=false:=beq_eq_false_iff_ne.mpr c8;have c8b1:(t106 !=t105)=true:=bne_iff_ne.mpr c8
      by_cases c12:(Int.tmod t106 3)=2
      · rw [if_pos c12] at H
        have c12b0:((Int.tmod t106 3)==2)=true:=beq_iff_eq.mpr c12;have c12b1:((Int.tmod t106 3) !=2)=false:=bne_eq_false_iff_eq.mpr c12;clear c12;obtain rfl:=Option.some.inj H;go_enter Try.func39,Try.ntmps39;go_wp2_with (first|((with_reducible refine gate_dst (N:=1) rfl ?_);refine box_event ?hg (N:=1) ?hd (cs:=#[.int .i64 a0_0,.slice A0_1 l0_1.length c0_1]) (t:=26) ?hr ?_;(case hd=>rfl);(case hg=>rfl);(case hr=>first|(go_simp;done)|(go_simp;rfl));intro gb104 hg w13 hbox hb;have n0_:=qAm (below_step qB16 hb);have n1_:=qAm (hbox);have n2_:=qAm ((by rw [hg];exact(below_size qB16):w.heap.size≤gb104));have n3_:=qAm ((by rw [hg];exact(below_size qB16):w.heap.size≤gb104));clear HB;have HB:=n0_;have BK104:=n1_;have GW104:=n2_;have GE104:=n3_;clear n0_ n1_ n2_ n3_;clear hb hbox hg;have hcz14_0:w13.cell? ⟨gb104,0,none⟩=some (.int .i64 a0_0):=(blk_cell BK104.1 0).trans rfl;have hcz14_1:w13.cell? ⟨gb104,1,none⟩=some (.slice A0_1 l0_1.length c0_1):=(blk_cell BK104.1 1).trans rfl;have hfz14_0:=blk_frozen BK104.1 0;have hfz14_1:=blk_frozen BK104.1 1)|((with_reducible refine gate_callee (f:=25) rfl ?_);refine goesL_ (some 6) rfl rfl Try.func25 (by kernel_rfl) rfl #[.agg #[.int .i64 a0_0,.slice A0_1 l0_1.length c0_1]] rfl qB15 ?_;(with_reducible refine(spec_l09Norm.calls a0_0 _ _ l0_1 t105 _ ?side1 ?side2 A2.1).mono ?_);(case side1=>repeat(first|exact(Kd.C_below HR0_1.1 HB.1)|(with_reducible refine Kd.C_alloc ?_ _)|(with_reducible refine Kd.C_drewN ?_ _)|(with_reducible refine Kd.C_drew ?_)));(case side2=>exact HC0_1.1);rintro e w15 ⟨rfl,hb⟩;refine⟨_,rfl,?_⟩;have n0_:=qAm (blk_below (g:=gb104) (o:=.cells #[.int .i64 a0_0,.slice A0_1 l0_1.length c0_1] 26 (0,0)) qB17 hb);have n1_:=qAm (below_step qB8 hb);clear BK104;clear HB;have BK104:=n0_;have HB:=n1_;clear n0_ n1_;(try clear hb);(try clear hb2);(try clear hk);(try clear hi))|((with_reducible refine gate_callee (f:=61) rfl ?_);refine goesL_ (some 10) rfl rfl Try.func61 (by kernel_rfl) rfl #[.int .i64 t105] rfl qB15 ?_;(with_reducible refine(spec_l09Least.calls k t105 t106 _ A7.1).mono ?_);rintro e w' ⟨rfl,⟨nd,rfl⟩⟩;refine⟨_,rfl,?_⟩));go_ret;exact⟨by first|rfl|(simp [errW_none,errW_some] <;> rfl)|(simp [*,errW_none,errW_some] <;> rfl),by repeat(first|(with_reducible first|exact HB.1|apply below_alloc|apply pw_below_drewN|apply below_drew1|refine below_set ?_ GE104.1)|exact HB.1)⟩
      · rw [if_neg c12] at H
        have c12b0:((Int.tmod t106 3)==2)=false:=beq_eq_false_iff_ne.mpr c12;have c12b1:((Int.tmod t106 3) !=2)=true:=bne_iff_ne.mpr c12;obtain rfl:=Option.some.inj H;go_enter Try.func39,Try.ntmps39;go_wp2_with (first|((with_reducible refine gate_dst (N:=1) rfl ?_);refine box_event ?hg (N:=1) ?hd (cs:=#[.int .i64 a0_0,.slice A0_1 l0_1.length c0_1]) (t:=26) ?hr ?_;(case hd=>rfl);(case hg=>rfl);(case hr=>first|(go_simp;done)|(go_simp;rfl));intro gb104 hg w16 hbox hb;have n0_:=qAm (below_step qB16 hb);have n1_:=qAm (hbox);have n2_:=qAm ((by rw [hg];exact(below_size qB16):w.heap.size≤gb104));have n3_:=qAm ((by rw [hg];exact(below_size qB16):w.heap.size≤gb104));clear HB;have HB:=n0_;have BK104:=n1_;have GW104:=n2_;have GE104:=n3_;clear n0_ n1_ n2_ n3_;clear hb hbox hg;have hcz17_0:w16.cell? ⟨gb104,0,none⟩=some (.int .i64 a0_0):=(blk_cell BK104.1 0).trans rfl;have hcz17_1:w16.cell? ⟨gb104,1,none⟩=some (.slice A0_1 l0_1.length c0_1):=(blk_cell BK104.1 1).trans rfl;have hfz17_0:=blk_frozen BK104.1 0;have hfz17_1:=blk_frozen BK104.1 1)|((with_reducible refine gate_callee (f:=25) rfl ?_);refine goesL_ (some 6) rfl rfl Try.func25 (by kernel_rfl) rfl #[.agg #[.int .i64 a0_0,.slice A0_1 l0_1.length c0_1]] rfl qB15 ?_;(with_reducible refine(spec_l09Norm.calls a0_0 _ _ l0_1 t105 _ ?side1 ?side2 A2.1).mono ?_);(case side1=>repeat(first|exact(Kd.C_below HR0_1.1 HB.1)|(with_reducible refine Kd.C_alloc ?_ _)|(with_reducible refine Kd.C_drewN ?_ _)|(with_reducible refine Kd.C_drew ?_)));(case side2=>exact HC0_1.1);rintro e w18 ⟨rfl,hb⟩;refine⟨_,rfl,?_⟩;have n0_:=qAm (blk_below (g:=gb104) (o:=.cells #[.int .i64 a0_0,.slice A0_1 l0_1.length c0_1] 26 (0,0)) qB17 hb);have n1_:=qAm (below_step qB8 hb);clear BK104;clear HB;have BK104:=n0_;have HB:=n1_;clear n0_ n1_;(try clear hb);(try clear hb2);(try clear hk);(try clear hi))|((with_reducible refine gate_callee (f:=61) rfl ?_);refine goesL_ (some 10) rfl rfl Try.func61 (by kernel_rfl) rfl #[.int .i64 t105] rfl qB15 ?_;(with_reducible refine(spec_l09Least.calls k t105 t106 _ A7.1).mono ?_);rintro e w' ⟨rfl,⟨nd,rfl⟩⟩;refine⟨_,rfl,?_⟩));go_ret;exact⟨by first|rfl|(simp [errW_none,errW_some] <;> rfl)|(simp [*,errW_none,errW_some] <;> rfl),by repeat(first|(with_reducible first|exact HB.1|apply below_alloc|apply pw_below_drewN|apply below_drew1|refine below_set ?_ GE104.1)|exact HB.1)⟩

/-! ### spec_l01In: function 46 -/
def spec_l01In.f (a0:Int) (a1:Int) (a2:Int):Option (Bool):=if a0≥a1 then (some (decide (a0≤a2))) else (some false)
set_option maxHeartbeats 8000000 in
set_option maxRecDepth 100000 in
theorem spec_l01In.calls (a0:Int) (a1:Int) (a2:Int) (r:Bool) (w:World) (h:spec_l01In.f a0 a1 a2=some r):
    Calls Try.prog 46 #[.int .i64 a0,.int .i64 a1,.int .i64 a2] w fun e w'=>e=.returned (.bool r)∧Drawn0 w w':=by
  have H:(if a0≥a1 then (some (decide (a0≤a2))) else (some false))=some r:=h;clear h
  by_cases c4:a0≥a1
  · rw [if_pos c4] at H
    have c4b0:decide (a1≤a0)=true:=decide_eq_true c4;clear c4;obtain rfl:=Option.some.inj H;go_enter Try.func46,Try.ntmps46;go_wp2;go_ret;exact⟨by first|rfl|(simp;done)|(simp [*];done),by repeat(first|exact Drawn0.refl _|apply Drawn0.step)⟩
  · rw [if_neg c4] at H
    have c4b0:decide (a1≤a0)=false:=decide_eq_false c4;clear c4;obtain rfl:=Option.some.inj H;go_enter Try.func46,Try.ntmps46;go_wp2;go_ret;exact⟨by first|rfl|(simp;done)|(simp [*];done),by repeat(first|exact Drawn0.refl _|apply Drawn0.step)⟩

/-! ### spec_l09Of: function 53 -/
def spec_l09Of.f (a0:Int) (a1:Int):Option (Int×List Int):=some (3,(([a0,a1]:List Int)))
set_option maxHeartbeats 8000000 in
set_option maxRecDepth 100000 in
theorem spec_l09Of.calls (a0:Int) (a1:Int) (r1:Int) (r2:List Int) (w:World) (h:spec_l09Of.f a0 a1=some (r1,r2)):
    Calls Try.prog 53 #[.int .i64 a0,.int .i64 a1] w fun e w'=>∃v1_:Value,e=.returned (.agg #[.int .i64 r1,v1_])∧Kd.R (Kd.int .i64) 2 w' w.heap.size (fun _=>True) v1_ r2∧Below w.heap.size w w':=by
  have hu26:=Try.underlying26;have HB:=qAm (Below.refl w.heap.size w);have H:(some (3,(([a0,a1]:List Int))))=some (r1,r2):=h;clear h;obtain⟨y108,hy108⟩:∃y_:List Int,y_=(([a0,a1]:List Int)):=⟨_,rfl⟩
  replace H:(some (3,y108))=some (r1,r2):=by first|(rw [hy108];with_reducible exact H)|(have H2_:=(Option.bind_some _ _).symm.trans H;rw [hy108];with_reducible exact H2_)|(have H2_:=(Option.bind_some _ _).symm.trans H;with_reducible exact H2_)|with_reducible exact H|(rw [hy108];exact H)|exact H
  have Ny108:=qAm hy108;clear hy108;simp only [Option.some.injEq,Prod.mk.injEq] at H;obtain⟨rfl,rfl⟩:=H;go_enter Try.func53,Try.ntmps53;go_wp2_with (first|((with_reducible refine gate_dst (N:=4) rfl ?_);refine box_event ?hg (N:=4) ?hd (cs:=#[.int .i64 0,.slice none 0 0]) (t:=26) ?hr ?_;(case hd=>rfl);(case hg=>rfl);(case hr=>first|(go_simp;done)|(go_simp;rfl));intro gb107 hg w3 hbox hb;have n0_:=qAm (below_step qB16 hb);have n1_:=qAm (hbox);have n2_:=qAm ((by rw [hg];exact(below_size qB16):w.heap.size≤gb107));have n3_:=qAm ((by rw [hg];exact(below_size qB16):w.heap.size≤gb107));clear HB;have HB:=n0_;have BK107:=n1_;have GW107:=n2_;have GE107:=n3_;clear n0_ n1_ n2_ n3_;clear hb hbox hg)|((with_reducible refine gate_dst (N:=7) rfl ?_);refine Kd.R_lit (Kd.int .i64) _ 2 ?hg (N:=7) ?hd (xs:=([a0,a1]:List Int)) (inner:=[.int .i64 a0,.int .i64 a1]) (ok:=fun _=>True) (okp:=fun _=>True) ?hr ?hp (fun _ hk=>hk) trivial (Below.refl _ _) (Nat.le_refl _) (by simp) ?_;(case hd=>rfl);(case hg=>rfl);(case hr=>first|(go_simp;done)|(go_simp;rfl));(case hp=>exact(Reps.one (show Kd.M (Kd.int .i64) _ _ _ a0 [.int .i64 a0] from rfl) (Reps.one (show Kd.M (Kd.int .i64) _ _ _ a1 [.int .i64 a1] from rfl) (Reps.none _ _))));intro v109 w4 ho5 hb hg_ hnew_;clear hg_ hnew_;(first|rw [← Ny108.1] at ho5|(simp only [Int.reduceToNat] at ho5;rw [← Ny108.1] at ho5));have n0_:=qAm (Kd.R_lower ho5 (below_size qB9));have n1_:=qAm (blk_below (g:=gb107) (o:=.cells #[.int .i64 0,.slice none 0 0] 26 (0,0)) (by (with_reducible repeat(first|refine blk_drewN ?_ _|refine blk_drew ?_|refine blk_alloc ?_ _));exact BK107.1) hb);have n2_:=qAm (below_step qB9 hb);clear BK107;clear HB;have HO110:=n0_;have BK107:=n1_;have HB:=n2_;clear n0_ n1_ n2_;clear hb ho5;obtain⟨Ao6,co6,eo6⟩:=Kd.R_slice HO110.1;subst eo6;have hcz7_0:w4.cell? ⟨gb107,0,none⟩=some (.int .i64 0):=(blk_cell BK107.1 0).trans rfl;have hcz7_1:w4.cell? ⟨gb107,1,none⟩=some (.slice none 0 0):=(blk_cell BK107.1 1).trans rfl;have hfz7_0:=blk_frozen BK107.1 0;have hfz7_1:=blk_frozen BK107.1 1));refine bodyPost_ret (results_cell_row rfl _ _ gb107 26 #[.int .i64 3,.slice Ao6 y108.length co6] (0,0) _ rfl (by (with_reducible repeat(first|refine blk_drewN ?_ _|refine blk_drew ?_|refine blk_alloc ?_ _));refine blk_put (cs:=#[.int .i64 3,.slice none 0 0]) ?_ 1 _ rfl;(with_reducible repeat(first|refine blk_drewN ?_ _|refine blk_drew ?_|refine blk_alloc ?_ _));refine blk_put (cs:=#[.int .i64 0,.slice none 0 0]) ?_ 0 _ rfl;(with_reducible repeat(first|refine blk_drewN ?_ _|refine blk_drew ?_|refine blk_alloc ?_ _));exact BK107.1) Try.underlying26 rfl (by kernel_rfl)) rfl ?_;exact⟨_,by first|rfl|(simp [errW_none,errW_some] <;> rfl)|(simp [*,errW_none,errW_some] <;> rfl),by (with_reducible repeat(first|apply Kd.R_alloc|apply Kd.R_drewN|apply Kd.R_drew));exact Kd.R_mono (Kd.R_far (p:=⟨gb107,1,none⟩) (Kd.R_far (p:=⟨gb107,0,none⟩) (Kd.R_types HO110.1 BK107.1 (by decide)) (fun _ hk=>hk.2) (.int .i64 3)) (fun _ hk=>hk.2) (.slice Ao6 y108.length co6)) (fun _ hk=>trivial),by repeat(first|(with_reducible first|exact HB.1|apply below_alloc|apply pw_below_drewN|apply below_drew1|refine below_set ?_ GE107.1)|exact HB.1)⟩

/-! ### spec_l09OfNorm: function 47 -/
mutual
def spec_l09OfNorm.l0:Nat→Int→List (S26)→Int→Option ((List (S26)))
  |0,_,_,_=>none
  |k+1,x0,x3,x4=>if (wrap64 ((wrap64 (x4+1))*(wrap64 (x4+1))))≤(wrap64 (4*x0)) then (spec_l09OfNorm.l0 k x0 x3 (wrap64 (x4+1))) else (spec_l09OfNorm.l1 k x0 x3 x4 1)
def spec_l09OfNorm.l1:Nat→Int→List (S26)→Int→Int→Option ((List (S26)))
  |0,_,_,_,_=>none
  |k+1,x0,x3,x4,x5=>if (wrap64 ((wrap64 (3*x5))*x5))≤(wrap64 (4*x0)) then (spec_l09OfNorm.l2 k x0 x3 x4 x5 (wrap64 ((wrap64 (4*x0)) - (wrap64 ((wrap64 (3*x5))*x5))))) else (some x3)
def spec_l09OfNorm.l2:Nat→Int→List (S26)→Int→Int→Int→Option ((List (S26)))
  |0,_,_,_,_,_=>none
  |k+1,x0,x3,x4,x5,x6=>if (wrap64 (x4*x4)) > x6 then (spec_l09OfNorm.l2 k x0 x3 (wrap64 (x4 - 1)) x5 x6) else (if (wrap64 (x4*x4))=x6 then (spec_l09OfNorm.j3 k x0 x3 x4 x5 ((Int.tmod (wrap64 (x5 - x4)) 2) !=0)) else (spec_l09OfNorm.j3 k x0 x3 x4 x5 true))
def spec_l09OfNorm.j3:Nat→Int→List (S26)→Int→Int→Bool→Option ((List (S26)))
  |0,_,_,_,_,_=>none
  |k+1,x0,x3,x4,x5,x54=>if x54=true then (spec_l09OfNorm.l1 k x0 x3 x4 (wrap64 (x5+1))) else (if (wrap64 (Int.tdiv (wrap64 (x5 - x4)) 2))≥0 then (spec_l09OfNorm.j4 k x0 x3 x4 x5 (wrap64 (Int.tdiv (wrap64 (x5 - x4)) 2)) (decide ((wrap64 (Int.tdiv (wrap64 (x5 - x4)) 2))<x5))) else (spec_l09OfNorm.j4 k x0 x3 x4 x5 (wrap64 (Int.tdiv (wrap64 (x5 - x4)) 2)) false))
def spec_l09OfNorm.j4:Nat→Int→List (S26)→Int→Int→Int→Bool→Option ((List (S26)))
  |0,_,_,_,_,_,_=>none
  |k+1,x0,x3,x4,x5,x7,x65=>if x65=true then ((spec_l09Of.f x5 x7).bind fun bt114=>(if x3.length<4398046511104 then ((some (x3 ++ [(⟨bt114.1,bt114.2⟩:S26)]:List (S26))).bind fun y118=>(if x4 > 0 then (if (wrap64 (Int.tdiv (wrap64 (x5+x4)) 2))<x5 then ((spec_l09Of.f x5 (wrap64 (Int.tdiv (wrap64 (x5+x4)) 2))).bind fun bt121=>(if y118.length<4398046511104 then (spec_l09OfNorm.l1 k x0 (y118 ++ [(⟨bt121.1,bt121.2⟩:S26)]) x4 (wrap64 (x5+1))) else (none))) else (spec_l09OfNorm.l1 k x0 y118 x4 (wrap64 (x5+1)))) else (spec_l09OfNorm.l1 k x0 y118 x4 (wrap64 (x5+1))))) else (none))) else (if x4 > 0 then (if (wrap64 (Int.tdiv (wrap64 (x5+x4)) 2))<x5 then ((spec_l09Of.f x5 (wrap64 (Int.tdiv (wrap64 (x5+x4)) 2))).bind fun bt128=>(if x3.length<4398046511104 then (spec_l09OfNorm.l1 k x0 (x3 ++ [(⟨bt128.1,bt128.2⟩:S26)]) x4 (wrap64 (x5+1))) else (none))) else (spec_l09OfNorm.l1 k x0 x3 x4 (wrap64 (x5+1)))) else (spec_l09OfNorm.l1 k x0 x3 x4 (wrap64 (x5+1))))
end
def spec_l09OfNorm.f (k:Nat) (a0:Int):Option ((List (S26))):=spec_l09OfNorm.l0 k a0 (([]:List (S26))) 0
theorem spec_l09OfNorm.mono_l:∀k,(∀y0 y1 y2,LeO (spec_l09OfNorm.l0 k y0 y1 y2) (spec_l09OfNorm.l0 (k+1) y0 y1 y2))∧(∀y0 y1 y2 y3,LeO (spec_l09OfNorm.l1 k y0 y1 y2 y3) (spec_l09OfNorm.l1 (k+1) y0 y1 y2 y3))∧(∀y0 y1 y2 y3 y4,LeO (spec_l09OfNorm.l2 k y0 y1 y2 y3 y4) (spec_l09OfNorm.l2 (k+1) y0 y1 y2 y3 y4))∧(∀y0 y1 y2 y3 y4,LeO (spec_l09OfNorm.j3 k y0 y1 y2 y3 y4) (spec_l09OfNorm.j3 (k+1) y0 y1 y2 y3 y4))∧(∀y0 y1 y2 y3 y4 y5,LeO (spec_l09OfNorm.j4 k y0 y1 y2 y3 y4 y5) (spec_l09OfNorm.j4 (k+1) y0 y1 y2 y3 y4 y5))
  |0=>⟨fun _ _ _ r h=>by simp [spec_l09OfNorm.l0] at h,fun _ _ _ _ r h=>by simp [spec_l09OfNorm.l1] at h,fun _ _ _ _ _ r h=>by simp [spec_l09OfNorm.l2] at h,fun _ _ _ _ _ r h=>by simp [spec_l09OfNorm.j3] at h,fun _ _ _ _ _ _ r h=>by simp [spec_l09OfNorm.j4] at h⟩
  |k+1=>by
    obtain⟨ih0,ih1,ih2,ih3,ih4⟩:=spec_l09OfNorm.mono_l k;refine⟨?_,?_,?_,?_,?_⟩
    · intro y0 y1 y2
      unfold spec_l09OfNorm.l0;repeat' first
      |(with_reducible exact ih0 _ _ _)
      |(with_reducible exact ih1 _ _ _ _)
      |(with_reducible exact ih2 _ _ _ _ _)
      |(with_reducible exact ih3 _ _ _ _ _)
      |(with_reducible exact ih4 _ _ _ _ _ _)
      |(with_reducible exact LeO.refl _)
      |(with_reducible exact LeO.none _)
      |(with_reducible refine LeO.ite ?_ ?_)
      |(with_reducible refine LeO.bind ?_ (fun _=>?_))
      |exact ih0 _ _ _
      |exact ih1 _ _ _ _
      |exact ih2 _ _ _ _ _
      |exact ih3 _ _ _ _ _
      |exact ih4 _ _ _ _ _ _
      |exact LeO.none _
      |refine LeO.ite ?_ ?_
      |refine LeO.bind ?_ (fun _=>?_)
    · intro y0 y1 y2 y3
      unfold spec_l09OfNorm.l1;repeat' first
      |(with_reducible exact ih0 _ _ _)
      |(with_reducible exact ih1 _ _ _ _)
      |(with_reducible exact ih2 _ _ _ _ _)
      |(with_reducible exact ih3 _ _ _ _ _)
      |(with_reducible exact ih4 _ _ _ _ _ _)
      |(with_reducible exact LeO.refl _)
      |(with_reducible exact LeO.none _)
      |(with_reducible refine LeO.ite ?_ ?_)
      |(with_reducible refine LeO.bind ?_ (fun _=>?_))
      |exact ih0 _ _ _
      |exact ih1 _ _ _ _
      |exact ih2 _ _ _ _ _
      |exact ih3 _ _ _ _ _
      |exact ih4 _ _ _ _ _ _
      |exact LeO.none _
      |refine LeO.ite ?_ ?_
      |refine LeO.bind ?_ (fun _=>?_)
    · intro y0 y1 y2 y3 y4
      unfold spec_l09OfNorm.l2;repeat' first
      |(with_reducible exact ih0 _ _ _)
      |(with_reducible exact ih1 _ _ _ _)
      |(with_reducible exact ih2 _ _ _ _ _)
      |(with_reducible exact ih3 _ _ _ _ _)
      |(with_reducible exact ih4 _ _ _ _ _ _)
      |(with_reducible exact LeO.refl _)
      |(with_reducible exact LeO.none _)
      |(with_reducible refine LeO.ite ?_ ?_)
      |(with_reducible refine LeO.bind ?_ (fun _=>?_))
      |exact ih0 _ _ _
      |exact ih1 _ _ _ _
      |exact ih2 _ _ _ _ _
      |exact ih3 _ _ _ _ _
      |exact ih4 _ _ _ _ _ _
      |exact LeO.none _
      |refine LeO.ite ?_ ?_
      |refine LeO.bind ?_ (fun _=>?_)
    · intro y0 y1 y2 y3 y4
      unfold spec_l09OfNorm.j3;repeat' first
      |(with_reducible exact ih0 _ _ _)
      |(with_reducible exact ih1 _ _ _ _)
      |(with_reducible exact ih2 _ _ _ _ _)
      |(with_reducible exact ih3 _ _ _ _ _)
      |(with_reducible exact ih4 _ _ _ _ _ _)
      |(with_reducible exact LeO.refl _)
      |(with_reducible exact LeO.none _)
      |(with_reducible refine LeO.ite ?_ ?_)
      |(with_reducible refine LeO.bind ?_ (fun _=>?_))
      |exact ih0 _ _ _
      |exact ih1 _ _ _ _
      |exact ih2 _ _ _ _ _
      |exact ih3 _ _ _ _ _
      |exact ih4 _ _ _ _ _ _
      |exact LeO.none _
      |refine LeO.ite ?_ ?_
      |refine LeO.bind ?_ (fun _=>?_)
    · intro y0 y1 y2 y3 y4 y5
      unfold spec_l09OfNorm.j4;repeat' first
      |(with_reducible exact ih0 _ _ _)
      |(with_reducible exact ih1 _ _ _ _)
      |(with_reducible exact ih2 _ _ _ _ _)
      |(with_reducible exact ih3 _ _ _ _ _)
      |(with_reducible exact ih4 _ _ _ _ _ _)
      |(with_reducible exact LeO.refl _)
      |(with_reducible exact LeO.none _)
      |(with_reducible refine LeO.ite ?_ ?_)
      |(with_reducible refine LeO.bind ?_ (fun _=>?_))
      |exact ih0 _ _ _
      |exact ih1 _ _ _ _
      |exact ih2 _ _ _ _ _
      |exact ih3 _ _ _ _ _
      |exact ih4 _ _ _ _ _ _
      |exact LeO.none _
      |refine LeO.ite ?_ ?_
      |refine LeO.bind ?_ (fun _=>?_)
theorem spec_l09OfNorm.mono:∀a0 k,LeO (spec_l09OfNorm.f k a0) (spec_l09OfNorm.f (k+1) a0):=by
  intro a0 k;obtain⟨ih0,ih1,ih2,ih3,ih4⟩:=spec_l09OfNorm.mono_l k;unfold spec_l09OfNorm.f;repeat' first
      |(with_reducible exact ih0 _ _ _)
      |(with_reducible exact ih1 _ _ _ _)
      |(with_reducible exact ih2 _ _ _ _ _)
      |(with_reducible exact ih3 _ _ _ _ _)
      |(with_reducible exact ih4 _ _ _ _ _ _)
      |(with_reducible exact LeO.refl _)
      |(with_reducible exact LeO.none _)
      |(with_reducible refine LeO.ite ?_ ?_)
      |(with_reducible refine LeO.bind ?_ (fun _=>?_))
      |exact ih0 _ _ _
      |exact ih1 _ _ _ _
      |exact ih2 _ _ _ _ _
      |exact ih3 _ _ _ _ _
      |exact ih4 _ _ _ _ _ _
      |exact LeO.none _
      |refine LeO.ite ?_ ?_
      |refine LeO.bind ?_ (fun _=>?_)
set_option maxHeartbeats 8000000 in
set_option maxRecDepth 100000 in
theorem spec_l09OfNorm.calls (k:Nat) (a0:Int) (r:List (S26)) (w:World) (h:spec_l09OfNorm.f k a0=some r):
    Calls Try.prog 47 #[.int .i64 a0] w fun e w'=>∃v0_:Value,e=.returned (v0_)∧Kd.S k26 26 w' w.heap.size (fun _=>True) v0_ r∧Below w.heap.size w w':=by
  have HB:=qAm (Below.refl w.heap.size w);have H:(spec_l09OfNorm.l0 k a0 (([]:List (S26))) 0)=some r:=h;clear h;obtain⟨y111,hy111⟩:∃y_:List (S26),y_=(([]:List (S26))):=⟨_,rfl⟩
  replace H:(spec_l09OfNorm.l0 k a0 y111 0)=some r:=by first|(rw [hy111];with_reducible exact H)|(have H2_:=(Option.bind_some _ _).symm.trans H;rw [hy111];with_reducible exact H2_)|(have H2_:=(Option.bind_some _ _).symm.trans H;with_reducible exact H2_)|with_reducible exact H|(rw [hy111];exact H)|exact H
  have Ny111:=qAm hy111;clear hy111;have H':=qAm H;clear H;go_enter Try.func47,Try.ntmps47;go_wp2_with (first|((with_reducible refine gate_dst (N:=9) rfl ?_);refine Kd.S_lit k26 _ 26 ?hg (N:=9) ?hd (xs:=([]:List (S26))) (inner:=[]) (ok:=fun _=>True) (okp:=fun _=>True) ?hr ?hp (fun _ hk=>hk) trivial (Below.refl _ _) (Nat.le_refl _) (by simp) ?_;(case hd=>rfl);(case hg=>rfl);(case hr=>first|(go_simp;done)|(go_simp;rfl));(case hp=>exact(Reps.none _ _));intro v112 w2 ho3 hb hg_ hnew_;clear hg_ hnew_;(first|rw [← Ny111.1] at ho3|(simp only [Int.reduceToNat] at ho3;rw [← Ny111.1] at ho3));have n0_:=qAm (Kd.S_lower ho3 (below_size qB16));have n1_:=qAm (below_step qB16 hb);clear HB;have HO113:=n0_;have HB:=n1_;clear n0_ n1_;clear hb ho3));try simp only [Act.put,qSa,qSc,qSb]
  go_loopg [4] k (fun kq v4 w'=>∃(x4_1:Int),v4=.int .i64 x4_1∧Aside0 (spec_l09OfNorm.l0 kq a0 y111 x4_1=some r)∧Aside0 (kq≤k)∧Aside0 (Kd.S k26 26 w' w.heap.size (fun _=>True) v112 y111)∧Aside0 (Below w.heap.size w w'))
  case atStart=>exact⟨(0),qB37,H',⟨Nat.le_refl _⟩,⟨by (with_reducible repeat(first|apply Kd.S_alloc|apply Kd.S_drewN|apply Kd.S_drew));exact HO113.1⟩,⟨by repeat(first|(with_reducible first|exact HB.1|apply below_alloc|apply pw_below_drewN|apply below_drew1)|exact HB.1)⟩⟩
  case round=>
    clear H';try clear p2
    obtain⟨x4_1,rfl,HA,HK1,HO_3,HB⟩:=hrel;cases gk with
    |zero=>exact absurd HA.1 (by simp [spec_l09OfNorm.l0])
    |succ k1=>
      have H:=HA.1;clear HA;simp only [spec_l09OfNorm.l0] at H
      by_cases c4:(wrap64 ((wrap64 (x4_1+1))*(wrap64 (x4_1+1))))≤(wrap64 (4*a0))
      · rw [if_pos c4] at H
        have c4b0:decide ((wrap64 ((wrap64 (x4_1+1))*(wrap64 (x4_1+1))))≤(wrap64 (4*a0)))=true:=decide_eq_true c4;clear c4;have H':=qAm H;clear H;go_wp2
        (first|go_roundg k1|((try simp only [add_plain] at *);go_roundg k1))
        case measure=>have:=HK1.1;omega
        case rel=>exact⟨(wrap64 (x4_1+1)),qB37,H',⟨by have:=HK1.1;omega⟩,⟨by (with_reducible repeat(first|apply Kd.S_alloc|apply Kd.S_drewN|apply Kd.S_drew));exact HO_3.1⟩,⟨by repeat(first|(with_reducible first|exact HB.1|apply below_alloc|apply pw_below_drewN|apply below_drew1)|exact HB.1)⟩⟩
      · rw [if_neg c4] at H
        have c4b0:decide ((wrap64 ((wrap64 (x4_1+1))*(wrap64 (x4_1+1))))≤(wrap64 (4*a0)))=false:=decide_eq_false c4;clear c4;have H':=qAm H;clear H;go_wp2;try simp only [Act.put,qSa,qSc,qSb]
        go_loopg [3,4,5] k1 (fun kq v3 v4 v5 w'=>∃(x3_2:List (S26)) (x4_2:Int) (x5_2:Int),v4=.int .i64 x4_2∧v5=.int .i64 x5_2∧Aside0 (spec_l09OfNorm.l1 kq a0 x3_2 x4_2 x5_2=some r)∧Aside0 (kq≤k1)∧Aside0 (Kd.S k26 26 w' w.heap.size (fun _=>True) v3 x3_2)∧Aside0 (Below w.heap.size w w'))
        case atStart=>exact⟨(y111),(x4_1),(1),qB37,qB37,H',⟨Nat.le_refl _⟩,⟨by (with_reducible repeat(first|apply Kd.S_alloc|apply Kd.S_drewN|apply Kd.S_drew));exact HO_3.1⟩,⟨by repeat(first|(with_reducible first|exact HB.1|apply below_alloc|apply pw_below_drewN|apply below_drew1)|exact HB.1)⟩⟩
        case round=>
          clear H';try clear p2
          try clear c4
          try clear c4b0
          try clear p2
          obtain⟨x3_2,x4_2,x5_2,rfl,rfl,HA,HK2,HO_3,HB⟩:=hrel;cases gk with
          |zero=>exact absurd HA.1 (by simp [spec_l09OfNorm.l1])
          |succ k2=>
            have H:=HA.1;clear HA;simp only [spec_l09OfNorm.l1] at H
            by_cases c5:(wrap64 ((wrap64 (3*x5_2))*x5_2))≤(wrap64 (4*a0))
            · rw [if_pos c5] at H
              have c5b0:decide ((wrap64 ((wrap64 (3*x5_2))*x5_2))≤(wrap64 (4*a0)))=true:=decide_eq_true c5;clear c5;have H':=qAm H;clear H;go_wp2;try simp only [Act.put,qSa,qSc,qSb]
              go_loopg [4] k2 (fun kq v4 w'=>∃(x4_3:Int),v4=.int .i64 x4_3∧Aside0 (spec_l09OfNorm.l2 kq a0 x3_2 x4_3 x5_2 (wrap64 ((wrap64 (4*a0)) - (wrap64 ((wrap64 (3*x5_2))*x5_2))))=some r)∧Aside0 (kq≤k2)∧Aside0 (Kd.S k26 26 w' w.heap.size (fun _=>True) u3 x3_2)∧Aside0 (Below w.heap.size w w'))
              case atStart=>exact⟨(x4_2),qB37,H',⟨Nat.le_refl _⟩,⟨by (with_reducible repeat(first|apply Kd.S_alloc|apply Kd.S_drewN|apply Kd.S_drew));exact HO_3.1⟩,⟨by repeat(first|(with_reducible first|exact HB.1|apply below_alloc|apply pw_below_drewN|apply below_drew1)|exact HB.1)⟩⟩
              case round=>
                clear H';try clear p2
                try clear c4
                try clear c4b0
                try clear c5
                try clear c5b0
                try clear p2
                obtain⟨x4_3,rfl,HA,HK3,HO_3,HB⟩:=hrel;cases gk with
                |zero=>exact absurd HA.1 (by simp [spec_l09OfNorm.l2])
                |succ k3=>
                  have H:=HA.1;clear HA;simp only [spec_l09OfNorm.l2] at H
                  by_cases c6:(wrap64 (x4_3*x4_3)) > (wrap64 ((wrap64 (4*a0)) - (wrap64 ((wrap64 (3*x5_2))*x5_2))))
                  · rw [if_pos c6] at H
                    have c6b0:decide ((wrap64 ((wrap64 (4*a0)) - (wrap64 ((wrap64 (3*x5_2))*x5_2))))<(wrap64 (x4_3*x4_3)))=true:=decide_eq_true c6;clear c6;have H':=qAm H;clear H;go_wp2
                    (first|go_roundg k3|((try simp only [add_plain] at *);go_roundg k3))
                    case measure=>have:=HK1.1;have:=HK2.1;have:=HK3.1;omega
                    case rel=>exact⟨(wrap64 (x4_3 - 1)),qB37,H',⟨by have:=HK1.1;have:=HK2.1;have:=HK3.1;omega⟩,⟨by (with_reducible repeat(first|apply Kd.S_alloc|apply Kd.S_drewN|apply Kd.S_drew));exact HO_3.1⟩,⟨by repeat(first|(with_reducible first|exact HB.1|apply below_alloc|apply pw_below_drewN|apply below_drew1)|exact HB.1)⟩⟩
                  · rw [if_neg c6] at H
                    have c6b0:decide ((wrap64 ((wrap64 (4*a0)) - (wrap64 ((wrap64 (3*x5_2))*x5_2))))<(wrap64 (x4_3*x4_3)))=false:=decide_eq_false c6;clear c6;have HC7:=qAm H;clear H;go_upto_region 10 with (fail)
                    go_cut [54] (fun v54 wc=>∃(kq:Nat) (x54_6:Bool),v54=.bool x54_6∧Aside0 (spec_l09OfNorm.j3 kq a0 x3_2 x4_3 x5_2 x54_6=some r)∧Aside0 (kq≤k3)∧Aside0 (Kd.S k26 26 wc w.heap.size (fun _=>True) u3 x3_2)∧Aside0 (Below w.heap.size w wc))
                    case first=>
                      have H:=HC7.1;clear HC7
                      by_cases c8:(wrap64 (x4_3*x4_3))=(wrap64 ((wrap64 (4*a0)) - (wrap64 ((wrap64 (3*x5_2))*x5_2))))
                      · rw [if_pos c8] at H
                        have c8b0:((wrap64 (x4_3*x4_3))==(wrap64 ((wrap64 (4*a0)) - (wrap64 ((wrap64 (3*x5_2))*x5_2)))))=true:=beq_iff_eq.mpr c8;have c8b1:((wrap64 (x4_3*x4_3)) !=(wrap64 ((wrap64 (4*a0)) - (wrap64 ((wrap64 (3*x5_2))*x5_2)))))=false:=bne_eq_false_iff_eq.mpr c8;clear c8
                        (first|rw [c8b0]|(simp only [i64_w,i32_w];rw [c8b0])|skip)
                        have H':=qAm H;clear H;go_wp2;go_meet
                        case rel=>exact⟨_,(((Int.tmod (wrap64 (x5_2 - x4_3)) 2) !=0)),qB37,H',⟨by have:=HK1.1;have:=HK2.1;have:=HK3.1;first|omega|exact Nat.le_refl _⟩,⟨by (with_reducible repeat(first|apply Kd.S_alloc|apply Kd.S_drewN|apply Kd.S_drew));exact HO_3.1⟩,⟨by repeat(first|(with_reducible first|exact HB.1|apply below_alloc|apply pw_below_drewN|apply below_drew1)|exact HB.1)⟩⟩
                      · rw [if_neg c8] at H
                        have c8b0:((wrap64 (x4_3*x4_3))==(wrap64 ((wrap64 (4*a0)) - (wrap64 ((wrap64 (3*x5_2))*x5_2)))))=false:=beq_eq_false_iff_ne.mpr c8;have c8b1:((wrap64 (x4_3*x4_3)) !=(wrap64 ((wrap64 (4*a0)) - (wrap64 ((wrap64 (3*x5_2))*x5_2)))))=true:=bne_iff_ne.mpr c8
                        (first|rw [c8b0]|(simp only [i64_w,i32_w];rw [c8b0])|skip)
                        have H':=qAm H;clear H;go_wp2;go_meet
                        case rel=>exact⟨_,(true),qB37,H',⟨by have:=HK1.1;have:=HK2.1;have:=HK3.1;first|omega|exact Nat.le_refl _⟩,⟨by (with_reducible repeat(first|apply Kd.S_alloc|apply Kd.S_drewN|apply Kd.S_drew));exact HO_3.1⟩,⟨by repeat(first|(with_reducible first|exact HB.1|apply below_alloc|apply pw_below_drewN|apply below_drew1)|exact HB.1)⟩⟩
                    case rest=>
                      clear HC7;try clear p2
                      try clear c4
                      try clear c4b0
                      try clear c5
                      try clear c5b0
                      try clear c6
                      try clear c6b0
                      try clear p6
                      try clear c8
                      try clear c8b0
                      try clear c8b1
                      try clear p2
                      obtain⟨kq,x54_6,rfl,HA,HJ6,HO_3,HB⟩:=hcut;cases kq with
                      |zero=>exact absurd HA.1 (by simp [spec_l09OfNorm.j3])
                      |succ kj6=>
                        have H:=HA.1;clear HA;simp only [spec_l09OfNorm.j3] at H
                        by_cases c9:x54_6=true
                        · subst c9
                          have H1:(spec_l09OfNorm.l1 kj6 a0 x3_2 x4_3 (wrap64 (x5_2+1)))=some r:=by rw [if_pos rfl] at H;exact H
                          clear H;have H:=H1;clear H1;have H':=qAm H;clear H;go_wp2
                          (first|go_roundg kj6|((try simp only [add_plain] at *);go_roundg kj6))
                          case measure=>have:=HK1.1;have:=HK2.1;have:=HK3.1;have:=HJ6.1;omega
                          case rel=>exact⟨(x3_2),(x4_3),(wrap64 (x5_2+1)),qB37,qB37,H',⟨by have:=HK1.1;have:=HK2.1;have:=HK3.1;have:=HJ6.1;omega⟩,⟨by (with_reducible repeat(first|apply Kd.S_alloc|apply Kd.S_drewN|apply Kd.S_drew));exact HO_3.1⟩,⟨by repeat(first|(with_reducible first|exact HB.1|apply below_alloc|apply pw_below_drewN|apply below_drew1)|exact HB.1)⟩⟩
                        · replace c9:=Bool.eq_false_iff.mpr c9
                          subst c9;have H1:(if (wrap64 (Int.tdiv (wrap64 (x5_2 - x4_3)) 2))≥0 then (spec_l09OfNorm.j4 kj6 a0 x3_2 x4_3 x5_2 (wrap64 (Int.tdiv (wrap64 (x5_2 - x4_3)) 2)) (decide ((wrap64 (Int.tdiv (wrap64 (x5_2 - x4_3)) 2))<x5_2))) else (spec_l09OfNorm.j4 kj6 a0 x3_2 x4_3 x5_2 (wrap64 (Int.tdiv (wrap64 (x5_2 - x4_3)) 2)) false))=some r:=by rw [if_neg (show ¬(false=true) by decide)] at H;exact H
                          clear H;have H:=H1;clear H1;have HC10:=qAm H;clear H;go_upto_region 12 with (fail)
                          go_cut [65] (fun v65 wc=>∃(kq:Nat) (x65_9:Bool),v65=.bool x65_9∧Aside0 (spec_l09OfNorm.j4 kq a0 x3_2 x4_3 x5_2 (wrap64 (Int.tdiv (wrap64 (x5_2 - x4_3)) 2)) x65_9=some r)∧Aside0 (kq≤kj6)∧Aside0 (Kd.S k26 26 wc w.heap.size (fun _=>True) u3 x3_2)∧Aside0 (Below w.heap.size w wc))
                          case first=>
                            have H:=HC10.1;clear HC10
                            by_cases c11:(wrap64 (Int.tdiv (wrap64 (x5_2 - x4_3)) 2))≥0
                            · rw [if_pos c11] at H
                              have c11b0:decide (0≤(wrap64 (Int.tdiv (wrap64 (x5_2 - x4_3)) 2)))=true:=decide_eq_true c11;clear c11
                              (first|rw [c11b0]|(simp only [i64_w,i32_w];rw [c11b0])|skip)
                              have H':=qAm H;clear H;go_wp2;go_meet
                              case rel=>exact⟨_,(decide ((wrap64 (Int.tdiv (wrap64 (x5_2 - x4_3)) 2))<x5_2)),qB37,H',⟨by have:=HK1.1;have:=HK2.1;have:=HK3.1;have:=HJ6.1;first|omega|exact Nat.le_refl _⟩,⟨by (with_reducible repeat(first|apply Kd.S_alloc|apply Kd.S_drewN|apply Kd.S_drew));exact HO_3.1⟩,⟨by repeat(first|(with_reducible first|exact HB.1|apply below_alloc|apply pw_below_drewN|apply below_drew1)|exact HB.1)⟩⟩
                            · rw [if_neg c11] at H
                              have c11b0:decide (0≤(wrap64 (Int.tdiv (wrap64 (x5_2 - x4_3)) 2)))=false:=decide_eq_false c11;clear c11
                              (first|rw [c11b0]|(simp only [i64_w,i32_w];rw [c11b0])|skip)
                              have H':=qAm H;clear H;go_wp2;go_meet
                              case rel=>exact⟨_,(false),qB37,H',⟨by have:=HK1.1;have:=HK2.1;have:=HK3.1;have:=HJ6.1;first|omega|exact Nat.le_refl _⟩,⟨by (with_reducible repeat(first|apply Kd.S_alloc|apply Kd.S_drewN|apply Kd.S_drew));exact HO_3.1⟩,⟨by repeat(first|(with_reducible first|exact HB.1|apply below_alloc|apply pw_below_drewN|apply below_drew1)|exact HB.1)⟩⟩
                          case rest=>
                            clear HC10;try clear c1
                            try clear p2
                            try clear c4
                            try clear c4b0
                            try clear c5
                            try clear c5b0
                            try clear c6
                            try clear c6b0
                            try clear p6
                            try clear c8
                            try clear c8b0
                            try clear c8b1
                            try clear c9
                            try clear c11
                            try clear c11b0
                            try clear p2
                            try clear p6
                            obtain⟨kq,x65_9,rfl,HA,HJ9,HO_3,HB⟩:=hcut;cases kq with
                            |zero=>exact absurd HA.1 (by simp [spec_l09OfNorm.j4])
                            |succ kj9=>
                              have H:=HA.1;clear HA;simp only [spec_l09OfNorm.j4] at H
                              by_cases c12:x65_9=true
                              · subst c12
                                have H1:((spec_l09Of.f x5_2 (wrap64 (Int.tdiv (wrap64 (x5_2 - x4_3)) 2))).bind fun bt114=>(if x3_2.length<4398046511104 then ((some (x3_2 ++ [(⟨bt114.1,bt114.2⟩:S26)]:List (S26))).bind fun y118=>(if x4_3 > 0 then (if (wrap64 (Int.tdiv (wrap64 (x5_2+x4_3)) 2))<x5_2 then ((spec_l09Of.f x5_2 (wrap64 (Int.tdiv (wrap64 (x5_2+x4_3)) 2))).bind fun bt121=>(if y118.length<4398046511104 then (spec_l09OfNorm.l1 kj9 a0 (y118 ++ [(⟨bt121.1,bt121.2⟩:S26)]) x4_3 (wrap64 (x5_2+1))) else (none))) else (spec_l09OfNorm.l1 kj9 a0 y118 x4_3 (wrap64 (x5_2+1)))) else (spec_l09OfNorm.l1 kj9 a0 y118 x4_3 (wrap64 (x5_2+1))))) else (none)))=some r:=by rw [if_pos rfl] at H;exact H
                                clear H;have H:=H1;clear H1;replace H:=qOb H;obtain⟨⟨t114,t115⟩,A130,H⟩:=H;replace H:(if x3_2.length<4398046511104 then ((some (x3_2 ++ [(⟨t114,t115⟩:S26)]:List (S26))).bind fun y118=>(if x4_3 > 0 then (if (wrap64 (Int.tdiv (wrap64 (x5_2+x4_3)) 2))<x5_2 then ((spec_l09Of.f x5_2 (wrap64 (Int.tdiv (wrap64 (x5_2+x4_3)) 2))).bind fun bt121=>(if y118.length<4398046511104 then (spec_l09OfNorm.l1 kj9 a0 (y118 ++ [(⟨bt121.1,bt121.2⟩:S26)]) x4_3 (wrap64 (x5_2+1))) else (none))) else (spec_l09OfNorm.l1 kj9 a0 y118 x4_3 (wrap64 (x5_2+1)))) else (spec_l09OfNorm.l1 kj9 a0 y118 x4_3 (wrap64 (x5_2+1))))) else (none))=some r:=H;have A13:=qAm A130;clear A130
                                by_cases c14:x3_2.length<4398046511104
                                · rw [if_pos c14] at H
                                  have LMc14:=qAm c14;clear c14;obtain⟨y118,hy118⟩:∃y_:List (S26),y_=(x3_2 ++ [(⟨t114,t115⟩:S26)]):=⟨_,rfl⟩
                                  replace H:(if x4_3 > 0 then (if (wrap64 (Int.tdiv (wrap64 (x5_2+x4_3)) 2))<x5_2 then ((spec_l09Of.f x5_2 (wrap64 (Int.tdiv (wrap64 (x5_2+x4_3)) 2))).bind fun bt121=>(if y118.length<4398046511104 then (spec_l09OfNorm.l1 kj9 a0 (y118 ++ [(⟨bt121.1,bt121.2⟩:S26)]) x4_3 (wrap64 (x5_2+1))) else (none))) else (spec_l09OfNorm.l1 kj9 a0 y118 x4_3 (wrap64 (x5_2+1)))) else (spec_l09OfNorm.l1 kj9 a0 y118 x4_3 (wrap64 (x5_2+1))))=some r:=by first|(rw [hy118];with_reducible exact H)|(have H2_:=(Option.bind_some _ _).symm.trans H;rw [hy118];with_reducible exact H2_)|(have H2_:=(Option.bind_some _ _).symm.trans H;with_reducible exact H2_)|with_reducible exact H|(rw [hy118];exact H)|exact H
                                  have Ny118:=qAm hy118;clear hy118
                                  by_cases c15:x4_3 > 0
                                  · rw [if_pos c15] at H
                                    have c15b0:decide (0<x4_3)=true:=decide_eq_true c15;clear c15
                                    by_cases c16:(wrap64 (Int.tdiv (wrap64 (x5_2+x4_3)) 2))<x5_2
                                    · rw [if_pos c16] at H
                                      have c16b0:decide ((wrap64 (Int.tdiv (wrap64 (x5_2+x4_3)) 2))<x5_2)=true:=decide_eq_true c16;clear c16;replace H:=qOb H;obtain⟨⟨t121,t122⟩,A170,H⟩:=H;replace H:(if y118.length<4398046511104 then (spec_l09OfNorm.l1 kj9 a0 (y118 ++ [(⟨t121,t122⟩:S26)]) x4_3 (wrap64 (x5_2+1))) else (none))=some r:=H;have A17:=qAm A170;clear A170
                                      by_cases c18:y118.length<4398046511104
                                      · rw [if_pos c18] at H
                                        have LMc18:=qAm c18;clear c18;obtain⟨y125,hy125⟩:∃y_:List (S26),y_=(y118 ++ [(⟨t121,t122⟩:S26)]):=⟨_,rfl⟩
                                        replace H:(spec_l09OfNorm.l1 kj9 a0 y125 x4_3 (wrap64 (x5_2+1)))=some r:=by first|(rw [hy125];with_reducible exact H)|(have H2_:=(Option.bind_some _ _).symm.trans H;rw [hy125];with_reducible exact H2_)|(have H2_:=(Option.bind_some _ _).symm.trans H;with_reducible exact H2_)|with_reducible exact H|(rw [hy125];exact H)|exact H
                                        have Ny125:=qAm hy125;clear hy125;have H':=qAm H;clear H;go_wp2_with (first|((with_reducible refine gate_callee (f:=53) rfl ?_);refine goesL_ (some 69) rfl rfl Try.func53 (by kernel_rfl) rfl #[.int .i64 x5_2,.int .i64 (wrap64 (Int.tdiv (wrap64 (x5_2 - x4_3)) 2))] rfl qB15 ?_;(with_reducible refine(spec_l09Of.calls x5_2 (wrap64 (Int.tdiv (wrap64 (x5_2 - x4_3)) 2)) t114 t115 _ A13.1).mono ?_);rintro e w19 ⟨v116,rfl,ho0,hb⟩;refine⟨_,rfl,?_⟩;have n0_:=qAm (Kd.S_elder' qB30 (Kd.R_base ho0) hb);have n1_:=qAm (Kd.R_lower ho0 (below_size qB16));have n2_:=qAm (below_step qB16 hb);clear HO_3;clear HB;have HO_3:=n0_;have HO117:=n1_;have HB:=n2_;clear n0_ n1_ n2_;(try clear hb);(try clear hb2);(try clear hk);(try clear hi);(try clear ho0);obtain⟨Ao21,co21,eo21⟩:=Kd.R_slice HO117.1;subst eo21)|((with_reducible refine gate_builtin (b:=.append) (xs:=#[.tmp 66,.tmp 70]) rfl ?_);at_builtin;refine Kd.S_append k26 (w0:=w) w.heap.size rfl (.tmp 66) (.tmp 70) 37 26 (.agg #[(.int .i64 0),(.slice none 0 0)]) 32 rfl Try.underlying37 info26 rfl (by decide) (by omega) u3 x3_2 (⟨t114,t115⟩:S26) [.int .i64 t114,.slice Ao21 t115.length co21] (fun _=>True) (fun k_=>some k_=(.slice Ao21 t115.length co21:Value).ownBlock) rfl rfl ?aP (fun k_ hk_=>((Kd.R_mono (ok':=fun k_=>((fun _=>True)) k_∧some k_≠(u3:Value).ownBlock) (Kd.R_apart' (HO117.1) (Kd.S_typed HO_3.1) (by decide)) (fun k_ hk=>⟨trivial,hk.2⟩))).1 k_ hk_.symm) ?aF ?aO ?aB ?aS ?aL ?_;(case aP=>exact k26_mkM _ _ _ (⟨t114,t115⟩:S26) (Kd.R_mono (Kd.R_tight rfl (Kd.R_mono (ok':=fun k_=>((fun _=>True)) k_∧some k_≠(u3:Value).ownBlock) (Kd.R_apart' (HO117.1) (Kd.S_typed HO_3.1) (by decide)) (fun k_ hk=>⟨trivial,hk.2⟩))) (fun _ h_=>h_)));(case aB=>exact qB16);(case aF=>exact(fun _ _=>trivial));(case aO=>exact qB13);(case aS=>exact(below_size qB16));(case aL=>have:=LMc14.1;omega);intro v119 w20 ho hb hg hat;rw [← Ny118.1] at ho;have n0_:=qAm (hb);have n1_:=qAm (ho);clear HB;clear HO_3;clear HO117;have HB:=n0_;have HO120:=n1_;clear n0_ n1_;clear ho hb hg hat)|((with_reducible refine gate_callee (f:=53) rfl ?_);refine goesL_ (some 86) rfl rfl Try.func53 (by kernel_rfl) rfl #[.int .i64 x5_2,.int .i64 (wrap64 (Int.tdiv (wrap64 (x5_2+x4_3)) 2))] rfl qB15 ?_;(with_reducible refine(spec_l09Of.calls x5_2 (wrap64 (Int.tdiv (wrap64 (x5_2+x4_3)) 2)) t121 t122 _ A17.1).mono ?_);rintro e w22 ⟨v123,rfl,ho0,hb⟩;refine⟨_,rfl,?_⟩;have n0_:=qAm (Kd.S_elder' (by (with_reducible repeat(first|apply Kd.S_alloc|apply Kd.S_drewN|apply Kd.S_drew));exact HO120.1) (Kd.R_base ho0) hb);have n1_:=qAm (Kd.R_lower ho0 (below_size qB16));have n2_:=qAm (below_step qB16 hb);clear HO120;clear HB;have HO120:=n0_;have HO124:=n1_;have HB:=n2_;clear n0_ n1_ n2_;(try clear hb);(try clear hb2);(try clear hk);(try clear hi);(try clear ho0);obtain⟨Ao24,co24,eo24⟩:=Kd.R_slice HO124.1;subst eo24)|((with_reducible refine gate_builtin (b:=.append) (xs:=#[.tmp 83,.tmp 87]) rfl ?_);at_builtin;refine Kd.S_append k26 (w0:=w) w.heap.size rfl (.tmp 83) (.tmp 87) 37 26 (.agg #[(.int .i64 0),(.slice none 0 0)]) 32 rfl Try.underlying37 info26 rfl (by decide) (by omega) v119 y118 (⟨t121,t122⟩:S26) [.int .i64 t121,.slice Ao24 t122.length co24] (fun _=>True) (fun k_=>some k_=(.slice Ao24 t122.length co24:Value).ownBlock) rfl rfl ?aP (fun k_ hk_=>((Kd.R_mono (ok':=fun k_=>((fun _=>True)) k_∧some k_≠(v119:Value).ownBlock) (Kd.R_apart' (HO124.1) (Kd.S_typed HO120.1) (by decide)) (fun k_ hk=>⟨trivial,hk.2⟩))).1 k_ hk_.symm) ?aF ?aO ?aB ?aS ?aL ?_;(case aP=>exact k26_mkM _ _ _ (⟨t121,t122⟩:S26) (Kd.R_mono (Kd.R_tight rfl (Kd.R_mono (ok':=fun k_=>((fun _=>True)) k_∧some k_≠(v119:Value).ownBlock) (Kd.R_apart' (HO124.1) (Kd.S_typed HO120.1) (by decide)) (fun k_ hk=>⟨trivial,hk.2⟩))) (fun _ h_=>h_)));(case aB=>exact qB16);(case aF=>exact(fun _ _=>trivial));(case aO=>exact(by (with_reducible repeat(first|apply Kd.S_alloc|apply Kd.S_drewN|apply Kd.S_drew));exact Kd.S_mono HO120.1 (fun k_ hk=>⟨trivial,fun e_=>hk.2 e_⟩)));(case aS=>exact(below_size qB16));(case aL=>have:=LMc18.1;omega);intro v126 w23 ho hb hg hat;rw [← Ny125.1] at ho;have n0_:=qAm (hb);have n1_:=qAm (ho);clear HB;clear HO120;clear HO124;have HB:=n0_;have HO127:=n1_;clear n0_ n1_;clear ho hb hg hat))
                                        (first|go_roundg kj9|((try simp only [add_plain] at *);go_roundg kj9))
                                        case measure=>have:=HK1.1;have:=HK2.1;have:=HK3.1;have:=HJ6.1;have:=HJ9.1;omega
                                        case rel=>exact⟨(y125),(x4_3),(wrap64 (x5_2+1)),qB37,qB37,H',⟨by have:=HK1.1;have:=HK2.1;have:=HK3.1;have:=HJ6.1;have:=HJ9.1;omega⟩,⟨by (with_reducible repeat(first|apply Kd.S_alloc|apply Kd.S_drewN|apply Kd.S_drew));exact HO127.1⟩,⟨by repeat(first|(with_reducible first|exact HB.1|apply below_alloc|apply pw_below_drewN|apply below_drew1)|exact HB.1)⟩⟩
                                      · rw [if_neg c18] at H
                                        exact absurd H (by simp)
                                    · rw [if_neg c16] at H
                                      have c16b0:decide ((wrap64 (Int.tdiv (wrap64 (x5_2+x4_3)) 2))<x5_2)=false:=decide_eq_false c16;clear c16;have H':=qAm H;clear H;go_wp2_with (first|((with_reducible refine gate_callee (f:=53) rfl ?_);refine goesL_ (some 69) rfl rfl Try.func53 (by kernel_rfl) rfl #[.int .i64 x5_2,.int .i64 (wrap64 (Int.tdiv (wrap64 (x5_2 - x4_3)) 2))] rfl qB15 ?_;(with_reducible refine(spec_l09Of.calls x5_2 (wrap64 (Int.tdiv (wrap64 (x5_2 - x4_3)) 2)) t114 t115 _ A13.1).mono ?_);rintro e w25 ⟨v116,rfl,ho0,hb⟩;refine⟨_,rfl,?_⟩;have n0_:=qAm (Kd.S_elder' qB30 (Kd.R_base ho0) hb);have n1_:=qAm (Kd.R_lower ho0 (below_size qB16));have n2_:=qAm (below_step qB16 hb);clear HO_3;clear HB;have HO_3:=n0_;have HO117:=n1_;have HB:=n2_;clear n0_ n1_ n2_;(try clear hb);(try clear hb2);(try clear hk);(try clear hi);(try clear ho0);obtain⟨Ao27,co27,eo27⟩:=Kd.R_slice HO117.1;subst eo27)|((with_reducible refine gate_builtin (b:=.append) (xs:=#[.tmp 66,.tmp 70]) rfl ?_);at_builtin;refine Kd.S_append k26 (w0:=w) w.heap.size rfl (.tmp 66) (.tmp 70) 37 26 (.agg #[(.int .i64 0),(.slice none 0 0)]) 32 rfl Try.underlying37 info26 rfl (by decide) (by omega) u3 x3_2 (⟨t114,t115⟩:S26) [.int .i64 t114,.slice Ao27 t115.length co27] (fun _=>True) (fun k_=>some k_=(.slice Ao27 t115.length co27:Value).ownBlock) rfl rfl ?aP (fun k_ hk_=>((Kd.R_mono (ok':=fun k_=>((fun _=>True)) k_∧some k_≠(u3:Value).ownBlock) (Kd.R_apart' (HO117.1) (Kd.S_typed HO_3.1) (by decide)) (fun k_ hk=>⟨trivial,hk.2⟩))).1 k_ hk_.symm) ?aF ?aO ?aB ?aS ?aL ?_;(case aP=>exact k26_mkM _ _ _ (⟨t114,t115⟩:S26) (Kd.R_mono (Kd.R_tight rfl (Kd.R_mono (ok':=fun k_=>((fun _=>True)) k_∧some k_≠(u3:Value).ownBlock) (Kd.R_apart' (HO117.1) (Kd.S_typed HO_3.1) (by decide)) (fun k_ hk=>⟨trivial,hk.2⟩))) (fun _ h_=>h_)));(case aB=>exact qB16);(case aF=>exact(fun _ _=>trivial));(case aO=>exact qB13);(case aS=>exact(below_size qB16));(case aL=>have:=LMc14.1;omega);intro v119 w26 ho hb hg hat;rw [← Ny118.1] at ho;have n0_:=qAm (hb);have n1_:=qAm (ho);clear HB;clear HO_3;clear HO117;have HB:=n0_;have HO120:=n1_;clear n0_ n1_;clear ho hb hg hat))
                                      (first|go_roundg kj9|((try simp only [add_plain] at *);go_roundg kj9))
                                      case measure=>have:=HK1.1;have:=HK2.1;have:=HK3.1;have:=HJ6.1;have:=HJ9.1;omega
                                      case rel=>exact⟨(y118),(x4_3),(wrap64 (x5_2+1)),qB37,qB37,H',⟨by have:=HK1.1;have:=HK2.1;have:=HK3.1;have:=HJ6.1;have:=HJ9.1;omega⟩,⟨by (with_reducible repeat(first|apply Kd.S_alloc|apply Kd.S_drewN|apply Kd.S_drew));exact HO120.1⟩,⟨by repeat(first|(with_reducible first|exact HB.1|apply below_alloc|apply pw_below_drewN|apply below_drew1)|exact HB.1)⟩⟩
                                  · rw [if_neg c15] at H
                                    have c15b0:decide (0<x4_3)=false:=decide_eq_false c15;clear c15;have H':=qAm H;clear H;go_wp2_with (first|((with_reducible refine gate_callee (f:=53) rfl ?_);refine goesL_ (some 69) rfl rfl Try.func53 (by kernel_rfl) rfl #[.int .i64 x5_2,.int .i64 (wrap64 (Int.tdiv (wrap64 (x5_2 - x4_3)) 2))] rfl qB15 ?_;(with_reducible refine(spec_l09Of.calls x5_2 (wrap64 (Int.tdiv (wrap64 (x5_2 - x4_3)) 2)) t114 t115 _ A13.1).mono ?_);rintro e w28 ⟨v116,rfl,ho0,hb⟩;refine⟨_,rfl,?_⟩;have n0_:=qAm (Kd.S_elder' qB30 (Kd.R_base ho0) hb);have n1_:=qAm (Kd.R_lower ho0 (below_size qB16));have n2_:=qAm (below_step qB16 hb);clear HO_3;clear HB;have HO_3:=n0_;have HO117:=n1_;have HB:=n2_;clear n0_ n1_ n2_;(try clear hb);(try clear hb2);(try clear hk);(try clear hi);(try clear ho0);obtain⟨Ao30,co30,eo30⟩:=Kd.R_slice HO117.1;subst eo30)|((with_reducible refine gate_builtin (b:=.append) (xs:=#[.tmp 66,.tmp 70]) rfl ?_);at_builtin;refine Kd.S_append k26 (w0:=w) w.heap.size rfl (.tmp 66) (.tmp 70) 37 26 (.agg #[(.int .i64 0),(.slice none 0 0)]) 32 rfl Try.underlying37 info26 rfl (by decide) (by omega) u3 x3_2 (⟨t114,t115⟩:S26) [.int .i64 t114,.slice Ao30 t115.length co30] (fun _=>True) (fun k_=>some k_=(.slice Ao30 t115.length co30:Value).ownBlock) rfl rfl ?aP (fun k_ hk_=>((Kd.R_mono (ok':=fun k_=>((fun _=>True)) k_∧some k_≠(u3:Value).ownBlock) (Kd.R_apart' (HO117.1) (Kd.S_typed HO_3.1) (by decide)) (fun k_ hk=>⟨trivial,hk.2⟩))).1 k_ hk_.symm) ?aF ?aO ?aB ?aS ?aL ?_;(case aP=>exact k26_mkM _ _ _ (⟨t114,t115⟩:S26) (Kd.R_mono (Kd.R_tight rfl (Kd.R_mono (ok':=fun k_=>((fun _=>True)) k_∧some k_≠(u3:Value).ownBlock) (Kd.R_apart' (HO117.1) (Kd.S_typed HO_3.1) (by decide)) (fun k_ hk=>⟨trivial,hk.2⟩))) (fun _ h_=>h_)));(case aB=>exact qB16);(case aF=>exact(fun _ _=>trivial));(case aO=>exact qB13);(case aS=>exact(below_size qB16));(case aL=>have:=LMc14.1;omega);intro v119 w29 ho hb hg hat;rw [← Ny118.1] at ho;have n0_:=qAm (hb);have n1_:=qAm (ho);clear HB;clear HO_3;clear HO117;have HB:=n0_;have HO120:=n1_;clear n0_ n1_;clear ho hb hg hat))
                                    (first|go_roundg kj9|((try simp only [add_plain] at *);go_roundg kj9))
                                    case measure=>have:=HK1.1;have:=HK2.1;have:=HK3.1;have:=HJ6.1;have:=HJ9.1;omega
                                    case rel=>exact⟨(y118),(x4_3),(wrap64 (x5_2+1)),qB37,qB37,H',⟨by have:=HK1.1;have:=HK2.1;have:=HK3.1;have:=HJ6.1;have:=HJ9.1;omega⟩,⟨by (with_reducible repeat(first|apply Kd.S_alloc|apply Kd.S_drewN|apply Kd.S_drew));exact HO120.1⟩,⟨by repeat(first|(with_reducible first|exact HB.1|apply below_alloc|apply pw_below_drewN|apply below_drew1)|exact HB.1)⟩⟩
                                · rw [if_neg c14] at H
                                  exact absurd H (by simp)
                              · replace c12:=Bool.eq_false_iff.mpr c12
                                subst c12;have H1:(if x4_3 > 0 then (if (wrap64 (Int.tdiv (wrap64 (x5_2+x4_3)) 2))<x5_2 then ((spec_l09Of.f x5_2 (wrap64 (Int.tdiv (wrap64 (x5_2+x4_3)) 2))).bind fun bt128=>(if x3_2.length<4398046511104 then (spec_l09OfNorm.l1 kj9 a0 (x3_2 ++ [(⟨bt128.1,bt128.2⟩:S26)]) x4_3 (wrap64 (x5_2+1))) else (none))) else (spec_l09OfNorm.l1 kj9 a0 x3_2 x4_3 (wrap64 (x5_2+1)))) else (spec_l09OfNorm.l1 kj9 a0 x3_2 x4_3 (wrap64 (x5_2+1))))=some r:=by rw [if_neg (show ¬(false=true) by decide)] at H;exact H
                                clear H;have H:=H1;clear H1
                                by_cases c31:x4_3 > 0
                                · rw [if_pos c31] at H
                                  have c31b0:decide (0<x4_3)=true:=decide_eq_true c31;clear c31
                                  by_cases c32:(wrap64 (Int.tdiv (wrap64 (x5_2+x4_3)) 2))<x5_2
                                  · rw [if_pos c32] at H
                                    have c32b0:decide ((wrap64 (Int.tdiv (wrap64 (x5_2+x4_3)) 2))<x5_2)=true:=decide_eq_true c32;clear c32;replace H:=qOb H;obtain⟨⟨t128,t129⟩,A330,H⟩:=H;replace H:(if x3_2.length<4398046511104 then (spec_l09OfNorm.l1 kj9 a0 (x3_2 ++ [(⟨t128,t129⟩:S26)]) x4_3 (wrap64 (x5_2+1))) else (none))=some r:=H;have A33:=qAm A330;clear A330
                                    by_cases c34:x3_2.length<4398046511104
                                    · rw [if_pos c34] at H
                                      have LMc34:=qAm c34;clear c34;obtain⟨y132,hy132⟩:∃y_:List (S26),y_=(x3_2 ++ [(⟨t128,t129⟩:S26)]):=⟨_,rfl⟩
                                      replace H:(spec_l09OfNorm.l1 kj9 a0 y132 x4_3 (wrap64 (x5_2+1)))=some r:=by first|(rw [hy132];with_reducible exact H)|(have H2_:=(Option.bind_some _ _).symm.trans H;rw [hy132];with_reducible exact H2_)|(have H2_:=(Option.bind_some _ _).symm.trans H;with_reducible exact H2_)|with_reducible exact H|(rw [hy132];exact H)|exact H
                                      have Ny132:=qAm hy132;clear hy132;have H':=qAm H;clear H;go_wp2_with (first|((with_reducible refine gate_callee (f:=53) rfl ?_);refine goesL_ (some 86) rfl rfl Try.func53 (by kernel_rfl) rfl #[.int .i64 x5_2,.int .i64 (wrap64 (Int.tdiv (wrap64 (x5_2+x4_3)) 2))] rfl qB15 ?_;(with_reducible refine(spec_l09Of.calls x5_2 (wrap64 (Int.tdiv (wrap64 (x5_2+x4_3)) 2)) t128 t129 _ A33.1).mono ?_);rintro e w35 ⟨v130,rfl,ho0,hb⟩;refine⟨_,rfl,?_⟩;have n0_:=qAm (Kd.S_elder' qB30 (Kd.R_base ho0) hb);have n1_:=qAm (Kd.R_lower ho0 (below_size qB16));have n2_:=qAm (below_step qB16 hb);clear HO_3;clear HB;have HO_3:=n0_;have HO131:=n1_;have HB:=n2_;clear n0_ n1_ n2_;(try clear hb);(try clear hb2);(try clear hk);(try clear hi);(try clear ho0);obtain⟨Ao37,co37,eo37⟩:=Kd.R_slice HO131.1;subst eo37)|((with_reducible refine gate_builtin (b:=.append) (xs:=#[.tmp 83,.tmp 87]) rfl ?_);at_builtin;refine Kd.S_append k26 (w0:=w) w.heap.size rfl (.tmp 83) (.tmp 87) 37 26 (.agg #[(.int .i64 0),(.slice none 0 0)]) 32 rfl Try.underlying37 info26 rfl (by decide) (by omega) u3 x3_2 (⟨t128,t129⟩:S26) [.int .i64 t128,.slice Ao37 t129.length co37] (fun _=>True) (fun k_=>some k_=(.slice Ao37 t129.length co37:Value).ownBlock) rfl rfl ?aP (fun k_ hk_=>((Kd.R_mono (ok':=fun k_=>((fun _=>True)) k_∧some k_≠(u3:Value).ownBlock) (Kd.R_apart' (HO131.1) (Kd.S_typed HO_3.1) (by decide)) (fun k_ hk=>⟨trivial,hk.2⟩))).1 k_ hk_.symm) ?aF ?aO ?aB ?aS ?aL ?_;(case aP=>exact k26_mkM _ _ _ (⟨t128,t129⟩:S26) (Kd.R_mono (Kd.R_tight rfl (Kd.R_mono (ok':=fun k_=>((fun _=>True)) k_∧some k_≠(u3:Value).ownBlock) (Kd.R_apart' (HO131.1) (Kd.S_typed HO_3.1) (by decide)) (fun k_ hk=>⟨trivial,hk.2⟩))) (fun _ h_=>h_)));(case aB=>exact qB16);(case aF=>exact(fun _ _=>trivial));(case aO=>exact qB13);(case aS=>exact(below_size qB16));(case aL=>have:=LMc34.1;omega);intro v133 w36 ho hb hg hat;rw [← Ny132.1] at ho;have n0_:=qAm (hb);have n1_:=qAm (ho);clear HB;clear HO_3;clear HO131;have HB:=n0_;have HO134:=n1_;clear n0_ n1_;clear ho hb hg hat))
                                      (first|go_roundg kj9|((try simp only [add_plain] at *);go_roundg kj9))
                                      case measure=>have:=HK1.1;have:=HK2.1;have:=HK3.1;have:=HJ6.1;have:=HJ9.1;omega
                                      case rel=>exact⟨(y132),(x4_3),(wrap64 (x5_2+1)),qB37,qB37,H',⟨by have:=HK1.1;have:=HK2.1;have:=HK3.1;have:=HJ6.1;have:=HJ9.1;omega⟩,⟨by (with_reducible repeat(first|apply Kd.S_alloc|apply Kd.S_drewN|apply Kd.S_drew));exact HO134.1⟩,⟨by repeat(first|(with_reducible first|exact HB.1|apply below_alloc|apply pw_below_drewN|apply below_drew1)|exact HB.1)⟩⟩
                                    · rw [if_neg c34] at H
                                      exact absurd H (by simp)
                                  · rw [if_neg c32] at H
                                    have c32b0:decide ((wrap64 (Int.tdiv (wrap64 (x5_2+x4_3)) 2))<x5_2)=false:=decide_eq_false c32;clear c32;have H':=qAm H;clear H;go_wp2
                                    (first|go_roundg kj9|((try simp only [add_plain] at *);go_roundg kj9))
                                    case measure=>have:=HK1.1;have:=HK2.1;have:=HK3.1;have:=HJ6.1;have:=HJ9.1;omega
                                    case rel=>exact⟨(x3_2),(x4_3),(wrap64 (x5_2+1)),qB37,qB37,H',⟨by have:=HK1.1;have:=HK2.1;have:=HK3.1;have:=HJ6.1;have:=HJ9.1;omega⟩,⟨by (with_reducible repeat(first|apply Kd.S_alloc|apply Kd.S_drewN|apply Kd.S_drew));exact HO_3.1⟩,⟨by repeat(first|(with_reducible first|exact HB.1|apply below_alloc|apply pw_below_drewN|apply below_drew1)|exact HB.1)⟩⟩
                                · rw [if_neg c31] at H
                                  have c31b0:decide (0<x4_3)=false:=decide_eq_false c31;clear c31;have H':=qAm H;clear H;go_wp2
                                  (first|go_roundg kj9|((try simp only [add_plain] at *);go_roundg kj9))
                                  case measure=>have:=HK1.1;have:=HK2.1;have:=HK3.1;have:=HJ6.1;have:=HJ9.1;omega
                                  case rel=>exact⟨(x3_2),(x4_3),(wrap64 (x5_2+1)),qB37,qB37,H',⟨by have:=HK1.1;have:=HK2.1;have:=HK3.1;have:=HJ6.1;have:=HJ9.1;omega⟩,⟨by (with_reducible repeat(first|apply Kd.S_alloc|apply Kd.S_drewN|apply Kd.S_drew));exact HO_3.1⟩,⟨by repeat(first|(with_reducible first|exact HB.1|apply below_alloc|apply pw_below_drewN|apply below_drew1)|exact HB.1)⟩⟩
            · rw [if_neg c5] at H
              have c5b0:decide ((wrap64 ((wrap64 (3*x5_2))*x5_2))≤(wrap64 (4*a0)))=false:=decide_eq_false c5;clear c5;obtain rfl:=Option.some.inj H;go_wp2;go_ret;exact⟨_,by first|rfl|(simp [errW_none,errW_some] <;> rfl)|(simp [*,errW_none,errW_some] <;> rfl),by (with_reducible repeat(first|apply Kd.S_alloc|apply Kd.S_drewN|apply Kd.S_drew));exact HO_3.1,by repeat(first|(with_reducible first|exact HB.1|apply below_alloc|apply pw_below_drewN|apply below_drew1)|exact HB.1)⟩

end Go.Proofs.Ytejpliodhnglbaa.PFnExactPrimesOfNorm
