/- The functions that the law reaches, as plain functions, each with the proof that the program comes to it; no condition. Written by a program of this session (wip/mp.py) over the printing of the kit; what is marked HAND is told by hand. -/
import Derived.Test.YtefhabkikaadiaaPFnExactOrthogonalSumx0
namespace Go.Proofs.Ytefhabkikaadiaa.PFnExactOrthogonalSum
open Go.RowKit Go.Proofs.YtefhabkikaadiaaW.PrintWords Go.Proofs.YtefhabkikaadiaaW.PrintLast Go.Proofs.YtefhabkikaadiaaW.PrintMore
attribute [local go_sem] max2_int min2_int max_two min_two max_three min_three max_four min_four   -- for this text's walks alone
set_option linter.unusedVariables false
set_option linter.unusedSimpArgs false

/-! ### laws_heldInt64S: function 17 -/
def laws_heldInt64S.l0:Nat→List Int→Int→Int→Option (Int)
 |0,_,_,_=>none
 |k+1,x0,x1,x5=>if x5<(x0.length:Int) then (if 0≤x5 then (if (rd x0 x5)=x1 then (laws_heldInt64S.l0 k x0 (wrap64 (x1+1)) (wrap64 (x5+1))) else (some (-1))) else (none)) else (some x1)
def laws_heldInt64S.f (k:Nat) (l0:List Int) (a1:Int):Option (Int):=laws_heldInt64S.l0 k l0 a1 0
theorem laws_heldInt64S.mono_l:∀k,(∀y0 y1 y2,LeO (laws_heldInt64S.l0 k y0 y1 y2) (laws_heldInt64S.l0 (k+1) y0 y1 y2))
 |0=>fun _ _ _ r h=>by simp [laws_heldInt64S.l0] at h
 |k+1=>by
  have ih0:=laws_heldInt64S.mono_l k
  ·intro y0 y1 y2;unfold laws_heldInt64S.l0;repeat' first
   |(with_reducible exact ih0 _ _ _)
   |(with_reducible exact LeO.refl _)
   |(with_reducible exact LeO.none _)
   |(with_reducible refine LeO.ite ?_ ?_)
   |(with_reducible refine LeO.bind ?_ (fun _=>?_))
   |exact ih0 _ _ _
   |exact LeO.none _
   |refine LeO.ite ?_ ?_
   |refine LeO.bind ?_ (fun _=>?_)
theorem laws_heldInt64S.mono:∀a0 a1 k,LeO (laws_heldInt64S.f k a0 a1) (laws_heldInt64S.f (k+1) a0 a1):=by
 intro a0 a1 k;have ih0:=laws_heldInt64S.mono_l k;unfold laws_heldInt64S.f;repeat' first
   |(with_reducible exact ih0 _ _ _)
   |(with_reducible exact LeO.refl _)
   |(with_reducible exact LeO.none _)
   |(with_reducible refine LeO.ite ?_ ?_)
   |(with_reducible refine LeO.bind ?_ (fun _=>?_))
   |exact ih0 _ _ _
   |exact LeO.none _
   |refine LeO.ite ?_ ?_
   |refine LeO.bind ?_ (fun _=>?_)
set_option maxHeartbeats 8000000 in
set_option maxRecDepth 100000 in
theorem laws_heldInt64S.calls (k:Nat) (A0:Option Addr) (c0:Nat) (l0:List Int) (a1:Int) (r:Int) (w:World) (hr0:Kd.C (Kd.int .i64) w A0 l0.length l0) (hc0:l0.length≤c0) (h:laws_heldInt64S.f k l0 a1=some r):
  Calls Try.prog 17 #[.slice A0 l0.length c0,.int .i64 a1] w fun e w'=>e=.returned (.int .i64 r)∧Drawn0 w w':=by
 have HR0:=qAm hr0;have HC0:=qAm hc0;clear hr0 hc0;have H:(laws_heldInt64S.l0 k l0 a1 0)=some r:=h;clear h;have H':=qAm H;clear H;go_enter Try.func17,Try.ntmps17;go_wp2;try simp only [Act.put,qSa,qSc,qSb]
 go_loopg [1,5] k (fun kq v1 v5 w'=>∃(x1_1:Int) (x5_1:Int),v1=.int .i64 x1_1∧v5=.int .i64 x5_1∧Aside0 (laws_heldInt64S.l0 kq l0 x1_1 x5_1=some r)∧Aside0 (kq≤k)∧Drawn0 w w')
 case atStart=>exact⟨(a1),(0),qB178,qB178,H',⟨Nat.le_refl _⟩,by repeat(first|exact Drawn0.refl _|apply Drawn0.step)⟩
 case round=>
  clear H';try clear c1
  try clear p2
  obtain⟨x1_1,x5_1,rfl,rfl,HA,HK1,⟨m1,rfl⟩⟩:=hrel;cases gk with
  |zero=>exact absurd HA.1 (by simp [laws_heldInt64S.l0])
  |succ k1=>
   have H:=HA.1;clear HA;simp only [laws_heldInt64S.l0] at H
   by_cases c3:x5_1<(l0.length:Int)
   ·rw [if_pos c3] at H;have c3b0:decide (x5_1<(l0.length:Int))=true:=decide_eq_true c3;clear c3
    by_cases c4:0≤x5_1
    ·rw [if_pos c4] at H;have c4b0:decide (0≤x5_1)=true:=decide_eq_true c4;clear c4
     by_cases c5:(rd l0 x5_1)=x1_1
     ·rw [if_pos c5] at H;have c5b0:((rd l0 x5_1)==x1_1)=true:=beq_iff_eq.mpr c5;have c5b1:((rd l0 x5_1) !=x1_1)=false:=bne_eq_false_iff_eq.mpr c5;clear c5;have H':=qAm H;clear H;have p456:0≤(x5_1:Int):=of_decide_eq_true qB177;have q456:x5_1<(l0.length:Int):=of_decide_eq_true qB177;obtain⟨ad456,e456,hx456_0⟩:=Kd.at_int HR0.1 x5_1 p456 q456;cases e456
      replace p456:=eq_true p456;replace q456:=eq_true q456;go_wp2
      (first|go_roundg k1|((try simp only [add_plain] at *);go_roundg k1))
      case measure=>have:=HK1.1;omega
      case rel=>exact⟨(wrap64 (x1_1+1)),(wrap64 (x5_1+1)),qB178,qB178,H',⟨by have:=HK1.1;omega⟩,by repeat(first|exact Drawn0.refl _|apply Drawn0.step)⟩
     ·rw [if_neg c5] at H;have c5b0:((rd l0 x5_1)==x1_1)=false:=beq_eq_false_iff_ne.mpr c5;have c5b1:((rd l0 x5_1) !=x1_1)=true:=bne_iff_ne.mpr c5;obtain rfl:=Option.some.inj H;have p456:0≤(x5_1:Int):=of_decide_eq_true qB177;have q456:x5_1<(l0.length:Int):=of_decide_eq_true qB177;obtain⟨ad456,e456,hx456_0⟩:=Kd.at_int HR0.1 x5_1 p456 q456;cases e456
      replace p456:=eq_true p456;replace q456:=eq_true q456;go_wp2;go_ret;exact⟨by first|rfl|(simp;done)|(simp [*];done),by repeat(first|exact Drawn0.refl _|apply Drawn0.step)⟩
    ·rw [if_neg c4] at H;exact absurd H (by simp)
   ·rw [if_neg c3] at H;have c3b0:decide (x5_1<(l0.length:Int))=false:=decide_eq_false c3;clear c3;obtain rfl:=Option.some.inj H;go_wp2;go_ret;exact⟨by first|rfl|(simp;done)|(simp [*];done),by repeat(first|exact Drawn0.refl _|apply Drawn0.step)⟩

/-! ### laws_heldCyclo: function 26 -/
def laws_heldCyclo.f (k:Nat) (a0_0:Int) (l0_1:List Int) (a1:Int):Option (Int):=(laws_heldInt64S.f k l0_1 a1).bind fun t458=>(if t458<0 then (some (-1)) else (some t458))
theorem laws_heldCyclo.mono:∀a0 a1 a2 k,LeO (laws_heldCyclo.f k a0 a1 a2) (laws_heldCyclo.f (k+1) a0 a1 a2):=by
 intro a0 a1 a2 k;unfold laws_heldCyclo.f;repeat' first
   |(with_reducible exact laws_heldInt64S.mono _ _ _)
   |(with_reducible exact LeO.refl _)
   |(with_reducible exact LeO.none _)
   |(with_reducible refine LeO.ite ?_ ?_)
   |(with_reducible refine LeO.bind ?_ (fun _=>?_))
   |exact laws_heldInt64S.mono _ _ _
   |exact LeO.none _
   |refine LeO.ite ?_ ?_
   |refine LeO.bind ?_ (fun _=>?_)
set_option maxHeartbeats 8000000 in
set_option maxRecDepth 100000 in
theorem laws_heldCyclo.calls (k:Nat) (a0_0:Int) (A0_1:Option Addr) (c0_1:Nat) (l0_1:List Int) (a1:Int) (r:Int) (w:World) (hr0_1:Kd.C (Kd.int .i64) w A0_1 l0_1.length l0_1) (hc0_1:l0_1.length≤c0_1) (h:laws_heldCyclo.f k a0_0 l0_1 a1=some r):
  Calls Try.prog 26 #[.agg #[.int .i64 a0_0,.slice A0_1 l0_1.length c0_1],.int .i64 a1] w fun e w'=>e=.returned (.int .i64 r)∧Below w.heap.size w w':=by
 have hu28:=Try.underlying28;have HR0_1:=qAm hr0_1;have HC0_1:=qAm hc0_1;clear hr0_1 hc0_1;have HB:=qAm (Below.refl w.heap.size w);have H:((laws_heldInt64S.f k l0_1 a1).bind fun t458=>(if t458<0 then (some (-1)) else (some t458)))=some r:=h;clear h;replace H:=qOb H;obtain⟨t458,A30,H⟩:=H;replace H:(if t458<0 then (some (-1)) else (some t458))=some r:=H;have A3:=qAm A30;clear A30
 by_cases c4:t458<0
 ·rw [if_pos c4] at H;have c4b0:decide (t458<0)=true:=decide_eq_true c4;clear c4;obtain rfl:=Option.some.inj H;go_enter Try.func26,Try.ntmps26;go_wp2_with (first|((with_reducible refine gate_dst (N:=2) rfl ?_);refine box_event ?hg (N:=2) ?hd (cs:=#[.int .i64 a0_0,.slice A0_1 l0_1.length c0_1]) (t:=28) ?hr ?_;(case hd=>rfl);(case hg=>rfl);(case hr=>first|(go_simp;done)|(go_simp;rfl));intro gb457 hg w5 hbox hb;have n0_:=qAm (below_step qB95 hb);have n1_:=qAm (hbox);have n2_:=qAm ((by rw [hg];exact(below_size qB95):w.heap.size≤gb457));have n3_:=qAm ((by rw [hg];exact(below_size qB95):w.heap.size≤gb457));clear HB;have HB:=n0_;have BK457:=n1_;have GW457:=n2_;have GE457:=n3_;clear n0_ n1_ n2_ n3_;clear hb hbox hg;have hcz6_0:w5.cell? ⟨gb457,0,none⟩=some (.int .i64 a0_0):=(blk_cell BK457.1 0).trans rfl;have hcz6_1:w5.cell? ⟨gb457,1,none⟩=some (.slice A0_1 l0_1.length c0_1):=(blk_cell BK457.1 1).trans rfl;have hfz6_0:=blk_frozen BK457.1 0;have hfz6_1:=blk_frozen BK457.1 1)|((with_reducible refine gate_callee (f:=17) rfl ?_);refine goesL_ (some 8) rfl rfl Try.func17 (by kernel_rfl) rfl #[.slice A0_1 l0_1.length c0_1,.int .i64 a1] rfl qB90 ?_;(with_reducible refine(laws_heldInt64S.calls k _ _ l0_1 a1 t458 _ ?side1 ?side2 A3.1).mono ?_);(case side1=>repeat(first|exact(Kd.C_below HR0_1.1 HB.1)|(with_reducible refine Kd.C_alloc ?_ _)|(with_reducible refine Kd.C_drewN ?_ _)|(with_reducible refine Kd.C_drew ?_)));(case side2=>exact HC0_1.1);rintro e w' ⟨rfl,⟨nd,rfl⟩⟩;refine⟨_,rfl,?_⟩));go_ret;exact⟨by first|rfl|(simp [errW_none,errW_some] <;> rfl)|(simp [*,errW_none,errW_some] <;> rfl),by repeat(first|(with_reducible first|exact HB.1|apply below_alloc|apply pw_below_drewN|apply below_drew1|refine below_set ?_ GE457.1)|exact HB.1)⟩
 ·rw [if_neg c4] at H;have c4b0:decide (t458<0)=false:=decide_eq_false c4;clear c4;obtain rfl:=Option.some.inj H;go_enter Try.func26,Try.ntmps26;go_wp2_with (first|((with_reducible refine gate_dst (N:=2) rfl ?_);refine box_event ?hg (N:=2) ?hd (cs:=#[.int .i64 a0_0,.slice A0_1 l0_1.length c0_1]) (t:=28) ?hr ?_;(case hd=>rfl);(case hg=>rfl);(case hr=>first|(go_simp;done)|(go_simp;rfl));intro gb457 hg w7 hbox hb;have n0_:=qAm (below_step qB95 hb);have n1_:=qAm (hbox);have n2_:=qAm ((by rw [hg];exact(below_size qB95):w.heap.size≤gb457));have n3_:=qAm ((by rw [hg];exact(below_size qB95):w.heap.size≤gb457));clear HB;have HB:=n0_;have BK457:=n1_;have GW457:=n2_;have GE457:=n3_;clear n0_ n1_ n2_ n3_;clear hb hbox hg;have hcz8_0:w7.cell? ⟨gb457,0,none⟩=some (.int .i64 a0_0):=(blk_cell BK457.1 0).trans rfl;have hcz8_1:w7.cell? ⟨gb457,1,none⟩=some (.slice A0_1 l0_1.length c0_1):=(blk_cell BK457.1 1).trans rfl;have hfz8_0:=blk_frozen BK457.1 0;have hfz8_1:=blk_frozen BK457.1 1)|((with_reducible refine gate_callee (f:=17) rfl ?_);refine goesL_ (some 8) rfl rfl Try.func17 (by kernel_rfl) rfl #[.slice A0_1 l0_1.length c0_1,.int .i64 a1] rfl qB90 ?_;(with_reducible refine(laws_heldInt64S.calls k _ _ l0_1 a1 t458 _ ?side1 ?side2 A3.1).mono ?_);(case side1=>repeat(first|exact(Kd.C_below HR0_1.1 HB.1)|(with_reducible refine Kd.C_alloc ?_ _)|(with_reducible refine Kd.C_drewN ?_ _)|(with_reducible refine Kd.C_drew ?_)));(case side2=>exact HC0_1.1);rintro e w' ⟨rfl,⟨nd,rfl⟩⟩;refine⟨_,rfl,?_⟩));go_ret;exact⟨by first|rfl|(simp [errW_none,errW_some] <;> rfl)|(simp [*,errW_none,errW_some] <;> rfl),by repeat(first|(with_reducible first|exact HB.1|apply below_alloc|apply pw_below_drewN|apply below_drew1|refine below_set ?_ GE457.1)|exact HB.1)⟩

end Go.Proofs.Ytefhabkikaadiaa.PFnExactOrthogonalSum
