/- The functions that the law reaches, as plain functions, each with the proof that the program comes to it; no condition. Written by a program of this session (wip/mp.py) over the printing of the kit; what is marked HAND is told by hand. -/
import Derived.Test.YtefhabkikaadiaaPFnExactCycloAtResiduesx0
namespace Go.Proofs.Ytefhabkikaadiaa.PFnExactCycloAtResidues
open Go.RowKit Go.Proofs.YtefhabkikaadiaaW.PrintWords Go.Proofs.YtefhabkikaadiaaW.PrintLast Go.Proofs.YtefhabkikaadiaaW.PrintMore
attribute [local go_sem] max2_int min2_int max_two min_two max_three min_three max_four min_four   -- for this text's walks alone
set_option linter.unusedVariables false
set_option linter.unusedSimpArgs false

/-! ### laws_eqInt64S: function 13 -/
def laws_eqInt64S.l0:Nat→List Int→List Int→Int→Option (Bool)
  |0,_,_,_=>none
  |k+1,x0,x1,x5=>if x5<(x0.length:Int) then (if 0≤x5 then (if x5<(x1.length:Int) then (if (rd x0 x5)=(rd x1 x5) then (laws_eqInt64S.l0 k x0 x1 (wrap64 (x5+1))) else (some false)) else (none)) else (none)) else (some true)
def laws_eqInt64S.f (k:Nat) (l0:List Int) (l1:List Int):Option (Bool):=if (l0.length:Int)=(l1.length:Int) then (laws_eqInt64S.l0 k l0 l1 0) else (some false)
theorem laws_eqInt64S.mono_l:∀k,(∀y0 y1 y2,LeO (laws_eqInt64S.l0 k y0 y1 y2) (laws_eqInt64S.l0 (k+1) y0 y1 y2))
  |0=>fun _ _ _ r h=>by simp [laws_eqInt64S.l0] at h
  |k+1=>by
    have ih0:=laws_eqInt64S.mono_l k
    · intro y0 y1 y2
      unfold laws_eqInt64S.l0;repeat' first
      |(with_reducible exact ih0 _ _ _)
      |(with_reducible exact LeO.refl _)
      |(with_reducible exact LeO.none _)
      |(with_reducible refine LeO.ite ?_ ?_)
      |(with_reducible refine LeO.bind ?_ (fun _=>?_))
      |exact ih0 _ _ _
      |exact LeO.none _
      |refine LeO.ite ?_ ?_
      |refine LeO.bind ?_ (fun _=>?_)
theorem laws_eqInt64S.mono:∀a0 a1 k,LeO (laws_eqInt64S.f k a0 a1) (laws_eqInt64S.f (k+1) a0 a1):=by
  intro a0 a1 k;have ih0:=laws_eqInt64S.mono_l k;unfold laws_eqInt64S.f;repeat' first
      |(with_reducible exact ih0 _ _ _)
      |(with_reducible exact LeO.refl _)
      |(with_reducible exact LeO.none _)
      |(with_reducible refine LeO.ite ?_ ?_)
      |(with_reducible refine LeO.bind ?_ (fun _=>?_))
      |exact ih0 _ _ _
      |exact LeO.none _
      |refine LeO.ite ?_ ?_
      |refine LeO.bind ?_ (fun _=>?_)
set_option maxHeartbeats 8000000 in
set_option maxRecDepth 100000 in
theorem laws_eqInt64S.calls (k:Nat) (A0:Option Addr) (c0:Nat) (l0:List Int) (A1:Option Addr) (c1:Nat) (l1:List Int) (r:Bool) (w:World) (hr0:Kd.C (Kd.int .i64) w A0 l0.length l0) (hc0:l0.length≤c0) (hr1:Kd.C (Kd.int .i64) w A1 l1.length l1) (hc1:l1.length≤c1) (h:laws_eqInt64S.f k l0 l1=some r):
    Calls Try.prog 13 #[.slice A0 l0.length c0,.slice A1 l1.length c1] w fun e w'=>e=.returned (.bool r)∧Drawn0 w w':=by
  have HR0:=qAm hr0;have HC0:=qAm hc0;clear hr0 hc0;have HR1:=qAm hr1;have HC1:=qAm hc1;clear hr1 hc1;have H:(if (l0.length:Int)=(l1.length:Int) then (laws_eqInt64S.l0 k l0 l1 0) else (some false))=some r:=h;clear h
  by_cases c3:(l0.length:Int)=(l1.length:Int)
  · rw [if_pos c3] at H
    have c3b0:((l0.length:Int)==(l1.length:Int))=true:=beq_iff_eq.mpr c3;have c3b1:((l0.length:Int) !=(l1.length:Int))=false:=bne_eq_false_iff_eq.mpr c3;have c3b2:(l0.length==l1.length)=true:=by first|simpa using c3|(simp at c3 ⊢;omega)
    clear c3;have H':=qAm H;clear H;go_enter Try.func13,Try.ntmps13;go_wp2;repeat(go_quiet (fail);try go_wp2)
    try simp only [Act.put,qSa,qSc,qSb]
    go_loopg [5] k (fun kq v5 w'=>∃(x5_1:Int),v5=.int .i64 x5_1∧Aside0 (laws_eqInt64S.l0 kq l0 l1 x5_1=some r)∧Aside0 (kq≤k)∧Drawn0 w w')
    case atStart=>exact⟨(0),qB52,H',⟨Nat.le_refl _⟩,by repeat(first|exact Drawn0.refl _|apply Drawn0.step)⟩
    case round=>
      clear H';try clear c1
      try clear p2
      try clear c3
      try clear c3b0
      try clear c3b1
      try clear c3b2
      obtain⟨x5_1,rfl,HA,HK1,⟨m1,rfl⟩⟩:=hrel;cases gk with
      |zero=>exact absurd HA.1 (by simp [laws_eqInt64S.l0])
      |succ k1=>
        have H:=HA.1;clear HA;simp only [laws_eqInt64S.l0] at H
        by_cases c4:x5_1<(l0.length:Int)
        · rw [if_pos c4] at H
          have c4b0:decide (x5_1<(l0.length:Int))=true:=decide_eq_true c4;clear c4
          by_cases c5:0≤x5_1
          · rw [if_pos c5] at H
            have c5b0:decide (0≤x5_1)=true:=decide_eq_true c5;clear c5
            by_cases c6:x5_1<(l1.length:Int)
            · rw [if_pos c6] at H
              have c6b0:decide (x5_1<(l1.length:Int))=true:=decide_eq_true c6;clear c6
              by_cases c7:(rd l0 x5_1)=(rd l1 x5_1)
              · rw [if_pos c7] at H
                have c7b0:((rd l0 x5_1)==(rd l1 x5_1))=true:=beq_iff_eq.mpr c7;have c7b1:((rd l0 x5_1) !=(rd l1 x5_1))=false:=bne_eq_false_iff_eq.mpr c7;clear c7;have H':=qAm H;clear H;have p101:0≤(x5_1:Int):=of_decide_eq_true qB51;have q101:x5_1<(l0.length:Int):=of_decide_eq_true qB51;obtain⟨ad101,e101,hx101_0⟩:=Kd.at_int HR0.1 x5_1 p101 q101;cases e101
                replace p101:=eq_true p101;replace q101:=eq_true q101;have p102:0≤(x5_1:Int):=of_decide_eq_true qB51;have q102:x5_1<(l1.length:Int):=of_decide_eq_true qB51;obtain⟨ad102,e102,hx102_0⟩:=Kd.at_int HR1.1 x5_1 p102 q102;cases e102
                replace p102:=eq_true p102;replace q102:=eq_true q102;go_wp2;repeat(go_quiet (fail);try go_wp2)
                (first|go_roundg k1|((try simp only [add_plain] at *);go_roundg k1))
                case measure=>have:=HK1.1;omega
                case rel=>exact⟨(wrap64 (x5_1+1)),qB52,H',⟨by have:=HK1.1;omega⟩,by repeat(first|exact Drawn0.refl _|apply Drawn0.step)⟩
              · rw [if_neg c7] at H
                have c7b0:((rd l0 x5_1)==(rd l1 x5_1))=false:=beq_eq_false_iff_ne.mpr c7;have c7b1:((rd l0 x5_1) !=(rd l1 x5_1))=true:=bne_iff_ne.mpr c7;obtain rfl:=Option.some.inj H;have p101:0≤(x5_1:Int):=of_decide_eq_true qB51;have q101:x5_1<(l0.length:Int):=of_decide_eq_true qB51;obtain⟨ad101,e101,hx101_0⟩:=Kd.at_int HR0.1 x5_1 p101 q101;cases e101
                replace p101:=eq_true p101;replace q101:=eq_true q101;have p102:0≤(x5_1:Int):=of_decide_eq_true qB51;have q102:x5_1<(l1.length:Int):=of_decide_eq_true qB51;obtain⟨ad102,e102,hx102_0⟩:=Kd.at_int HR1.1 x5_1 p102 q102;cases e102
                replace p102:=eq_true p102;replace q102:=eq_true q102;go_wp2;repeat(go_quiet (fail);try go_wp2)
                go_ret;exact⟨by first|rfl|(simp;done)|(simp [*];done),by repeat(first|exact Drawn0.refl _|apply Drawn0.step)⟩
            · rw [if_neg c6] at H
              exact absurd H (by simp)
          · rw [if_neg c5] at H
            exact absurd H (by simp)
        · rw [if_neg c4] at H
          have c4b0:decide (x5_1<(l0.length:Int))=false:=decide_eq_false c4;clear c4;obtain rfl:=Option.some.inj H;go_wp2;repeat(go_quiet (fail);try go_wp2)
          go_ret;exact⟨by first|rfl|(simp;done)|(simp [*];done),by repeat(first|exact Drawn0.refl _|apply Drawn0.step)⟩
  · rw [if_neg c3] at H
    have c3b0:((l0.length:Int)==(l1.length:Int))=false:=beq_eq_false_iff_ne.mpr c3;have c3b1:((l0.length:Int) !=(l1.length:Int))=true:=bne_iff_ne.mpr c3;have c3b2:(l0.length==l1.length)=false:=by first|simpa using c3|(simp at c3 ⊢;omega)
    obtain rfl:=Option.some.inj H;go_enter Try.func13,Try.ntmps13;go_wp2;repeat(go_quiet (fail);try go_wp2)
    go_ret;exact⟨by first|rfl|(simp;done)|(simp [*];done),by repeat(first|exact Drawn0.refl _|apply Drawn0.step)⟩

/-! ### laws_eqCyclo: function 14 -/
def laws_eqCyclo.f (k:Nat) (a0_0:Int) (l0_1:List Int) (a1_0:Int) (l1_1:List Int):Option (Bool):=if a0_0=a1_0 then ((laws_eqInt64S.f k l0_1 l1_1).bind fun t105=>(if t105=true then (some true) else (some false))) else (some false)
theorem laws_eqCyclo.mono:∀a0 a1 a2 a3 k,LeO (laws_eqCyclo.f k a0 a1 a2 a3) (laws_eqCyclo.f (k+1) a0 a1 a2 a3):=by
  intro a0 a1 a2 a3 k;unfold laws_eqCyclo.f;repeat' first
      |(with_reducible exact laws_eqInt64S.mono _ _ _)
      |(with_reducible exact LeO.refl _)
      |(with_reducible exact LeO.none _)
      |(with_reducible refine LeO.ite ?_ ?_)
      |(with_reducible refine LeO.bind ?_ (fun _=>?_))
      |exact laws_eqInt64S.mono _ _ _
      |exact LeO.none _
      |refine LeO.ite ?_ ?_
      |refine LeO.bind ?_ (fun _=>?_)
set_option maxHeartbeats 8000000 in
set_option maxRecDepth 100000 in
theorem laws_eqCyclo.calls (k:Nat) (a0_0:Int) (A0_1:Option Addr) (c0_1:Nat) (l0_1:List Int) (a1_0:Int) (A1_1:Option Addr) (c1_1:Nat) (l1_1:List Int) (r:Bool) (w:World) (hr0_1:Kd.C (Kd.int .i64) w A0_1 l0_1.length l0_1) (hc0_1:l0_1.length≤c0_1) (hr1_1:Kd.C (Kd.int .i64) w A1_1 l1_1.length l1_1) (hc1_1:l1_1.length≤c1_1) (h:laws_eqCyclo.f k a0_0 l0_1 a1_0 l1_1=some r):
    Calls Try.prog 14 #[.agg #[.int .i64 a0_0,.slice A0_1 l0_1.length c0_1],.agg #[.int .i64 a1_0,.slice A1_1 l1_1.length c1_1]] w fun e w'=>e=.returned (.bool r)∧Below w.heap.size w w':=by
  have hu28:=Try.underlying28;have HR0_1:=qAm hr0_1;have HC0_1:=qAm hc0_1;clear hr0_1 hc0_1;have HR1_1:=qAm hr1_1;have HC1_1:=qAm hc1_1;clear hr1_1 hc1_1;have HB:=qAm (Below.refl w.heap.size w);have H:(if a0_0=a1_0 then ((laws_eqInt64S.f k l0_1 l1_1).bind fun t105=>(if t105=true then (some true) else (some false))) else (some false))=some r:=h;clear h
  by_cases c3:a0_0=a1_0
  · rw [if_pos c3] at H
    have c3b0:(a0_0==a1_0)=true:=beq_iff_eq.mpr c3;have c3b1:(a0_0 !=a1_0)=false:=bne_eq_false_iff_eq.mpr c3;clear c3;replace H:=qOb H;obtain⟨t105,A40,H⟩:=H;replace H:(if t105=true then (some true) else (some false))=some r:=H;have A4:=qAm A40;clear A40
    by_cases c5:t105=true
    · subst c5
      have H1:(some true)=some r:=by rw [if_pos rfl] at H;exact H
      clear H;have H:=H1;clear H1;obtain rfl:=Option.some.inj H;go_enter Try.func14,Try.ntmps14;go_wp2_with (first|((with_reducible refine gate_dst (N:=2) rfl ?_);refine box_event ?hg (N:=2) ?hd (cs:=#[.int .i64 a0_0,.slice A0_1 l0_1.length c0_1]) (t:=28) ?hr ?_;(case hd=>rfl);(case hg=>rfl);(case hr=>first|(go_simp;done)|(go_simp;rfl));intro gb103 hg w6 hbox hb;have n0_:=qAm (below_step qB18 hb);have n1_:=qAm (hbox);have n2_:=qAm ((by rw [hg];exact(below_size qB18):w.heap.size≤gb103));have n3_:=qAm ((by rw [hg];exact(below_size qB18):w.heap.size≤gb103));clear HB;have HB:=n0_;have BK103:=n1_;have GW103:=n2_;have GE103:=n3_;clear n0_ n1_ n2_ n3_;clear hb hbox hg)|((with_reducible refine gate_dst (N:=3) rfl ?_);refine box_event ?hg (N:=3) ?hd (cs:=#[.int .i64 a1_0,.slice A1_1 l1_1.length c1_1]) (t:=28) ?hr ?_;(case hd=>rfl);(case hg=>rfl);(case hr=>first|(go_simp;done)|(go_simp;rfl));intro gb104 hg w7 hbox hb;have n0_:=qAm (blk_below (g:=gb103) (o:=.cells #[.int .i64 a0_0,.slice A0_1 l0_1.length c0_1] 28 (0,0)) qB20 hb);have n1_:=qAm (below_step qB12 hb);have n2_:=qAm (hbox);have n3_:=qAm ((by rw [hg];exact(below_size qB12):w.heap.size≤gb104));have n4_:=qAm ((by rw [hg];exact(below_size qB12):w.heap.size≤gb104));have n5_:=qAm ((by rw [hg];exact Nat.ne_of_lt (blk_lt (g:=gb103) (o:=.cells #[.int .i64 a0_0,.slice A0_1 l0_1.length c0_1] 28 (0,0)) qB20):gb103≠gb104));have n6_:=qAm ((by rw [hg];exact Nat.ne_of_gt (blk_lt (g:=gb103) (o:=.cells #[.int .i64 a0_0,.slice A0_1 l0_1.length c0_1] 28 (0,0)) qB20):gb104≠gb103));clear BK103;clear HB;have BK103:=n0_;have HB:=n1_;have BK104:=n2_;have GW104:=n3_;have GE104:=n4_;have NB103_104:=n5_;have NB104_103:=n6_;clear n0_ n1_ n2_ n3_ n4_ n5_ n6_;clear hb hbox hg;have hnb8:=NB103_104.1;have hnc8:=NB104_103.1;have hcz9_0:w7.cell? ⟨gb103,0,none⟩=some (.int .i64 a0_0):=(blk_cell BK103.1 0).trans rfl;have hcz9_1:w7.cell? ⟨gb103,1,none⟩=some (.slice A0_1 l0_1.length c0_1):=(blk_cell BK103.1 1).trans rfl;have hfz9_0:=blk_frozen BK103.1 0;have hfz9_1:=blk_frozen BK103.1 1;have hcz10_0:w7.cell? ⟨gb104,0,none⟩=some (.int .i64 a1_0):=(blk_cell BK104.1 0).trans rfl;have hcz10_1:w7.cell? ⟨gb104,1,none⟩=some (.slice A1_1 l1_1.length c1_1):=(blk_cell BK104.1 1).trans rfl;have hfz10_0:=blk_frozen BK104.1 0;have hfz10_1:=blk_frozen BK104.1 1)|((with_reducible refine gate_callee (f:=13) rfl ?_);refine goesL_ (some 14) rfl rfl Try.func13 (by kernel_rfl) rfl #[.slice A0_1 l0_1.length c0_1,.slice A1_1 l1_1.length c1_1] rfl qB17 ?_;(with_reducible refine(laws_eqInt64S.calls k _ _ l0_1 _ _ l1_1 true _ ?side1 ?side2 ?side3 ?side4 A4.1).mono ?_);(case side1=>repeat(first|exact(Kd.C_below HR0_1.1 HB.1)|(with_reducible refine Kd.C_alloc ?_ _)|(with_reducible refine Kd.C_drewN ?_ _)|(with_reducible refine Kd.C_drew ?_)));(case side2=>exact HC0_1.1);(case side3=>repeat(first|exact(Kd.C_below HR1_1.1 HB.1)|(with_reducible refine Kd.C_alloc ?_ _)|(with_reducible refine Kd.C_drewN ?_ _)|(with_reducible refine Kd.C_drew ?_)));(case side4=>exact HC1_1.1);rintro e w' ⟨rfl,⟨nd,rfl⟩⟩;refine⟨_,rfl,?_⟩));go_ret;exact⟨by first|rfl|(simp [errW_none,errW_some] <;> rfl)|(simp [*,errW_none,errW_some] <;> rfl),by repeat(first|(with_reducible first|exact HB.1|apply below_alloc|apply pw_below_drewN|apply below_drew1|refine below_set ?_ GE103.1|refine below_set ?_ GE104.1)|exact HB.1)⟩
    · replace c5:=Bool.eq_false_iff.mpr c5
      subst c5;have H1:(some false)=some r:=by rw [if_neg (show ¬(false=true) by decide)] at H;exact H
      clear H;have H:=H1;clear H1;obtain rfl:=Option.some.inj H;go_enter Try.func14,Try.ntmps14;go_wp2_with (first|((with_reducible refine gate_dst (N:=2) rfl ?_);refine box_event ?hg (N:=2) ?hd (cs:=#[.int .i64 a0_0,.slice A0_1 l0_1.length c0_1]) (t:=28) ?hr ?_;(case hd=>rfl);(case hg=>rfl);(case hr=>first|(go_simp;done)|(go_simp;rfl));intro gb103 hg w11 hbox hb;have n0_:=qAm (below_step qB18 hb);have n1_:=qAm (hbox);have n2_:=qAm ((by rw [hg];exact(below_size qB18):w.heap.size≤gb103));have n3_:=qAm ((by rw [hg];exact(below_size qB18):w.heap.size≤gb103));clear HB;have HB:=n0_;have BK103:=n1_;have GW103:=n2_;have GE103:=n3_;clear n0_ n1_ n2_ n3_;clear hb hbox hg)|((with_reducible refine gate_dst (N:=3) rfl ?_);refine box_event ?hg (N:=3) ?hd (cs:=#[.int .i64 a1_0,.slice A1_1 l1_1.length c1_1]) (t:=28) ?hr ?_;(case hd=>rfl);(case hg=>rfl);(case hr=>first|(go_simp;done)|(go_simp;rfl));intro gb104 hg w12 hbox hb;have n0_:=qAm (blk_below (g:=gb103) (o:=.cells #[.int .i64 a0_0,.slice A0_1 l0_1.length c0_1] 28 (0,0)) qB20 hb);have n1_:=qAm (below_step qB12 hb);have n2_:=qAm (hbox);have n3_:=qAm ((by rw [hg];exact(below_size qB12):w.heap.size≤gb104));have n4_:=qAm ((by rw [hg];exact(below_size qB12):w.heap.size≤gb104));have n5_:=qAm ((by rw [hg];exact Nat.ne_of_lt (blk_lt (g:=gb103) (o:=.cells #[.int .i64 a0_0,.slice A0_1 l0_1.length c0_1] 28 (0,0)) qB20):gb103≠gb104));have n6_:=qAm ((by rw [hg];exact Nat.ne_of_gt (blk_lt (g:=gb103) (o:=.cells #[.int .i64 a0_0,.slice A0_1 l0_1.length c0_1] 28 (0,0)) qB20):gb104≠gb103));clear BK103;clear HB;have BK103:=n0_;have HB:=n1_;have BK104:=n2_;have GW104:=n3_;have GE104:=n4_;have NB103_104:=n5_;have NB104_103:=n6_;clear n0_ n1_ n2_ n3_ n4_ n5_ n6_;clear hb hbox hg;have hnb13:=NB103_104.1;have hnc13:=NB104_103.1;have hcz14_0:w12.cell? ⟨gb103,0,none⟩=some (.int .i64 a0_0):=(blk_cell BK103.1 0).trans rfl;have hcz14_1:w12.cell? ⟨gb103,1,none⟩=some (.slice A0_1 l0_1.length c0_1):=(blk_cell BK103.1 1).trans rfl;have hfz14_0:=blk_frozen BK103.1 0;have hfz14_1:=blk_frozen BK103.1 1;have hcz15_0:w12.cell? ⟨gb104,0,none⟩=some (.int .i64 a1_0):=(blk_cell BK104.1 0).trans rfl;have hcz15_1:w12.cell? ⟨gb104,1,none⟩=some (.slice A1_1 l1_1.length c1_1):=(blk_cell BK104.1 1).trans rfl;have hfz15_0:=blk_frozen BK104.1 0;have hfz15_1:=blk_frozen BK104.1 1)|((with_reducible refine gate_callee (f:=13) rfl ?_);refine goesL_ (some 14) rfl rfl Try.func13 (by kernel_rfl) rfl #[.slice A0_1 l0_1.length c0_1,.slice A1_1 l1_1.length c1_1] rfl qB17 ?_;(with_reducible refine(laws_eqInt64S.calls k _ _ l0_1 _ _ l1_1 false _ ?side1 ?side2 ?side3 ?side4 A4.1).mono ?_);(case side1=>repeat(first|exact(Kd.C_below HR0_1.1 HB.1)|(with_reducible refine Kd.C_alloc ?_ _)|(with_reducible refine Kd.C_drewN ?_ _)|(with_reducible refine Kd.C_drew ?_)));(case side2=>exact HC0_1.1);(case side3=>repeat(first|exact(Kd.C_below HR1_1.1 HB.1)|(with_reducible refine Kd.C_alloc ?_ _)|(with_reducible refine Kd.C_drewN ?_ _)|(with_reducible refine Kd.C_drew ?_)));(case side4=>exact HC1_1.1);rintro e w' ⟨rfl,⟨nd,rfl⟩⟩;refine⟨_,rfl,?_⟩));go_ret;exact⟨by first|rfl|(simp [errW_none,errW_some] <;> rfl)|(simp [*,errW_none,errW_some] <;> rfl),by repeat(first|(with_reducible first|exact HB.1|apply below_alloc|apply pw_below_drewN|apply below_drew1|refine below_set ?_ GE103.1|refine below_set ?_ GE104.1)|exact HB.1)⟩
  · rw [if_neg c3] at H
    have c3b0:(a0_0==a1_0)=false:=beq_eq_false_iff_ne.mpr c3;have c3b1:(a0_0 !=a1_0)=true:=bne_iff_ne.mpr c3;obtain rfl:=Option.some.inj H;go_enter Try.func14,Try.ntmps14;go_wp2_with (first|((with_reducible refine gate_dst (N:=2) rfl ?_);refine box_event ?hg (N:=2) ?hd (cs:=#[.int .i64 a0_0,.slice A0_1 l0_1.length c0_1]) (t:=28) ?hr ?_;(case hd=>rfl);(case hg=>rfl);(case hr=>first|(go_simp;done)|(go_simp;rfl));intro gb103 hg w16 hbox hb;have n0_:=qAm (below_step qB18 hb);have n1_:=qAm (hbox);have n2_:=qAm ((by rw [hg];exact(below_size qB18):w.heap.size≤gb103));have n3_:=qAm ((by rw [hg];exact(below_size qB18):w.heap.size≤gb103));clear HB;have HB:=n0_;have BK103:=n1_;have GW103:=n2_;have GE103:=n3_;clear n0_ n1_ n2_ n3_;clear hb hbox hg)|((with_reducible refine gate_dst (N:=3) rfl ?_);refine box_event ?hg (N:=3) ?hd (cs:=#[.int .i64 a1_0,.slice A1_1 l1_1.length c1_1]) (t:=28) ?hr ?_;(case hd=>rfl);(case hg=>rfl);(case hr=>first|(go_simp;done)|(go_simp;rfl));intro gb104 hg w17 hbox hb;have n0_:=qAm (blk_below (g:=gb103) (o:=.cells #[.int .i64 a0_0,.slice A0_1 l0_1.length c0_1] 28 (0,0)) qB20 hb);have n1_:=qAm (below_step qB12 hb);have n2_:=qAm (hbox);have n3_:=qAm ((by rw [hg];exact(below_size qB12):w.heap.size≤gb104));have n4_:=qAm ((by rw [hg];exact(below_size qB12):w.heap.size≤gb104));have n5_:=qAm ((by rw [hg];exact Nat.ne_of_lt (blk_lt (g:=gb103) (o:=.cells #[.int .i64 a0_0,.slice A0_1 l0_1.length c0_1] 28 (0,0)) qB20):gb103≠gb104));have n6_:=qAm ((by rw [hg];exact Nat.ne_of_gt (blk_lt (g:=gb103) (o:=.cells #[.int .i64 a0_0,.slice A0_1 l0_1.length c0_1] 28 (0,0)) qB20):gb104≠gb103));clear BK103;clear HB;have BK103:=n0_;have HB:=n1_;have BK104:=n2_;have GW104:=n3_;have GE104:=n4_;have NB103_104:=n5_;have NB104_103:=n6_;clear n0_ n1_ n2_ n3_ n4_ n5_ n6_;clear hb hbox hg;have hnb18:=NB103_104.1;have hnc18:=NB104_103.1;have hcz19_0:w17.cell? ⟨gb103,0,none⟩=some (.int .i64 a0_0):=(blk_cell BK103.1 0).trans rfl;have hcz19_1:w17.cell? ⟨gb103,1,none⟩=some (.slice A0_1 l0_1.length c0_1):=(blk_cell BK103.1 1).trans rfl;have hfz19_0:=blk_frozen BK103.1 0;have hfz19_1:=blk_frozen BK103.1 1;have hcz20_0:w17.cell? ⟨gb104,0,none⟩=some (.int .i64 a1_0):=(blk_cell BK104.1 0).trans rfl;have hcz20_1:w17.cell? ⟨gb104,1,none⟩=some (.slice A1_1 l1_1.length c1_1):=(blk_cell BK104.1 1).trans rfl;have hfz20_0:=blk_frozen BK104.1 0;have hfz20_1:=blk_frozen BK104.1 1));go_ret;exact⟨by first|rfl|(simp [errW_none,errW_some] <;> rfl)|(simp [*,errW_none,errW_some] <;> rfl),by repeat(first|(with_reducible first|exact HB.1|apply below_alloc|apply pw_below_drewN|apply below_drew1|refine below_set ?_ GE103.1|refine below_set ?_ GE104.1)|exact HB.1)⟩

/-! ### laws_markInt64S: function 16 -/
def laws_markInt64S.l0:Nat→List Int→Int→Int→Option (Int×List Int)
  |0,_,_,_=>none
  |k+1,x0,x1,x5=>if x5<(x0.length:Int) then (if 0≤x5 then (laws_markInt64S.l0 k (x0.set (x5:Int).toNat x1) (wrap64 (x1+1)) (wrap64 (x5+1))) else (none)) else (some (x1,x0))
def laws_markInt64S.f (k:Nat) (l0:List Int) (a1:Int):Option (Int×List Int):=laws_markInt64S.l0 k l0 a1 0
theorem laws_markInt64S.mono_l:∀k,(∀y0 y1 y2,LeO (laws_markInt64S.l0 k y0 y1 y2) (laws_markInt64S.l0 (k+1) y0 y1 y2))
  |0=>fun _ _ _ r h=>by simp [laws_markInt64S.l0] at h
  |k+1=>by
    have ih0:=laws_markInt64S.mono_l k
    · intro y0 y1 y2
      unfold laws_markInt64S.l0;repeat' first
      |(with_reducible exact ih0 _ _ _)
      |(with_reducible exact LeO.refl _)
      |(with_reducible exact LeO.none _)
      |(with_reducible refine LeO.ite ?_ ?_)
      |(with_reducible refine LeO.bind ?_ (fun _=>?_))
      |exact ih0 _ _ _
      |exact LeO.none _
      |refine LeO.ite ?_ ?_
      |refine LeO.bind ?_ (fun _=>?_)
theorem laws_markInt64S.mono:∀a0 a1 k,LeO (laws_markInt64S.f k a0 a1) (laws_markInt64S.f (k+1) a0 a1):=by
  intro a0 a1 k;have ih0:=laws_markInt64S.mono_l k;unfold laws_markInt64S.f;repeat' first
      |(with_reducible exact ih0 _ _ _)
      |(with_reducible exact LeO.refl _)
      |(with_reducible exact LeO.none _)
      |(with_reducible refine LeO.ite ?_ ?_)
      |(with_reducible refine LeO.bind ?_ (fun _=>?_))
      |exact ih0 _ _ _
      |exact LeO.none _
      |refine LeO.ite ?_ ?_
      |refine LeO.bind ?_ (fun _=>?_)
set_option maxHeartbeats 8000000 in
set_option maxRecDepth 100000 in
theorem laws_markInt64S.calls (k:Nat) (P0_:Nat→Prop) (u9000_:Value) (l0:List Int) (a1:Int) (r1:Int) (r2:List Int) (w0 w:World) (hB:Below w0.heap.size w0 w) (ho0:Kd.R (Kd.int .i64) 2 w w0.heap.size P0_ u9000_ l0) (h:laws_markInt64S.f k l0 a1=some (r1,r2)):
    Calls Try.prog 16 #[u9000_,.int .i64 a1] w fun e w'=>e=.returned (.int .i64 r1)∧Kd.R (Kd.int .i64) 2 w' w0.heap.size (fun k_=>(P0_ k_∨w.heap.size≤k_)) u9000_ r2∧Below w0.heap.size w0 w'∧Kept w w' (fun k_=>P0_ k_):=by
  have HO0:=qAm (show Kd.R (Kd.int .i64) 2 w w0.heap.size (fun k_=>(P0_ k_∨w.heap.size≤k_)) u9000_ l0 from Kd.R_mono ho0 (fun k_ hk=>(.inl hk)));have HK:=qAm (Kept.refl w (fun k_=>P0_ k_));have HW0:=qAm hB.size;have HB:=qAm hB;clear hB;have H:(laws_markInt64S.l0 k l0 a1 0)=some (r1,r2):=h;clear h;have H':=qAm H;clear H;go_enter Try.func16,Try.ntmps16;go_wp2;try simp only [Act.put,qSa,qSc,qSb]
  go_loopg [1,5] k (fun kq v1 v5 w'=>∃(x0_1:List Int) (x1_1:Int) (x5_1:Int),v1=.int .i64 x1_1∧v5=.int .i64 x5_1∧Aside0 (laws_markInt64S.l0 kq x0_1 x1_1 x5_1=some (r1,r2))∧Aside0 (kq≤k)∧Aside0 (Kd.R (Kd.int .i64) 2 w' w0.heap.size (fun k_=>(P0_ k_∨w.heap.size≤k_)) u9000_ x0_1)∧Aside0 (Kept w w' (fun k_=>P0_ k_))∧Aside0 (Below w0.heap.size w0 w'))
  case atStart=>exact⟨(l0),(a1),(0),qB52,qB52,H',⟨Nat.le_refl _⟩,⟨by (with_reducible repeat(first|apply Kd.R_alloc|apply Kd.R_drewN|apply Kd.R_drew));exact HO0.1⟩,⟨by repeat(first|(with_reducible first|exact HK.1|apply Kept.alloc|apply Kept.drewN|apply Kept.drew)|exact HK.1)⟩,⟨by repeat(first|(with_reducible first|exact HB.1|apply below_alloc|apply pw_below_drewN|apply below_drew1)|exact HB.1)⟩⟩
  case round=>
    clear H';try clear c1
    try clear p2
    obtain⟨x0_1,x1_1,x5_1,rfl,rfl,HA,HK1,HO_0,HK,HB⟩:=hrel;cases gk with
    |zero=>exact absurd HA.1 (by simp [laws_markInt64S.l0])
    |succ k1=>
      have H:=HA.1;clear HA;simp only [laws_markInt64S.l0] at H
      by_cases c3:x5_1<(x0_1.length:Int)
      · rw [if_pos c3] at H
        have c3b0:decide (x5_1<(x0_1.length:Int))=true:=decide_eq_true c3;clear c3
        by_cases c4:0≤x5_1
        · rw [if_pos c4] at H
          have c4b0:decide (0≤x5_1)=true:=decide_eq_true c4;clear c4;obtain⟨y106,hy106⟩:∃y_:List Int,y_=(x0_1.set (x5_1:Int).toNat x1_1):=⟨_,rfl⟩
          replace H:(laws_markInt64S.l0 k1 y106 (wrap64 (x1_1+1)) (wrap64 (x5_1+1)))=some (r1,r2):=by first|(rw [hy106];with_reducible exact H)|(have H2_:=(Option.bind_some _ _).symm.trans H;rw [hy106];with_reducible exact H2_)|(have H2_:=(Option.bind_some _ _).symm.trans H;with_reducible exact H2_)|with_reducible exact H|(rw [hy106];exact H)|exact H
          have Ny106:=qAm hy106;clear hy106;have H':=qAm H;clear H;obtain⟨Ao6,co6,eo6⟩:=Kd.R_slice HO_0.1;subst eo6;have p5:0≤(x5_1:Int):=of_decide_eq_true qB51;have q5:(x5_1:Int)<((x0_1.length:Int):Int):=of_decide_eq_true qB51;obtain⟨go5,co5,eo5,gb5,gl5,cl5,HG5⟩:=Kd.R_form HO_0.1 (by omega)
          (first|cases eo5|(injection eo5 with ea_ en_ ec_;(first|subst ea_|(injection ea_ with ea_;subst ea_));subst ec_;clear en_))
          have GB5:=qAm gb5;have GG5:=qAm HG5;clear gb5 gl5 HG5;have HMgo5:=qAm (show(P0_ go5∨w.heap.size≤go5) from (HO_0.1.1 _ rfl));obtain⟨hx5_0,hf5_0⟩:=Kd.R_celln 0 HO_0.1 (x5_1:Int) p5 q5;replace p5:=eq_true p5;replace q5:=eq_true q5;have HP7:=Kd.R_putg HO_0.1 (x5_1:Int) x1_1;go_wp2_with (first|((with_reducible refine gate_store (t:=2) (p:=15) rfl ?_);refine store_event (t:=2) (p:=15) (v:=?vo_w8) (w1:=(wr.setCell ⟨go5,(x5_1:Int).toNat,none⟩ (.int .i64 x1_1))) ?hg ?ho ?hn ?hr ?_;(case ho=>rfl);(case hg=>rfl);(case hn=>rfl);(case hr=>first|(go_simp;done)|(go_simp;rfl));intro w8 hw;have hg:wr.grownBy w8 (some go5):=(by rw [hw];exact HP7.2);have hp_:Kd.R (Kd.int .i64) 2 w8 w0.heap.size (fun k_=>(P0_ k_∨w.heap.size≤k_)) (.slice (some ⟨go5,0,none⟩) x0_1.length co6) y106:=(by rw [hw,Ny106.1];exact HP7.1);clear HP7;have n0_:=qAm (hp_);have n1_:=qAm ((by rw [hw];exact below_set (HB.1) GB5.1:Below w0.heap.size w0 w8));have n2_:=qAm (Kept.of_grown (S:=(fun k_=>P0_ k_)) hg qB19 (fun k_ e_=>(HO_0.1.1 k_ e_)));clear HO_0;clear HB;clear HK;have HO_0:=n0_;have HB:=n1_;have HK:=n2_;clear n0_ n1_ n2_;clear hg hw hp_))
          (first|go_roundg k1|((try simp only [add_plain] at *);go_roundg k1))
          case measure=>have:=HK1.1;omega
          case rel=>exact⟨(y106),(wrap64 (x1_1+1)),(wrap64 (x5_1+1)),qB52,qB52,H',⟨by have:=HK1.1;omega⟩,⟨by (with_reducible repeat(first|apply Kd.R_alloc|apply Kd.R_drewN|apply Kd.R_drew));exact HO_0.1⟩,⟨by repeat(first|(with_reducible first|exact HK.1|apply Kept.alloc|apply Kept.drewN|apply Kept.drew)|exact HK.1)⟩,⟨by repeat(first|(with_reducible first|exact HB.1|apply below_alloc|apply pw_below_drewN|apply below_drew1)|exact HB.1)⟩⟩
        · rw [if_neg c4] at H
          exact absurd H (by simp)
      · rw [if_neg c3] at H
        have c3b0:decide (x5_1<(x0_1.length:Int))=false:=decide_eq_false c3;clear c3;simp only [Option.some.injEq,Prod.mk.injEq] at H;obtain⟨rfl,rfl⟩:=H;obtain⟨Ao9,co9,eo9⟩:=Kd.R_slice HO_0.1;subst eo9;go_wp2;go_ret;exact⟨by first|rfl|(simp [errW_none,errW_some] <;> rfl)|(simp [*,errW_none,errW_some] <;> rfl),by (with_reducible repeat(first|apply Kd.R_alloc|apply Kd.R_drewN|apply Kd.R_drew));exact HO_0.1,by repeat(first|(with_reducible first|exact HB.1|apply below_alloc|apply pw_below_drewN|apply below_drew1)|exact HB.1),by repeat(first|(with_reducible first|exact HK.1|apply Kept.alloc|apply Kept.drewN|apply Kept.drew)|exact HK.1)⟩

/-! ### laws_markCyclo: function 15 -/
def laws_markCyclo.f (k:Nat) (a0_0:Int) (l0_1:List Int) (a1:Int):Option (Int×List Int):=(laws_markInt64S.f k l0_1 a1).bind fun bt108=>(some (bt108.1,bt108.2))
theorem laws_markCyclo.mono:∀a0 a1 a2 k,LeO (laws_markCyclo.f k a0 a1 a2) (laws_markCyclo.f (k+1) a0 a1 a2):=by
  intro a0 a1 a2 k;unfold laws_markCyclo.f;repeat' first
      |(with_reducible exact laws_markInt64S.mono _ _ _)
      |(with_reducible exact LeO.refl _)
      |(with_reducible exact LeO.none _)
      |(with_reducible refine LeO.ite ?_ ?_)
      |(with_reducible refine LeO.bind ?_ (fun _=>?_))
      |exact laws_markInt64S.mono _ _ _
      |exact LeO.none _
      |refine LeO.ite ?_ ?_
      |refine LeO.bind ?_ (fun _=>?_)
set_option maxHeartbeats 8000000 in
set_option maxRecDepth 100000 in
theorem laws_markCyclo.calls (k:Nat) (a0_0:Int) (P0_1_:Nat→Prop) (u9000_:Value) (l0_1:List Int) (a1:Int) (r1:Int) (r2:List Int) (w0 w:World) (hB:Below w0.heap.size w0 w) (ho0_1:Kd.R (Kd.int .i64) 2 w w0.heap.size P0_1_ u9000_ l0_1) (h:laws_markCyclo.f k a0_0 l0_1 a1=some (r1,r2)):
    Calls Try.prog 15 #[.agg #[.int .i64 a0_0,u9000_],.int .i64 a1] w fun e w'=>e=.returned (.int .i64 r1)∧Kd.R (Kd.int .i64) 2 w' w0.heap.size (fun k_=>(P0_1_ k_∨w.heap.size≤k_)) u9000_ r2∧Below w0.heap.size w0 w'∧Kept w w' (fun k_=>P0_1_ k_):=by
  have hu28:=Try.underlying28;have HO0_1:=qAm (show Kd.R (Kd.int .i64) 2 w w0.heap.size (fun k_=>(P0_1_ k_∨w.heap.size≤k_)) u9000_ l0_1 from Kd.R_mono ho0_1 (fun k_ hk=>(.inl hk)));have HK:=qAm (Kept.refl w (fun k_=>P0_1_ k_));have HW0:=qAm hB.size;have HB:=qAm hB;clear hB;have H:((laws_markInt64S.f k l0_1 a1).bind fun bt108=>(some (bt108.1,bt108.2)))=some (r1,r2):=h;clear h;replace H:=qOb H;obtain⟨⟨t108,t109⟩,A30,H⟩:=H;replace H:(some (t108,t109))=some (r1,r2):=H;have A3:=qAm A30;clear A30;simp only [Option.some.injEq,Prod.mk.injEq] at H;obtain⟨rfl,rfl⟩:=H;obtain⟨Ao4,co4,eo4⟩:=Kd.R_slice HO0_1.1;subst eo4;go_enter Try.func15,Try.ntmps15;go_wp2_with (first|((with_reducible refine gate_dst (N:=2) rfl ?_);refine box_event ?hg (N:=2) ?hd (cs:=#[.int .i64 a0_0,.slice Ao4 l0_1.length co4]) (t:=28) ?hr ?_;(case hd=>rfl);(case hg=>rfl);(case hr=>first|(go_simp;done)|(go_simp;rfl));intro gb107 hg w5 hbox hb;have n0_:=qAm (Kd.R_below (by (with_reducible repeat(first|apply Kd.R_alloc|apply Kd.R_drewN|apply Kd.R_drew));exact HO0_1.1) hb);have n1_:=qAm (Kept.below (S:=(fun k_=>P0_1_ k_)) qB19 hb);have n2_:=qAm (below_step qB18 hb);have n3_:=qAm (hbox);have n4_:=qAm ((by rw [hg];exact(by first|exact HK.1.1|exact(show Kept w _ (fun k_=>P0_1_ k_) from by repeat(first|(with_reducible first|exact HK.1|apply Kept.alloc|apply Kept.drewN|apply Kept.drew)|exact HK.1)).1):w.heap.size≤gb107));have n5_:=qAm ((by rw [hg];exact(below_size qB18):w0.heap.size≤gb107));clear HO0_1;clear HK;clear HB;have HO0_1:=n0_;have HK:=n1_;have HB:=n2_;have BK107:=n3_;have GW107:=n4_;have GE107:=n5_;clear n0_ n1_ n2_ n3_ n4_ n5_;clear hb hbox hg;have hcz6_0:w5.cell? ⟨gb107,0,none⟩=some (.int .i64 a0_0):=(blk_cell BK107.1 0).trans rfl;have hcz6_1:w5.cell? ⟨gb107,1,none⟩=some (.slice Ao4 l0_1.length co4):=(blk_cell BK107.1 1).trans rfl;have hfz6_0:=blk_frozen BK107.1 0;have hfz6_1:=blk_frozen BK107.1 1)|((with_reducible refine gate_callee (f:=16) rfl ?_);refine goesL_ (some 8) rfl rfl Try.func16 (by kernel_rfl) rfl #[.slice Ao4 l0_1.length co4,.int .i64 a1] rfl qB17 ?_;(with_reducible refine(laws_markInt64S.calls k (fun k_=>some k_=(.slice Ao4 l0_1.length co4:Value).ownBlock) (.slice Ao4 l0_1.length co4) l0_1 a1 t108 t109 w0 _ ?side1 ?side2 A3.1).mono ?_);(case side1=>repeat(first|(with_reducible first|exact HB.1|apply below_alloc|apply pw_below_drewN|apply below_drew1|refine below_set ?_ GE107.1)|exact HB.1));(case side2=>exact Kd.R_tight rfl HO0_1.1);rintro e w7 ⟨rfl,hy0,hb,hkp⟩;refine⟨_,rfl,?_⟩;have n0_:=qAm (Kd.R_reok rfl hy0 (fun k_ e_=>HO0_1.1.1 k_ e_));have n1_:=qAm (blk_kept (by (with_reducible repeat(first|refine blk_drewN ?_ _|refine blk_drew ?_|refine blk_alloc ?_ _));exact BK107.1) hkp (fun hs_=>(fun e_=>(Kd.R_ne HO0_1.1 BK107.1 (by decide)) e_) hs_));have n2_:=qAm (Kept.then_ (S:=(fun k_=>P0_1_ k_)) (by repeat(first|(with_reducible first|exact HK.1|apply Kept.alloc|apply Kept.drewN|apply Kept.drew|refine Kept.setCell ?_ (.inr GW107.1) _)|exact HK.1)) hkp (fun k_ hs_=>(fun e_=>(HO0_1.1.1 k_ e_.symm)) hs_));have n3_:=qAm (hb);clear HO0_1;clear BK107;clear HK;clear HB;have HO0_1:=n0_;have BK107:=n1_;have HK:=n2_;have HB:=n3_;clear n0_ n1_ n2_ n3_;(try clear hb);(try clear hkp);(try clear hy0)));go_ret;exact⟨by first|rfl|(simp [errW_none,errW_some] <;> rfl)|(simp [*,errW_none,errW_some] <;> rfl),by (with_reducible repeat(first|apply Kd.R_alloc|apply Kd.R_drewN|apply Kd.R_drew));exact HO0_1.1,by repeat(first|(with_reducible first|exact HB.1|apply below_alloc|apply pw_below_drewN|apply below_drew1|refine below_set ?_ GE107.1)|exact HB.1),by repeat(first|(with_reducible first|exact HK.1|apply Kept.alloc|apply Kept.drewN|apply Kept.drew|refine Kept.setCell ?_ (.inr GW107.1) _)|exact HK.1)⟩

/-! ### laws_heldInt64S: function 17 -/
def laws_heldInt64S.l0:Nat→List Int→Int→Int→Option (Int)
  |0,_,_,_=>none
  |k+1,x0,x1,x5=>if x5<(x0.length:Int) then (if 0≤x5 then (if (rd x0 x5)=x1 then (laws_heldInt64S.l0 k x0 (wrap64 (x1+1)) (wrap64 (x5+1))) else (some (-1))) else (none)) else (some x1)
def laws_heldInt64S.f (k:Nat) (l0:List Int) (a1:Int):Option (Int):=laws_heldInt64S.l0 k l0 a1 0
theorem laws_heldInt64S.mono_l:∀k,(∀y0 y1 y2,LeO (laws_heldInt64S.l0 k y0 y1 y2) (laws_heldInt64S.l0 (k+1) y0 y1 y2))
  |0=>fun _ _ _ r h=>by simp [laws_heldInt64S.l0] at h
  |k+1=>by
    have ih0:=laws_heldInt64S.mono_l k
    · intro y0 y1 y2
      unfold laws_heldInt64S.l0;repeat' first
      |(with_reducible exact ih0 _ _ _)
      |(with_reducible exact LeO.refl _)
      |(with_reducible exact LeO.none _)
      |(with_reducible refine LeO.ite ?_ ?_)
      |(with_reducible refine LeO.bind ?_ (fun _=>?_))
      |exact ih0 _ _ _
      |exact LeO.none _
      |refine LeO.ite ?_ ?_
      |refine LeO.bind ?_ (fun _=>?_)
theorem laws_heldInt64S.mono:∀a0 a1 k,LeO (laws_heldInt64S.f k a0 a1) (laws_heldInt64S.f (k+1) a0 a1):=by
  intro a0 a1 k;have ih0:=laws_heldInt64S.mono_l k;unfold laws_heldInt64S.f;repeat' first
      |(with_reducible exact ih0 _ _ _)
      |(with_reducible exact LeO.refl _)
      |(with_reducible exact LeO.none _)
      |(with_reducible refine LeO.ite ?_ ?_)
      |(with_reducible refine LeO.bind ?_ (fun _=>?_))
      |exact ih0 _ _ _
      |exact LeO.none _
      |refine LeO.ite ?_ ?_
      |refine LeO.bind ?_ (fun _=>?_)
set_option maxHeartbeats 8000000 in
set_option maxRecDepth 100000 in
theorem laws_heldInt64S.calls (k:Nat) (A0:Option Addr) (c0:Nat) (l0:List Int) (a1:Int) (r:Int) (w:World) (hr0:Kd.C (Kd.int .i64) w A0 l0.length l0) (hc0:l0.length≤c0) (h:laws_heldInt64S.f k l0 a1=some r):
    Calls Try.prog 17 #[.slice A0 l0.length c0,.int .i64 a1] w fun e w'=>e=.returned (.int .i64 r)∧Drawn0 w w':=by
  have HR0:=qAm hr0;have HC0:=qAm hc0;clear hr0 hc0;have H:(laws_heldInt64S.l0 k l0 a1 0)=some r:=h;clear h;have H':=qAm H;clear H;go_enter Try.func17,Try.ntmps17;go_wp2;try simp only [Act.put,qSa,qSc,qSb]
  go_loopg [1,5] k (fun kq v1 v5 w'=>∃(x1_1:Int) (x5_1:Int),v1=.int .i64 x1_1∧v5=.int .i64 x5_1∧Aside0 (laws_heldInt64S.l0 kq l0 x1_1 x5_1=some r)∧Aside0 (kq≤k)∧Drawn0 w w')
  case atStart=>exact⟨(a1),(0),qB52,qB52,H',⟨Nat.le_refl _⟩,by repeat(first|exact Drawn0.refl _|apply Drawn0.step)⟩
  case round=>
    clear H';try clear c1
    try clear p2
    obtain⟨x1_1,x5_1,rfl,rfl,HA,HK1,⟨m1,rfl⟩⟩:=hrel;cases gk with
    |zero=>exact absurd HA.1 (by simp [laws_heldInt64S.l0])
    |succ k1=>
      have H:=HA.1;clear HA;simp only [laws_heldInt64S.l0] at H
      by_cases c3:x5_1<(l0.length:Int)
      · rw [if_pos c3] at H
        have c3b0:decide (x5_1<(l0.length:Int))=true:=decide_eq_true c3;clear c3
        by_cases c4:0≤x5_1
        · rw [if_pos c4] at H
          have c4b0:decide (0≤x5_1)=true:=decide_eq_true c4;clear c4
          by_cases c5:(rd l0 x5_1)=x1_1
          · rw [if_pos c5] at H
            have c5b0:((rd l0 x5_1)==x1_1)=true:=beq_iff_eq.mpr c5;have c5b1:((rd l0 x5_1) !=x1_1)=false:=bne_eq_false_iff_eq.mpr c5;clear c5;have H':=qAm H;clear H;have p110:0≤(x5_1:Int):=of_decide_eq_true qB51;have q110:x5_1<(l0.length:Int):=of_decide_eq_true qB51;obtain⟨ad110,e110,hx110_0⟩:=Kd.at_int HR0.1 x5_1 p110 q110;cases e110
            replace p110:=eq_true p110;replace q110:=eq_true q110;go_wp2
            (first|go_roundg k1|((try simp only [add_plain] at *);go_roundg k1))
            case measure=>have:=HK1.1;omega
            case rel=>exact⟨(wrap64 (x1_1+1)),(wrap64 (x5_1+1)),qB52,qB52,H',⟨by have:=HK1.1;omega⟩,by repeat(first|exact Drawn0.refl _|apply Drawn0.step)⟩
          · rw [if_neg c5] at H
            have c5b0:((rd l0 x5_1)==x1_1)=false:=beq_eq_false_iff_ne.mpr c5;have c5b1:((rd l0 x5_1) !=x1_1)=true:=bne_iff_ne.mpr c5;obtain rfl:=Option.some.inj H;have p110:0≤(x5_1:Int):=of_decide_eq_true qB51;have q110:x5_1<(l0.length:Int):=of_decide_eq_true qB51;obtain⟨ad110,e110,hx110_0⟩:=Kd.at_int HR0.1 x5_1 p110 q110;cases e110
            replace p110:=eq_true p110;replace q110:=eq_true q110;go_wp2;go_ret;exact⟨by first|rfl|(simp;done)|(simp [*];done),by repeat(first|exact Drawn0.refl _|apply Drawn0.step)⟩
        · rw [if_neg c4] at H
          exact absurd H (by simp)
      · rw [if_neg c3] at H
        have c3b0:decide (x5_1<(l0.length:Int))=false:=decide_eq_false c3;clear c3;obtain rfl:=Option.some.inj H;go_wp2;go_ret;exact⟨by first|rfl|(simp;done)|(simp [*];done),by repeat(first|exact Drawn0.refl _|apply Drawn0.step)⟩

/-! ### laws_heldCyclo: function 26 -/
def laws_heldCyclo.f (k:Nat) (a0_0:Int) (l0_1:List Int) (a1:Int):Option (Int):=(laws_heldInt64S.f k l0_1 a1).bind fun t112=>(if t112<0 then (some (-1)) else (some t112))
theorem laws_heldCyclo.mono:∀a0 a1 a2 k,LeO (laws_heldCyclo.f k a0 a1 a2) (laws_heldCyclo.f (k+1) a0 a1 a2):=by
  intro a0 a1 a2 k;unfold laws_heldCyclo.f;repeat' first
      |(with_reducible exact laws_heldInt64S.mono _ _ _)
      |(with_reducible exact LeO.refl _)
      |(with_reducible exact LeO.none _)
      |(with_reducible refine LeO.ite ?_ ?_)
      |(with_reducible refine LeO.bind ?_ (fun _=>?_))
      |exact laws_heldInt64S.mono _ _ _
      |exact LeO.none _
      |refine LeO.ite ?_ ?_
      |refine LeO.bind ?_ (fun _=>?_)
set_option maxHeartbeats 8000000 in
set_option maxRecDepth 100000 in
theorem laws_heldCyclo.calls (k:Nat) (a0_0:Int) (A0_1:Option Addr) (c0_1:Nat) (l0_1:List Int) (a1:Int) (r:Int) (w:World) (hr0_1:Kd.C (Kd.int .i64) w A0_1 l0_1.length l0_1) (hc0_1:l0_1.length≤c0_1) (h:laws_heldCyclo.f k a0_0 l0_1 a1=some r):
    Calls Try.prog 26 #[.agg #[.int .i64 a0_0,.slice A0_1 l0_1.length c0_1],.int .i64 a1] w fun e w'=>e=.returned (.int .i64 r)∧Below w.heap.size w w':=by
  have hu28:=Try.underlying28;have HR0_1:=qAm hr0_1;have HC0_1:=qAm hc0_1;clear hr0_1 hc0_1;have HB:=qAm (Below.refl w.heap.size w);have H:((laws_heldInt64S.f k l0_1 a1).bind fun t112=>(if t112<0 then (some (-1)) else (some t112)))=some r:=h;clear h;replace H:=qOb H;obtain⟨t112,A30,H⟩:=H;replace H:(if t112<0 then (some (-1)) else (some t112))=some r:=H;have A3:=qAm A30;clear A30
  by_cases c4:t112<0
  · rw [if_pos c4] at H
    have c4b0:decide (t112<0)=true:=decide_eq_true c4;clear c4;obtain rfl:=Option.some.inj H;go_enter Try.func26,Try.ntmps26;go_wp2_with (first|((with_reducible refine gate_dst (N:=2) rfl ?_);refine box_event ?hg (N:=2) ?hd (cs:=#[.int .i64 a0_0,.slice A0_1 l0_1.length c0_1]) (t:=28) ?hr ?_;(case hd=>rfl);(case hg=>rfl);(case hr=>first|(go_simp;done)|(go_simp;rfl));intro gb111 hg w5 hbox hb;have n0_:=qAm (below_step qB18 hb);have n1_:=qAm (hbox);have n2_:=qAm ((by rw [hg];exact(below_size qB18):w.heap.size≤gb111));have n3_:=qAm ((by rw [hg];exact(below_size qB18):w.heap.size≤gb111));clear HB;have HB:=n0_;have BK111:=n1_;have GW111:=n2_;have GE111:=n3_;clear n0_ n1_ n2_ n3_;clear hb hbox hg;have hcz6_0:w5.cell? ⟨gb111,0,none⟩=some (.int .i64 a0_0):=(blk_cell BK111.1 0).trans rfl;have hcz6_1:w5.cell? ⟨gb111,1,none⟩=some (.slice A0_1 l0_1.length c0_1):=(blk_cell BK111.1 1).trans rfl;have hfz6_0:=blk_frozen BK111.1 0;have hfz6_1:=blk_frozen BK111.1 1)|((with_reducible refine gate_callee (f:=17) rfl ?_);refine goesL_ (some 8) rfl rfl Try.func17 (by kernel_rfl) rfl #[.slice A0_1 l0_1.length c0_1,.int .i64 a1] rfl qB17 ?_;(with_reducible refine(laws_heldInt64S.calls k _ _ l0_1 a1 t112 _ ?side1 ?side2 A3.1).mono ?_);(case side1=>repeat(first|exact(Kd.C_below HR0_1.1 HB.1)|(with_reducible refine Kd.C_alloc ?_ _)|(with_reducible refine Kd.C_drewN ?_ _)|(with_reducible refine Kd.C_drew ?_)));(case side2=>exact HC0_1.1);rintro e w' ⟨rfl,⟨nd,rfl⟩⟩;refine⟨_,rfl,?_⟩));go_ret;exact⟨by first|rfl|(simp [errW_none,errW_some] <;> rfl)|(simp [*,errW_none,errW_some] <;> rfl),by repeat(first|(with_reducible first|exact HB.1|apply below_alloc|apply pw_below_drewN|apply below_drew1|refine below_set ?_ GE111.1)|exact HB.1)⟩
  · rw [if_neg c4] at H
    have c4b0:decide (t112<0)=false:=decide_eq_false c4;clear c4;obtain rfl:=Option.some.inj H;go_enter Try.func26,Try.ntmps26;go_wp2_with (first|((with_reducible refine gate_dst (N:=2) rfl ?_);refine box_event ?hg (N:=2) ?hd (cs:=#[.int .i64 a0_0,.slice A0_1 l0_1.length c0_1]) (t:=28) ?hr ?_;(case hd=>rfl);(case hg=>rfl);(case hr=>first|(go_simp;done)|(go_simp;rfl));intro gb111 hg w7 hbox hb;have n0_:=qAm (below_step qB18 hb);have n1_:=qAm (hbox);have n2_:=qAm ((by rw [hg];exact(below_size qB18):w.heap.size≤gb111));have n3_:=qAm ((by rw [hg];exact(below_size qB18):w.heap.size≤gb111));clear HB;have HB:=n0_;have BK111:=n1_;have GW111:=n2_;have GE111:=n3_;clear n0_ n1_ n2_ n3_;clear hb hbox hg;have hcz8_0:w7.cell? ⟨gb111,0,none⟩=some (.int .i64 a0_0):=(blk_cell BK111.1 0).trans rfl;have hcz8_1:w7.cell? ⟨gb111,1,none⟩=some (.slice A0_1 l0_1.length c0_1):=(blk_cell BK111.1 1).trans rfl;have hfz8_0:=blk_frozen BK111.1 0;have hfz8_1:=blk_frozen BK111.1 1)|((with_reducible refine gate_callee (f:=17) rfl ?_);refine goesL_ (some 8) rfl rfl Try.func17 (by kernel_rfl) rfl #[.slice A0_1 l0_1.length c0_1,.int .i64 a1] rfl qB17 ?_;(with_reducible refine(laws_heldInt64S.calls k _ _ l0_1 a1 t112 _ ?side1 ?side2 A3.1).mono ?_);(case side1=>repeat(first|exact(Kd.C_below HR0_1.1 HB.1)|(with_reducible refine Kd.C_alloc ?_ _)|(with_reducible refine Kd.C_drewN ?_ _)|(with_reducible refine Kd.C_drew ?_)));(case side2=>exact HC0_1.1);rintro e w' ⟨rfl,⟨nd,rfl⟩⟩;refine⟨_,rfl,?_⟩));go_ret;exact⟨by first|rfl|(simp [errW_none,errW_some] <;> rfl)|(simp [*,errW_none,errW_some] <;> rfl),by repeat(first|(with_reducible first|exact HB.1|apply below_alloc|apply pw_below_drewN|apply below_drew1|refine below_set ?_ GE111.1)|exact HB.1)⟩

/-! ### spec_l01In: function 83 -/
def spec_l01In.f (a0:Int) (a1:Int) (a2:Int):Option (Bool):=if a0≥a1 then (some (decide (a0≤a2))) else (some false)
set_option maxHeartbeats 8000000 in
set_option maxRecDepth 100000 in
theorem spec_l01In.calls (a0:Int) (a1:Int) (a2:Int) (r:Bool) (w:World) (h:spec_l01In.f a0 a1 a2=some r):
    Calls Try.prog 83 #[.int .i64 a0,.int .i64 a1,.int .i64 a2] w fun e w'=>e=.returned (.bool r)∧Drawn0 w w':=by
  have H:(if a0≥a1 then (some (decide (a0≤a2))) else (some false))=some r:=h;clear h
  by_cases c4:a0≥a1
  · rw [if_pos c4] at H
    have c4b0:decide (a1≤a0)=true:=decide_eq_true c4;clear c4;obtain rfl:=Option.some.inj H;go_enter Try.func83,Try.ntmps83;go_wp2;go_ret;exact⟨by first|rfl|(simp;done)|(simp [*];done),by repeat(first|exact Drawn0.refl _|apply Drawn0.step)⟩
  · rw [if_neg c4] at H
    have c4b0:decide (a1≤a0)=false:=decide_eq_false c4;clear c4;obtain rfl:=Option.some.inj H;go_enter Try.func83,Try.ntmps83;go_wp2;go_ret;exact⟨by first|rfl|(simp;done)|(simp [*];done),by repeat(first|exact Drawn0.refl _|apply Drawn0.step)⟩

/-! ### spec_l03Prime: function 101 -/
def spec_l03Prime.l0:Nat→Int→Int→Option (Bool)
  |0,_,_=>none
  |k+1,x0,x3=>if (wrap64 (x3*x3))≤x0 then (if x3=0 then (none) else (if (Int.tmod x0 x3)=0 then (some false) else (spec_l03Prime.l0 k x0 (wrap64 (x3+1))))) else (some true)
def spec_l03Prime.f (k:Nat) (a0:Int):Option (Bool):=(spec_l01In.f a0 3 61).bind fun t113=>(if t113=true then (spec_l03Prime.l0 k a0 2) else (some false))
theorem spec_l03Prime.mono_l:∀k,(∀y0 y1,LeO (spec_l03Prime.l0 k y0 y1) (spec_l03Prime.l0 (k+1) y0 y1))
  |0=>fun _ _ r h=>by simp [spec_l03Prime.l0] at h
  |k+1=>by
    have ih0:=spec_l03Prime.mono_l k
    · intro y0 y1
      unfold spec_l03Prime.l0;repeat' first
      |(with_reducible exact ih0 _ _)
      |(with_reducible exact LeO.refl _)
      |(with_reducible exact LeO.none _)
      |(with_reducible refine LeO.ite ?_ ?_)
      |(with_reducible refine LeO.bind ?_ (fun _=>?_))
      |exact ih0 _ _
      |exact LeO.none _
      |refine LeO.ite ?_ ?_
      |refine LeO.bind ?_ (fun _=>?_)
theorem spec_l03Prime.mono:∀a0 k,LeO (spec_l03Prime.f k a0) (spec_l03Prime.f (k+1) a0):=by
  intro a0 k;have ih0:=spec_l03Prime.mono_l k;unfold spec_l03Prime.f;repeat' first
      |(with_reducible exact ih0 _ _)
      |(with_reducible exact LeO.refl _)
      |(with_reducible exact LeO.none _)
      |(with_reducible refine LeO.ite ?_ ?_)
      |(with_reducible refine LeO.bind ?_ (fun _=>?_))
      |exact ih0 _ _
      |exact LeO.none _
      |refine LeO.ite ?_ ?_
      |refine LeO.bind ?_ (fun _=>?_)
set_option maxHeartbeats 8000000 in
set_option maxRecDepth 100000 in
theorem spec_l03Prime.calls (k:Nat) (a0:Int) (r:Bool) (w:World) (h:spec_l03Prime.f k a0=some r):
    Calls Try.prog 101 #[.int .i64 a0] w fun e w'=>e=.returned (.bool r)∧Drawn0 w w':=by
  have H:((spec_l01In.f a0 3 61).bind fun t113=>(if t113=true then (spec_l03Prime.l0 k a0 2) else (some false)))=some r:=h;clear h;replace H:=qOb H;obtain⟨t113,A20,H⟩:=H;replace H:(if t113=true then (spec_l03Prime.l0 k a0 2) else (some false))=some r:=H;have A2:=qAm A20;clear A20
  by_cases c3:t113=true
  · subst c3
    have H1:(spec_l03Prime.l0 k a0 2)=some r:=by rw [if_pos rfl] at H;exact H
    clear H;have H:=H1;clear H1;have H':=qAm H;clear H;go_enter Try.func101,Try.ntmps101;go_wp2_with (first|((with_reducible refine gate_callee (f:=83) rfl ?_);refine goesL_ (some 5) rfl rfl Try.func83 (by kernel_rfl) rfl #[.int .i64 a0,.int .i64 3,.int .i64 61] rfl qB17 ?_;(with_reducible refine(spec_l01In.calls a0 3 61 true _ A2.1).mono ?_);rintro e w' ⟨rfl,⟨nd,rfl⟩⟩;refine⟨_,rfl,?_⟩));try simp only [Act.put,qSa,qSc,qSb]
    go_loopg [3] k (fun kq v3 w'=>∃(x3_1:Int),v3=.int .i64 x3_1∧Aside0 (spec_l03Prime.l0 kq a0 x3_1=some r)∧Aside0 (kq≤k)∧Drawn0 w w')
    case atStart=>exact⟨(2),qB52,H',⟨Nat.le_refl _⟩,by repeat(first|exact Drawn0.refl _|apply Drawn0.step)⟩
    case round=>
      clear H';try clear c1
      try clear p2
      try clear c3
      obtain⟨x3_1,rfl,HA,HK1,⟨m1,rfl⟩⟩:=hrel;cases gk with
      |zero=>exact absurd HA.1 (by simp [spec_l03Prime.l0])
      |succ k1=>
        have H:=HA.1;clear HA;simp only [spec_l03Prime.l0] at H
        by_cases c4:(wrap64 (x3_1*x3_1))≤a0
        · rw [if_pos c4] at H
          have c4b0:decide ((wrap64 (x3_1*x3_1))≤a0)=true:=decide_eq_true c4;clear c4
          by_cases c5:x3_1=0
          · rw [if_pos c5] at H
            exact absurd H (by simp)
          · rw [if_neg c5] at H
            have c5b0:(x3_1==0)=false:=beq_eq_false_iff_ne.mpr c5;have c5b1:(x3_1 !=0)=true:=bne_iff_ne.mpr c5
            by_cases c6:(Int.tmod a0 x3_1)=0
            · rw [if_pos c6] at H
              have c6b0:((Int.tmod a0 x3_1)==0)=true:=beq_iff_eq.mpr c6;have c6b1:((Int.tmod a0 x3_1) !=0)=false:=bne_eq_false_iff_eq.mpr c6;clear c6;obtain rfl:=Option.some.inj H;go_wp2;go_ret;exact⟨by first|rfl|(simp;done)|(simp [*];done),by repeat(first|exact Drawn0.refl _|apply Drawn0.step)⟩
            · rw [if_neg c6] at H
              have c6b0:((Int.tmod a0 x3_1)==0)=false:=beq_eq_false_iff_ne.mpr c6;have c6b1:((Int.tmod a0 x3_1) !=0)=true:=bne_iff_ne.mpr c6;have H':=qAm H;clear H;go_wp2
              (first|go_roundg k1|((try simp only [add_plain] at *);go_roundg k1))
              case measure=>have:=HK1.1;omega
              case rel=>exact⟨(wrap64 (x3_1+1)),qB52,H',⟨by have:=HK1.1;omega⟩,by repeat(first|exact Drawn0.refl _|apply Drawn0.step)⟩
        · rw [if_neg c4] at H
          have c4b0:decide ((wrap64 (x3_1*x3_1))≤a0)=false:=decide_eq_false c4;clear c4;obtain rfl:=Option.some.inj H;go_wp2;go_ret;exact⟨by first|rfl|(simp;done)|(simp [*];done),by repeat(first|exact Drawn0.refl _|apply Drawn0.step)⟩
  · replace c3:=Bool.eq_false_iff.mpr c3
    subst c3;have H1:(some false)=some r:=by rw [if_neg (show ¬(false=true) by decide)] at H;exact H
    clear H;have H:=H1;clear H1;obtain rfl:=Option.some.inj H;go_enter Try.func101,Try.ntmps101;go_wp2_with (first|((with_reducible refine gate_callee (f:=83) rfl ?_);refine goesL_ (some 5) rfl rfl Try.func83 (by kernel_rfl) rfl #[.int .i64 a0,.int .i64 3,.int .i64 61] rfl qB17 ?_;(with_reducible refine(spec_l01In.calls a0 3 61 false _ A2.1).mono ?_);rintro e w' ⟨rfl,⟨nd,rfl⟩⟩;refine⟨_,rfl,?_⟩));go_ret;exact⟨by first|rfl|(simp;done)|(simp [*];done),by repeat(first|exact Drawn0.refl _|apply Drawn0.step)⟩

/-! ### spec_l07Code: function 55 -/
def spec_l07Code.f (k:Nat) (a0:Int) (a1:Int):Option (Int):=(spec_l01In.f a0 1 16).bind fun t114=>(if t114=true then ((spec_l03Prime.f k a1).bind fun t115=>(if t115=true then (some 0) else (some 2))) else (some 2))
theorem spec_l07Code.mono:∀a0 a1 k,LeO (spec_l07Code.f k a0 a1) (spec_l07Code.f (k+1) a0 a1):=by
  intro a0 a1 k;unfold spec_l07Code.f;repeat' first
      |(with_reducible exact spec_l03Prime.mono _ _)
      |(with_reducible exact LeO.refl _)
      |(with_reducible exact LeO.none _)
      |(with_reducible refine LeO.ite ?_ ?_)
      |(with_reducible refine LeO.bind ?_ (fun _=>?_))
      |exact spec_l03Prime.mono _ _
      |exact LeO.none _
      |refine LeO.ite ?_ ?_
      |refine LeO.bind ?_ (fun _=>?_)
set_option maxHeartbeats 8000000 in
set_option maxRecDepth 100000 in
theorem spec_l07Code.calls (k:Nat) (a0:Int) (a1:Int) (r:Int) (w:World) (h:spec_l07Code.f k a0 a1=some r):
    Calls Try.prog 55 #[.int .i64 a0,.int .i64 a1] w fun e w'=>e=.returned (.int .i64 r)∧Drawn0 w w':=by
  have H:((spec_l01In.f a0 1 16).bind fun t114=>(if t114=true then ((spec_l03Prime.f k a1).bind fun t115=>(if t115=true then (some 0) else (some 2))) else (some 2)))=some r:=h;clear h;replace H:=qOb H;obtain⟨t114,A30,H⟩:=H;replace H:(if t114=true then ((spec_l03Prime.f k a1).bind fun t115=>(if t115=true then (some 0) else (some 2))) else (some 2))=some r:=H;have A3:=qAm A30;clear A30
  by_cases c4:t114=true
  · subst c4
    have H1:((spec_l03Prime.f k a1).bind fun t115=>(if t115=true then (some 0) else (some 2)))=some r:=by rw [if_pos rfl] at H;exact H
    clear H;have H:=H1;clear H1;replace H:=qOb H;obtain⟨t115,A50,H⟩:=H;replace H:(if t115=true then (some 0) else (some 2))=some r:=H;have A5:=qAm A50;clear A50
    by_cases c6:t115=true
    · subst c6
      have H1:(some 0)=some r:=by rw [if_pos rfl] at H;exact H
      clear H;have H:=H1;clear H1;obtain rfl:=Option.some.inj H;go_enter Try.func55,Try.ntmps55;go_wp2_with (first|((with_reducible refine gate_callee (f:=83) rfl ?_);refine goesL_ (some 6) rfl rfl Try.func83 (by kernel_rfl) rfl #[.int .i64 a0,.int .i64 1,.int .i64 16] rfl qB17 ?_;(with_reducible refine(spec_l01In.calls a0 1 16 true _ A3.1).mono ?_);rintro e w' ⟨rfl,⟨nd,rfl⟩⟩;refine⟨_,rfl,?_⟩)|(go_at_call 101;(with_reducible refine(spec_l03Prime.calls k a1 true _ A5.1).mono ?_);rintro e w' ⟨rfl,⟨nd,rfl⟩⟩));go_ret;exact⟨by first|rfl|(simp;done)|(simp [*];done),by repeat(first|exact Drawn0.refl _|apply Drawn0.step)⟩
    · replace c6:=Bool.eq_false_iff.mpr c6
      subst c6;have H1:(some 2)=some r:=by rw [if_neg (show ¬(false=true) by decide)] at H;exact H
      clear H;have H:=H1;clear H1;obtain rfl:=Option.some.inj H;go_enter Try.func55,Try.ntmps55;go_wp2_with (first|((with_reducible refine gate_callee (f:=83) rfl ?_);refine goesL_ (some 6) rfl rfl Try.func83 (by kernel_rfl) rfl #[.int .i64 a0,.int .i64 1,.int .i64 16] rfl qB17 ?_;(with_reducible refine(spec_l01In.calls a0 1 16 true _ A3.1).mono ?_);rintro e w' ⟨rfl,⟨nd,rfl⟩⟩;refine⟨_,rfl,?_⟩)|(go_at_call 101;(with_reducible refine(spec_l03Prime.calls k a1 false _ A5.1).mono ?_);rintro e w' ⟨rfl,⟨nd,rfl⟩⟩));go_ret;exact⟨by first|rfl|(simp;done)|(simp [*];done),by repeat(first|exact Drawn0.refl _|apply Drawn0.step)⟩
  · replace c4:=Bool.eq_false_iff.mpr c4
    subst c4;have H1:(some 2)=some r:=by rw [if_neg (show ¬(false=true) by decide)] at H;exact H
    clear H;have H:=H1;clear H1;obtain rfl:=Option.some.inj H;go_enter Try.func55,Try.ntmps55;go_wp2_with (first|((with_reducible refine gate_callee (f:=83) rfl ?_);refine goesL_ (some 6) rfl rfl Try.func83 (by kernel_rfl) rfl #[.int .i64 a0,.int .i64 1,.int .i64 16] rfl qB17 ?_;(with_reducible refine(spec_l01In.calls a0 1 16 false _ A3.1).mono ?_);rintro e w' ⟨rfl,⟨nd,rfl⟩⟩;refine⟨_,rfl,?_⟩));go_ret;exact⟨by first|rfl|(simp;done)|(simp [*];done),by repeat(first|exact Drawn0.refl _|apply Drawn0.step)⟩

/-! ### spec_l07Fully: function 56 -/
def spec_l07Fully.f (a0:Int) (a1:Int):Option (Bool):=if a1=0 then (none) else (if (Int.tmod a0 a1)=0 then (some false) else (if a0=0 then (none) else (some ((Int.tmod (wrap64 (a1 - 1)) a0)==0))))
set_option maxHeartbeats 8000000 in
set_option maxRecDepth 100000 in
theorem spec_l07Fully.calls (a0:Int) (a1:Int) (r:Bool) (w:World) (h:spec_l07Fully.f a0 a1=some r):
    Calls Try.prog 56 #[.int .i64 a0,.int .i64 a1] w fun e w'=>e=.returned (.bool r)∧Drawn0 w w':=by
  have H:(if a1=0 then (none) else (if (Int.tmod a0 a1)=0 then (some false) else (if a0=0 then (none) else (some ((Int.tmod (wrap64 (a1 - 1)) a0)==0)))))=some r:=h;clear h
  by_cases c3:a1=0
  · rw [if_pos c3] at H
    exact absurd H (by simp)
  · rw [if_neg c3] at H
    have c3b0:(a1==0)=false:=beq_eq_false_iff_ne.mpr c3;have c3b1:(a1 !=0)=true:=bne_iff_ne.mpr c3
    by_cases c4:(Int.tmod a0 a1)=0
    · rw [if_pos c4] at H
      have c4b0:((Int.tmod a0 a1)==0)=true:=beq_iff_eq.mpr c4;have c4b1:((Int.tmod a0 a1) !=0)=false:=bne_eq_false_iff_eq.mpr c4;clear c4;obtain rfl:=Option.some.inj H;go_enter Try.func56,Try.ntmps56;go_wp2;go_ret;exact⟨by first|rfl|(simp;done)|(simp [*];done),by repeat(first|exact Drawn0.refl _|apply Drawn0.step)⟩
    · rw [if_neg c4] at H
      have c4b0:((Int.tmod a0 a1)==0)=false:=beq_eq_false_iff_ne.mpr c4;have c4b1:((Int.tmod a0 a1) !=0)=true:=bne_iff_ne.mpr c4
      by_cases c5:a0=0
      · rw [if_pos c5] at H
        exact absurd H (by simp)
      · rw [if_neg c5] at H
        have c5b0:(a0==0)=false:=beq_eq_false_iff_ne.mpr c5;have c5b1:(a0 !=0)=true:=bne_iff_ne.mpr c5;obtain rfl:=Option.some.inj H;go_enter Try.func56,Try.ntmps56;go_wp2;go_ret;exact⟨by first|rfl|(simp;done)|(simp [*];done),by repeat(first|exact Drawn0.refl _|apply Drawn0.step)⟩

/-! ### spec_l07Value: function 58 -/
def spec_l07Value.l0:Nat→List Int→Int→Int→Int→Int→Option (Int)
  |0,_,_,_,_,_=>none
  |k+1,x0,x1,x2,x7,x8=>if x8≥0 then (if 0≤x8 then (if x8<(x0.length:Int) then (if x2=0 then (none) else (spec_l07Value.l0 k x0 x1 x2 (Int.tmod (wrap64 ((wrap64 ((wrap64 (x7*x1))+(Int.tmod (rd x0 x8) x2)))+x2)) x2) (wrap64 (x8 - 1)))) else (none)) else (none)) else (some x7)
def spec_l07Value.f (k:Nat) (l0:List Int) (a1:Int) (a2:Int):Option (Int):=spec_l07Value.l0 k l0 a1 a2 0 (wrap64 ((l0.length:Int) - 1))
theorem spec_l07Value.mono_l:∀k,(∀y0 y1 y2 y3 y4,LeO (spec_l07Value.l0 k y0 y1 y2 y3 y4) (spec_l07Value.l0 (k+1) y0 y1 y2 y3 y4))
  |0=>fun _ _ _ _ _ r h=>by simp [spec_l07Value.l0] at h
  |k+1=>by
    have ih0:=spec_l07Value.mono_l k
    · intro y0 y1 y2 y3 y4
      unfold spec_l07Value.l0;repeat' first
      |(with_reducible exact ih0 _ _ _ _ _)
      |(with_reducible exact LeO.refl _)
      |(with_reducible exact LeO.none _)
      |(with_reducible refine LeO.ite ?_ ?_)
      |(with_reducible refine LeO.bind ?_ (fun _=>?_))
      |exact ih0 _ _ _ _ _
      |exact LeO.none _
      |refine LeO.ite ?_ ?_
      |refine LeO.bind ?_ (fun _=>?_)
theorem spec_l07Value.mono:∀a0 a1 a2 k,LeO (spec_l07Value.f k a0 a1 a2) (spec_l07Value.f (k+1) a0 a1 a2):=by
  intro a0 a1 a2 k;have ih0:=spec_l07Value.mono_l k;unfold spec_l07Value.f;repeat' first
      |(with_reducible exact ih0 _ _ _ _ _)
      |(with_reducible exact LeO.refl _)
      |(with_reducible exact LeO.none _)
      |(with_reducible refine LeO.ite ?_ ?_)
      |(with_reducible refine LeO.bind ?_ (fun _=>?_))
      |exact ih0 _ _ _ _ _
      |exact LeO.none _
      |refine LeO.ite ?_ ?_
      |refine LeO.bind ?_ (fun _=>?_)
set_option maxHeartbeats 8000000 in
set_option maxRecDepth 100000 in
theorem spec_l07Value.calls (k:Nat) (A0:Option Addr) (c0:Nat) (l0:List Int) (a1:Int) (a2:Int) (r:Int) (w:World) (hr0:Kd.C (Kd.int .i64) w A0 l0.length l0) (hc0:l0.length≤c0) (h:spec_l07Value.f k l0 a1 a2=some r):
    Calls Try.prog 58 #[.slice A0 l0.length c0,.int .i64 a1,.int .i64 a2] w fun e w'=>e=.returned (.int .i64 r)∧Drawn0 w w':=by
  have HR0:=qAm hr0;have HC0:=qAm hc0;clear hr0 hc0;have H:(spec_l07Value.l0 k l0 a1 a2 0 (wrap64 ((l0.length:Int) - 1)))=some r:=h;clear h;have H':=qAm H;clear H;go_enter Try.func58,Try.ntmps58;go_wp2;try simp only [Act.put,qSa,qSc,qSb]
  go_loopg [7,8] k (fun kq v7 v8 w'=>∃(x7_1:Int) (x8_1:Int),v7=.int .i64 x7_1∧v8=.int .i64 x8_1∧Aside0 (spec_l07Value.l0 kq l0 a1 a2 x7_1 x8_1=some r)∧Aside0 (kq≤k)∧Drawn0 w w')
  case atStart=>exact⟨(0),(wrap64 ((l0.length:Int) - 1)),qB52,qB52,H',⟨Nat.le_refl _⟩,by repeat(first|exact Drawn0.refl _|apply Drawn0.step)⟩
  case round=>
    clear H';try clear p2
    obtain⟨x7_1,x8_1,rfl,rfl,HA,HK1,⟨m1,rfl⟩⟩:=hrel;cases gk with
    |zero=>exact absurd HA.1 (by simp [spec_l07Value.l0])
    |succ k1=>
      have H:=HA.1;clear HA;simp only [spec_l07Value.l0] at H
      by_cases c4:x8_1≥0
      · rw [if_pos c4] at H
        have c4b0:decide (0≤x8_1)=true:=decide_eq_true c4;clear c4
        by_cases c5:0≤x8_1
        · rw [if_pos c5] at H
          have c5b0:decide (0≤x8_1)=true:=decide_eq_true c5;clear c5
          by_cases c6:x8_1<(l0.length:Int)
          · rw [if_pos c6] at H
            have c6b0:decide (x8_1<(l0.length:Int))=true:=decide_eq_true c6;clear c6
            by_cases c7:a2=0
            · rw [if_pos c7] at H
              exact absurd H (by simp)
            · rw [if_neg c7] at H
              have c7b0:(a2==0)=false:=beq_eq_false_iff_ne.mpr c7;have c7b1:(a2 !=0)=true:=bne_iff_ne.mpr c7;have H':=qAm H;clear H;have p116:0≤(x8_1:Int):=of_decide_eq_true qB51;have q116:x8_1<(l0.length:Int):=of_decide_eq_true qB51;obtain⟨ad116,e116,hx116_0⟩:=Kd.at_int HR0.1 x8_1 p116 q116;cases e116
              replace p116:=eq_true p116;replace q116:=eq_true q116;go_wp2
              (first|go_roundg k1|((try simp only [add_plain] at *);go_roundg k1))
              case measure=>have:=HK1.1;omega
              case rel=>exact⟨(Int.tmod (wrap64 ((wrap64 ((wrap64 (x7_1*a1))+(Int.tmod (rd l0 x8_1) a2)))+a2)) a2),(wrap64 (x8_1 - 1)),qB52,qB52,H',⟨by have:=HK1.1;omega⟩,by repeat(first|exact Drawn0.refl _|apply Drawn0.step)⟩
          · rw [if_neg c6] at H
            exact absurd H (by simp)
        · rw [if_neg c5] at H
          exact absurd H (by simp)
      · rw [if_neg c4] at H
        have c4b0:decide (0≤x8_1)=false:=decide_eq_false c4;clear c4;obtain rfl:=Option.some.inj H;go_wp2;go_ret;exact⟨by first|rfl|(simp;done)|(simp [*];done),by repeat(first|exact Drawn0.refl _|apply Drawn0.step)⟩

end Go.Proofs.Ytefhabkikaadiaa.PFnExactCycloAtResidues
