/- The functions that the law reaches, as plain functions, each with the proof that the program comes to it; no condition. Written by a program of this session (wip/mp.py) over the printing of the kit; what is marked HAND is told by hand. -/
import Derived.Test.YtefhabkikaadiaaPFnPeriodsx0
import Derived.Test.YtefhabkikaadiaaPFnPeriodsx3
namespace Go.Proofs.Ytefhabkikaadiaa.PFnPeriods
open Go.RowKit Go.Proofs.YtefhabkikaadiaaW.PrintWords Go.Proofs.YtefhabkikaadiaaW.PrintLast Go.Proofs.YtefhabkikaadiaaW.PrintMore
attribute [local go_sem] max2_int min2_int max_two min_two max_three min_three max_four min_four   -- for this text's walks alone
set_option linter.unusedVariables false
set_option linter.unusedSimpArgs false

/-! ### spec_l06Code: function 79 -/
mutual
def spec_l06Code.j0:Nat→Int→List Int→Bool→Option (Int)
  |0,_,_,_=>none
  |k+1,x1,x2,x22=>if x22=true then (some 2) else (spec_l06Code.l0 k x1 x2 0)
def spec_l06Code.l0:Nat→Int→List Int→Int→Option (Int)
  |0,_,_,_=>none
  |k+1,x1,x2,x7=>if x7<(x2.length:Int) then (if 0≤x7 then ((spec_l01In.f (rd x2 x7) 0 (wrap64 (x1 - 1))).bind fun t204=>(if t204=true then (spec_l06Code.l0 k x1 x2 (wrap64 (x7+1))) else (some 2))) else (none)) else (some 0)
end
def spec_l06Code.f (k:Nat) (a0:Int) (a1:Int) (l2:List Int):Option (Int):=(spec_l06Prime.f k a0).bind fun t201=>(if t201=true then ((spec_l01In.f a1 1 12).bind fun t202=>(if t202=true then (if a1=0 then (none) else (spec_l06Code.j0 k a1 l2 ((Int.tmod (wrap64 (a0 - 1)) a1) !=0))) else (spec_l06Code.j0 k a1 l2 true))) else (spec_l06Code.j0 k a1 l2 true))
theorem spec_l06Code.mono_l:∀k,(∀y0 y1 y2,LeO (spec_l06Code.j0 k y0 y1 y2) (spec_l06Code.j0 (k+1) y0 y1 y2))∧(∀y0 y1 y2,LeO (spec_l06Code.l0 k y0 y1 y2) (spec_l06Code.l0 (k+1) y0 y1 y2))
  |0=>⟨fun _ _ _ r h=>by simp [spec_l06Code.j0] at h,fun _ _ _ r h=>by simp [spec_l06Code.l0] at h⟩
  |k+1=>by
    obtain⟨ih0,ih1⟩:=spec_l06Code.mono_l k;refine⟨?_,?_⟩
    · intro y0 y1 y2
      unfold spec_l06Code.j0;repeat' first
      |(with_reducible exact ih0 _ _ _)
      |(with_reducible exact ih1 _ _ _)
      |(with_reducible exact spec_l06Prime.mono _ _)
      |(with_reducible exact LeO.refl _)
      |(with_reducible exact LeO.none _)
      |(with_reducible refine LeO.ite ?_ ?_)
      |(with_reducible refine LeO.bind ?_ (fun _=>?_))
      |exact ih0 _ _ _
      |exact ih1 _ _ _
      |exact spec_l06Prime.mono _ _
      |exact LeO.none _
      |refine LeO.ite ?_ ?_
      |refine LeO.bind ?_ (fun _=>?_)
    · intro y0 y1 y2
      unfold spec_l06Code.l0;repeat' first
      |(with_reducible exact ih0 _ _ _)
      |(with_reducible exact ih1 _ _ _)
      |(with_reducible exact spec_l06Prime.mono _ _)
      |(with_reducible exact LeO.refl _)
      |(with_reducible exact LeO.none _)
      |(with_reducible refine LeO.ite ?_ ?_)
      |(with_reducible refine LeO.bind ?_ (fun _=>?_))
      |exact ih0 _ _ _
      |exact ih1 _ _ _
      |exact spec_l06Prime.mono _ _
      |exact LeO.none _
      |refine LeO.ite ?_ ?_
      |refine LeO.bind ?_ (fun _=>?_)
theorem spec_l06Code.mono:∀a0 a1 a2 k,LeO (spec_l06Code.f k a0 a1 a2) (spec_l06Code.f (k+1) a0 a1 a2):=by
  intro a0 a1 a2 k;obtain⟨ih0,ih1⟩:=spec_l06Code.mono_l k;unfold spec_l06Code.f;repeat' first
      |(with_reducible exact ih0 _ _ _)
      |(with_reducible exact ih1 _ _ _)
      |(with_reducible exact spec_l06Prime.mono _ _)
      |(with_reducible exact LeO.refl _)
      |(with_reducible exact LeO.none _)
      |(with_reducible refine LeO.ite ?_ ?_)
      |(with_reducible refine LeO.bind ?_ (fun _=>?_))
      |exact ih0 _ _ _
      |exact ih1 _ _ _
      |exact spec_l06Prime.mono _ _
      |exact LeO.none _
      |refine LeO.ite ?_ ?_
      |refine LeO.bind ?_ (fun _=>?_)
set_option maxHeartbeats 8000000 in
set_option maxRecDepth 100000 in
theorem spec_l06Code.calls (k:Nat) (a0:Int) (a1:Int) (A2:Option Addr) (c2:Nat) (l2:List Int) (r:Int) (w:World) (hr2:Kd.C (Kd.int .i64) w A2 l2.length l2) (hc2:l2.length≤c2) (h:spec_l06Code.f k a0 a1 l2=some r):
    Calls Try.prog 79 #[.int .i64 a0,.int .i64 a1,.slice A2 l2.length c2] w fun e w'=>e=.returned (.int .i64 r)∧Drawn0 w w':=by
  have HR2:=qAm hr2;have HC2:=qAm hc2;clear hr2 hc2;have H:((spec_l06Prime.f k a0).bind fun t201=>(if t201=true then ((spec_l01In.f a1 1 12).bind fun t202=>(if t202=true then (if a1=0 then (none) else (spec_l06Code.j0 k a1 l2 ((Int.tmod (wrap64 (a0 - 1)) a1) !=0))) else (spec_l06Code.j0 k a1 l2 true))) else (spec_l06Code.j0 k a1 l2 true)))=some r:=h;clear h;have HC4:=qAm H;clear H;go_enter Try.func79,Try.ntmps79;go_upto_region 1 with (fail)
  go_cut [22] (fun v22 wc=>∃(kq:Nat) (x22_3:Bool),v22=.bool x22_3∧Aside0 (spec_l06Code.j0 kq a1 l2 x22_3=some r)∧Aside0 (kq≤k)∧Drawn0 w wc)
  case first=>
    have H:=HC4.1;clear HC4;replace H:=qOb H;obtain⟨t201,A50,H⟩:=H;replace H:(if t201=true then ((spec_l01In.f a1 1 12).bind fun t202=>(if t202=true then (if a1=0 then (none) else (spec_l06Code.j0 k a1 l2 ((Int.tmod (wrap64 (a0 - 1)) a1) !=0))) else (spec_l06Code.j0 k a1 l2 true))) else (spec_l06Code.j0 k a1 l2 true))=some r:=H;have A5:=qAm A50;clear A50
    by_cases c6:t201=true
    · subst c6
      have H1:((spec_l01In.f a1 1 12).bind fun t202=>(if t202=true then (if a1=0 then (none) else (spec_l06Code.j0 k a1 l2 ((Int.tmod (wrap64 (a0 - 1)) a1) !=0))) else (spec_l06Code.j0 k a1 l2 true)))=some r:=by rw [if_pos rfl] at H;exact H
      clear H;have H:=H1;clear H1;replace H:=qOb H;obtain⟨t202,A70,H⟩:=H;replace H:(if t202=true then (if a1=0 then (none) else (spec_l06Code.j0 k a1 l2 ((Int.tmod (wrap64 (a0 - 1)) a1) !=0))) else (spec_l06Code.j0 k a1 l2 true))=some r:=H;have A7:=qAm A70;clear A70
      by_cases c8:t202=true
      · subst c8
        have H1:(if a1=0 then (none) else (spec_l06Code.j0 k a1 l2 ((Int.tmod (wrap64 (a0 - 1)) a1) !=0)))=some r:=by rw [if_pos rfl] at H;exact H
        clear H;have H:=H1;clear H1
        by_cases c9:a1=0
        · rw [if_pos c9] at H
          exact absurd H (by simp)
        · rw [if_neg c9] at H
          have c9b0:(a1==0)=false:=beq_eq_false_iff_ne.mpr c9;have c9b1:(a1 !=0)=true:=bne_iff_ne.mpr c9
          (first|rw [c9b0]|(simp only [i64_w,i32_w];rw [c9b0])|skip)
          have H':=qAm H;clear H;go_wp2_with (first|((with_reducible refine gate_callee (f:=121) rfl ?_);refine goesL_ (some 9) rfl rfl Try.func121 (by kernel_rfl) rfl #[.int .i64 a0] rfl qB19 ?_;(with_reducible refine(spec_l06Prime.calls k a0 true _ A5.1).mono ?_);rintro e w' ⟨rfl,⟨nd,rfl⟩⟩;refine⟨_,rfl,?_⟩)|(go_at_call 83;(with_reducible refine(spec_l01In.calls a1 1 12 true _ A7.1).mono ?_);rintro e w' ⟨rfl,⟨nd,rfl⟩⟩));go_meet
          case rel=>exact⟨_,(((Int.tmod (wrap64 (a0 - 1)) a1) !=0)),qB57,H',⟨by first|omega|exact Nat.le_refl _⟩,by repeat(first|exact Drawn0.refl _|apply Drawn0.step)⟩
      · replace c8:=Bool.eq_false_iff.mpr c8
        subst c8;have H1:(spec_l06Code.j0 k a1 l2 true)=some r:=by rw [if_neg (show ¬(false=true) by decide)] at H;exact H
        clear H;have H:=H1;clear H1;have H':=qAm H;clear H;go_wp2_with (first|((with_reducible refine gate_callee (f:=121) rfl ?_);refine goesL_ (some 9) rfl rfl Try.func121 (by kernel_rfl) rfl #[.int .i64 a0] rfl qB19 ?_;(with_reducible refine(spec_l06Prime.calls k a0 true _ A5.1).mono ?_);rintro e w' ⟨rfl,⟨nd,rfl⟩⟩;refine⟨_,rfl,?_⟩)|(go_at_call 83;(with_reducible refine(spec_l01In.calls a1 1 12 false _ A7.1).mono ?_);rintro e w' ⟨rfl,⟨nd,rfl⟩⟩));go_meet
        case rel=>exact⟨_,(true),qB57,H',⟨by first|omega|exact Nat.le_refl _⟩,by repeat(first|exact Drawn0.refl _|apply Drawn0.step)⟩
    · replace c6:=Bool.eq_false_iff.mpr c6
      subst c6;have H1:(spec_l06Code.j0 k a1 l2 true)=some r:=by rw [if_neg (show ¬(false=true) by decide)] at H;exact H
      clear H;have H:=H1;clear H1;have H':=qAm H;clear H;go_wp2_with (first|((with_reducible refine gate_callee (f:=121) rfl ?_);refine goesL_ (some 9) rfl rfl Try.func121 (by kernel_rfl) rfl #[.int .i64 a0] rfl qB19 ?_;(with_reducible refine(spec_l06Prime.calls k a0 false _ A5.1).mono ?_);rintro e w' ⟨rfl,⟨nd,rfl⟩⟩;refine⟨_,rfl,?_⟩));go_meet
      case rel=>exact⟨_,(true),qB57,H',⟨by first|omega|exact Nat.le_refl _⟩,by repeat(first|exact Drawn0.refl _|apply Drawn0.step)⟩
  case rest=>
    clear HC4;try clear c1
    try clear c2
    try clear p2
    try clear c6
    try clear p6
    try clear c7
    try clear c8
    try clear c9
    try clear c9b0
    try clear c9b1
    obtain⟨kq,x22_3,rfl,HA,HJ3,⟨mc3,rfl⟩⟩:=hcut;cases kq with
    |zero=>exact absurd HA.1 (by simp [spec_l06Code.j0])
    |succ kj3=>
      have H:=HA.1;clear HA;simp only [spec_l06Code.j0] at H
      by_cases c10:x22_3=true
      · subst c10
        have H1:(some 2)=some r:=by rw [if_pos rfl] at H;exact H
        clear H;have H:=H1;clear H1;obtain rfl:=Option.some.inj H;go_wp2;go_ret;exact⟨by first|rfl|(simp;done)|(simp [*];done),by repeat(first|exact Drawn0.refl _|apply Drawn0.step)⟩
      · replace c10:=Bool.eq_false_iff.mpr c10
        subst c10;have H1:(spec_l06Code.l0 kj3 a1 l2 0)=some r:=by rw [if_neg (show ¬(false=true) by decide)] at H;exact H
        clear H;have H:=H1;clear H1;have H':=qAm H;clear H;go_wp2;try simp only [Act.put,qSa,qSc,qSb]
        go_loopg [7] kj3 (fun kq v7 w'=>∃(x7_2:Int),v7=.int .i64 x7_2∧Aside0 (spec_l06Code.l0 kq a1 l2 x7_2=some r)∧Aside0 (kq≤kj3)∧Drawn0 w w')
        case atStart=>exact⟨(0),qB57,H',⟨Nat.le_refl _⟩,by repeat(first|exact Drawn0.refl _|apply Drawn0.step)⟩
        case round=>
          clear H';try clear c1
          try clear c2
          try clear p2
          try clear c3
          try clear c6
          try clear p6
          try clear c7
          try clear c8
          try clear c9
          try clear c9b0
          try clear c9b1
          try clear c10
          try clear p2
          try clear p6
          obtain⟨x7_2,rfl,HA,HK2,⟨m2,rfl⟩⟩:=hrel;cases gk with
          |zero=>exact absurd HA.1 (by simp [spec_l06Code.l0])
          |succ k2=>
            have H:=HA.1;clear HA;simp only [spec_l06Code.l0] at H
            by_cases c11:x7_2<(l2.length:Int)
            · rw [if_pos c11] at H
              have c11b0:decide (x7_2<(l2.length:Int))=true:=decide_eq_true c11;clear c11
              by_cases c12:0≤x7_2
              · rw [if_pos c12] at H
                have c12b0:decide (0≤x7_2)=true:=decide_eq_true c12;clear c12;replace H:=qOb H;obtain⟨t204,A130,H⟩:=H;replace H:(if t204=true then (spec_l06Code.l0 k2 a1 l2 (wrap64 (x7_2+1))) else (some 2))=some r:=H;have A13:=qAm A130;clear A130
                by_cases c14:t204=true
                · subst c14
                  have H1:(spec_l06Code.l0 k2 a1 l2 (wrap64 (x7_2+1)))=some r:=by rw [if_pos rfl] at H;exact H
                  clear H;have H:=H1;clear H1;have H':=qAm H;clear H;have p203:0≤(x7_2:Int):=of_decide_eq_true qB56;have q203:x7_2<(l2.length:Int):=of_decide_eq_true qB56;obtain⟨ad203,e203,hx203_0⟩:=Kd.at_int HR2.1 x7_2 p203 q203;cases e203
                  replace p203:=eq_true p203;replace q203:=eq_true q203;go_wp2_with (first|((with_reducible refine gate_callee (f:=83) rfl ?_);refine goesL_ (some 35) rfl rfl Try.func83 (by kernel_rfl) rfl #[.int .i64 (rd l2 x7_2),.int .i64 0,.int .i64 (wrap64 (a1 - 1))] rfl qB19 ?_;(with_reducible refine(spec_l01In.calls (rd l2 x7_2) 0 (wrap64 (a1 - 1)) true _ A13.1).mono ?_);rintro e w' ⟨rfl,⟨nd,rfl⟩⟩;refine⟨_,rfl,?_⟩))
                  (first|go_roundg k2|((try simp only [add_plain] at *);go_roundg k2))
                  case measure=>have:=HJ3.1;have:=HK2.1;omega
                  case rel=>exact⟨(wrap64 (x7_2+1)),qB57,H',⟨by have:=HJ3.1;have:=HK2.1;omega⟩,by repeat(first|exact Drawn0.refl _|apply Drawn0.step)⟩
                · replace c14:=Bool.eq_false_iff.mpr c14
                  subst c14;have H1:(some 2)=some r:=by rw [if_neg (show ¬(false=true) by decide)] at H;exact H
                  clear H;have H:=H1;clear H1;obtain rfl:=Option.some.inj H;have p203:0≤(x7_2:Int):=of_decide_eq_true qB56;have q203:x7_2<(l2.length:Int):=of_decide_eq_true qB56;obtain⟨ad203,e203,hx203_0⟩:=Kd.at_int HR2.1 x7_2 p203 q203;cases e203
                  replace p203:=eq_true p203;replace q203:=eq_true q203;go_wp2_with (first|((with_reducible refine gate_callee (f:=83) rfl ?_);refine goesL_ (some 35) rfl rfl Try.func83 (by kernel_rfl) rfl #[.int .i64 (rd l2 x7_2),.int .i64 0,.int .i64 (wrap64 (a1 - 1))] rfl qB19 ?_;(with_reducible refine(spec_l01In.calls (rd l2 x7_2) 0 (wrap64 (a1 - 1)) false _ A13.1).mono ?_);rintro e w' ⟨rfl,⟨nd,rfl⟩⟩;refine⟨_,rfl,?_⟩));go_ret;exact⟨by first|rfl|(simp;done)|(simp [*];done),by repeat(first|exact Drawn0.refl _|apply Drawn0.step)⟩
              · rw [if_neg c12] at H
                exact absurd H (by simp)
            · rw [if_neg c11] at H
              have c11b0:decide (x7_2<(l2.length:Int))=false:=decide_eq_false c11;clear c11;obtain rfl:=Option.some.inj H;go_wp2;go_ret;exact⟨by first|rfl|(simp;done)|(simp [*];done),by repeat(first|exact Drawn0.refl _|apply Drawn0.step)⟩

/-! ### spec_l06Root: function 127 -/
mutual
def spec_l06Root.l0:Nat→Int→Int→Option (Int)
  |0,_,_=>none
  |k+1,x0,x3=>if x0=0 then (none) else (spec_l06Root.l1 k x0 x3 1 (Int.tmod x3 x0))
def spec_l06Root.l1:Nat→Int→Int→Int→Int→Option (Int)
  |0,_,_,_,_=>none
  |k+1,x0,x3,x4,x5=>if x5=1 then (if x4=(wrap64 (x0 - 1)) then (some x3) else (spec_l06Root.l0 k x0 (wrap64 (x3+1)))) else (if x0=0 then (none) else (spec_l06Root.l1 k x0 x3 (wrap64 (x4+1)) (Int.tmod (wrap64 (x5*x3)) x0)))
end
def spec_l06Root.f (k:Nat) (a0:Int):Option (Int):=spec_l06Root.l0 k a0 2
theorem spec_l06Root.mono_l:∀k,(∀y0 y1,LeO (spec_l06Root.l0 k y0 y1) (spec_l06Root.l0 (k+1) y0 y1))∧(∀y0 y1 y2 y3,LeO (spec_l06Root.l1 k y0 y1 y2 y3) (spec_l06Root.l1 (k+1) y0 y1 y2 y3))
  |0=>⟨fun _ _ r h=>by simp [spec_l06Root.l0] at h,fun _ _ _ _ r h=>by simp [spec_l06Root.l1] at h⟩
  |k+1=>by
    obtain⟨ih0,ih1⟩:=spec_l06Root.mono_l k;refine⟨?_,?_⟩
    · intro y0 y1
      unfold spec_l06Root.l0;repeat' first
      |(with_reducible exact ih0 _ _)
      |(with_reducible exact ih1 _ _ _ _)
      |(with_reducible exact LeO.refl _)
      |(with_reducible exact LeO.none _)
      |(with_reducible refine LeO.ite ?_ ?_)
      |(with_reducible refine LeO.bind ?_ (fun _=>?_))
      |exact ih0 _ _
      |exact ih1 _ _ _ _
      |exact LeO.none _
      |refine LeO.ite ?_ ?_
      |refine LeO.bind ?_ (fun _=>?_)
    · intro y0 y1 y2 y3
      unfold spec_l06Root.l1;repeat' first
      |(with_reducible exact ih0 _ _)
      |(with_reducible exact ih1 _ _ _ _)
      |(with_reducible exact LeO.refl _)
      |(with_reducible exact LeO.none _)
      |(with_reducible refine LeO.ite ?_ ?_)
      |(with_reducible refine LeO.bind ?_ (fun _=>?_))
      |exact ih0 _ _
      |exact ih1 _ _ _ _
      |exact LeO.none _
      |refine LeO.ite ?_ ?_
      |refine LeO.bind ?_ (fun _=>?_)
theorem spec_l06Root.mono:∀a0 k,LeO (spec_l06Root.f k a0) (spec_l06Root.f (k+1) a0):=by
  intro a0 k;obtain⟨ih0,ih1⟩:=spec_l06Root.mono_l k;unfold spec_l06Root.f;repeat' first
      |(with_reducible exact ih0 _ _)
      |(with_reducible exact ih1 _ _ _ _)
      |(with_reducible exact LeO.refl _)
      |(with_reducible exact LeO.none _)
      |(with_reducible refine LeO.ite ?_ ?_)
      |(with_reducible refine LeO.bind ?_ (fun _=>?_))
      |exact ih0 _ _
      |exact ih1 _ _ _ _
      |exact LeO.none _
      |refine LeO.ite ?_ ?_
      |refine LeO.bind ?_ (fun _=>?_)
set_option maxHeartbeats 8000000 in
set_option maxRecDepth 100000 in
theorem spec_l06Root.calls (k:Nat) (a0:Int) (r:Int) (w:World) (h:spec_l06Root.f k a0=some r):
    Calls Try.prog 127 #[.int .i64 a0] w fun e w'=>e=.returned (.int .i64 r)∧Drawn0 w w':=by
  have H:(spec_l06Root.l0 k a0 2)=some r:=h;clear h;have H':=qAm H;clear H;go_enter Try.func127,Try.ntmps127;go_wp2;try simp only [Act.put,qSa,qSc,qSb]
  go_loopg [3] k (fun kq v3 w'=>∃(x3_1:Int),v3=.int .i64 x3_1∧Aside0 (spec_l06Root.l0 kq a0 x3_1=some r)∧Aside0 (kq≤k)∧Drawn0 w w')
  case atStart=>exact⟨(2),qB57,H',⟨Nat.le_refl _⟩,by repeat(first|exact Drawn0.refl _|apply Drawn0.step)⟩
  case round=>
    clear H';try clear c1
    obtain⟨x3_1,rfl,HA,HK1,⟨m1,rfl⟩⟩:=hrel;cases gk with
    |zero=>exact absurd HA.1 (by simp [spec_l06Root.l0])
    |succ k1=>
      have H:=HA.1;clear HA;simp only [spec_l06Root.l0] at H
      by_cases c2:a0=0
      · rw [if_pos c2] at H
        exact absurd H (by simp)
      · rw [if_neg c2] at H
        have c2b0:(a0==0)=false:=beq_eq_false_iff_ne.mpr c2;have c2b1:(a0 !=0)=true:=bne_iff_ne.mpr c2;have H':=qAm H;clear H;go_wp2;try simp only [Act.put,qSa,qSc,qSb]
        go_loopg [4,5] k1 (fun kq v4 v5 w'=>∃(x4_2:Int) (x5_2:Int),v4=.int .i64 x4_2∧v5=.int .i64 x5_2∧Aside0 (spec_l06Root.l1 kq a0 x3_1 x4_2 x5_2=some r)∧Aside0 (kq≤k1)∧Drawn0 w w')
        case atStart=>exact⟨(1),(Int.tmod x3_1 a0),qB57,qB57,H',⟨Nat.le_refl _⟩,by repeat(first|exact Drawn0.refl _|apply Drawn0.step)⟩
        case round=>
          clear H';try clear c1
          try clear c2
          try clear c2b0
          try clear c2b1
          try clear p2
          obtain⟨x4_2,x5_2,rfl,rfl,HA,HK2,⟨m2,rfl⟩⟩:=hrel;cases gk with
          |zero=>exact absurd HA.1 (by simp [spec_l06Root.l1])
          |succ k2=>
            have H:=HA.1;clear HA;simp only [spec_l06Root.l1] at H
            by_cases c3:x5_2=1
            · rw [if_pos c3] at H
              have c3b0:(x5_2==1)=true:=beq_iff_eq.mpr c3;have c3b1:(x5_2 !=1)=false:=bne_eq_false_iff_eq.mpr c3;clear c3
              by_cases c4:x4_2=(wrap64 (a0 - 1))
              · rw [if_pos c4] at H
                have c4b0:(x4_2==(wrap64 (a0 - 1)))=true:=beq_iff_eq.mpr c4;have c4b1:(x4_2 !=(wrap64 (a0 - 1)))=false:=bne_eq_false_iff_eq.mpr c4;clear c4;obtain rfl:=Option.some.inj H;go_wp2;go_ret;exact⟨by first|rfl|(simp;done)|(simp [*];done),by repeat(first|exact Drawn0.refl _|apply Drawn0.step)⟩
              · rw [if_neg c4] at H
                have c4b0:(x4_2==(wrap64 (a0 - 1)))=false:=beq_eq_false_iff_ne.mpr c4;have c4b1:(x4_2 !=(wrap64 (a0 - 1)))=true:=bne_iff_ne.mpr c4;have H':=qAm H;clear H;go_wp2
                (first|go_roundg k2|((try simp only [add_plain] at *);go_roundg k2))
                case measure=>have:=HK1.1;have:=HK2.1;omega
                case rel=>exact⟨(wrap64 (x3_1+1)),qB57,H',⟨by have:=HK1.1;have:=HK2.1;omega⟩,by repeat(first|exact Drawn0.refl _|apply Drawn0.step)⟩
            · rw [if_neg c3] at H
              have c3b0:(x5_2==1)=false:=beq_eq_false_iff_ne.mpr c3;have c3b1:(x5_2 !=1)=true:=bne_iff_ne.mpr c3
              by_cases c5:a0=0
              · rw [if_pos c5] at H
                exact absurd H (by simp)
              · rw [if_neg c5] at H
                have c5b0:(a0==0)=false:=beq_eq_false_iff_ne.mpr c5;have c5b1:(a0 !=0)=true:=bne_iff_ne.mpr c5;have H':=qAm H;clear H;go_wp2
                (first|go_roundg k2|((try simp only [add_plain] at *);go_roundg k2))
                case measure=>have:=HK1.1;have:=HK2.1;omega
                case rel=>exact⟨(wrap64 (x4_2+1)),(Int.tmod (wrap64 (x5_2*x3_1)) a0),qB57,qB57,H',⟨by have:=HK1.1;have:=HK2.1;omega⟩,by repeat(first|exact Drawn0.refl _|apply Drawn0.step)⟩

/-! ### spec_l06Indices: function 95 -/
def spec_l06Indices.l0:Nat→Int→List Int→Int→Int→Int→Option (List Int)
  |0,_,_,_,_,_=>none
  |k+1,x0,x3,x4,x5,x6=>if x6<(wrap64 (x0 - 1)) then (if 0≤x5 then (if x5<(x3.length:Int) then (if x0=0 then (none) else (spec_l06Indices.l0 k x0 (x3.set (x5:Int).toNat x6) x4 (Int.tmod (wrap64 (x5*x4)) x0) (wrap64 (x6+1)))) else (none)) else (none)) else (some x3)
def spec_l06Indices.f (k:Nat) (a0:Int):Option (List Int):=if 0≤a0 then (if (a0:Int).toNat≤35184372088832 then ((some (List.replicate (a0:Int).toNat 0:List Int)).bind fun y205=>((spec_l06Root.f k a0).bind fun t208=>(if 0<(y205.length:Int) then (spec_l06Indices.l0 k a0 (y205.set (0:Int).toNat (-1)) t208 1 0) else (none)))) else (none)) else (none)
theorem spec_l06Indices.mono_l:∀k,(∀y0 y1 y2 y3 y4,LeO (spec_l06Indices.l0 k y0 y1 y2 y3 y4) (spec_l06Indices.l0 (k+1) y0 y1 y2 y3 y4))
  |0=>fun _ _ _ _ _ r h=>by simp [spec_l06Indices.l0] at h
  |k+1=>by
    have ih0:=spec_l06Indices.mono_l k
    · intro y0 y1 y2 y3 y4
      unfold spec_l06Indices.l0;repeat' first
      |(with_reducible exact ih0 _ _ _ _ _)
      |(with_reducible exact spec_l06Root.mono _ _)
      |(with_reducible exact LeO.refl _)
      |(with_reducible exact LeO.none _)
      |(with_reducible refine LeO.ite ?_ ?_)
      |(with_reducible refine LeO.bind ?_ (fun _=>?_))
      |exact ih0 _ _ _ _ _
      |exact spec_l06Root.mono _ _
      |exact LeO.none _
      |refine LeO.ite ?_ ?_
      |refine LeO.bind ?_ (fun _=>?_)
theorem spec_l06Indices.mono:∀a0 k,LeO (spec_l06Indices.f k a0) (spec_l06Indices.f (k+1) a0):=by
  intro a0 k;have ih0:=spec_l06Indices.mono_l k;unfold spec_l06Indices.f;repeat' first
      |(with_reducible exact ih0 _ _ _ _ _)
      |(with_reducible exact spec_l06Root.mono _ _)
      |(with_reducible exact LeO.refl _)
      |(with_reducible exact LeO.none _)
      |(with_reducible refine LeO.ite ?_ ?_)
      |(with_reducible refine LeO.bind ?_ (fun _=>?_))
      |exact ih0 _ _ _ _ _
      |exact spec_l06Root.mono _ _
      |exact LeO.none _
      |refine LeO.ite ?_ ?_
      |refine LeO.bind ?_ (fun _=>?_)
set_option maxHeartbeats 8000000 in
set_option maxRecDepth 100000 in
theorem spec_l06Indices.calls (k:Nat) (a0:Int) (r:List Int) (w:World) (h:spec_l06Indices.f k a0=some r):
    Calls Try.prog 95 #[.int .i64 a0] w fun e w'=>∃v0_:Value,e=.returned (v0_)∧Kd.R (Kd.int .i64) 2 w' w.heap.size (fun _=>True) v0_ r∧Below w.heap.size w w':=by
  have HB:=qAm (Below.refl w.heap.size w);have H:(if 0≤a0 then (if (a0:Int).toNat≤35184372088832 then ((some (List.replicate (a0:Int).toNat 0:List Int)).bind fun y205=>((spec_l06Root.f k a0).bind fun t208=>(if 0<(y205.length:Int) then (spec_l06Indices.l0 k a0 (y205.set (0:Int).toNat (-1)) t208 1 0) else (none)))) else (none)) else (none))=some r:=h;clear h
  by_cases c2:0≤a0
  · rw [if_pos c2] at H
    have c2b0:=eq_true c2;have c2b1:decide (0≤a0)=true:=decide_eq_true c2;clear c2
    by_cases c3:(a0:Int).toNat≤35184372088832
    · rw [if_pos c3] at H
      have c3b0:=eq_true c3;have c3b1:decide ((a0:Int).toNat≤35184372088832)=true:=decide_eq_true c3;clear c3;obtain⟨y205,hy205⟩:∃y_:List Int,y_=(List.replicate (a0:Int).toNat 0):=⟨_,rfl⟩
      replace H:((spec_l06Root.f k a0).bind fun t208=>(if 0<(y205.length:Int) then (spec_l06Indices.l0 k a0 (y205.set (0:Int).toNat (-1)) t208 1 0) else (none)))=some r:=by first|(rw [hy205];with_reducible exact H)|(have H2_:=(Option.bind_some _ _).symm.trans H;rw [hy205];with_reducible exact H2_)|(have H2_:=(Option.bind_some _ _).symm.trans H;with_reducible exact H2_)|with_reducible exact H|(rw [hy205];exact H)|exact H
      have Ny205:=qAm hy205;clear hy205;replace H:=qOb H;obtain⟨t208,A40,H⟩:=H;replace H:(if 0<(y205.length:Int) then (spec_l06Indices.l0 k a0 (y205.set (0:Int).toNat (-1)) t208 1 0) else (none))=some r:=H;have A4:=qAm A40;clear A40
      by_cases c5:0<(y205.length:Int)
      · rw [if_pos c5] at H
        have c5b0:decide (0<(y205.length:Int))=true:=decide_eq_true c5;have c5b1:decide (0<y205.length)=true:=decide_eq_true (by omega);clear c5;obtain⟨y209,hy209⟩:∃y_:List Int,y_=(y205.set (0:Int).toNat (-1)):=⟨_,rfl⟩
        replace H:(spec_l06Indices.l0 k a0 y209 t208 1 0)=some r:=by first|(rw [hy209];with_reducible exact H)|(have H2_:=(Option.bind_some _ _).symm.trans H;rw [hy209];with_reducible exact H2_)|(have H2_:=(Option.bind_some _ _).symm.trans H;with_reducible exact H2_)|with_reducible exact H|(rw [hy209];exact H)|exact H
        have Ny209:=qAm hy209;clear hy209;have H':=qAm H;clear H;go_enter Try.func95,Try.ntmps95;try go_wp2
        have n0_:=qAm (below_drew1 HB.1);clear HB;have HB:=n0_;clear n0_;refine start_ (n:=7) (S:=fun w'=>True) (ds:=[]) #[false,false,false,false,false,false,false] (by kernel_rfl) rfl rfl trivial (fun hHeld=>?_);generalize w.drew=w7 at HB hHeld ⊢;refine pure_ (i:=0) (N:=some 7) (v:=?_) (a':=?_) #[true,false,false,false,false,false,false] rfl rfl (by kernel_rfl) (fun _ _ _ h=>h) (Or.inl ⟨by rfl,?_⟩) ?_ ?_;rotate_left
        · intro w'
          go_simp;with_reducible rfl
        rotate_left
        · simp only [Act.put,qSa,qSb,qSc,i64_w,i32_w]
          rfl
        refine pure_ (i:=2) (N:=some 9) (v:=?_) (a':=?_) #[true,false,true,false,false,false,false] rfl rfl (by kernel_rfl) (fun _ _ _ h=>h) (Or.inl ⟨by rfl,?_⟩) ?_ ?_;rotate_left
        · intro w'
          go_simp;with_reducible rfl
        rotate_left
        · simp only [Act.put,qSa,qSb,qSc,i64_w,i32_w]
          rfl
        refine join_ (σ:=Value) 3 #[true,true,true,true,false,false,false] (fun s_=>[(8,s_),(10,.int .i64 t208)]) (fun s_ w'=>(Kd.R (Kd.int .i64) 2 w' w.heap.size (fun _=>True) s_ y205)∧(Below w.heap.size w w')) ?_ ?_;rotate_left
        · intro hCont
          refine two_ (i:=1) (j:=3) (Ni:=some 8) (Nj:=some 10) #[true,true,true,false,false,false,false] #[true,false,true,true,false,false,false] rfl rfl rfl rfl (by kernel_rfl) (by decide) (by decide) (fun K hK=>?_) (fun K hK=>?_)
          · skip
            refine Kd.R_make_step (Kd.int .i64) _ 2 (by rfl) (N:=8) rfl 22 _ _ rfl a0 rfl rfl Try.underlying22 (.int .i64 0) 8 info2 rfl (by decide) (by omega) 0 (ok:=fun _=>True) (okp:=fun _=>True) rfl (fun _ hk=>hk) trivial (of_decide_eq_true qB56) (Nat.le_trans (Nat.mul_le_mul_right _ (of_decide_eq_true qB56:a0.toNat≤35184372088832)) (by omega)) (Below.refl _ _) (Nat.le_refl _) ?_;intro v206 w8 ho9 hb hg_ hnew_;clear hg_ hnew_
            (first|rw [← Ny205.1] at ho9|(simp only [Int.reduceToNat] at ho9;rw [← Ny205.1] at ho9))
            have n0_:=qAm (Kd.R_lower ho9 (below_size qB23));have n1_:=qAm (below_step qB23 hb);clear HB;have HO207:=n0_;have HB:=n1_;clear n0_ n1_ hb ho9;refine hK.out _ _ trivial (fun hHeld=>?_);clear hK K;refine norm_ (a':=?_) ?_ ?_;rotate_left
            · show Act.put _ (some 8) _=_
              simp only [Act.put,qSa,qSb,qSc,i64_w,i32_w];rfl
            refine one_ (i:=3) (N:=some 10) #[true,true,true,true,false,false,false] rfl rfl (by kernel_rfl) (by decide) (fun K hK=>?_);refine goes_ Try.func127 (by kernel_rfl) rfl #[.int .i64 a0] (by rfl) rfl rfl qB19 ?_;with_reducible refine(spec_l06Root.calls k a0 t208 _ A4.1).mono ?_
            rintro e w' ⟨rfl,⟨nd,rfl⟩⟩;refine⟨_,rfl,?_⟩;refine hK.out _ _ trivial (fun hHeld=>?_);clear hK K;refine norm_ (a':=?_) ?_ ?_;rotate_left
            · show Act.put _ (some 10) _=_
              simp only [Act.put,qSa,qSb,qSc,i64_w,i32_w];rfl
            exact norm_ qB53 (hCont (v206) _ ⟨qB31,qB23⟩)
          · skip
            refine goes_ Try.func127 (by kernel_rfl) rfl #[.int .i64 a0] (by rfl) rfl rfl qB19 ?_;with_reducible refine(spec_l06Root.calls k a0 t208 _ A4.1).mono ?_
            rintro e w' ⟨rfl,⟨nd,rfl⟩⟩;refine⟨_,rfl,?_⟩;refine hK.out _ _ trivial (fun hHeld=>?_);clear hK K;refine norm_ (a':=?_) ?_ ?_;rotate_left
            · show Act.put _ (some 10) _=_
              simp only [Act.put,qSa,qSb,qSc,i64_w,i32_w];rfl
            refine one_ (i:=1) (N:=some 8) #[true,true,true,true,false,false,false] rfl rfl (by kernel_rfl) (by decide) (fun K hK=>?_);refine Kd.R_make_step (Kd.int .i64) _ 2 (by rfl) (N:=8) rfl 22 _ _ rfl a0 rfl rfl Try.underlying22 (.int .i64 0) 8 info2 rfl (by decide) (by omega) 0 (ok:=fun _=>True) (okp:=fun _=>True) rfl (fun _ hk=>hk) trivial (of_decide_eq_true qB56) (Nat.le_trans (Nat.mul_le_mul_right _ (of_decide_eq_true qB56:a0.toNat≤35184372088832)) (by omega)) (Below.refl _ _) (Nat.le_refl _) ?_;intro v206 w8 ho9 hb hg_ hnew_;clear hg_ hnew_
            (first|rw [← Ny205.1] at ho9|(simp only [Int.reduceToNat] at ho9;rw [← Ny205.1] at ho9))
            have n0_:=qAm (Kd.R_lower ho9 (below_size qB23));have n1_:=qAm (below_step qB23 hb);clear HB;have HO207:=n0_;have HB:=n1_;clear n0_ n1_ hb ho9;refine hK.out _ _ trivial (fun hHeld=>?_);clear hK K;refine norm_ (a':=?_) ?_ ?_;rotate_left
            · show Act.put _ (some 8) _=_
              simp only [Act.put,qSa,qSb,qSc,i64_w,i32_w];rfl
            exact norm_ qB53 (hCont (v206) _ ⟨qB31,qB23⟩)
        rintro v206 w10 ⟨h0_,h1_⟩;have n0_:Aside0 (Kd.R (Kd.int .i64) 2 w10 w.heap.size (fun _=>True) v206 y205):=⟨h0_⟩
        have n1_:Aside0 (Below w.heap.size w w10):=⟨h1_⟩
        clear HB h0_ h1_;have HO207:=n0_;have HB:=n1_;clear n0_ n1_;have hHeld:=trivial;refine norm_ (a':=?_) ?_ ?_;rotate_left
        · simp only [putAll,Act.put,qSa,qSb,qSc]
          rfl
        refine pure_ (i:=4) (N:=some 3) (v:=?_) (a':=?_) #[true,true,true,true,true,false,false] rfl rfl (by kernel_rfl) (fun _ _ _ h=>h) (Or.inl ⟨by rfl,?_⟩) ?_ ?_;rotate_left
        · intro w'
          go_simp;with_reducible rfl
        rotate_left
        · simp only [Act.put,qSa,qSb,qSc,i64_w,i32_w]
          rfl
        refine pure_ (i:=5) (N:=some 4) (v:=?_) (a':=?_) #[true,true,true,true,true,true,false] rfl rfl (by kernel_rfl) (fun _ _ _ h=>h) (Or.inl ⟨by rfl,?_⟩) ?_ ?_;rotate_left
        · intro w'
          go_simp;with_reducible rfl
        rotate_left
        · simp only [Act.put,qSa,qSb,qSc,i64_w,i32_w]
          rfl
        refine pure_ (i:=6) (N:=some 5) (v:=?_) (a':=?_) #[true,true,true,true,true,true,true] rfl rfl (by kernel_rfl) (fun _ _ _ h=>h) (Or.inl ⟨by rfl,?_⟩) ?_ ?_;rotate_left
        · intro w'
          go_simp;with_reducible rfl
        rotate_left
        · simp only [Act.put,qSa,qSb,qSc,i64_w,i32_w]
          rfl
        refine done_ (by kernel_rfl) ?_;have p6:0≤(0:Int):=(by omega)
        have q6:(0:Int)<((y205.length:Int):Int):=of_decide_eq_true qB56;have qi6:(0<y205.length)=True:=eq_true (by omega);obtain⟨go6,co6,eo6,gb6,gl6,cl6,HG6⟩:=Kd.R_form HO207.1 (by omega)
        (first|cases eo6|(injection eo6 with ea_ en_ ec_;(first|subst ea_|(injection ea_ with ea_;subst ea_));subst ec_;clear en_))
        have GB6:=qAm gb6;have GG6:=qAm HG6;clear gb6 gl6 HG6;obtain⟨hx6_0,hf6_0⟩:=Kd.R_celln 0 HO207.1 (0:Int) p6 q6
        (try rw [show((0:Int)).toNat=0 from rfl] at hx6_0)
        (try simp only [Nat.reduceMul,Nat.zero_mul,Nat.zero_add,Nat.reduceAdd] at hx6_0)
        (try rw [show((0:Int)).toNat=0 from rfl] at hf6_0)
        (try simp only [Nat.reduceMul,Nat.zero_mul,Nat.zero_add,Nat.reduceAdd] at hf6_0)
        replace p6:=eq_true p6;replace q6:=eq_true q6;obtain⟨hy11_,hz11_⟩:=Kd.R_celln 0 HO207.1 (0:Int) (by omega) (of_decide_eq_true qB56)
        (try simp only [Int.reduceToNat,Int.toNat_zero,Int.toNat_ofNat,Nat.reduceMul,Nat.zero_mul,Nat.zero_add] at hy11_ hz11_)
        (try rw [show((0:Int)).toNat=0 from rfl] at hy11_)
        (try rw [show((0:Int)).toNat=0 from rfl] at hz11_)
        have HP11:=Kd.R_putg HO207.1 (0:Int) (-1);try go_wp2_with (first|((with_reducible refine gate_store (t:=2) (p:=12) rfl ?_);refine store_event (t:=2) (p:=12) (v:=?vo_w12) (w1:=(w10.setCell ⟨go6,(0:Int).toNat,none⟩ (.int .i64 (-1)))) ?hg ?ho ?hn ?hr ?_;(case ho=>rfl);(case hg=>rfl);(case hn=>rfl);(case hr=>first|(go_simp;done)|(go_simp;rfl));intro w12 hw;have hg:w10.grownBy w12 (some go6):=(by rw [hw];exact HP11.2);have hp_:Kd.R (Kd.int .i64) 2 w12 w.heap.size (fun _=>True) (.slice (some ⟨go6,0,none⟩) y205.length co6) y209:=(by rw [hw,Ny209.1];exact HP11.1);clear HP11;have n0_:=qAm (hp_);have n1_:=qAm ((by rw [hw];exact below_set (HB.1) GB6.1:Below w.heap.size w w12));clear HO207;clear HB;have HO207:=n0_;have HB:=n1_;clear n0_ n1_;clear hg hw hp_))
        try simp only [Act.put,qSa,qSc,qSb]
        go_loopg [5,6] k (fun kq v5 v6 w'=>∃(x3_1:List Int) (x5_1:Int) (x6_1:Int),v5=.int .i64 x5_1∧v6=.int .i64 x6_1∧Aside0 (spec_l06Indices.l0 kq a0 x3_1 t208 x5_1 x6_1=some r)∧Aside0 (kq≤k)∧Aside0 (Kd.R (Kd.int .i64) 2 w' w.heap.size (fun _=>True) (.slice (some ⟨go6,0,none⟩) y205.length co6) x3_1)∧Aside0 (Below w.heap.size w w'))
        case atStart=>exact⟨(y209),(1),(0),qB57,qB57,H',⟨Nat.le_refl _⟩,⟨by (with_reducible repeat(first|apply Kd.R_alloc|apply Kd.R_drewN|apply Kd.R_drew));exact HO207.1⟩,⟨by repeat(first|(with_reducible first|exact HB.1|apply below_alloc|apply pw_below_drewN|apply below_drew1)|exact HB.1)⟩⟩
        case round=>
          clear H';try clear c1
          try clear c2
          try clear c2b0
          try clear c2b1
          try clear p2
          try clear c3
          try clear c3b0
          try clear c3b1
          try clear c5
          try clear c5b0
          try clear c5b1
          try clear p6
          try clear q6
          try clear hx6
          try clear qi6
          try clear hf6
          try clear c9
          try clear c12
          try clear hx6_0
          try clear p6
          try clear q6
          obtain⟨x3_1,x5_1,x6_1,rfl,rfl,HA,HK1,HO_3,HB⟩:=hrel;have hl3_1:=(Kd.R_reads' HO_3.1).1;rw [hl3_1] at HO_3
          (try simp only [hl3_1])
          cases gk with
          |zero=>exact absurd HA.1 (by simp [spec_l06Indices.l0])
          |succ k1=>
            have H:=HA.1;clear HA;simp only [spec_l06Indices.l0] at H
            by_cases c13:x6_1<(wrap64 (a0 - 1))
            · rw [if_pos c13] at H
              have c13b0:decide (x6_1<(wrap64 (a0 - 1)))=true:=decide_eq_true c13;clear c13
              by_cases c14:0≤x5_1
              · rw [if_pos c14] at H
                have c14b0:decide (0≤x5_1)=true:=decide_eq_true c14;clear c14
                by_cases c15:x5_1<(x3_1.length:Int)
                · rw [if_pos c15] at H
                  have c15b0:decide (x5_1<(x3_1.length:Int))=true:=decide_eq_true c15;clear c15;obtain⟨y210,hy210⟩:∃y_:List Int,y_=(x3_1.set (x5_1:Int).toNat x6_1):=⟨_,rfl⟩
                  replace H:(if a0=0 then (none) else (spec_l06Indices.l0 k1 a0 y210 t208 (Int.tmod (wrap64 (x5_1*t208)) a0) (wrap64 (x6_1+1))))=some r:=by first|(rw [hy210];with_reducible exact H)|(have H2_:=(Option.bind_some _ _).symm.trans H;rw [hy210];with_reducible exact H2_)|(have H2_:=(Option.bind_some _ _).symm.trans H;with_reducible exact H2_)|with_reducible exact H|(rw [hy210];exact H)|exact H
                  have Ny210:=qAm hy210;clear hy210
                  by_cases c17:a0=0
                  · rw [if_pos c17] at H
                    exact absurd H (by simp)
                  · rw [if_neg c17] at H
                    have c17b0:(a0==0)=false:=beq_eq_false_iff_ne.mpr c17;have c17b1:(a0 !=0)=true:=bne_iff_ne.mpr c17;have H':=qAm H;clear H;have p16:0≤(x5_1:Int):=of_decide_eq_true qB56;have q16:(x5_1:Int)<((x3_1.length:Int):Int):=of_decide_eq_true qB56;obtain⟨hx16_0,hf16_0⟩:=Kd.R_celln 0 HO_3.1 (x5_1:Int) p16 q16;replace p16:=eq_true p16;replace q16:=eq_true q16;have HP18:=Kd.R_putg HO_3.1 (x5_1:Int) x6_1;go_wp2_with (first|((with_reducible refine gate_store (t:=2) (p:=22) rfl ?_);refine store_event (t:=2) (p:=22) (v:=?vo_w19) (w1:=(wr.setCell ⟨go6,(x5_1:Int).toNat,none⟩ (.int .i64 x6_1))) ?hg ?ho ?hn ?hr ?_;(case ho=>rfl);(case hg=>rfl);(case hn=>rfl);(case hr=>first|(go_simp;done)|(go_simp;rfl));intro w19 hw;have hg:wr.grownBy w19 (some go6):=(by rw [hw];exact HP18.2);have hp_:Kd.R (Kd.int .i64) 2 w19 w.heap.size (fun _=>True) (.slice (some ⟨go6,0,none⟩) x3_1.length co6) y210:=(by rw [hw,Ny210.1];exact HP18.1);clear HP18;have n0_:=qAm (hp_);have n1_:=qAm ((by rw [hw];exact below_set (HB.1) GB6.1:Below w.heap.size w w19));clear HO_3;clear HB;have HO_3:=n0_;have HB:=n1_;clear n0_ n1_;clear hg hw hp_))
                    (try simp only [← hl3_1])
                    (first|go_roundg k1|((try simp only [add_plain] at *);go_roundg k1))
                    case measure=>have:=HK1.1;omega
                    case rel=>exact⟨(y210),(Int.tmod (wrap64 (x5_1*t208)) a0),(wrap64 (x6_1+1)),qB57,qB57,H',⟨by have:=HK1.1;omega⟩,⟨by (try simp only [hl3_1]);(with_reducible repeat(first|apply Kd.R_alloc|apply Kd.R_drewN|apply Kd.R_drew));exact HO_3.1⟩,⟨by repeat(first|(with_reducible first|exact HB.1|apply below_alloc|apply pw_below_drewN|apply below_drew1)|exact HB.1)⟩⟩
                · rw [if_neg c15] at H
                  exact absurd H (by simp)
              · rw [if_neg c14] at H
                exact absurd H (by simp)
            · rw [if_neg c13] at H
              have c13b0:decide (x6_1<(wrap64 (a0 - 1)))=false:=decide_eq_false c13;clear c13;obtain rfl:=Option.some.inj H;go_wp2;go_ret;exact⟨_,by first|rfl|(simp [errW_none,errW_some] <;> rfl)|(simp [*,errW_none,errW_some] <;> rfl),by (with_reducible repeat(first|apply Kd.R_alloc|apply Kd.R_drewN|apply Kd.R_drew));exact HO_3.1,by repeat(first|(with_reducible first|exact HB.1|apply below_alloc|apply pw_below_drewN|apply below_drew1)|exact HB.1)⟩
      · rw [if_neg c5] at H
        exact absurd H (by simp)
    · rw [if_neg c3] at H
      exact absurd H (by simp)
  · rw [if_neg c2] at H
    exact absurd H (by simp)

end Go.Proofs.Ytefhabkikaadiaa.PFnPeriods
