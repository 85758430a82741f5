/- The functions that the law reaches, as plain functions, each with the proof that the program comes to it; no condition. Written by a program of this session (wip/mp.py) over the printing of the kit; what is marked HAND is told by hand. -/
import Derived.Test.YtefhabkikaadiaaPFnExactOrthogonalSumx0
import Derived.Test.YtefhabkikaadiaaPFnExactOrthogonalSumx2
import Derived.Test.YtefhabkikaadiaaPFnExactOrthogonalSumx4
namespace Go.Proofs.Ytefhabkikaadiaa.PFnExactOrthogonalSum
open Go.RowKit Go.Proofs.YtefhabkikaadiaaW.PrintWords Go.Proofs.YtefhabkikaadiaaW.PrintLast Go.Proofs.YtefhabkikaadiaaW.PrintMore
attribute [local go_sem] max2_int min2_int max_two min_two max_three min_three max_four min_four   -- for this text's walks alone
set_option linter.unusedVariables false
set_option linter.unusedSimpArgs false

/-! ### spec_l03Period: function 146 -/
def spec_l03Period.l0:Nat→Int→Int→Int→Int→Option (Int)
 |0,_,_,_,_=>none
 |k+1,x0,x1,x5,x6=>if x5=1 then (some x6) else (if x0=0 then (none) else (spec_l03Period.l0 k x0 x1 (Int.tmod (wrap64 (x5*x1)) x0) (wrap64 (x6+1))))
def spec_l03Period.f (k:Nat) (a0:Int) (a1:Int):Option (Int):=spec_l03Period.l0 k a0 a1 a1 1
theorem spec_l03Period.mono_l:∀k,(∀y0 y1 y2 y3,LeO (spec_l03Period.l0 k y0 y1 y2 y3) (spec_l03Period.l0 (k+1) y0 y1 y2 y3))
 |0=>fun _ _ _ _ r h=>by simp [spec_l03Period.l0] at h
 |k+1=>by
  have ih0:=spec_l03Period.mono_l k
  ·intro y0 y1 y2 y3;unfold spec_l03Period.l0;repeat' first
   |(with_reducible exact ih0 _ _ _ _)
   |(with_reducible exact LeO.refl _)
   |(with_reducible exact LeO.none _)
   |(with_reducible refine LeO.ite ?_ ?_)
   |(with_reducible refine LeO.bind ?_ (fun _=>?_))
   |exact ih0 _ _ _ _
   |exact LeO.none _
   |refine LeO.ite ?_ ?_
   |refine LeO.bind ?_ (fun _=>?_)
theorem spec_l03Period.mono:∀a0 a1 k,LeO (spec_l03Period.f k a0 a1) (spec_l03Period.f (k+1) a0 a1):=by
 intro a0 a1 k;have ih0:=spec_l03Period.mono_l k;unfold spec_l03Period.f;repeat' first
   |(with_reducible exact ih0 _ _ _ _)
   |(with_reducible exact LeO.refl _)
   |(with_reducible exact LeO.none _)
   |(with_reducible refine LeO.ite ?_ ?_)
   |(with_reducible refine LeO.bind ?_ (fun _=>?_))
   |exact ih0 _ _ _ _
   |exact LeO.none _
   |refine LeO.ite ?_ ?_
   |refine LeO.bind ?_ (fun _=>?_)
set_option maxHeartbeats 8000000 in
set_option maxRecDepth 100000 in
theorem spec_l03Period.calls (k:Nat) (a0:Int) (a1:Int) (r:Int) (w:World) (h:spec_l03Period.f k a0 a1=some r):
  Calls Try.prog 146 #[.int .i64 a0,.int .i64 a1] w fun e w'=>e=.returned (.int .i64 r)∧Drawn0 w w':=by
 have H:(spec_l03Period.l0 k a0 a1 a1 1)=some r:=h;clear h;have H':=qAm H;clear H;go_enter Try.func146,Try.ntmps146;go_wp2;try simp only [Act.put,qSa,qSc,qSb]
 go_loopg [5,6] k (fun kq v5 v6 w'=>∃(x5_1:Int) (x6_1:Int),v5=.int .i64 x5_1∧v6=.int .i64 x6_1∧Aside0 (spec_l03Period.l0 kq a0 a1 x5_1 x6_1=some r)∧Aside0 (kq≤k)∧Drawn0 w w')
 case atStart=>exact⟨(a1),(1),qB178,qB178,H',⟨Nat.le_refl _⟩,by repeat(first|exact Drawn0.refl _|apply Drawn0.step)⟩
 case round=>
  clear H';try clear c1
  try clear p2
  obtain⟨x5_1,x6_1,rfl,rfl,HA,HK1,⟨m1,rfl⟩⟩:=hrel;cases gk with
  |zero=>exact absurd HA.1 (by simp [spec_l03Period.l0])
  |succ k1=>
   have H:=HA.1;clear HA;simp only [spec_l03Period.l0] at H
   by_cases c3:x5_1=1
   ·rw [if_pos c3] at H;have c3b0:(x5_1==1)=true:=beq_iff_eq.mpr c3;have c3b1:(x5_1 !=1)=false:=bne_eq_false_iff_eq.mpr c3;clear c3;obtain rfl:=Option.some.inj H;go_wp2;go_ret;exact⟨by first|rfl|(simp;done)|(simp [*];done),by repeat(first|exact Drawn0.refl _|apply Drawn0.step)⟩
   ·rw [if_neg c3] at H;have c3b0:(x5_1==1)=false:=beq_eq_false_iff_ne.mpr c3;have c3b1:(x5_1 !=1)=true:=bne_iff_ne.mpr c3
    by_cases c4:a0=0
    ·rw [if_pos c4] at H;exact absurd H (by simp)
    ·rw [if_neg c4] at H;have c4b0:(a0==0)=false:=beq_eq_false_iff_ne.mpr c4;have c4b1:(a0 !=0)=true:=bne_iff_ne.mpr c4;have H':=qAm H;clear H;go_wp2
     (first|go_roundg k1|((try simp only [add_plain] at *);go_roundg k1))
     case measure=>have:=HK1.1;omega
     case rel=>exact⟨(Int.tmod (wrap64 (x5_1*a1)) a0),(wrap64 (x6_1+1)),qB178,qB178,H',⟨by have:=HK1.1;omega⟩,by repeat(first|exact Drawn0.refl _|apply Drawn0.step)⟩

/-! ### spec_l03Root: function 143 -/
def spec_l03Root.l0:Nat→Int→Int→Option (Int)
 |0,_,_=>none
 |k+1,x0,x3=>(spec_l03Period.f k x0 x3).bind fun t230=>(if t230=(wrap64 (x0 - 1)) then (some x3) else (spec_l03Root.l0 k x0 (wrap64 (x3+1))))
def spec_l03Root.f (k:Nat) (a0:Int):Option (Int):=spec_l03Root.l0 k a0 1
theorem spec_l03Root.mono_l:∀k,(∀y0 y1,LeO (spec_l03Root.l0 k y0 y1) (spec_l03Root.l0 (k+1) y0 y1))
 |0=>fun _ _ r h=>by simp [spec_l03Root.l0] at h
 |k+1=>by
  have ih0:=spec_l03Root.mono_l k
  ·intro y0 y1;unfold spec_l03Root.l0;repeat' first
   |(with_reducible exact ih0 _ _)
   |(with_reducible exact spec_l03Period.mono _ _ _)
   |(with_reducible exact LeO.refl _)
   |(with_reducible exact LeO.none _)
   |(with_reducible refine LeO.ite ?_ ?_)
   |(with_reducible refine LeO.bind ?_ (fun _=>?_))
   |exact ih0 _ _
   |exact spec_l03Period.mono _ _ _
   |exact LeO.none _
   |refine LeO.ite ?_ ?_
   |refine LeO.bind ?_ (fun _=>?_)
theorem spec_l03Root.mono:∀a0 k,LeO (spec_l03Root.f k a0) (spec_l03Root.f (k+1) a0):=by
 intro a0 k;have ih0:=spec_l03Root.mono_l k;unfold spec_l03Root.f;repeat' first
   |(with_reducible exact ih0 _ _)
   |(with_reducible exact spec_l03Period.mono _ _ _)
   |(with_reducible exact LeO.refl _)
   |(with_reducible exact LeO.none _)
   |(with_reducible refine LeO.ite ?_ ?_)
   |(with_reducible refine LeO.bind ?_ (fun _=>?_))
   |exact ih0 _ _
   |exact spec_l03Period.mono _ _ _
   |exact LeO.none _
   |refine LeO.ite ?_ ?_
   |refine LeO.bind ?_ (fun _=>?_)
set_option maxHeartbeats 8000000 in
set_option maxRecDepth 100000 in
theorem spec_l03Root.calls (k:Nat) (a0:Int) (r:Int) (w:World) (h:spec_l03Root.f k a0=some r):
  Calls Try.prog 143 #[.int .i64 a0] w fun e w'=>e=.returned (.int .i64 r)∧Drawn0 w w':=by
 have H:(spec_l03Root.l0 k a0 1)=some r:=h;clear h;have H':=qAm H;clear H;go_enter Try.func143,Try.ntmps143;go_wp2;try simp only [Act.put,qSa,qSc,qSb]
 go_loopg [3] k (fun kq v3 w'=>∃(x3_1:Int),v3=.int .i64 x3_1∧Aside0 (spec_l03Root.l0 kq a0 x3_1=some r)∧Aside0 (kq≤k)∧Drawn0 w w')
 case atStart=>exact⟨(1),qB178,H',⟨Nat.le_refl _⟩,by repeat(first|exact Drawn0.refl _|apply Drawn0.step)⟩
 case round=>
  clear H';try clear c1
  obtain⟨x3_1,rfl,HA,HK1,⟨m1,rfl⟩⟩:=hrel;cases gk with
  |zero=>exact absurd HA.1 (by simp [spec_l03Root.l0])
  |succ k1=>
   have H:=HA.1;clear HA;simp only [spec_l03Root.l0] at H;replace H:=qOb H;obtain⟨t230,A20,H⟩:=H;replace H:(if t230=(wrap64 (a0 - 1)) then (some x3_1) else (spec_l03Root.l0 k1 a0 (wrap64 (x3_1+1))))=some r:=H;have A2:=qAm A20;clear A20
   by_cases c3:t230=(wrap64 (a0 - 1))
   ·rw [if_pos c3] at H;have c3b0:(t230==(wrap64 (a0 - 1)))=true:=beq_iff_eq.mpr c3;have c3b1:(t230 !=(wrap64 (a0 - 1)))=false:=bne_eq_false_iff_eq.mpr c3;clear c3;obtain rfl:=Option.some.inj H;go_wp2_with (first|((with_reducible refine gate_callee (f:=146) rfl ?_);refine goesL_ (some 6) rfl rfl Try.func146 (by kernel_rfl) rfl #[.int .i64 a0,.int .i64 x3_1] rfl qB90 ?_;(with_reducible refine(spec_l03Period.calls k1 a0 x3_1 t230 _ A2.1).mono ?_);rintro e w' ⟨rfl,⟨nd,rfl⟩⟩;refine⟨_,rfl,?_⟩));go_ret;exact⟨by first|rfl|(simp;done)|(simp [*];done),by repeat(first|exact Drawn0.refl _|apply Drawn0.step)⟩
   ·rw [if_neg c3] at H;have c3b0:(t230==(wrap64 (a0 - 1)))=false:=beq_eq_false_iff_ne.mpr c3;have c3b1:(t230 !=(wrap64 (a0 - 1)))=true:=bne_iff_ne.mpr c3;have H':=qAm H;clear H;go_wp2_with (first|((with_reducible refine gate_callee (f:=146) rfl ?_);refine goesL_ (some 6) rfl rfl Try.func146 (by kernel_rfl) rfl #[.int .i64 a0,.int .i64 x3_1] rfl qB90 ?_;(with_reducible refine(spec_l03Period.calls k1 a0 x3_1 t230 _ A2.1).mono ?_);rintro e w' ⟨rfl,⟨nd,rfl⟩⟩;refine⟨_,rfl,?_⟩))
    (first|go_roundg k1|((try simp only [add_plain] at *);go_roundg k1))
    case measure=>have:=HK1.1;omega
    case rel=>exact⟨(wrap64 (x3_1+1)),qB178,H',⟨by have:=HK1.1;omega⟩,by repeat(first|exact Drawn0.refl _|apply Drawn0.step)⟩

/-! ### spec_l03Index: function 138 -/
def spec_l03Index.l0:Nat→Int→Int→Int→Int→Int→Option (Int)
 |0,_,_,_,_,_=>none
 |k+1,x0,x1,x5,x6,x7=>if x6=x1 then (some x7) else (if x0=0 then (none) else (spec_l03Index.l0 k x0 x1 x5 (Int.tmod (wrap64 (x6*x5)) x0) (wrap64 (x7+1))))
def spec_l03Index.f (k:Nat) (a0:Int) (a1:Int):Option (Int):=(spec_l03Root.f k a0).bind fun t231=>(if a0=0 then (none) else (spec_l03Index.l0 k a0 (Int.tmod (wrap64 ((Int.tmod a1 a0)+a0)) a0) t231 1 0))
theorem spec_l03Index.mono_l:∀k,(∀y0 y1 y2 y3 y4,LeO (spec_l03Index.l0 k y0 y1 y2 y3 y4) (spec_l03Index.l0 (k+1) y0 y1 y2 y3 y4))
 |0=>fun _ _ _ _ _ r h=>by simp [spec_l03Index.l0] at h
 |k+1=>by
  have ih0:=spec_l03Index.mono_l k
  ·intro y0 y1 y2 y3 y4;unfold spec_l03Index.l0;repeat' first
   |(with_reducible exact ih0 _ _ _ _ _)
   |(with_reducible exact spec_l03Root.mono _ _)
   |(with_reducible exact LeO.refl _)
   |(with_reducible exact LeO.none _)
   |(with_reducible refine LeO.ite ?_ ?_)
   |(with_reducible refine LeO.bind ?_ (fun _=>?_))
   |exact ih0 _ _ _ _ _
   |exact spec_l03Root.mono _ _
   |exact LeO.none _
   |refine LeO.ite ?_ ?_
   |refine LeO.bind ?_ (fun _=>?_)
theorem spec_l03Index.mono:∀a0 a1 k,LeO (spec_l03Index.f k a0 a1) (spec_l03Index.f (k+1) a0 a1):=by
 intro a0 a1 k;have ih0:=spec_l03Index.mono_l k;unfold spec_l03Index.f;repeat' first
   |(with_reducible exact ih0 _ _ _ _ _)
   |(with_reducible exact spec_l03Root.mono _ _)
   |(with_reducible exact LeO.refl _)
   |(with_reducible exact LeO.none _)
   |(with_reducible refine LeO.ite ?_ ?_)
   |(with_reducible refine LeO.bind ?_ (fun _=>?_))
   |exact ih0 _ _ _ _ _
   |exact spec_l03Root.mono _ _
   |exact LeO.none _
   |refine LeO.ite ?_ ?_
   |refine LeO.bind ?_ (fun _=>?_)
set_option maxHeartbeats 8000000 in
set_option maxRecDepth 100000 in
theorem spec_l03Index.calls (k:Nat) (a0:Int) (a1:Int) (r:Int) (w:World) (h:spec_l03Index.f k a0 a1=some r):
  Calls Try.prog 138 #[.int .i64 a0,.int .i64 a1] w fun e w'=>e=.returned (.int .i64 r)∧Drawn0 w w':=by
 have H:((spec_l03Root.f k a0).bind fun t231=>(if a0=0 then (none) else (spec_l03Index.l0 k a0 (Int.tmod (wrap64 ((Int.tmod a1 a0)+a0)) a0) t231 1 0)))=some r:=h;clear h;replace H:=qOb H;obtain⟨t231,A30,H⟩:=H;replace H:(if a0=0 then (none) else (spec_l03Index.l0 k a0 (Int.tmod (wrap64 ((Int.tmod a1 a0)+a0)) a0) t231 1 0))=some r:=H;have A3:=qAm A30;clear A30
 by_cases c4:a0=0
 ·rw [if_pos c4] at H;exact absurd H (by simp)
 ·rw [if_neg c4] at H;have c4b0:(a0==0)=false:=beq_eq_false_iff_ne.mpr c4;have c4b1:(a0 !=0)=true:=bne_iff_ne.mpr c4;have H':=qAm H;clear H;go_enter Try.func138,Try.ntmps138;go_wp2_with (first|((with_reducible refine gate_callee (f:=143) rfl ?_);refine goesL_ (some 9) rfl rfl Try.func143 (by kernel_rfl) rfl #[.int .i64 a0] rfl qB90 ?_;(with_reducible refine(spec_l03Root.calls k a0 t231 _ A3.1).mono ?_);rintro e w' ⟨rfl,⟨nd,rfl⟩⟩;refine⟨_,rfl,?_⟩));try simp only [Act.put,qSa,qSc,qSb]
  go_loopg [6,7] k (fun kq v6 v7 w'=>∃(x6_1:Int) (x7_1:Int),v6=.int .i64 x6_1∧v7=.int .i64 x7_1∧Aside0 (spec_l03Index.l0 kq a0 (Int.tmod (wrap64 ((Int.tmod a1 a0)+a0)) a0) t231 x6_1 x7_1=some r)∧Aside0 (kq≤k)∧Drawn0 w w')
  case atStart=>exact⟨(1),(0),qB178,qB178,H',⟨Nat.le_refl _⟩,by repeat(first|exact Drawn0.refl _|apply Drawn0.step)⟩
  case round=>
   clear H';try clear c1
   try clear p2
   try clear c4
   try clear c4b0
   try clear c4b1
   obtain⟨x6_1,x7_1,rfl,rfl,HA,HK1,⟨m1,rfl⟩⟩:=hrel;cases gk with
   |zero=>exact absurd HA.1 (by simp [spec_l03Index.l0])
   |succ k1=>
    have H:=HA.1;clear HA;simp only [spec_l03Index.l0] at H
    by_cases c5:x6_1=(Int.tmod (wrap64 ((Int.tmod a1 a0)+a0)) a0)
    ·rw [if_pos c5] at H;have c5b0:(x6_1==(Int.tmod (wrap64 ((Int.tmod a1 a0)+a0)) a0))=true:=beq_iff_eq.mpr c5;have c5b1:(x6_1 !=(Int.tmod (wrap64 ((Int.tmod a1 a0)+a0)) a0))=false:=bne_eq_false_iff_eq.mpr c5;clear c5;obtain rfl:=Option.some.inj H;go_wp2;go_ret;exact⟨by first|rfl|(simp;done)|(simp [*];done),by repeat(first|exact Drawn0.refl _|apply Drawn0.step)⟩
    ·rw [if_neg c5] at H;have c5b0:(x6_1==(Int.tmod (wrap64 ((Int.tmod a1 a0)+a0)) a0))=false:=beq_eq_false_iff_ne.mpr c5;have c5b1:(x6_1 !=(Int.tmod (wrap64 ((Int.tmod a1 a0)+a0)) a0))=true:=bne_iff_ne.mpr c5
     by_cases c6:a0=0
     ·rw [if_pos c6] at H;exact absurd H (by simp)
     ·rw [if_neg c6] at H;have c6b0:(a0==0)=false:=beq_eq_false_iff_ne.mpr c6;have c6b1:(a0 !=0)=true:=bne_iff_ne.mpr c6;have H':=qAm H;clear H;go_wp2
      (first|go_roundg k1|((try simp only [add_plain] at *);go_roundg k1))
      case measure=>have:=HK1.1;omega
      case rel=>exact⟨(Int.tmod (wrap64 (x6_1*t231)) a0),(wrap64 (x7_1+1)),qB178,qB178,H',⟨by have:=HK1.1;omega⟩,by repeat(first|exact Drawn0.refl _|apply Drawn0.step)⟩

/-! ### spec_l03Exponent: function 116 -/
def spec_l03Exponent.f (k:Nat) (a0_0:Int) (a0_1:Int) (a0_2:Int) (a1:Int):Option (Int):=if a0_0=0 then (none) else (if (Int.tmod a1 a0_0)=0 then (some (-1)) else ((spec_l03Index.f k a0_0 a1).bind fun t233=>(if a0_1=0 then (none) else (some (Int.tmod (wrap64 (t233*a0_2)) a0_1)))))
theorem spec_l03Exponent.mono:∀a0 a1 a2 a3 k,LeO (spec_l03Exponent.f k a0 a1 a2 a3) (spec_l03Exponent.f (k+1) a0 a1 a2 a3):=by
 intro a0 a1 a2 a3 k;unfold spec_l03Exponent.f;repeat' first
   |(with_reducible exact spec_l03Index.mono _ _ _)
   |(with_reducible exact LeO.refl _)
   |(with_reducible exact LeO.none _)
   |(with_reducible refine LeO.ite ?_ ?_)
   |(with_reducible refine LeO.bind ?_ (fun _=>?_))
   |exact spec_l03Index.mono _ _ _
   |exact LeO.none _
   |refine LeO.ite ?_ ?_
   |refine LeO.bind ?_ (fun _=>?_)
set_option maxHeartbeats 8000000 in
set_option maxRecDepth 100000 in
theorem spec_l03Exponent.calls (k:Nat) (a0_0:Int) (a0_1:Int) (a0_2:Int) (a1:Int) (r:Int) (w:World) (h:spec_l03Exponent.f k a0_0 a0_1 a0_2 a1=some r):
  Calls Try.prog 116 #[.agg #[.int .i64 a0_0,.int .i64 a0_1,.int .i64 a0_2],.int .i64 a1] w fun e w'=>e=.returned (.int .i64 r)∧Below w.heap.size w w':=by
 have hu40:=Try.underlying40;have HB:=qAm (Below.refl w.heap.size w);have H:(if a0_0=0 then (none) else (if (Int.tmod a1 a0_0)=0 then (some (-1)) else ((spec_l03Index.f k a0_0 a1).bind fun t233=>(if a0_1=0 then (none) else (some (Int.tmod (wrap64 (t233*a0_2)) a0_1))))))=some r:=h;clear h
 by_cases c3:a0_0=0
 ·rw [if_pos c3] at H;exact absurd H (by simp)
 ·rw [if_neg c3] at H;have c3b0:(a0_0==0)=false:=beq_eq_false_iff_ne.mpr c3;have c3b1:(a0_0 !=0)=true:=bne_iff_ne.mpr c3
  by_cases c4:(Int.tmod a1 a0_0)=0
  ·rw [if_pos c4] at H;have c4b0:((Int.tmod a1 a0_0)==0)=true:=beq_iff_eq.mpr c4;have c4b1:((Int.tmod a1 a0_0) !=0)=false:=bne_eq_false_iff_eq.mpr c4;clear c4;obtain rfl:=Option.some.inj H;go_enter Try.func116,Try.ntmps116;go_wp2_with (first|((with_reducible refine gate_dst (N:=2) rfl ?_);refine box_event ?hg (N:=2) ?hd (cs:=#[.int .i64 a0_0,.int .i64 a0_1,.int .i64 a0_2]) (t:=40) ?hr ?_;(case hd=>rfl);(case hg=>rfl);(case hr=>first|(go_simp;done)|(go_simp;rfl));intro gb232 hg w5 hbox hb;have n0_:=qAm (below_step qB95 hb);have n1_:=qAm (hbox);have n2_:=qAm ((by rw [hg];exact(below_size qB95):w.heap.size≤gb232));have n3_:=qAm ((by rw [hg];exact(below_size qB95):w.heap.size≤gb232));clear HB;have HB:=n0_;have BK232:=n1_;have GW232:=n2_;have GE232:=n3_;clear n0_ n1_ n2_ n3_;clear hb hbox hg;have hcz6_0:w5.cell? ⟨gb232,0,none⟩=some (.int .i64 a0_0):=(blk_cell BK232.1 0).trans rfl;have hcz6_1:w5.cell? ⟨gb232,1,none⟩=some (.int .i64 a0_1):=(blk_cell BK232.1 1).trans rfl;have hcz6_2:w5.cell? ⟨gb232,2,none⟩=some (.int .i64 a0_2):=(blk_cell BK232.1 2).trans rfl;have hfz6_0:=blk_frozen BK232.1 0;have hfz6_1:=blk_frozen BK232.1 1;have hfz6_2:=blk_frozen BK232.1 2));repeat(go_quiet (first|((with_reducible refine gate_dst (N:=2) rfl ?_);refine box_event ?hg (N:=2) ?hd (cs:=#[.int .i64 a0_0,.int .i64 a0_1,.int .i64 a0_2]) (t:=40) ?hr ?_;(case hd=>rfl);(case hg=>rfl);(case hr=>first|(go_simp;done)|(go_simp;rfl));intro gb232 hg w5 hbox hb;have n0_:=qAm (below_step qB95 hb);have n1_:=qAm (hbox);have n2_:=qAm ((by rw [hg];exact(below_size qB95):w.heap.size≤gb232));have n3_:=qAm ((by rw [hg];exact(below_size qB95):w.heap.size≤gb232));clear HB;have HB:=n0_;have BK232:=n1_;have GW232:=n2_;have GE232:=n3_;clear n0_ n1_ n2_ n3_;clear hb hbox hg;have hcz6_0:w5.cell? ⟨gb232,0,none⟩=some (.int .i64 a0_0):=(blk_cell BK232.1 0).trans rfl;have hcz6_1:w5.cell? ⟨gb232,1,none⟩=some (.int .i64 a0_1):=(blk_cell BK232.1 1).trans rfl;have hcz6_2:w5.cell? ⟨gb232,2,none⟩=some (.int .i64 a0_2):=(blk_cell BK232.1 2).trans rfl;have hfz6_0:=blk_frozen BK232.1 0;have hfz6_1:=blk_frozen BK232.1 1;have hfz6_2:=blk_frozen BK232.1 2));try go_wp2_with (first|((with_reducible refine gate_dst (N:=2) rfl ?_);refine box_event ?hg (N:=2) ?hd (cs:=#[.int .i64 a0_0,.int .i64 a0_1,.int .i64 a0_2]) (t:=40) ?hr ?_;(case hd=>rfl);(case hg=>rfl);(case hr=>first|(go_simp;done)|(go_simp;rfl));intro gb232 hg w5 hbox hb;have n0_:=qAm (below_step qB95 hb);have n1_:=qAm (hbox);have n2_:=qAm ((by rw [hg];exact(below_size qB95):w.heap.size≤gb232));have n3_:=qAm ((by rw [hg];exact(below_size qB95):w.heap.size≤gb232));clear HB;have HB:=n0_;have BK232:=n1_;have GW232:=n2_;have GE232:=n3_;clear n0_ n1_ n2_ n3_;clear hb hbox hg;have hcz6_0:w5.cell? ⟨gb232,0,none⟩=some (.int .i64 a0_0):=(blk_cell BK232.1 0).trans rfl;have hcz6_1:w5.cell? ⟨gb232,1,none⟩=some (.int .i64 a0_1):=(blk_cell BK232.1 1).trans rfl;have hcz6_2:w5.cell? ⟨gb232,2,none⟩=some (.int .i64 a0_2):=(blk_cell BK232.1 2).trans rfl;have hfz6_0:=blk_frozen BK232.1 0;have hfz6_1:=blk_frozen BK232.1 1;have hfz6_2:=blk_frozen BK232.1 2)))
   go_ret;exact⟨by first|rfl|(simp [errW_none,errW_some] <;> rfl)|(simp [*,errW_none,errW_some] <;> rfl),by repeat(first|(with_reducible first|exact HB.1|apply below_alloc|apply pw_below_drewN|apply below_drew1|refine below_set ?_ GE232.1)|exact HB.1)⟩
  ·rw [if_neg c4] at H;have c4b0:((Int.tmod a1 a0_0)==0)=false:=beq_eq_false_iff_ne.mpr c4;have c4b1:((Int.tmod a1 a0_0) !=0)=true:=bne_iff_ne.mpr c4;replace H:=qOb H;obtain⟨t233,A70,H⟩:=H;replace H:(if a0_1=0 then (none) else (some (Int.tmod (wrap64 (t233*a0_2)) a0_1)))=some r:=H;have A7:=qAm A70;clear A70
   by_cases c8:a0_1=0
   ·rw [if_pos c8] at H;exact absurd H (by simp)
   ·rw [if_neg c8] at H;have c8b0:(a0_1==0)=false:=beq_eq_false_iff_ne.mpr c8;have c8b1:(a0_1 !=0)=true:=bne_iff_ne.mpr c8;obtain rfl:=Option.some.inj H;go_enter Try.func116,Try.ntmps116;go_wp2_with (first|((with_reducible refine gate_dst (N:=2) rfl ?_);refine box_event ?hg (N:=2) ?hd (cs:=#[.int .i64 a0_0,.int .i64 a0_1,.int .i64 a0_2]) (t:=40) ?hr ?_;(case hd=>rfl);(case hg=>rfl);(case hr=>first|(go_simp;done)|(go_simp;rfl));intro gb232 hg w9 hbox hb;have n0_:=qAm (below_step qB95 hb);have n1_:=qAm (hbox);have n2_:=qAm ((by rw [hg];exact(below_size qB95):w.heap.size≤gb232));have n3_:=qAm ((by rw [hg];exact(below_size qB95):w.heap.size≤gb232));clear HB;have HB:=n0_;have BK232:=n1_;have GW232:=n2_;have GE232:=n3_;clear n0_ n1_ n2_ n3_;clear hb hbox hg;have hcz10_0:w9.cell? ⟨gb232,0,none⟩=some (.int .i64 a0_0):=(blk_cell BK232.1 0).trans rfl;have hcz10_1:w9.cell? ⟨gb232,1,none⟩=some (.int .i64 a0_1):=(blk_cell BK232.1 1).trans rfl;have hcz10_2:w9.cell? ⟨gb232,2,none⟩=some (.int .i64 a0_2):=(blk_cell BK232.1 2).trans rfl;have hfz10_0:=blk_frozen BK232.1 0;have hfz10_1:=blk_frozen BK232.1 1;have hfz10_2:=blk_frozen BK232.1 2)|(go_at_call 138;(with_reducible refine(spec_l03Index.calls k a0_0 a1 t233 _ A7.1).mono ?_);rintro e w' ⟨rfl,⟨nd,rfl⟩⟩;(try first|exact⟨rfl,_,World.drewN_drewN _ _ _⟩|exact⟨rfl,_,Eq.trans (World.drewN_drewN _ _ _) (congrArg (World.drewN _) (Nat.add_assoc _ _ _))⟩)));repeat(go_quiet (first|((with_reducible refine gate_dst (N:=2) rfl ?_);refine box_event ?hg (N:=2) ?hd (cs:=#[.int .i64 a0_0,.int .i64 a0_1,.int .i64 a0_2]) (t:=40) ?hr ?_;(case hd=>rfl);(case hg=>rfl);(case hr=>first|(go_simp;done)|(go_simp;rfl));intro gb232 hg w9 hbox hb;have n0_:=qAm (below_step qB95 hb);have n1_:=qAm (hbox);have n2_:=qAm ((by rw [hg];exact(below_size qB95):w.heap.size≤gb232));have n3_:=qAm ((by rw [hg];exact(below_size qB95):w.heap.size≤gb232));clear HB;have HB:=n0_;have BK232:=n1_;have GW232:=n2_;have GE232:=n3_;clear n0_ n1_ n2_ n3_;clear hb hbox hg;have hcz10_0:w9.cell? ⟨gb232,0,none⟩=some (.int .i64 a0_0):=(blk_cell BK232.1 0).trans rfl;have hcz10_1:w9.cell? ⟨gb232,1,none⟩=some (.int .i64 a0_1):=(blk_cell BK232.1 1).trans rfl;have hcz10_2:w9.cell? ⟨gb232,2,none⟩=some (.int .i64 a0_2):=(blk_cell BK232.1 2).trans rfl;have hfz10_0:=blk_frozen BK232.1 0;have hfz10_1:=blk_frozen BK232.1 1;have hfz10_2:=blk_frozen BK232.1 2)|(go_at_call 138;(with_reducible refine(spec_l03Index.calls k a0_0 a1 t233 _ A7.1).mono ?_);rintro e w' ⟨rfl,⟨nd,rfl⟩⟩;(try first|exact⟨rfl,_,World.drewN_drewN _ _ _⟩|exact⟨rfl,_,Eq.trans (World.drewN_drewN _ _ _) (congrArg (World.drewN _) (Nat.add_assoc _ _ _))⟩)));try go_wp2_with (first|((with_reducible refine gate_dst (N:=2) rfl ?_);refine box_event ?hg (N:=2) ?hd (cs:=#[.int .i64 a0_0,.int .i64 a0_1,.int .i64 a0_2]) (t:=40) ?hr ?_;(case hd=>rfl);(case hg=>rfl);(case hr=>first|(go_simp;done)|(go_simp;rfl));intro gb232 hg w9 hbox hb;have n0_:=qAm (below_step qB95 hb);have n1_:=qAm (hbox);have n2_:=qAm ((by rw [hg];exact(below_size qB95):w.heap.size≤gb232));have n3_:=qAm ((by rw [hg];exact(below_size qB95):w.heap.size≤gb232));clear HB;have HB:=n0_;have BK232:=n1_;have GW232:=n2_;have GE232:=n3_;clear n0_ n1_ n2_ n3_;clear hb hbox hg;have hcz10_0:w9.cell? ⟨gb232,0,none⟩=some (.int .i64 a0_0):=(blk_cell BK232.1 0).trans rfl;have hcz10_1:w9.cell? ⟨gb232,1,none⟩=some (.int .i64 a0_1):=(blk_cell BK232.1 1).trans rfl;have hcz10_2:w9.cell? ⟨gb232,2,none⟩=some (.int .i64 a0_2):=(blk_cell BK232.1 2).trans rfl;have hfz10_0:=blk_frozen BK232.1 0;have hfz10_1:=blk_frozen BK232.1 1;have hfz10_2:=blk_frozen BK232.1 2)|(go_at_call 138;(with_reducible refine(spec_l03Index.calls k a0_0 a1 t233 _ A7.1).mono ?_);rintro e w' ⟨rfl,⟨nd,rfl⟩⟩;(try first|exact⟨rfl,_,World.drewN_drewN _ _ _⟩|exact⟨rfl,_,Eq.trans (World.drewN_drewN _ _ _) (congrArg (World.drewN _) (Nat.add_assoc _ _ _))⟩))))
    go_ret;exact⟨by first|rfl|(simp [errW_none,errW_some] <;> rfl)|(simp [*,errW_none,errW_some] <;> rfl),by repeat(first|(with_reducible first|exact HB.1|apply below_alloc|apply pw_below_drewN|apply below_drew1|refine below_set ?_ GE232.1)|exact HB.1)⟩

/-! ### spec_l01Unit: function 117 -/
def spec_l01Unit.f (k:Nat) (a0:Int) (a1:Int):Option (Int×List Int):=if a0=0 then (none) else (if 0≤(wrap64 ((Int.tmod (wrap64 ((Int.tmod a1 a0)+a0)) a0)+1)) then (if (wrap64 ((Int.tmod (wrap64 ((Int.tmod a1 a0)+a0)) a0)+1):Int).toNat≤35184372088832 then ((some (List.replicate (wrap64 ((Int.tmod (wrap64 ((Int.tmod a1 a0)+a0)) a0)+1):Int).toNat 0:List Int)).bind fun y235=>(if 0≤(Int.tmod (wrap64 ((Int.tmod a1 a0)+a0)) a0) then (if (Int.tmod (wrap64 ((Int.tmod a1 a0)+a0)) a0)<(y235.length:Int) then ((spec_l01Reduce.f k a0 (y235.set ((Int.tmod (wrap64 ((Int.tmod a1 a0)+a0)) a0):Int).toNat 1)).bind fun bt239=>(some (bt239.1,bt239.2))) else (none)) else (none))) else (none)) else (none))
theorem spec_l01Unit.mono:∀a0 a1 k,LeO (spec_l01Unit.f k a0 a1) (spec_l01Unit.f (k+1) a0 a1):=by
 intro a0 a1 k;unfold spec_l01Unit.f;repeat' first
   |(with_reducible exact spec_l01Reduce.mono _ _ _)
   |(with_reducible exact LeO.refl _)
   |(with_reducible exact LeO.none _)
   |(with_reducible refine LeO.ite ?_ ?_)
   |(with_reducible refine LeO.bind ?_ (fun _=>?_))
   |exact spec_l01Reduce.mono _ _ _
   |exact LeO.none _
   |refine LeO.ite ?_ ?_
   |refine LeO.bind ?_ (fun _=>?_)
set_option maxHeartbeats 8000000 in
set_option maxRecDepth 100000 in
theorem spec_l01Unit.calls (k:Nat) (a0:Int) (a1:Int) (r1:Int) (r2:List Int) (w:World) (h:spec_l01Unit.f k a0 a1=some (r1,r2)):
  Calls Try.prog 117 #[.int .i64 a0,.int .i64 a1] w fun e w'=>∃v1_:Value,e=.returned (.agg #[.int .i64 r1,v1_])∧Kd.R (Kd.int .i64) 2 w' w.heap.size (fun _=>True) v1_ r2∧Below w.heap.size w w':=by
 have hu28:=Try.underlying28;have HB:=qAm (Below.refl w.heap.size w);have H:(if a0=0 then (none) else (if 0≤(wrap64 ((Int.tmod (wrap64 ((Int.tmod a1 a0)+a0)) a0)+1)) then (if (wrap64 ((Int.tmod (wrap64 ((Int.tmod a1 a0)+a0)) a0)+1):Int).toNat≤35184372088832 then ((some (List.replicate (wrap64 ((Int.tmod (wrap64 ((Int.tmod a1 a0)+a0)) a0)+1):Int).toNat 0:List Int)).bind fun y235=>(if 0≤(Int.tmod (wrap64 ((Int.tmod a1 a0)+a0)) a0) then (if (Int.tmod (wrap64 ((Int.tmod a1 a0)+a0)) a0)<(y235.length:Int) then ((spec_l01Reduce.f k a0 (y235.set ((Int.tmod (wrap64 ((Int.tmod a1 a0)+a0)) a0):Int).toNat 1)).bind fun bt239=>(some (bt239.1,bt239.2))) else (none)) else (none))) else (none)) else (none)))=some (r1,r2):=h;clear h
 by_cases c3:a0=0
 ·rw [if_pos c3] at H;exact absurd H (by simp)
 ·rw [if_neg c3] at H;have c3b0:(a0==0)=false:=beq_eq_false_iff_ne.mpr c3;have c3b1:(a0 !=0)=true:=bne_iff_ne.mpr c3;obtain⟨ji4,hji4⟩:∃j_:Int,(wrap64 ((Int.tmod (wrap64 ((Int.tmod a1 a0)+a0)) a0)+1))=j_:=⟨_,rfl⟩
  replace H:(if 0≤(ji4) then (if (ji4:Int).toNat≤35184372088832 then ((some (List.replicate (ji4:Int).toNat 0:List Int)).bind fun y235=>(if 0≤(Int.tmod (wrap64 ((Int.tmod a1 a0)+a0)) a0) then (if (Int.tmod (wrap64 ((Int.tmod a1 a0)+a0)) a0)<(y235.length:Int) then ((spec_l01Reduce.f k a0 (y235.set ((Int.tmod (wrap64 ((Int.tmod a1 a0)+a0)) a0):Int).toNat 1)).bind fun bt239=>(some (bt239.1,bt239.2))) else (none)) else (none))) else (none)) else (none))=some (r1,r2):=by first|(rw [hji4] at H;exact H)|(simp only [hji4] at H ⊢;exact H)
  have hji4w:(IntKind.i64.wrap ((Int.tmod (wrap64 ((Int.tmod a1 a0)+a0)) a0)+1))=ji4:=(i64_w _).trans hji4
  by_cases c5:0≤(ji4)
  ·rw [if_pos c5] at H;have c5b0:=eq_true c5;have c5b1:decide (0≤(ji4))=true:=decide_eq_true c5;clear c5
   by_cases c6:(ji4:Int).toNat≤35184372088832
   ·rw [if_pos c6] at H;have c6b0:=eq_true c6;have c6b1:decide ((ji4:Int).toNat≤35184372088832)=true:=decide_eq_true c6;clear c6;obtain⟨y235,hy235⟩:∃y_:List Int,y_=(List.replicate (ji4:Int).toNat 0):=⟨_,rfl⟩
    replace H:(if 0≤(Int.tmod (wrap64 ((Int.tmod a1 a0)+a0)) a0) then (if (Int.tmod (wrap64 ((Int.tmod a1 a0)+a0)) a0)<(y235.length:Int) then ((spec_l01Reduce.f k a0 (y235.set ((Int.tmod (wrap64 ((Int.tmod a1 a0)+a0)) a0):Int).toNat 1)).bind fun bt239=>(some (bt239.1,bt239.2))) else (none)) else (none))=some (r1,r2):=by first|(rw [hy235];with_reducible exact H)|(have H2_:=(Option.bind_some _ _).symm.trans H;rw [hy235];with_reducible exact H2_)|(have H2_:=(Option.bind_some _ _).symm.trans H;with_reducible exact H2_)|with_reducible exact H|(rw [hy235];exact H)|exact H
    have Ny235:=qAm hy235;clear hy235;obtain⟨ji7,hji7⟩:∃j_:Int,(Int.tmod (wrap64 ((Int.tmod a1 a0)+a0)) a0)=j_:=⟨_,rfl⟩
    have hji4_ji7:(wrap64 (ji7+1))=ji4:=by rw [← hji7];exact hji4
    have hji4_ji7w:(IntKind.i64.wrap (ji7+1))=ji4:=(i64_w _).trans hji4_ji7;replace H:(if 0≤(ji7) then (if (ji7)<(y235.length:Int) then ((spec_l01Reduce.f k a0 (y235.set ((ji7):Int).toNat 1)).bind fun bt239=>(some (bt239.1,bt239.2))) else (none)) else (none))=some (r1,r2):=by first|(rw [hji7] at H;exact H)|(simp only [hji7] at H ⊢;exact H)
    by_cases c8:0≤(ji7)
    ·rw [if_pos c8] at H;have c8b0:decide (0≤(ji7))=true:=decide_eq_true c8;clear c8
     by_cases c9:(ji7)<(y235.length:Int)
     ·rw [if_pos c9] at H;have c9b0:decide ((ji7)<(y235.length:Int))=true:=decide_eq_true c9;clear c9;obtain⟨y238,hy238⟩:∃y_:List Int,y_=(y235.set ((ji7):Int).toNat 1):=⟨_,rfl⟩
      replace H:((spec_l01Reduce.f k a0 y238).bind fun bt239=>(some (bt239.1,bt239.2)))=some (r1,r2):=by first|(rw [hy238];with_reducible exact H)|(have H2_:=(Option.bind_some _ _).symm.trans H;rw [hy238];with_reducible exact H2_)|(have H2_:=(Option.bind_some _ _).symm.trans H;with_reducible exact H2_)|with_reducible exact H|(rw [hy238];exact H)|exact H
      have Ny238:=qAm hy238;clear hy238;replace H:=qOb H;obtain⟨⟨t239,t240⟩,A110,H⟩:=H;replace H:(some (t239,t240))=some (r1,r2):=H;have A11:=qAm A110;clear A110;simp only [Option.some.injEq,Prod.mk.injEq] at H;obtain⟨rfl,rfl⟩:=H;go_enter Try.func117,Try.ntmps117;go_wp2_with (first|((with_reducible refine gate_dst (N:=4) rfl ?_);refine box_event ?hg (N:=4) ?hd (cs:=#[.int .i64 0,.slice none 0 0]) (t:=28) ?hr ?_;(case hd=>rfl);(case hg=>rfl);(case hr=>first|(go_simp;done)|(go_simp;rfl));intro gb234 hg w12 hbox hb;have n0_:=qAm (below_step qB95 hb);have n1_:=qAm (hbox);have n2_:=qAm ((by rw [hg];exact(below_size qB95):w.heap.size≤gb234));have n3_:=qAm ((by rw [hg];exact(below_size qB95):w.heap.size≤gb234));clear HB;have HB:=n0_;have BK234:=n1_;have GW234:=n2_;have GE234:=n3_;clear n0_ n1_ n2_ n3_;clear hb hbox hg)|((with_reducible refine gate_dst (N:=15) rfl ?_);refine Kd.R_make (Kd.int .i64) _ 2 rfl (N:=15) rfl 22 _ _ rfl ji4 rfl rfl Try.underlying22 (.int .i64 0) 8 info2 rfl (by decide) (by omega) 0 (ok:=fun _=>True) (okp:=fun _=>True) rfl (fun _ hk=>hk) trivial (of_decide_eq_true qB177) (Nat.le_trans (Nat.mul_le_mul_right _ (of_decide_eq_true qB177:ji4.toNat≤35184372088832)) (by omega)) (Below.refl _ _) (Nat.le_refl _) ?_;intro v236 w13 ho14 hb hg_ hnew_;clear hg_ hnew_;(first|rw [← Ny235.1] at ho14|(simp only [Int.reduceToNat] at ho14;rw [← Ny235.1] at ho14));have n0_:=qAm (Kd.R_lower ho14 (below_size qB58));have n1_:=qAm (blk_below (g:=gb234) (o:=.cells #[.int .i64 0,.slice none 0 0] 28 (0,0)) qB112 hb);have n2_:=qAm (below_step qB58 hb);clear BK234;clear HB;have HO237:=n0_;have BK234:=n1_;have HB:=n2_;clear n0_ n1_ n2_;clear hb ho14;have p10:0≤((ji7):Int):=of_decide_eq_true qB177;have q10:((ji7):Int)<((y235.length:Int):Int):=of_decide_eq_true qB177;obtain⟨go10,co10,eo10,gb10,gl10,cl10,HG10⟩:=Kd.R_form HO237.1 (by omega);(first|cases eo10|(injection eo10 with ea_ en_ ec_;(first|subst ea_|(injection ea_ with ea_;subst ea_));subst ec_;clear en_));have GB10:=qAm gb10;have GG10:=qAm HG10;clear gb10 gl10 HG10;obtain⟨hx10_0,hf10_0⟩:=Kd.R_celln 0 HO237.1 ((ji7):Int) p10 q10;replace p10:=eq_true p10;replace q10:=eq_true q10;obtain⟨hy15_,hz15_⟩:=Kd.R_celln 0 HO237.1 ((ji7):Int) (of_decide_eq_true qB177) (of_decide_eq_true qB177);have HP15:=Kd.R_putg HO237.1 ((ji7):Int) 1)|((with_reducible refine gate_store (t:=2) (p:=18) rfl ?_);refine store_event (t:=2) (p:=18) (v:=?vo_w16) (w1:=(w13.setCell ⟨go10,((ji7):Int).toNat,none⟩ (.int .i64 1))) ?hg ?ho ?hn ?hr ?_;(case ho=>rfl);(case hg=>rfl);(case hn=>rfl);(case hr=>first|(go_simp;done)|(go_simp;rfl));intro w16 hw;have hg:w13.grownBy w16 (some go10):=(by rw [hw];exact HP15.2);have hp_:Kd.R (Kd.int .i64) 2 w16 w.heap.size (fun _=>True) (.slice (some ⟨go10,0,none⟩) y235.length co10) y238:=(by rw [hw,Ny238.1];exact HP15.1);clear HP15;have n0_:=qAm (blk_grown (g:=gb234) (o:=.cells #[.int .i64 0,.slice none 0 0] 28 (0,0)) qB112 hg (Kd.R_ne HO237.1 BK234.1 (by decide)));have n1_:=qAm (hp_);have n2_:=qAm ((by rw [hw];exact below_set (HB.1) GB10.1:Below w.heap.size w w16));clear BK234;clear HO237;clear HB;have BK234:=n0_;have HO237:=n1_;have HB:=n2_;clear n0_ n1_ n2_;clear hg hw hp_)|((with_reducible refine gate_callee (f:=134) rfl ?_);refine goesL_ (some 21) rfl rfl Try.func134 (by kernel_rfl) rfl #[.int .i64 a0,.slice (some ⟨go10,0,none⟩) y238.length co10] rfl (by (try simp only [List.map_toArray,List.map_cons,List.map_nil]);first|done|(rw [show y238.length=y235.length from (Kd.R_reads' HO237.1).1.symm] <;> rfl)|rfl|(simp only [List.length_drop,List.length_take];rfl)) ?_;(with_reducible refine(spec_l01Reduce.calls k a0 _ _ y238 t239 t240 _ ?side1 ?side2 A11.1).mono ?_);(case side1=>repeat(first|exact(Kd.R_reads' HO237.1).2.2|(with_reducible refine Kd.C_alloc ?_ _)|(with_reducible refine Kd.C_drewN ?_ _)|(with_reducible refine Kd.C_drew ?_)));(case side2=>rw [show y238.length=y235.length from (Kd.R_reads' HO237.1).1.symm];exact(Kd.R_reads' HO237.1).2.1);rintro e w17 ⟨v241,rfl,ho0,hb⟩;refine⟨_,rfl,?_⟩;have n0_:=qAm (Kd.R_elder' qB154 (Kd.R_base ho0) hb);have n1_:=qAm (Kd.R_lower (Kd.R_new' ho0 (Kd.R_lt qB154)) (below_size qB58));have n2_:=qAm (blk_below (g:=gb234) (o:=.cells #[.int .i64 0,.slice none 0 0] 28 (0,0)) qB112 hb);have n3_:=qAm (below_step qB58 hb);clear HO237;clear BK234;clear HB;have HO237:=n0_;have HO242:=n1_;have BK234:=n2_;have HB:=n3_;clear n0_ n1_ n2_ n3_;(try clear hb);(try clear hb2);(try clear hk);(try clear hi);(try clear ho0);have hcz18_0:w17.cell? ⟨gb234,0,none⟩=some (.int .i64 0):=(blk_cell BK234.1 0).trans rfl;have hcz18_1:w17.cell? ⟨gb234,1,none⟩=some (.slice none 0 0):=(blk_cell BK234.1 1).trans rfl;have hfz18_0:=blk_frozen BK234.1 0;have hfz18_1:=blk_frozen BK234.1 1;obtain⟨Ao19,co19,eo19⟩:=Kd.R_slice HO242.1;subst eo19));refine bodyPost_ret (results_cell_row rfl _ _ gb234 28 #[.int .i64 t239,.slice Ao19 t240.length co19] (0,0) _ rfl (by (with_reducible repeat(first|refine blk_drewN ?_ _|refine blk_drew ?_|refine blk_alloc ?_ _));refine blk_put (cs:=#[.int .i64 t239,.slice none 0 0]) ?_ 1 _ rfl;(with_reducible repeat(first|refine blk_drewN ?_ _|refine blk_drew ?_|refine blk_alloc ?_ _));refine blk_put (cs:=#[.int .i64 0,.slice none 0 0]) ?_ 0 _ rfl;(with_reducible repeat(first|refine blk_drewN ?_ _|refine blk_drew ?_|refine blk_alloc ?_ _));exact BK234.1) Try.underlying28 rfl (by kernel_rfl)) rfl ?_;exact⟨_,by first|rfl|(simp [errW_none,errW_some] <;> rfl)|(simp only [← hji4,← hji7];first|rfl|(simp [errW_none,errW_some] <;> rfl))|(simp [*,errW_none,errW_some] <;> rfl),by (with_reducible repeat(first|apply Kd.R_alloc|apply Kd.R_drewN|apply Kd.R_drew));exact Kd.R_mono (Kd.R_far (p:=⟨gb234,1,none⟩) (Kd.R_far (p:=⟨gb234,0,none⟩) (Kd.R_types HO242.1 BK234.1 (by decide)) (fun _ hk=>hk.2) (.int .i64 t239)) (fun _ hk=>hk.2) (.slice Ao19 t240.length co19)) (fun _ hk=>trivial),by repeat(first|(with_reducible first|exact HB.1|apply below_alloc|apply pw_below_drewN|apply below_drew1|refine below_set ?_ GE234.1)|exact HB.1)⟩
     ·rw [if_neg c9] at H;exact absurd H (by simp)
    ·rw [if_neg c8] at H;exact absurd H (by simp)
   ·rw [if_neg c6] at H;exact absurd H (by simp)
  ·rw [if_neg c5] at H;exact absurd H (by simp)

/-! ### spec_l03At: function 72 -/
def spec_l03At.f (k:Nat) (a0_0:Int) (a0_1:Int) (a0_2:Int) (a1:Int):Option (Int×List Int):=(spec_l03Exponent.f k a0_0 a0_1 a0_2 a1).bind fun t245=>(if t245<0 then ((spec_l01Zero.f k a0_1).bind fun bt246=>(some (bt246.1,bt246.2))) else ((spec_l01Unit.f k a0_1 t245).bind fun bt250=>(some (bt250.1,bt250.2))))
theorem spec_l03At.mono:∀a0 a1 a2 a3 k,LeO (spec_l03At.f k a0 a1 a2 a3) (spec_l03At.f (k+1) a0 a1 a2 a3):=by
 intro a0 a1 a2 a3 k;unfold spec_l03At.f;repeat' first
   |(with_reducible exact spec_l01Unit.mono _ _ _)
   |(with_reducible exact spec_l01Zero.mono _ _)
   |(with_reducible exact spec_l03Exponent.mono _ _ _ _ _)
   |(with_reducible exact LeO.refl _)
   |(with_reducible exact LeO.none _)
   |(with_reducible refine LeO.ite ?_ ?_)
   |(with_reducible refine LeO.bind ?_ (fun _=>?_))
   |exact spec_l01Unit.mono _ _ _
   |exact spec_l01Zero.mono _ _
   |exact spec_l03Exponent.mono _ _ _ _ _
   |exact LeO.none _
   |refine LeO.ite ?_ ?_
   |refine LeO.bind ?_ (fun _=>?_)
set_option maxHeartbeats 8000000 in
set_option maxRecDepth 100000 in
theorem spec_l03At.calls (k:Nat) (a0_0:Int) (a0_1:Int) (a0_2:Int) (a1:Int) (r1:Int) (r2:List Int) (w:World) (h:spec_l03At.f k a0_0 a0_1 a0_2 a1=some (r1,r2)):
  Calls Try.prog 72 #[.agg #[.int .i64 a0_0,.int .i64 a0_1,.int .i64 a0_2],.int .i64 a1] w fun e w'=>∃v1_:Value,e=.returned (.agg #[.int .i64 r1,v1_])∧Kd.R (Kd.int .i64) 2 w' w.heap.size (fun _=>True) v1_ r2∧Below w.heap.size w w':=by
 have hu40:=Try.underlying40;have hu28:=Try.underlying28;have HB:=qAm (Below.refl w.heap.size w);have H:((spec_l03Exponent.f k a0_0 a0_1 a0_2 a1).bind fun t245=>(if t245<0 then ((spec_l01Zero.f k a0_1).bind fun bt246=>(some (bt246.1,bt246.2))) else ((spec_l01Unit.f k a0_1 t245).bind fun bt250=>(some (bt250.1,bt250.2)))))=some (r1,r2):=h;clear h;replace H:=qOb H;obtain⟨t245,A30,H⟩:=H;replace H:(if t245<0 then ((spec_l01Zero.f k a0_1).bind fun bt246=>(some (bt246.1,bt246.2))) else ((spec_l01Unit.f k a0_1 t245).bind fun bt250=>(some (bt250.1,bt250.2))))=some (r1,r2):=H;have A3:=qAm A30;clear A30
 by_cases c4:t245<0
 ·rw [if_pos c4] at H;have c4b0:decide (t245<0)=true:=decide_eq_true c4;clear c4;replace H:=qOb H;obtain⟨⟨t246,t247⟩,A50,H⟩:=H;replace H:(some (t246,t247))=some (r1,r2):=H;have A5:=qAm A50;clear A50;simp only [Option.some.injEq,Prod.mk.injEq] at H;obtain⟨rfl,rfl⟩:=H;go_enter Try.func72,Try.ntmps72;go_wp2_with (first|((with_reducible refine gate_dst (N:=2) rfl ?_);refine box_event ?hg (N:=2) ?hd (cs:=#[.int .i64 a0_0,.int .i64 a0_1,.int .i64 a0_2]) (t:=40) ?hr ?_;(case hd=>rfl);(case hg=>rfl);(case hr=>first|(go_simp;done)|(go_simp;rfl));intro gb243 hg w6 hbox hb;have n0_:=qAm (below_step qB95 hb);have n1_:=qAm (hbox);have n2_:=qAm ((by rw [hg];exact(below_size qB95):w.heap.size≤gb243));have n3_:=qAm ((by rw [hg];exact(below_size qB95):w.heap.size≤gb243));clear HB;have HB:=n0_;have BK243:=n1_;have GW243:=n2_;have GE243:=n3_;clear n0_ n1_ n2_ n3_;clear hb hbox hg)|((with_reducible refine gate_dst (N:=4) rfl ?_);refine box_event ?hg (N:=4) ?hd (cs:=#[.int .i64 0,.slice none 0 0]) (t:=28) ?hr ?_;(case hd=>rfl);(case hg=>rfl);(case hr=>first|(go_simp;done)|(go_simp;rfl));intro gb244 hg w7 hbox hb;have n0_:=qAm (blk_below (g:=gb243) (o:=.cells #[.int .i64 a0_0,.int .i64 a0_1,.int .i64 a0_2] 40 (0,0)) qB113 hb);have n1_:=qAm (below_step qB59 hb);have n2_:=qAm (hbox);have n3_:=qAm ((by rw [hg];exact(below_size qB59):w.heap.size≤gb244));have n4_:=qAm ((by rw [hg];exact(below_size qB59):w.heap.size≤gb244));have n5_:=qAm ((by rw [hg];exact Nat.ne_of_lt (blk_lt (g:=gb243) (o:=.cells #[.int .i64 a0_0,.int .i64 a0_1,.int .i64 a0_2] 40 (0,0)) qB113):gb243≠gb244));have n6_:=qAm ((by rw [hg];exact Nat.ne_of_gt (blk_lt (g:=gb243) (o:=.cells #[.int .i64 a0_0,.int .i64 a0_1,.int .i64 a0_2] 40 (0,0)) qB113):gb244≠gb243));clear BK243;clear HB;have BK243:=n0_;have HB:=n1_;have BK244:=n2_;have GW244:=n3_;have GE244:=n4_;have NB243_244:=n5_;have NB244_243:=n6_;clear n0_ n1_ n2_ n3_ n4_ n5_ n6_;clear hb hbox hg;have hnb8:=NB243_244.1;have hnc8:=NB244_243.1;have hcz9_0:w7.cell? ⟨gb243,0,none⟩=some (.int .i64 a0_0):=(blk_cell BK243.1 0).trans rfl;have hcz9_1:w7.cell? ⟨gb243,1,none⟩=some (.int .i64 a0_1):=(blk_cell BK243.1 1).trans rfl;have hcz9_2:w7.cell? ⟨gb243,2,none⟩=some (.int .i64 a0_2):=(blk_cell BK243.1 2).trans rfl;have hfz9_0:=blk_frozen BK243.1 0;have hfz9_1:=blk_frozen BK243.1 1;have hfz9_2:=blk_frozen BK243.1 2)|((with_reducible refine gate_callee (f:=116) rfl ?_);refine goesL_ (some 8) rfl rfl Try.func116 (by kernel_rfl) rfl #[.agg #[.int .i64 a0_0,.int .i64 a0_1,.int .i64 a0_2],.int .i64 a1] rfl qB90 ?_;(with_reducible refine(spec_l03Exponent.calls k a0_0 a0_1 a0_2 a1 t245 _ A3.1).mono ?_);rintro e w10 ⟨rfl,hb⟩;refine⟨_,rfl,?_⟩;have n0_:=qAm (blk_below (g:=gb243) (o:=.cells #[.int .i64 a0_0,.int .i64 a0_1,.int .i64 a0_2] 40 (0,0)) qB113 hb);have n1_:=qAm (blk_below (g:=gb244) (o:=.cells #[.int .i64 0,.slice none 0 0] 28 (0,0)) qB114 hb);have n2_:=qAm (below_step qB36 hb);clear BK243;clear BK244;clear HB;have BK243:=n0_;have BK244:=n1_;have HB:=n2_;clear n0_ n1_ n2_;(try clear hb);(try clear hb2);(try clear hk);(try clear hi);have hcz11_0:w10.cell? ⟨gb243,0,none⟩=some (.int .i64 a0_0):=(blk_cell BK243.1 0).trans rfl;have hcz11_1:w10.cell? ⟨gb243,1,none⟩=some (.int .i64 a0_1):=(blk_cell BK243.1 1).trans rfl;have hcz11_2:w10.cell? ⟨gb243,2,none⟩=some (.int .i64 a0_2):=(blk_cell BK243.1 2).trans rfl;have hfz11_0:=blk_frozen BK243.1 0;have hfz11_1:=blk_frozen BK243.1 1;have hfz11_2:=blk_frozen BK243.1 2)|((with_reducible refine gate_callee (f:=70) rfl ?_);refine goesL_ (some 13) rfl rfl Try.func70 (by kernel_rfl) rfl #[.int .i64 a0_1] rfl qB90 ?_;(with_reducible refine(spec_l01Zero.calls k a0_1 t246 t247 _ A5.1).mono ?_);rintro e w12 ⟨v248,rfl,ho0,hb⟩;refine⟨_,rfl,?_⟩;have n0_:=qAm (Kd.R_lower ho0 (below_size qB36));have n1_:=qAm (blk_below (g:=gb243) (o:=.cells #[.int .i64 a0_0,.int .i64 a0_1,.int .i64 a0_2] 40 (0,0)) qB113 hb);have n2_:=qAm (blk_below (g:=gb244) (o:=.cells #[.int .i64 0,.slice none 0 0] 28 (0,0)) qB114 hb);have n3_:=qAm (below_step qB36 hb);clear BK243;clear BK244;clear HB;have HO249:=n0_;have BK243:=n1_;have BK244:=n2_;have HB:=n3_;clear n0_ n1_ n2_ n3_;(try clear hb);(try clear hb2);(try clear hk);(try clear hi);(try clear ho0);have hcz13_0:w12.cell? ⟨gb244,0,none⟩=some (.int .i64 0):=(blk_cell BK244.1 0).trans rfl;have hcz13_1:w12.cell? ⟨gb244,1,none⟩=some (.slice none 0 0):=(blk_cell BK244.1 1).trans rfl;have hfz13_0:=blk_frozen BK244.1 0;have hfz13_1:=blk_frozen BK244.1 1;obtain⟨Ao14,co14,eo14⟩:=Kd.R_slice HO249.1;subst eo14));refine bodyPost_ret (results_cell_row rfl _ _ gb244 28 #[.int .i64 t246,.slice Ao14 t247.length co14] (0,0) _ rfl (by (with_reducible repeat(first|refine blk_drewN ?_ _|refine blk_drew ?_|refine blk_alloc ?_ _));refine blk_put (cs:=#[.int .i64 t246,.slice none 0 0]) ?_ 1 _ rfl;(with_reducible repeat(first|refine blk_drewN ?_ _|refine blk_drew ?_|refine blk_alloc ?_ _));refine blk_put (cs:=#[.int .i64 0,.slice none 0 0]) ?_ 0 _ rfl;(with_reducible repeat(first|refine blk_drewN ?_ _|refine blk_drew ?_|refine blk_alloc ?_ _));exact BK244.1) Try.underlying28 rfl (by kernel_rfl)) rfl ?_;exact⟨_,by first|rfl|(simp [errW_none,errW_some] <;> rfl)|(simp [*,errW_none,errW_some] <;> rfl),by (with_reducible repeat(first|apply Kd.R_alloc|apply Kd.R_drewN|apply Kd.R_drew));exact Kd.R_mono (Kd.R_far (p:=⟨gb244,1,none⟩) (Kd.R_far (p:=⟨gb244,0,none⟩) (Kd.R_types HO249.1 BK244.1 (by decide)) (fun _ hk=>hk.2) (.int .i64 t246)) (fun _ hk=>hk.2) (.slice Ao14 t247.length co14)) (fun _ hk=>trivial),by repeat(first|(with_reducible first|exact HB.1|apply below_alloc|apply pw_below_drewN|apply below_drew1|refine below_set ?_ GE243.1|refine below_set ?_ GE244.1)|exact HB.1)⟩
 ·rw [if_neg c4] at H;have c4b0:decide (t245<0)=false:=decide_eq_false c4;clear c4;replace H:=qOb H;obtain⟨⟨t250,t251⟩,A150,H⟩:=H;replace H:(some (t250,t251))=some (r1,r2):=H;have A15:=qAm A150;clear A150;simp only [Option.some.injEq,Prod.mk.injEq] at H;obtain⟨rfl,rfl⟩:=H;go_enter Try.func72,Try.ntmps72;go_wp2_with (first|((with_reducible refine gate_dst (N:=2) rfl ?_);refine box_event ?hg (N:=2) ?hd (cs:=#[.int .i64 a0_0,.int .i64 a0_1,.int .i64 a0_2]) (t:=40) ?hr ?_;(case hd=>rfl);(case hg=>rfl);(case hr=>first|(go_simp;done)|(go_simp;rfl));intro gb243 hg w16 hbox hb;have n0_:=qAm (below_step qB95 hb);have n1_:=qAm (hbox);have n2_:=qAm ((by rw [hg];exact(below_size qB95):w.heap.size≤gb243));have n3_:=qAm ((by rw [hg];exact(below_size qB95):w.heap.size≤gb243));clear HB;have HB:=n0_;have BK243:=n1_;have GW243:=n2_;have GE243:=n3_;clear n0_ n1_ n2_ n3_;clear hb hbox hg)|((with_reducible refine gate_dst (N:=4) rfl ?_);refine box_event ?hg (N:=4) ?hd (cs:=#[.int .i64 0,.slice none 0 0]) (t:=28) ?hr ?_;(case hd=>rfl);(case hg=>rfl);(case hr=>first|(go_simp;done)|(go_simp;rfl));intro gb244 hg w17 hbox hb;have n0_:=qAm (blk_below (g:=gb243) (o:=.cells #[.int .i64 a0_0,.int .i64 a0_1,.int .i64 a0_2] 40 (0,0)) qB113 hb);have n1_:=qAm (below_step qB59 hb);have n2_:=qAm (hbox);have n3_:=qAm ((by rw [hg];exact(below_size qB59):w.heap.size≤gb244));have n4_:=qAm ((by rw [hg];exact(below_size qB59):w.heap.size≤gb244));have n5_:=qAm ((by rw [hg];exact Nat.ne_of_lt (blk_lt (g:=gb243) (o:=.cells #[.int .i64 a0_0,.int .i64 a0_1,.int .i64 a0_2] 40 (0,0)) qB113):gb243≠gb244));have n6_:=qAm ((by rw [hg];exact Nat.ne_of_gt (blk_lt (g:=gb243) (o:=.cells #[.int .i64 a0_0,.int .i64 a0_1,.int .i64 a0_2] 40 (0,0)) qB113):gb244≠gb243));clear BK243;clear HB;have BK243:=n0_;have HB:=n1_;have BK244:=n2_;have GW244:=n3_;have GE244:=n4_;have NB243_244:=n5_;have NB244_243:=n6_;clear n0_ n1_ n2_ n3_ n4_ n5_ n6_;clear hb hbox hg;have hnb18:=NB243_244.1;have hnc18:=NB244_243.1;have hcz19_0:w17.cell? ⟨gb243,0,none⟩=some (.int .i64 a0_0):=(blk_cell BK243.1 0).trans rfl;have hcz19_1:w17.cell? ⟨gb243,1,none⟩=some (.int .i64 a0_1):=(blk_cell BK243.1 1).trans rfl;have hcz19_2:w17.cell? ⟨gb243,2,none⟩=some (.int .i64 a0_2):=(blk_cell BK243.1 2).trans rfl;have hfz19_0:=blk_frozen BK243.1 0;have hfz19_1:=blk_frozen BK243.1 1;have hfz19_2:=blk_frozen BK243.1 2)|((with_reducible refine gate_callee (f:=116) rfl ?_);refine goesL_ (some 8) rfl rfl Try.func116 (by kernel_rfl) rfl #[.agg #[.int .i64 a0_0,.int .i64 a0_1,.int .i64 a0_2],.int .i64 a1] rfl qB90 ?_;(with_reducible refine(spec_l03Exponent.calls k a0_0 a0_1 a0_2 a1 t245 _ A3.1).mono ?_);rintro e w20 ⟨rfl,hb⟩;refine⟨_,rfl,?_⟩;have n0_:=qAm (blk_below (g:=gb243) (o:=.cells #[.int .i64 a0_0,.int .i64 a0_1,.int .i64 a0_2] 40 (0,0)) qB113 hb);have n1_:=qAm (blk_below (g:=gb244) (o:=.cells #[.int .i64 0,.slice none 0 0] 28 (0,0)) qB114 hb);have n2_:=qAm (below_step qB36 hb);clear BK243;clear BK244;clear HB;have BK243:=n0_;have BK244:=n1_;have HB:=n2_;clear n0_ n1_ n2_;(try clear hb);(try clear hb2);(try clear hk);(try clear hi);have hcz21_0:w20.cell? ⟨gb243,0,none⟩=some (.int .i64 a0_0):=(blk_cell BK243.1 0).trans rfl;have hcz21_1:w20.cell? ⟨gb243,1,none⟩=some (.int .i64 a0_1):=(blk_cell BK243.1 1).trans rfl;have hcz21_2:w20.cell? ⟨gb243,2,none⟩=some (.int .i64 a0_2):=(blk_cell BK243.1 2).trans rfl;have hfz21_0:=blk_frozen BK243.1 0;have hfz21_1:=blk_frozen BK243.1 1;have hfz21_2:=blk_frozen BK243.1 2)|((with_reducible refine gate_callee (f:=117) rfl ?_);refine goesL_ (some 17) rfl rfl Try.func117 (by kernel_rfl) rfl #[.int .i64 a0_1,.int .i64 t245] rfl qB90 ?_;(with_reducible refine(spec_l01Unit.calls k a0_1 t245 t250 t251 _ A15.1).mono ?_);rintro e w22 ⟨v252,rfl,ho0,hb⟩;refine⟨_,rfl,?_⟩;have n0_:=qAm (Kd.R_lower ho0 (below_size qB36));have n1_:=qAm (blk_below (g:=gb243) (o:=.cells #[.int .i64 a0_0,.int .i64 a0_1,.int .i64 a0_2] 40 (0,0)) qB113 hb);have n2_:=qAm (blk_below (g:=gb244) (o:=.cells #[.int .i64 0,.slice none 0 0] 28 (0,0)) qB114 hb);have n3_:=qAm (below_step qB36 hb);clear BK243;clear BK244;clear HB;have HO253:=n0_;have BK243:=n1_;have BK244:=n2_;have HB:=n3_;clear n0_ n1_ n2_ n3_;(try clear hb);(try clear hb2);(try clear hk);(try clear hi);(try clear ho0);have hcz23_0:w22.cell? ⟨gb244,0,none⟩=some (.int .i64 0):=(blk_cell BK244.1 0).trans rfl;have hcz23_1:w22.cell? ⟨gb244,1,none⟩=some (.slice none 0 0):=(blk_cell BK244.1 1).trans rfl;have hfz23_0:=blk_frozen BK244.1 0;have hfz23_1:=blk_frozen BK244.1 1;obtain⟨Ao24,co24,eo24⟩:=Kd.R_slice HO253.1;subst eo24));refine bodyPost_ret (results_cell_row rfl _ _ gb244 28 #[.int .i64 t250,.slice Ao24 t251.length co24] (0,0) _ rfl (by (with_reducible repeat(first|refine blk_drewN ?_ _|refine blk_drew ?_|refine blk_alloc ?_ _));refine blk_put (cs:=#[.int .i64 t250,.slice none 0 0]) ?_ 1 _ rfl;(with_reducible repeat(first|refine blk_drewN ?_ _|refine blk_drew ?_|refine blk_alloc ?_ _));refine blk_put (cs:=#[.int .i64 0,.slice none 0 0]) ?_ 0 _ rfl;(with_reducible repeat(first|refine blk_drewN ?_ _|refine blk_drew ?_|refine blk_alloc ?_ _));exact BK244.1) Try.underlying28 rfl (by kernel_rfl)) rfl ?_;exact⟨_,by first|rfl|(simp [errW_none,errW_some] <;> rfl)|(simp [*,errW_none,errW_some] <;> rfl),by (with_reducible repeat(first|apply Kd.R_alloc|apply Kd.R_drewN|apply Kd.R_drew));exact Kd.R_mono (Kd.R_far (p:=⟨gb244,1,none⟩) (Kd.R_far (p:=⟨gb244,0,none⟩) (Kd.R_types HO253.1 BK244.1 (by decide)) (fun _ hk=>hk.2) (.int .i64 t250)) (fun _ hk=>hk.2) (.slice Ao24 t251.length co24)) (fun _ hk=>trivial),by repeat(first|(with_reducible first|exact HB.1|apply below_alloc|apply pw_below_drewN|apply below_drew1|refine below_set ?_ GE243.1|refine below_set ?_ GE244.1)|exact HB.1)⟩

/-! ### spec_l01Galois: function 118 -/
def spec_l01Galois.l0:Nat→Int→Int→List Int→Int→Int→List Int→Option (Int×List Int)
 |0,_,_,_,_,_,_=>none
 |k+1,x1,x5,x6,x7,x255000,x255001=>if x7<(x255001.length:Int) then (if x5=0 then (none) else (if 0≤(Int.tmod (wrap64 ((Int.tmod (wrap64 (x7*x1)) x5)+x5)) x5) then (if (Int.tmod (wrap64 ((Int.tmod (wrap64 (x7*x1)) x5)+x5)) x5)<(x6.length:Int) then (if 0≤x7 then (spec_l01Galois.l0 k x1 x5 (x6.set ((Int.tmod (wrap64 ((Int.tmod (wrap64 (x7*x1)) x5)+x5)) x5):Int).toNat (wrap64 ((rd x6 (Int.tmod (wrap64 ((Int.tmod (wrap64 (x7*x1)) x5)+x5)) x5))+(rd x255001 x7)))) (wrap64 (x7+1)) x255000 x255001) else (none)) else (none)) else (none))) else ((spec_l01Reduce.f k x5 x6).bind fun bt262=>(some (bt262.1,bt262.2)))
def spec_l01Galois.f (k:Nat) (a0_0:Int) (l0_1:List Int) (a1:Int):Option (Int×List Int):=if 0≤a0_0 then (if (a0_0:Int).toNat≤35184372088832 then (spec_l01Galois.l0 k a1 a0_0 (List.replicate (a0_0:Int).toNat 0) 0 a0_0 l0_1) else (none)) else (none)
theorem spec_l01Galois.mono_l:∀k,(∀y0 y1 y2 y3 y4 y5,LeO (spec_l01Galois.l0 k y0 y1 y2 y3 y4 y5) (spec_l01Galois.l0 (k+1) y0 y1 y2 y3 y4 y5))
 |0=>fun _ _ _ _ _ _ r h=>by simp [spec_l01Galois.l0] at h
 |k+1=>by
  have ih0:=spec_l01Galois.mono_l k
  ·intro y0 y1 y2 y3 y4 y5;unfold spec_l01Galois.l0;repeat' first
   |(with_reducible exact ih0 _ _ _ _ _ _)
   |(with_reducible exact spec_l01Reduce.mono _ _ _)
   |(with_reducible exact LeO.refl _)
   |(with_reducible exact LeO.none _)
   |(with_reducible refine LeO.ite ?_ ?_)
   |(with_reducible refine LeO.bind ?_ (fun _=>?_))
   |exact ih0 _ _ _ _ _ _
   |exact spec_l01Reduce.mono _ _ _
   |exact LeO.none _
   |refine LeO.ite ?_ ?_
   |refine LeO.bind ?_ (fun _=>?_)
theorem spec_l01Galois.mono:∀a0 a1 a2 k,LeO (spec_l01Galois.f k a0 a1 a2) (spec_l01Galois.f (k+1) a0 a1 a2):=by
 intro a0 a1 a2 k;have ih0:=spec_l01Galois.mono_l k;unfold spec_l01Galois.f;repeat' first
   |(with_reducible exact ih0 _ _ _ _ _ _)
   |(with_reducible exact spec_l01Reduce.mono _ _ _)
   |(with_reducible exact LeO.refl _)
   |(with_reducible exact LeO.none _)
   |(with_reducible refine LeO.ite ?_ ?_)
   |(with_reducible refine LeO.bind ?_ (fun _=>?_))
   |exact ih0 _ _ _ _ _ _
   |exact spec_l01Reduce.mono _ _ _
   |exact LeO.none _
   |refine LeO.ite ?_ ?_
   |refine LeO.bind ?_ (fun _=>?_)
def spec_l01Galois.T7:Bool×List (List Nat×List Nat):=(true,[([],[]),([],[]),([],[]),([],[]),([2,3],[2,3]),([4],[4]),([],[]),([6],[6]),([],[]),([7,8],[7,8]),([9],[9]),([5,10],[5,10]),([0,1,0,1,2,3,4,5,6,7,8,9,10,11],[0,1]),([12,11,0,1,2,3,4,5,6,7,8,9,10,11],[11,12])])
def spec_l01Galois.B7:List Nat:=[0,0,0,0,12,28,0,64,0,448,960,2044,4095,8191]
theorem spec_l01Galois.tab7:rtab .any (opsOf Try.f118 7)=spec_l01Galois.T7:=by kernel_rfl
theorem spec_l01Galois.bits7:waitsOk spec_l01Galois.T7.2 spec_l01Galois.B7=true:=by kernel_rfl
set_option maxHeartbeats 8000000 in
set_option maxRecDepth 100000 in
theorem spec_l01Galois.calls (k:Nat) (a0_0:Int) (A0_1:Option Addr) (c0_1:Nat) (l0_1:List Int) (a1:Int) (r1:Int) (r2:List Int) (w:World) (hr0_1:Kd.C (Kd.int .i64) w A0_1 l0_1.length l0_1) (hc0_1:l0_1.length≤c0_1) (h:spec_l01Galois.f k a0_0 l0_1 a1=some (r1,r2)):
  Calls Try.prog 118 #[.agg #[.int .i64 a0_0,.slice A0_1 l0_1.length c0_1],.int .i64 a1] w fun e w'=>∃v1_:Value,e=.returned (.agg #[.int .i64 r1,v1_])∧Kd.R (Kd.int .i64) 2 w' w.heap.size (fun _=>True) v1_ r2∧Below w.heap.size w w':=by
 have hu28:=Try.underlying28;have HR0_1:=qAm hr0_1;have HC0_1:=qAm hc0_1;clear hr0_1 hc0_1;have HB:=qAm (Below.refl w.heap.size w);have H:(if 0≤a0_0 then (if (a0_0:Int).toNat≤35184372088832 then (spec_l01Galois.l0 k a1 a0_0 (List.replicate (a0_0:Int).toNat 0) 0 a0_0 l0_1) else (none)) else (none))=some (r1,r2):=h;clear h
 by_cases c3:0≤a0_0
 ·rw [if_pos c3] at H;have c3b0:=eq_true c3;have c3b1:decide (0≤a0_0)=true:=decide_eq_true c3;clear c3
  by_cases c4:(a0_0:Int).toNat≤35184372088832
  ·rw [if_pos c4] at H;have c4b0:=eq_true c4;have c4b1:decide ((a0_0:Int).toNat≤35184372088832)=true:=decide_eq_true c4;clear c4;obtain⟨y256,hy256⟩:∃y_:List Int,y_=(List.replicate (a0_0:Int).toNat 0):=⟨_,rfl⟩
   replace H:(spec_l01Galois.l0 k a1 a0_0 y256 0 a0_0 l0_1)=some (r1,r2):=by first|(rw [hy256];with_reducible exact H)|(have H2_:=(Option.bind_some _ _).symm.trans H;rw [hy256];with_reducible exact H2_)|(have H2_:=(Option.bind_some _ _).symm.trans H;with_reducible exact H2_)|with_reducible exact H|(rw [hy256];exact H)|exact H
   have Ny256:=qAm hy256;clear hy256;have H':=qAm H;clear H;go_enter Try.func118,Try.ntmps118;go_wp2_with (first|((with_reducible refine gate_dst (N:=2) rfl ?_);refine box_event ?hg (N:=2) ?hd (cs:=#[.int .i64 a0_0,.slice A0_1 l0_1.length c0_1]) (t:=28) ?hr ?_;(case hd=>rfl);(case hg=>rfl);(case hr=>first|(go_simp;done)|(go_simp;rfl));intro gb254 hg w5 hbox hb;have n0_:=qAm (below_step qB95 hb);have n1_:=qAm (hbox);have n2_:=qAm ((by rw [hg];exact(below_size qB95):w.heap.size≤gb254));have n3_:=qAm ((by rw [hg];exact(below_size qB95):w.heap.size≤gb254));clear HB;have HB:=n0_;have BK254:=n1_;have GW254:=n2_;have GE254:=n3_;clear n0_ n1_ n2_ n3_;clear hb hbox hg)|((with_reducible refine gate_dst (N:=4) rfl ?_);refine box_event ?hg (N:=4) ?hd (cs:=#[.int .i64 0,.slice none 0 0]) (t:=28) ?hr ?_;(case hd=>rfl);(case hg=>rfl);(case hr=>first|(go_simp;done)|(go_simp;rfl));intro gb255 hg w6 hbox hb;have n0_:=qAm (blk_below (g:=gb254) (o:=.cells #[.int .i64 a0_0,.slice A0_1 l0_1.length c0_1] 28 (0,0)) qB115 hb);have n1_:=qAm (below_step qB60 hb);have n2_:=qAm (hbox);have n3_:=qAm ((by rw [hg];exact(below_size qB60):w.heap.size≤gb255));have n4_:=qAm ((by rw [hg];exact(below_size qB60):w.heap.size≤gb255));have n5_:=qAm ((by rw [hg];exact Nat.ne_of_lt (blk_lt (g:=gb254) (o:=.cells #[.int .i64 a0_0,.slice A0_1 l0_1.length c0_1] 28 (0,0)) qB115):gb254≠gb255));have n6_:=qAm ((by rw [hg];exact Nat.ne_of_gt (blk_lt (g:=gb254) (o:=.cells #[.int .i64 a0_0,.slice A0_1 l0_1.length c0_1] 28 (0,0)) qB115):gb255≠gb254));clear BK254;clear HB;have BK254:=n0_;have HB:=n1_;have BK255:=n2_;have GW255:=n3_;have GE255:=n4_;have NB254_255:=n5_;have NB255_254:=n6_;clear n0_ n1_ n2_ n3_ n4_ n5_ n6_;clear hb hbox hg;have hnb7:=NB254_255.1;have hnc7:=NB255_254.1;have hcz8_0:w6.cell? ⟨gb254,0,none⟩=some (.int .i64 a0_0):=(blk_cell BK254.1 0).trans rfl;have hcz8_1:w6.cell? ⟨gb254,1,none⟩=some (.slice A0_1 l0_1.length c0_1):=(blk_cell BK254.1 1).trans rfl;have hfz8_0:=blk_frozen BK254.1 0;have hfz8_1:=blk_frozen BK254.1 1)|((with_reducible refine gate_dst (N:=12) rfl ?_);refine Kd.R_make (Kd.int .i64) _ 2 rfl (N:=12) rfl 22 _ _ rfl a0_0 rfl rfl Try.underlying22 (.int .i64 0) 8 info2 rfl (by decide) (by omega) 0 (ok:=fun _=>True) (okp:=fun _=>True) rfl (fun _ hk=>hk) trivial (of_decide_eq_true qB177) (Nat.le_trans (Nat.mul_le_mul_right _ (of_decide_eq_true qB177:a0_0.toNat≤35184372088832)) (by omega)) (Below.refl _ _) (Nat.le_refl _) ?_;intro v257 w9 ho10 hb hg_ hnew_;clear hg_ hnew_;(first|rw [← Ny256.1] at ho10|(simp only [Int.reduceToNat] at ho10;rw [← Ny256.1] at ho10));have n0_:=qAm (Kd.R_lower ho10 (below_size qB37));have n1_:=qAm (blk_below (g:=gb254) (o:=.cells #[.int .i64 a0_0,.slice A0_1 l0_1.length c0_1] 28 (0,0)) qB115 hb);have n2_:=qAm (blk_below (g:=gb255) (o:=.cells #[.int .i64 0,.slice none 0 0] 28 (0,0)) qB116 hb);have n3_:=qAm (below_step qB37 hb);clear BK254;clear BK255;clear HB;have HO258:=n0_;have BK254:=n1_;have BK255:=n2_;have HB:=n3_;clear n0_ n1_ n2_ n3_;clear hb ho10));try simp only [Act.put,qSa,qSc,qSb]
   go_loopg [7] k (fun kq v7 w'=>∃(x6_1:List Int) (x7_1:Int),v7=.int .i64 x7_1∧Aside0 (spec_l01Galois.l0 kq a1 a0_0 x6_1 x7_1 a0_0 l0_1=some (r1,r2))∧Aside0 (kq≤k)∧Aside0 (Kd.R (Kd.int .i64) 2 w' w.heap.size (fun _=>True) v257 x6_1)∧Aside0 (w'.heap[gb254]? =some (.cells #[.int .i64 a0_0,(.slice A0_1 l0_1.length c0_1)] 28 (0,0)))∧Aside0 (w'.heap[gb255]? =some (.cells #[.int .i64 0,(.slice none 0 0)] 28 (0,0)))∧Aside0 (Below w.heap.size w w'))
   case atStart=>exact⟨(y256),(0),qB178,H',⟨Nat.le_refl _⟩,⟨by (with_reducible repeat(first|apply Kd.R_alloc|apply Kd.R_drewN|apply Kd.R_drew));exact HO258.1⟩,⟨by (with_reducible repeat(first|refine blk_drewN ?_ _|refine blk_drew ?_|refine blk_alloc ?_ _));exact BK254.1⟩,⟨by (with_reducible repeat(first|refine blk_drewN ?_ _|refine blk_drew ?_|refine blk_alloc ?_ _));exact BK255.1⟩,⟨by repeat(first|(with_reducible first|exact HB.1|apply below_alloc|apply pw_below_drewN|apply below_drew1|refine below_set ?_ GE254.1|refine below_set ?_ GE255.1)|exact HB.1)⟩⟩
   case round=>
    clear H';try clear c1
    try clear p2
    try clear c3
    try clear c3b0
    try clear c3b1
    try clear c4
    try clear c4b0
    try clear c4b1
    try clear c7
    try clear hcz8_0
    try clear hcz8_1
    try clear hfz8_0
    try clear hfz8_1
    obtain⟨x6_1,x7_1,rfl,HA,HK1,HO_6,BK254,BK255,HB⟩:=hrel;cases gk with
    |zero=>exact absurd HA.1 (by simp [spec_l01Galois.l0])
    |succ k1=>
     have H:=HA.1;clear HA;simp only [spec_l01Galois.l0] at H
     by_cases c11:x7_1<(l0_1.length:Int)
     ·rw [if_pos c11] at H;have c11b0:decide (x7_1<(l0_1.length:Int))=true:=decide_eq_true c11;clear c11
      by_cases c12:a0_0=0
      ·rw [if_pos c12] at H;exact absurd H (by simp)
      ·rw [if_neg c12] at H;have c12b0:(a0_0==0)=false:=beq_eq_false_iff_ne.mpr c12;have c12b1:(a0_0 !=0)=true:=bne_iff_ne.mpr c12;obtain⟨ji13,hji13⟩:∃j_:Int,(Int.tmod (wrap64 ((Int.tmod (wrap64 (x7_1*a1)) a0_0)+a0_0)) a0_0)=j_:=⟨_,rfl⟩
       replace H:(if 0≤(ji13) then (if (ji13)<(x6_1.length:Int) then (if 0≤x7_1 then (spec_l01Galois.l0 k1 a1 a0_0 (x6_1.set ((ji13):Int).toNat (wrap64 ((rd x6_1 (ji13))+(rd l0_1 x7_1)))) (wrap64 (x7_1+1)) a0_0 l0_1) else (none)) else (none)) else (none))=some (r1,r2):=by first|(rw [hji13] at H;exact H)|(simp only [hji13] at H ⊢;exact H)
       by_cases c14:0≤(ji13)
       ·rw [if_pos c14] at H;have c14b0:decide (0≤(ji13))=true:=decide_eq_true c14;clear c14
        by_cases c15:(ji13)<(x6_1.length:Int)
        ·rw [if_pos c15] at H;have c15b0:decide ((ji13)<(x6_1.length:Int))=true:=decide_eq_true c15;clear c15
         by_cases c16:0≤x7_1
         ·rw [if_pos c16] at H;have c16b0:decide (0≤x7_1)=true:=decide_eq_true c16;clear c16;obtain⟨y261,hy261⟩:∃y_:List Int,y_=(x6_1.set ((ji13):Int).toNat (wrap64 ((rd x6_1 (ji13))+(rd l0_1 x7_1)))):=⟨_,rfl⟩
          replace H:(spec_l01Galois.l0 k1 a1 a0_0 y261 (wrap64 (x7_1+1)) a0_0 l0_1)=some (r1,r2):=by first|(rw [hy261];with_reducible exact H)|(have H2_:=(Option.bind_some _ _).symm.trans H;rw [hy261];with_reducible exact H2_)|(have H2_:=(Option.bind_some _ _).symm.trans H;with_reducible exact H2_)|with_reducible exact H|(rw [hy261];exact H)|exact H
          have Ny261:=qAm hy261;clear hy261;have H':=qAm H;clear H;have hnb18:=NB254_255.1;have hnc18:=NB255_254.1;have hcz19_0:wr.cell? ⟨gb254,0,none⟩=some (.int .i64 a0_0):=(blk_cell BK254.1 0).trans rfl;have hcz19_1:wr.cell? ⟨gb254,1,none⟩=some (.slice A0_1 l0_1.length c0_1):=(blk_cell BK254.1 1).trans rfl;have hfz19_0:=blk_frozen BK254.1 0;have hfz19_1:=blk_frozen BK254.1 1;try go_wp2
          have n0_:=qAm (Kd.R_drew HO_6.1);have n1_:=qAm (blk_drew BK254.1);have n2_:=qAm (blk_drew BK255.1);have n3_:=qAm (below_drew1 HB.1);clear HO_6 BK254 BK255 HB;have HO_6:=n0_;have BK254:=n1_;have BK255:=n2_;have HB:=n3_;clear n0_ n1_ n2_ n3_;obtain⟨Ao21,co21,eo21⟩:=Kd.R_slice HO_6.1
          (first|subst eo21|(injection eo21 with f1_ f2_ f3_;have f4_:=f1_.symm;have f5_:=f3_.symm;clear f1_ f2_ f3_;subst f4_;subst f5_))
          have p259:0≤((ji13):Int):=of_decide_eq_true qB177;have q259:(ji13)<(x6_1.length:Int):=of_decide_eq_true qB177;obtain⟨ad259,e259,hx259_0⟩:=Kd.at_int (Kd.R_reads' HO_6.1).2.2 (ji13) p259 q259;cases e259
          replace p259:=eq_true p259;replace q259:=eq_true q259;have p260:0≤(x7_1:Int):=of_decide_eq_true qB177;have q260:x7_1<(l0_1.length:Int):=of_decide_eq_true qB177;obtain⟨ad260,e260,hx260_0⟩:=Kd.at_int HR0_1.1 x7_1 p260 q260;have hw260_0:=hx260_0;cases e260
          replace hx260_0:=(HB.1.cell (World.block_lt_of_cell? w _ hx260_0)).trans hx260_0;replace p260:=eq_true p260;replace q260:=eq_true q260;have p17:0≤((ji13):Int):=of_decide_eq_true qB177;have q17:((ji13):Int)<((x6_1.length:Int):Int):=of_decide_eq_true qB177;obtain⟨go17,co17,eo17,gb17,gl17,cl17,HG17⟩:=Kd.R_form HO_6.1 (by omega)
          (first|cases eo17|(injection eo17 with ea_ en_ ec_;(first|subst ea_|(injection ea_ with ea_;subst ea_));subst ec_;clear en_))
          have GB17:=qAm gb17;have GG17:=qAm HG17;clear gb17 gl17 HG17
          (first|simp only [add_plain] at hx259_0|skip)
          obtain⟨hx17_0,hf17_0⟩:=Kd.R_celln 0 HO_6.1 ((ji13):Int) p17 q17;replace p17:=eq_true p17;replace q17:=eq_true q17;have HP22:=Kd.R_putn HO_6.1 ((ji13):Int) (wrap64 ((rd x6_1 (ji13))+(rd l0_1 x7_1)));rw [← Ny261.1] at HP22;have HQ22:=qAm HP22;clear HP22;refine start_ (n:=14) (S:=fun w'=>w'.cell? ⟨gb254,0,none⟩=some (.int .i64 a0_0)∧w'.cell? ⟨gb254,1,none⟩=some (.slice (some ad260) l0_1.length c0_1)∧w'.cell? ⟨go17,((ji13)).toNat,none⟩=some (.int .i64 (rd x6_1 (ji13)))∧w'.cell? (ad260.add (x7_1).toNat)=some (.int .i64 (rd l0_1 x7_1))) (ds:=[13]) #[false,false,false,false,false,false,false,false,false,false,false,false,false,false] (by kernel_rfl) rfl rfl ⟨(blk_cell BK254.1 0).trans rfl,(blk_cell BK254.1 1).trans rfl,hx259_0,((HB.1.cell (World.block_lt_of_cell? w _ hw260_0)).trans hw260_0)⟩ (fun hHeld=>?_);refine with_tabW spec_l01Galois.tab7 spec_l01Galois.bits7 (fun HT_ HW_=>?_);generalize wr.drew=w20 at HO_6 BK254 BK255 HB GG17 HQ22 hf17_0 hx17_0 hx259_0 hx260_0 hHeld ⊢;refine pure_ (i:=0) (N:=some 29) (v:=?_) (a':=?_) #[true,false,false,false,false,false,false,false,false,false,false,false,false,false] rfl rfl (any_of HT_.1 (by kernel_rfl)) (fun _ _ _ h=>h) (Or.inl ⟨by rfl,?_⟩) ?_ ?_;rotate_left
          ·intro w';go_simp;with_reducible rfl
          rotate_left
          ·simp only [Act.put,qSa,qSb,qSc,i64_w,i32_w];rfl
          refine pure_ (i:=1) (N:=some 30) (v:=?_) (a':=?_) #[true,true,false,false,false,false,false,false,false,false,false,false,false,false] rfl rfl (any_of HT_.1 (by kernel_rfl)) (fun _ _ _ h=>h) (Or.inl ⟨by rfl,?_⟩) ?_ ?_;rotate_left
          ·intro w';go_simp;with_reducible rfl
          rotate_left
          ·simp only [Act.put,qSa,qSb,qSc,i64_w,i32_w];rfl
          refine pure_ (i:=2) (N:=some 31) (v:=?_) (a':=?_) #[true,true,true,false,false,false,false,false,false,false,false,false,false,false] rfl rfl (any_of HT_.1 (by kernel_rfl)) (fun _ _ _ h=>h) (Or.inl ⟨by rfl,?_⟩) ?_ ?_;rotate_left
          ·intro w';go_simp;with_reducible rfl
          rotate_left
          ·simp only [Act.put,qSa,qSb,qSc,i64_w,i32_w];rfl
          refine pure_ (i:=3) (N:=some 32) (v:=?_) (a':=?_) #[true,true,true,true,false,false,false,false,false,false,false,false,false,false] rfl rfl (any_of HT_.1 (by kernel_rfl)) (fun _ _ _ h=>h) (Or.inl ⟨by rfl,?_⟩) ?_ ?_;rotate_left
          ·intro w';go_simp;with_reducible rfl
          rotate_left
          ·simp only [Act.put,qSa,qSb,qSc,i64_w,i32_w];rfl
          refine pure_ (i:=4) (N:=some 33) (v:=?_) (a':=?_) #[true,true,true,true,true,false,false,false,false,false,false,false,false,false] rfl rfl (any_of HT_.1 (by kernel_rfl)) (fun _ _ _ h=>h) (Or.inl ⟨by rfl,?_⟩) ?_ ?_;rotate_left
          ·intro w';go_simp;with_reducible rfl
          rotate_left
          ·simp only [Act.put,qSa,qSb,qSc,i64_w,i32_w];rfl
          refine pure_ (i:=6) (N:=some 35) (v:=?_) (a':=?_) #[true,true,true,true,true,false,true,false,false,false,false,false,false,false] rfl rfl (any_of HT_.1 (by kernel_rfl)) (fun _ _ _ h=>h) (Or.inl ⟨by rfl,?_⟩) ?_ ?_;rotate_left
          ·intro w';go_simp;with_reducible rfl
          rotate_left
          ·simp only [Act.put,qSa,qSb,qSc,i64_w,i32_w];rfl
          refine pure_ (i:=8) (N:=some 37) (v:=?_) (a':=?_) #[true,true,true,true,true,false,true,false,true,false,false,false,false,false] rfl rfl (any_of HT_.1 (by kernel_rfl)) (fun _ _ _ h=>h) (Or.inl ⟨by rfl,?_⟩) ?_ ?_;rotate_left
          ·intro w';go_simp;with_reducible rfl
          rotate_left
          ·simp only [Act.put,qSa,qSb,qSc,i64_w,i32_w];rfl
          refine take_ (i:=5) (N:=some 34) (v:=?_) (a':=?_) #[true,true,true,true,true,true,true,false,true,false,false,false,false,false] rfl rfl (take_ofW HT_.1 HW_.1 (by kernel_rfl)) (fun _ _ _ h=>h) (Or.inl ⟨by rfl,?_⟩) hHeld ?_ ?_;rotate_left
          ·rintro w' ⟨s0,s1,s2,s3⟩;go_simp;with_reducible rfl
          rotate_left
          ·simp only [Act.put,qSa,qSb,qSc,i64_w,i32_w];rfl
          refine take_ (i:=7) (N:=some 36) (v:=?_) (a':=?_) #[true,true,true,true,true,true,true,true,true,false,false,false,false,false] rfl rfl (take_ofW HT_.1 HW_.1 (by kernel_rfl)) (fun _ _ _ h=>h) (Or.inl ⟨by rfl,?_⟩) hHeld ?_ ?_;rotate_left
          ·rintro w' ⟨s0,s1,s2,s3⟩;go_simp;with_reducible rfl
          rotate_left
          ·simp only [Act.put,qSa,qSb,qSc,i64_w,i32_w];rfl
          refine pure_ (i:=9) (N:=some 38) (v:=?_) (a':=?_) #[true,true,true,true,true,true,true,true,true,true,false,false,false,false] rfl rfl (any_of HT_.1 (by kernel_rfl)) (fun _ _ _ h=>h) (Or.inl ⟨by rfl,?_⟩) ?_ ?_;rotate_left
          ·intro w';go_simp;with_reducible rfl
          rotate_left
          ·simp only [Act.put,qSa,qSb,qSc,i64_w,i32_w];rfl
          refine take_ (i:=10) (N:=some 39) (v:=?_) (a':=?_) #[true,true,true,true,true,true,true,true,true,true,true,false,false,false] rfl rfl (take_ofW HT_.1 HW_.1 (by kernel_rfl)) (fun _ _ _ h=>h) (Or.inl ⟨by rfl,?_⟩) hHeld ?_ ?_;rotate_left
          ·rintro w' ⟨s0,s1,s2,s3⟩;go_simp;with_reducible rfl
          rotate_left
          ·simp only [Act.put,qSa,qSb,qSc,i64_w,i32_w];rfl
          refine pure_ (i:=11) (N:=some 40) (v:=?_) (a':=?_) #[true,true,true,true,true,true,true,true,true,true,true,true,false,false] rfl rfl (any_of HT_.1 (by kernel_rfl)) (fun _ _ _ h=>h) (Or.inl ⟨by rfl,?_⟩) ?_ ?_;rotate_left
          ·intro w';go_simp;with_reducible rfl
          rotate_left
          ·simp only [Act.put,qSa,qSb,qSc,i64_w,i32_w];rfl
          refine pure_ (i:=12) (N:=some 41) (v:=?_) (a':=?_) #[true,true,true,true,true,true,true,true,true,true,true,true,true,false] rfl rfl (any_of HT_.1 (by kernel_rfl)) (fun _ _ _ h=>h) (Or.inl ⟨by rfl,?_⟩) ?_ ?_;rotate_left
          ·intro w';go_simp;with_reducible rfl
          rotate_left
          ·simp only [Act.put,qSa,qSb,qSc,i64_w,i32_w];rfl
          refine last_ (i:=13) (N:=none) #[true,true,true,true,true,true,true,true,true,true,true,true,true,true] rfl rfl (one_of HT_.1 (by kernel_rfl)) (by decide) (fun K hK=>?_);refine skip_ (w1:=?_) (by rfl) rfl ?_ ?_;rotate_left
          ·go_simp;rfl
          refine hK.out _ _ ?_;clear hK K;refine done_ (done_of HT_.1 (by kernel_rfl)) ?_;try go_wp2
          (first|go_roundg k1|((try simp only [add_plain] at *);go_roundg k1))
          case measure=>have:=HK1.1;omega
          case rel=>exact⟨(y261),(wrap64 (x7_1+1)),qB178,H',⟨by have:=HK1.1;omega⟩,⟨by (with_reducible repeat(first|apply Kd.R_alloc|apply Kd.R_drewN|apply Kd.R_drew));exact HQ22.1⟩,⟨by (with_reducible repeat(first|refine blk_drewN ?_ _|refine blk_drew ?_|refine blk_alloc ?_ _));refine blk_far ?_ (by have h_:=Kd.R_ne HO_6.1 BK254.1 (by decide);intro e_;exact h_ (by rw [e_];rfl)) _;(with_reducible repeat(first|refine blk_drewN ?_ _|refine blk_drew ?_|refine blk_alloc ?_ _));exact BK254.1⟩,⟨by (with_reducible repeat(first|refine blk_drewN ?_ _|refine blk_drew ?_|refine blk_alloc ?_ _));refine blk_far ?_ (by have h_:=Kd.R_ne HO_6.1 BK255.1 (by decide);intro e_;exact h_ (by rw [e_];rfl)) _;(with_reducible repeat(first|refine blk_drewN ?_ _|refine blk_drew ?_|refine blk_alloc ?_ _));exact BK255.1⟩,⟨by repeat(first|(with_reducible first|exact HB.1|apply below_alloc|apply pw_below_drewN|apply below_drew1|refine below_set ?_ GB17.1|refine below_set ?_ GE254.1|refine below_set ?_ GE255.1)|exact HB.1)⟩⟩
         ·rw [if_neg c16] at H;exact absurd H (by simp)
        ·rw [if_neg c15] at H;exact absurd H (by simp)
       ·rw [if_neg c14] at H;exact absurd H (by simp)
     ·rw [if_neg c11] at H;have c11b0:decide (x7_1<(l0_1.length:Int))=false:=decide_eq_false c11;clear c11;replace H:=qOb H;obtain⟨⟨t262,t263⟩,A230,H⟩:=H;replace H:(some (t262,t263))=some (r1,r2):=H;have A23:=qAm A230;clear A230;simp only [Option.some.injEq,Prod.mk.injEq] at H;obtain⟨rfl,rfl⟩:=H;have hnb24:=NB254_255.1;have hnc24:=NB255_254.1;have hcz25_0:wr.cell? ⟨gb254,0,none⟩=some (.int .i64 a0_0):=(blk_cell BK254.1 0).trans rfl;have hcz25_1:wr.cell? ⟨gb254,1,none⟩=some (.slice A0_1 l0_1.length c0_1):=(blk_cell BK254.1 1).trans rfl;have hfz25_0:=blk_frozen BK254.1 0;have hfz25_1:=blk_frozen BK254.1 1;obtain⟨Ao26,co26,eo26⟩:=Kd.R_slice HO_6.1;subst eo26;go_wp2_with (first|((with_reducible refine gate_callee (f:=134) rfl ?_);refine goesL_ (some 44) rfl rfl Try.func134 (by kernel_rfl) rfl #[.int .i64 a0_0,.slice Ao26 x6_1.length co26] rfl qB90 ?_;(with_reducible refine(spec_l01Reduce.calls k1 a0_0 _ _ x6_1 t262 t263 _ ?side1 ?side2 A23.1).mono ?_);(case side1=>repeat(first|exact(Kd.R_reads' HO_6.1).2.2|(with_reducible refine Kd.C_alloc ?_ _)|(with_reducible refine Kd.C_drewN ?_ _)|(with_reducible refine Kd.C_drew ?_)));(case side2=>exact(Kd.R_reads' HO_6.1).2.1);rintro e w27 ⟨v264,rfl,ho0,hb⟩;refine⟨_,rfl,?_⟩;have n0_:=qAm (Kd.R_elder' qB172 (Kd.R_base ho0) hb);have n1_:=qAm (Kd.R_lower (Kd.R_new' ho0 (Kd.R_lt qB172)) (below_size qB37));have n2_:=qAm (blk_below (g:=gb254) (o:=.cells #[.int .i64 a0_0,.slice A0_1 l0_1.length c0_1] 28 (0,0)) qB115 hb);have n3_:=qAm (blk_below (g:=gb255) (o:=.cells #[.int .i64 0,.slice none 0 0] 28 (0,0)) qB116 hb);have n4_:=qAm (below_step qB37 hb);clear HO_6;clear BK254;clear BK255;clear HB;have HO_6:=n0_;have HO265:=n1_;have BK254:=n2_;have BK255:=n3_;have HB:=n4_;clear n0_ n1_ n2_ n3_ n4_;(try clear hb);(try clear hb2);(try clear hk);(try clear hi);(try clear ho0);have hcz28_0:w27.cell? ⟨gb255,0,none⟩=some (.int .i64 0):=(blk_cell BK255.1 0).trans rfl;have hcz28_1:w27.cell? ⟨gb255,1,none⟩=some (.slice none 0 0):=(blk_cell BK255.1 1).trans rfl;have hfz28_0:=blk_frozen BK255.1 0;have hfz28_1:=blk_frozen BK255.1 1;obtain⟨Ao29,co29,eo29⟩:=Kd.R_slice HO265.1;subst eo29));refine bodyPost_ret (results_cell_row rfl _ _ gb255 28 #[.int .i64 t262,.slice Ao29 t263.length co29] (0,0) _ rfl (by (with_reducible repeat(first|refine blk_drewN ?_ _|refine blk_drew ?_|refine blk_alloc ?_ _));refine blk_put (cs:=#[.int .i64 t262,.slice none 0 0]) ?_ 1 _ rfl;(with_reducible repeat(first|refine blk_drewN ?_ _|refine blk_drew ?_|refine blk_alloc ?_ _));refine blk_put (cs:=#[.int .i64 0,.slice none 0 0]) ?_ 0 _ rfl;(with_reducible repeat(first|refine blk_drewN ?_ _|refine blk_drew ?_|refine blk_alloc ?_ _));exact BK255.1) Try.underlying28 rfl (by kernel_rfl)) rfl ?_;exact⟨_,by first|rfl|(simp [errW_none,errW_some] <;> rfl)|(simp [*,errW_none,errW_some] <;> rfl),by (with_reducible repeat(first|apply Kd.R_alloc|apply Kd.R_drewN|apply Kd.R_drew));exact Kd.R_mono (Kd.R_far (p:=⟨gb255,1,none⟩) (Kd.R_far (p:=⟨gb255,0,none⟩) (Kd.R_types HO265.1 BK255.1 (by decide)) (fun _ hk=>hk.2) (.int .i64 t262)) (fun _ hk=>hk.2) (.slice Ao29 t263.length co29)) (fun _ hk=>trivial),by repeat(first|(with_reducible first|exact HB.1|apply below_alloc|apply pw_below_drewN|apply below_drew1|refine below_set ?_ GE254.1|refine below_set ?_ GE255.1)|exact HB.1)⟩
  ·rw [if_neg c4] at H;exact absurd H (by simp)
 ·rw [if_neg c3] at H;exact absurd H (by simp)

/-! ### spec_l01Bar: function 73 -/
def spec_l01Bar.f (k:Nat) (a0_0:Int) (l0_1:List Int):Option (Int×List Int):=(spec_l01Galois.f k a0_0 l0_1 (-1)).bind fun bt268=>(some (bt268.1,bt268.2))
theorem spec_l01Bar.mono:∀a0 a1 k,LeO (spec_l01Bar.f k a0 a1) (spec_l01Bar.f (k+1) a0 a1):=by
 intro a0 a1 k;unfold spec_l01Bar.f;repeat' first
   |(with_reducible exact spec_l01Galois.mono _ _ _ _)
   |(with_reducible exact LeO.refl _)
   |(with_reducible exact LeO.none _)
   |(with_reducible refine LeO.ite ?_ ?_)
   |(with_reducible refine LeO.bind ?_ (fun _=>?_))
   |exact spec_l01Galois.mono _ _ _ _
   |exact LeO.none _
   |refine LeO.ite ?_ ?_
   |refine LeO.bind ?_ (fun _=>?_)
set_option maxHeartbeats 8000000 in
set_option maxRecDepth 100000 in
theorem spec_l01Bar.calls (k:Nat) (a0_0:Int) (A0_1:Option Addr) (c0_1:Nat) (l0_1:List Int) (r1:Int) (r2:List Int) (w:World) (hr0_1:Kd.C (Kd.int .i64) w A0_1 l0_1.length l0_1) (hc0_1:l0_1.length≤c0_1) (h:spec_l01Bar.f k a0_0 l0_1=some (r1,r2)):
  Calls Try.prog 73 #[.agg #[.int .i64 a0_0,.slice A0_1 l0_1.length c0_1]] w fun e w'=>∃v1_:Value,e=.returned (.agg #[.int .i64 r1,v1_])∧Kd.R (Kd.int .i64) 2 w' w.heap.size (fun _=>True) v1_ r2∧Below w.heap.size w w':=by
 have hu28:=Try.underlying28;have HR0_1:=qAm hr0_1;have HC0_1:=qAm hc0_1;clear hr0_1 hc0_1;have HB:=qAm (Below.refl w.heap.size w);have H:((spec_l01Galois.f k a0_0 l0_1 (-1)).bind fun bt268=>(some (bt268.1,bt268.2)))=some (r1,r2):=h;clear h;replace H:=qOb H;obtain⟨⟨t268,t269⟩,A20,H⟩:=H;replace H:(some (t268,t269))=some (r1,r2):=H;have A2:=qAm A20;clear A20;simp only [Option.some.injEq,Prod.mk.injEq] at H;obtain⟨rfl,rfl⟩:=H;go_enter Try.func73,Try.ntmps73;go_wp2_with (first|((with_reducible refine gate_dst (N:=1) rfl ?_);refine box_event ?hg (N:=1) ?hd (cs:=#[.int .i64 a0_0,.slice A0_1 l0_1.length c0_1]) (t:=28) ?hr ?_;(case hd=>rfl);(case hg=>rfl);(case hr=>first|(go_simp;done)|(go_simp;rfl));intro gb266 hg w3 hbox hb;have n0_:=qAm (below_step qB95 hb);have n1_:=qAm (hbox);have n2_:=qAm ((by rw [hg];exact(below_size qB95):w.heap.size≤gb266));have n3_:=qAm ((by rw [hg];exact(below_size qB95):w.heap.size≤gb266));clear HB;have HB:=n0_;have BK266:=n1_;have GW266:=n2_;have GE266:=n3_;clear n0_ n1_ n2_ n3_;clear hb hbox hg)|((with_reducible refine gate_dst (N:=2) rfl ?_);refine box_event ?hg (N:=2) ?hd (cs:=#[.int .i64 0,.slice none 0 0]) (t:=28) ?hr ?_;(case hd=>rfl);(case hg=>rfl);(case hr=>first|(go_simp;done)|(go_simp;rfl));intro gb267 hg w4 hbox hb;have n0_:=qAm (blk_below (g:=gb266) (o:=.cells #[.int .i64 a0_0,.slice A0_1 l0_1.length c0_1] 28 (0,0)) qB117 hb);have n1_:=qAm (below_step qB61 hb);have n2_:=qAm (hbox);have n3_:=qAm ((by rw [hg];exact(below_size qB61):w.heap.size≤gb267));have n4_:=qAm ((by rw [hg];exact(below_size qB61):w.heap.size≤gb267));have n5_:=qAm ((by rw [hg];exact Nat.ne_of_lt (blk_lt (g:=gb266) (o:=.cells #[.int .i64 a0_0,.slice A0_1 l0_1.length c0_1] 28 (0,0)) qB117):gb266≠gb267));have n6_:=qAm ((by rw [hg];exact Nat.ne_of_gt (blk_lt (g:=gb266) (o:=.cells #[.int .i64 a0_0,.slice A0_1 l0_1.length c0_1] 28 (0,0)) qB117):gb267≠gb266));clear BK266;clear HB;have BK266:=n0_;have HB:=n1_;have BK267:=n2_;have GW267:=n3_;have GE267:=n4_;have NB266_267:=n5_;have NB267_266:=n6_;clear n0_ n1_ n2_ n3_ n4_ n5_ n6_;clear hb hbox hg;have hnb5:=NB266_267.1;have hnc5:=NB267_266.1;have hcz6_0:w4.cell? ⟨gb266,0,none⟩=some (.int .i64 a0_0):=(blk_cell BK266.1 0).trans rfl;have hcz6_1:w4.cell? ⟨gb266,1,none⟩=some (.slice A0_1 l0_1.length c0_1):=(blk_cell BK266.1 1).trans rfl;have hfz6_0:=blk_frozen BK266.1 0;have hfz6_1:=blk_frozen BK266.1 1)|((with_reducible refine gate_callee (f:=118) rfl ?_);refine goesL_ (some 4) rfl rfl Try.func118 (by kernel_rfl) rfl #[.agg #[.int .i64 a0_0,.slice A0_1 l0_1.length c0_1],.int .i64 (-1)] rfl qB90 ?_;(with_reducible refine(spec_l01Galois.calls k a0_0 _ _ l0_1 (-1) t268 t269 _ ?side1 ?side2 A2.1).mono ?_);(case side1=>repeat(first|exact(Kd.C_below HR0_1.1 HB.1)|(with_reducible refine Kd.C_alloc ?_ _)|(with_reducible refine Kd.C_drewN ?_ _)|(with_reducible refine Kd.C_drew ?_)));(case side2=>exact HC0_1.1);rintro e w7 ⟨v270,rfl,ho0,hb⟩;refine⟨_,rfl,?_⟩;have n0_:=qAm (Kd.R_lower ho0 (below_size qB38));have n1_:=qAm (blk_below (g:=gb266) (o:=.cells #[.int .i64 a0_0,.slice A0_1 l0_1.length c0_1] 28 (0,0)) qB117 hb);have n2_:=qAm (blk_below (g:=gb267) (o:=.cells #[.int .i64 0,.slice none 0 0] 28 (0,0)) (by (with_reducible repeat(first|refine blk_drewN ?_ _|refine blk_drew ?_|refine blk_alloc ?_ _));exact BK267.1) hb);have n3_:=qAm (below_step qB38 hb);clear BK266;clear BK267;clear HB;have HO271:=n0_;have BK266:=n1_;have BK267:=n2_;have HB:=n3_;clear n0_ n1_ n2_ n3_;(try clear hb);(try clear hb2);(try clear hk);(try clear hi);(try clear ho0);have hcz8_0:w7.cell? ⟨gb267,0,none⟩=some (.int .i64 0):=(blk_cell BK267.1 0).trans rfl;have hcz8_1:w7.cell? ⟨gb267,1,none⟩=some (.slice none 0 0):=(blk_cell BK267.1 1).trans rfl;have hfz8_0:=blk_frozen BK267.1 0;have hfz8_1:=blk_frozen BK267.1 1;obtain⟨Ao9,co9,eo9⟩:=Kd.R_slice HO271.1;subst eo9));refine bodyPost_ret (results_cell_row rfl _ _ gb267 28 #[.int .i64 t268,.slice Ao9 t269.length co9] (0,0) _ rfl (by (with_reducible repeat(first|refine blk_drewN ?_ _|refine blk_drew ?_|refine blk_alloc ?_ _));refine blk_put (cs:=#[.int .i64 t268,.slice none 0 0]) ?_ 1 _ rfl;(with_reducible repeat(first|refine blk_drewN ?_ _|refine blk_drew ?_|refine blk_alloc ?_ _));refine blk_put (cs:=#[.int .i64 0,.slice none 0 0]) ?_ 0 _ rfl;(with_reducible repeat(first|refine blk_drewN ?_ _|refine blk_drew ?_|refine blk_alloc ?_ _));exact BK267.1) Try.underlying28 rfl (by kernel_rfl)) rfl ?_;exact⟨_,by first|rfl|(simp [errW_none,errW_some] <;> rfl)|(simp [*,errW_none,errW_some] <;> rfl),by (with_reducible repeat(first|apply Kd.R_alloc|apply Kd.R_drewN|apply Kd.R_drew));exact Kd.R_mono (Kd.R_far (p:=⟨gb267,1,none⟩) (Kd.R_far (p:=⟨gb267,0,none⟩) (Kd.R_types HO271.1 BK267.1 (by decide)) (fun _ hk=>hk.2) (.int .i64 t268)) (fun _ hk=>hk.2) (.slice Ao9 t269.length co9)) (fun _ hk=>trivial),by repeat(first|(with_reducible first|exact HB.1|apply below_alloc|apply pw_below_drewN|apply below_drew1|refine below_set ?_ GE266.1|refine below_set ?_ GE267.1)|exact HB.1)⟩

end Go.Proofs.Ytefhabkikaadiaa.PFnExactOrthogonalSum
