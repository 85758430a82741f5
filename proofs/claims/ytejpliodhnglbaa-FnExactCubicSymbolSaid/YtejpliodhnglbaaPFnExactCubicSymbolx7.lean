/- The functions that the law reaches, as plain functions, each with the proof that the program comes to it; no condition. Written by a program of this session (wip/mp.py) over the printing of the kit; what is marked HAND is told by hand. -/
import Derived.Test.YtejpliodhnglbaaPFnExactCubicSymbolx0
import Derived.Test.YtejpliodhnglbaaPFnExactCubicSymbolx3
import Derived.Test.YtejpliodhnglbaaPFnExactCubicSymbolx5
import Derived.Test.YtejpliodhnglbaaPFnExactCubicSymbolx6
namespace Go.Proofs.Ytejpliodhnglbaa.PFnExactCubicSymbol
open Go.RowKit Go.Proofs.YtejpliodhnglbaaW.PrintWords Go.Proofs.YtejpliodhnglbaaW.PrintLast Go.Proofs.YtejpliodhnglbaaW.PrintMore
attribute [local go_sem] max2_int min2_int max_two min_two max_three min_three max_four min_four   -- for this text's walks alone
set_option linter.unusedVariables false
set_option linter.unusedSimpArgs false

/-! ### spec_l01Reduce: function 70 -/
mutual
def spec_l01Reduce.l0:Nat→Int→List Int→List Int→Int→Int→Option (Int×List Int)
 |0,_,_,_,_,_=>none
 |k+1,x0,x5,x6,x7,x8=>if x8≥x7 then (if 0≤x8 then (if x8<(x6.length:Int) then (spec_l01Reduce.l1 k x0 x5 x6 x7 x8 (rd x6 x8) 0) else (none)) else (none)) else ((spec_l01Zero.f k x0).bind fun bt242=>(spec_l01Reduce.l2 k x6 x7 0 bt242.1 bt242.2))
def spec_l01Reduce.l1:Nat→Int→List Int→List Int→Int→Int→Int→Int→Option (Int×List Int)
 |0,_,_,_,_,_,_,_=>none
 |k+1,x0,x5,x6,x7,x8,x9,x10=>if x10≤x7 then (if 0≤(wrap64 ((wrap64 (x8 - x7))+x10)) then (if (wrap64 ((wrap64 (x8 - x7))+x10))<(x6.length:Int) then (if 0≤x10 then (if x10<(x5.length:Int) then (spec_l01Reduce.l1 k x0 x5 (x6.set ((wrap64 ((wrap64 (x8 - x7))+x10)):Int).toNat (wrap64 ((rd x6 (wrap64 ((wrap64 (x8 - x7))+x10))) - (wrap64 (x9*(rd x5 x10)))))) x7 x8 x9 (wrap64 (x10+1))) else (none)) else (none)) else (none)) else (none)) else (spec_l01Reduce.l0 k x0 x5 x6 x7 (wrap64 (x8 - 1)))
def spec_l01Reduce.l2:Nat→List Int→Int→Int→Int→List Int→Option (Int×List Int)
 |0,_,_,_,_,_=>none
 |k+1,x6,x7,x12,x247000,x247001=>if x12<x7 then (if x12<(x6.length:Int) then (if 0≤x12 then (if x12<(x247001.length:Int) then (spec_l01Reduce.l2 k x6 x7 (wrap64 (x12+1)) x247000 (x247001.set (x12:Int).toNat (rd x6 x12))) else (none)) else (none)) else (some (x247000,x247001))) else (some (x247000,x247001))
end
def spec_l01Reduce.f (k:Nat) (a0:Int) (l1:List Int):Option (Int×List Int):=(spec_l01Cyclotomic.f k a0).bind fun t232=>((spec_l01Own.f l1).bind fun t235=>(spec_l01Reduce.l0 k a0 t232 t235 (wrap64 ((t232.length:Int) - 1)) (wrap64 ((t235.length:Int) - 1))))
theorem spec_l01Reduce.mono_l:∀k,(∀y0 y1 y2 y3 y4,LeO (spec_l01Reduce.l0 k y0 y1 y2 y3 y4) (spec_l01Reduce.l0 (k+1) y0 y1 y2 y3 y4))∧(∀y0 y1 y2 y3 y4 y5 y6,LeO (spec_l01Reduce.l1 k y0 y1 y2 y3 y4 y5 y6) (spec_l01Reduce.l1 (k+1) y0 y1 y2 y3 y4 y5 y6))∧(∀y0 y1 y2 y3 y4,LeO (spec_l01Reduce.l2 k y0 y1 y2 y3 y4) (spec_l01Reduce.l2 (k+1) y0 y1 y2 y3 y4))
 |0=>⟨fun _ _ _ _ _ r h=>by simp [spec_l01Reduce.l0] at h,fun _ _ _ _ _ _ _ r h=>by simp [spec_l01Reduce.l1] at h,fun _ _ _ _ _ r h=>by simp [spec_l01Reduce.l2] at h⟩
 |k+1=>by
  obtain⟨ih0,ih1,ih2⟩:=spec_l01Reduce.mono_l k;refine⟨?_,?_,?_⟩
  ·intro y0 y1 y2 y3 y4;unfold spec_l01Reduce.l0;repeat' first
   |(with_reducible exact ih0 _ _ _ _ _)
   |(with_reducible exact ih1 _ _ _ _ _ _ _)
   |(with_reducible exact ih2 _ _ _ _ _)
   |(with_reducible exact spec_l01Cyclotomic.mono _ _)
   |(with_reducible exact spec_l01Zero.mono _ _)
   |(with_reducible exact LeO.refl _)
   |(with_reducible exact LeO.none _)
   |(with_reducible refine LeO.ite ?_ ?_)
   |(with_reducible refine LeO.bind ?_ (fun _=>?_))
   |exact ih0 _ _ _ _ _
   |exact ih1 _ _ _ _ _ _ _
   |exact ih2 _ _ _ _ _
   |exact spec_l01Cyclotomic.mono _ _
   |exact spec_l01Zero.mono _ _
   |exact LeO.none _
   |refine LeO.ite ?_ ?_
   |refine LeO.bind ?_ (fun _=>?_)
  ·intro y0 y1 y2 y3 y4 y5 y6;unfold spec_l01Reduce.l1;repeat' first
   |(with_reducible exact ih0 _ _ _ _ _)
   |(with_reducible exact ih1 _ _ _ _ _ _ _)
   |(with_reducible exact ih2 _ _ _ _ _)
   |(with_reducible exact spec_l01Cyclotomic.mono _ _)
   |(with_reducible exact spec_l01Zero.mono _ _)
   |(with_reducible exact LeO.refl _)
   |(with_reducible exact LeO.none _)
   |(with_reducible refine LeO.ite ?_ ?_)
   |(with_reducible refine LeO.bind ?_ (fun _=>?_))
   |exact ih0 _ _ _ _ _
   |exact ih1 _ _ _ _ _ _ _
   |exact ih2 _ _ _ _ _
   |exact spec_l01Cyclotomic.mono _ _
   |exact spec_l01Zero.mono _ _
   |exact LeO.none _
   |refine LeO.ite ?_ ?_
   |refine LeO.bind ?_ (fun _=>?_)
  ·intro y0 y1 y2 y3 y4;unfold spec_l01Reduce.l2;repeat' first
   |(with_reducible exact ih0 _ _ _ _ _)
   |(with_reducible exact ih1 _ _ _ _ _ _ _)
   |(with_reducible exact ih2 _ _ _ _ _)
   |(with_reducible exact spec_l01Cyclotomic.mono _ _)
   |(with_reducible exact spec_l01Zero.mono _ _)
   |(with_reducible exact LeO.refl _)
   |(with_reducible exact LeO.none _)
   |(with_reducible refine LeO.ite ?_ ?_)
   |(with_reducible refine LeO.bind ?_ (fun _=>?_))
   |exact ih0 _ _ _ _ _
   |exact ih1 _ _ _ _ _ _ _
   |exact ih2 _ _ _ _ _
   |exact spec_l01Cyclotomic.mono _ _
   |exact spec_l01Zero.mono _ _
   |exact LeO.none _
   |refine LeO.ite ?_ ?_
   |refine LeO.bind ?_ (fun _=>?_)
theorem spec_l01Reduce.mono:∀a0 a1 k,LeO (spec_l01Reduce.f k a0 a1) (spec_l01Reduce.f (k+1) a0 a1):=by
 intro a0 a1 k;obtain⟨ih0,ih1,ih2⟩:=spec_l01Reduce.mono_l k;unfold spec_l01Reduce.f;repeat' first
   |(with_reducible exact ih0 _ _ _ _ _)
   |(with_reducible exact ih1 _ _ _ _ _ _ _)
   |(with_reducible exact ih2 _ _ _ _ _)
   |(with_reducible exact spec_l01Cyclotomic.mono _ _)
   |(with_reducible exact spec_l01Zero.mono _ _)
   |(with_reducible exact LeO.refl _)
   |(with_reducible exact LeO.none _)
   |(with_reducible refine LeO.ite ?_ ?_)
   |(with_reducible refine LeO.bind ?_ (fun _=>?_))
   |exact ih0 _ _ _ _ _
   |exact ih1 _ _ _ _ _ _ _
   |exact ih2 _ _ _ _ _
   |exact spec_l01Cyclotomic.mono _ _
   |exact spec_l01Zero.mono _ _
   |exact LeO.none _
   |refine LeO.ite ?_ ?_
   |refine LeO.bind ?_ (fun _=>?_)
def spec_l01Reduce.T10:Bool×List (List Nat×List Nat):=(true,[([],[]),([],[]),([],[]),([1,2],[1,2]),([],[]),([3,4],[3,4]),([],[]),([],[]),([],[]),([7,8],[7,8]),([],[]),([9,10],[9,10]),([6,11],[6,11]),([12],[12]),([],[]),([],[]),([],[]),([15,16],[15,16]),([17],[17]),([14,18],[14,18]),([13,19],[13,19]),([0,5,0,1,2,3,4,5,6,7,8,9,10,11,12,13,14,15,16,17,18,19,20],[0,5]),([21,20,0,1,2,3,4,5,6,7,8,9,10,11,12,13,14,15,16,17,18,19,20],[20,21])])
def spec_l01Reduce.B10:List Nat:=[0,0,0,6,0,30,0,0,0,384,0,1920,4032,8128,0,0,0,98304,229376,507904,1048512,2097151,4194303]
theorem spec_l01Reduce.tab10:rtab .any (opsOf Try.f70 10)=spec_l01Reduce.T10:=by kernel_rfl
theorem spec_l01Reduce.bits10:waitsOk spec_l01Reduce.T10.2 spec_l01Reduce.B10=true:=by kernel_rfl
def spec_l01Reduce.T15:Bool×List (List Nat×List Nat):=(true,[([],[]),([0],[0]),([],[]),([],[]),([],[]),([3,4],[3,4]),([5],[5]),([1,2,0,1,2,3,4,5,6],[1,2]),([7,6,0,1,2,3,4,5,6],[6,7])])
def spec_l01Reduce.B15:List Nat:=[0,1,0,0,0,24,56,127,255]
theorem spec_l01Reduce.tab15:rtab .any (opsOf Try.f70 15)=spec_l01Reduce.T15:=by kernel_rfl
theorem spec_l01Reduce.bits15:waitsOk spec_l01Reduce.T15.2 spec_l01Reduce.B15=true:=by kernel_rfl
set_option maxHeartbeats 8000000 in
set_option maxRecDepth 100000 in
theorem spec_l01Reduce.calls (k:Nat) (a0:Int) (A1:Option Addr) (c1:Nat) (l1:List Int) (r1:Int) (r2:List Int) (w:World) (hr1:Kd.C (Kd.int .i64) w A1 l1.length l1) (hc1:l1.length≤c1) (h:spec_l01Reduce.f k a0 l1=some (r1,r2)):
  Calls Try.prog 70 #[.int .i64 a0,.slice A1 l1.length c1] w fun e w'=>∃v1_:Value,e=.returned (.agg #[.int .i64 r1,v1_])∧Kd.R (Kd.int .i64) 2 w' w.heap.size (fun _=>True) v1_ r2∧Below w.heap.size w w':=by
 have hu26:=Try.underlying26;have HR1:=qAm hr1;have HC1:=qAm hc1;clear hr1 hc1;have HB:=qAm (Below.refl w.heap.size w);have H:((spec_l01Cyclotomic.f k a0).bind fun t232=>((spec_l01Own.f l1).bind fun t235=>(spec_l01Reduce.l0 k a0 t232 t235 (wrap64 ((t232.length:Int) - 1)) (wrap64 ((t235.length:Int) - 1)))))=some (r1,r2):=h;clear h;replace H:=qOb H;obtain⟨t232,A30,H⟩:=H;replace H:((spec_l01Own.f l1).bind fun t235=>(spec_l01Reduce.l0 k a0 t232 t235 (wrap64 ((t232.length:Int) - 1)) (wrap64 ((t235.length:Int) - 1))))=some (r1,r2):=H;have A3:=qAm A30;clear A30;replace H:=qOb H;obtain⟨t235,A40,H⟩:=H;replace H:(spec_l01Reduce.l0 k a0 t232 t235 (wrap64 ((t232.length:Int) - 1)) (wrap64 ((t235.length:Int) - 1)))=some (r1,r2):=H;have A4:=qAm A40;clear A40;have H':=qAm H;clear H;go_enter Try.func70,Try.ntmps70;go_wp2_with (first|((with_reducible refine gate_dst (N:=4) rfl ?_);(try(refine gate_guard (by rfl) ?_;dsimp only));refine box_event qL (N:=4) qL (cs:=#[.int .i64 0,.slice none 0 0]) (t:=26) qR ?_;intro gb231 hg w5 hbox hb;have n0_:=qAm (below_step qB111 hb);have n1_:=qAm (hbox);have n2_:=qAm ((by rw [hg];exact(below_size qB111):w.heap.size≤gb231));have n3_:=qAm ((by rw [hg];exact(below_size qB111):w.heap.size≤gb231));clear HB;have HB:=n0_;have BK231:=n1_;have GW231:=n2_;have GE231:=n3_;clear n0_ n1_ n2_ n3_;clear hb hbox hg)|((with_reducible refine gate_callee (f:=76) rfl ?_);refine goesL_ (some 14) rfl rfl Try.func76 (by kernel_rfl) rfl #[.int .i64 a0] rfl qB108 ?_;(with_reducible refine(spec_l01Cyclotomic.calls k a0 t232 _ A3.1).mono ?_);rintro e w6 ⟨v233,rfl,ho0,hb⟩;refine⟨_,rfl,?_⟩;have n0_:=qAm (Kd.R_lower ho0 (below_size qB89));have n1_:=qAm (blk_below (g:=gb231) (o:=.cells #[.int .i64 0,.slice none 0 0] 26 (0,0)) qB128 hb);have n2_:=qAm (below_step qB89 hb);clear BK231;clear HB;have HO234:=n0_;have BK231:=n1_;have HB:=n2_;clear n0_ n1_ n2_;(try clear hb);(try clear hb2);(try clear hk);(try clear hi);(try clear ho0))|((with_reducible refine gate_callee (f:=77) rfl ?_);refine goesL_ (some 16) rfl rfl Try.func77 (by kernel_rfl) rfl #[.slice A1 l1.length c1] rfl qB108 ?_;(with_reducible refine(spec_l01Own.calls _ _ l1 t235 _ ?side1 ?side2 A4.1).mono ?_);(case side1=>repeat(first|exact(Kd.C_below HR1.1 HB.1)|(with_reducible refine Kd.C_alloc ?_ _)|(with_reducible refine Kd.C_drewN ?_ _)|(with_reducible refine Kd.C_drew ?_)));(case side2=>exact HC1.1);rintro e w7 ⟨v236,rfl,ho0,hb⟩;refine⟨_,rfl,?_⟩;have n0_:=qAm (Kd.R_elder' qB181 (Kd.R_base ho0) hb);have n1_:=qAm (Kd.R_lower (Kd.R_new' ho0 (Kd.R_lt qB181)) (below_size qB89));have n2_:=qAm (blk_below (g:=gb231) (o:=.cells #[.int .i64 0,.slice none 0 0] 26 (0,0)) qB128 hb);have n3_:=qAm (below_step qB89 hb);clear HO234;clear BK231;clear HB;have HO234:=n0_;have HO237:=n1_;have BK231:=n2_;have HB:=n3_;clear n0_ n1_ n2_ n3_;(try clear hb);(try clear hb2);(try clear hk);(try clear hi);(try clear ho0);obtain⟨Ao8,co8,eo8⟩:=Kd.R_slice HO234.1;subst eo8;obtain⟨Ao9,co9,eo9⟩:=Kd.R_slice HO237.1;subst eo9));try simp only [Act.put,qSa,qSc,qSb]
 go_loopg [8] k (fun kq v8 w'=>∃(x6_1:List Int) (x8_1:Int),v8=.int .i64 x8_1∧Aside0 (spec_l01Reduce.l0 kq a0 t232 x6_1 (wrap64 ((t232.length:Int) - 1)) x8_1=some (r1,r2))∧Aside0 (kq≤k)∧Aside0 (Kd.R (Kd.int .i64) 2 w' w.heap.size (fun k_=>some k_≠((.slice Ao9 t235.length co9):Value).ownBlock) (.slice Ao8 t232.length co8) t232)∧Aside0 (Kd.R (Kd.int .i64) 2 w' w.heap.size (fun k_=>some k_≠((.slice Ao8 t232.length co8):Value).ownBlock) (.slice Ao9 t235.length co9) x6_1)∧Aside0 (w'.heap[gb231]? =some (.cells #[.int .i64 0,(.slice none 0 0)] 26 (0,0)))∧Aside0 (Below w.heap.size w w'))
 case atStart=>exact⟨(t235),(wrap64 ((t235.length:Int) - 1)),qB216,H',⟨Nat.le_refl _⟩,⟨by (with_reducible repeat(first|apply Kd.R_alloc|apply Kd.R_drewN|apply Kd.R_drew));exact Kd.R_mono HO234.1 (fun _ hk=>hk.2)⟩,⟨by (with_reducible repeat(first|apply Kd.R_alloc|apply Kd.R_drewN|apply Kd.R_drew));exact Kd.R_mono HO237.1 (fun _ hk=>hk.2)⟩,⟨by (with_reducible repeat(first|refine blk_drewN ?_ _|refine blk_drew ?_|refine blk_alloc ?_ _));exact BK231.1⟩,⟨by repeat(first|(with_reducible first|exact HB.1|apply below_alloc|apply pw_below_drewN|apply below_drew1|refine below_set ?_ GE231.1)|exact HB.1)⟩⟩
 case round=>
  clear H';try clear c1
  try clear p2
  try clear p6
  try clear c7
  obtain⟨x6_1,x8_1,rfl,HA,HK1,HO_5,HO_6,BK231,HB⟩:=hrel;have hl6_1:=(Kd.R_reads' HO_6.1).1;rw [hl6_1] at HO_6
  (try simp only [hl6_1])
  (try simp only [hl6_1] at BK231)
  (try simp only [hl6_1] at HO_5)
  cases gk with
  |zero=>exact absurd HA.1 (by simp [spec_l01Reduce.l0])
  |succ k1=>
   have H:=HA.1;clear HA;simp only [spec_l01Reduce.l0] at H
   by_cases c10:x8_1≥(wrap64 ((t232.length:Int) - 1))
   ·rw [if_pos c10] at H;have c10b0:decide ((wrap64 ((t232.length:Int) - 1))≤x8_1)=true:=decide_eq_true c10;clear c10
    by_cases c11:0≤x8_1
    ·rw [if_pos c11] at H;have c11b0:decide (0≤x8_1)=true:=decide_eq_true c11;clear c11
     by_cases c12:x8_1<(x6_1.length:Int)
     ·rw [if_pos c12] at H;have c12b0:decide (x8_1<(x6_1.length:Int))=true:=decide_eq_true c12;clear c12;have H':=qAm H;clear H;have p238:0≤(x8_1:Int):=of_decide_eq_true qB215;have q238:x8_1<(x6_1.length:Int):=of_decide_eq_true qB215;obtain⟨ad238,e238,hx238_0⟩:=Kd.at_int (Kd.R_reads' HO_6.1).2.2 x8_1 p238 q238;cases e238
      replace p238:=eq_true p238;replace q238:=eq_true q238;go_wp2;try simp only [Act.put,qSa,qSc,qSb]
      go_loopg [10] k1 (fun kq v10 w'=>∃(x6_2:List Int) (x10_2:Int),v10=.int .i64 x10_2∧Aside0 (spec_l01Reduce.l1 kq a0 t232 x6_2 (wrap64 ((t232.length:Int) - 1)) x8_1 (rd x6_1 x8_1) x10_2=some (r1,r2))∧Aside0 (kq≤k1)∧Aside0 (Kd.R (Kd.int .i64) 2 w' w.heap.size (fun k_=>some k_≠((.slice (some ad238) x6_1.length co9):Value).ownBlock) (.slice Ao8 t232.length co8) t232)∧Aside0 (Kd.R (Kd.int .i64) 2 w' w.heap.size (fun k_=>some k_≠((.slice Ao8 t232.length co8):Value).ownBlock) (.slice (some ad238) x6_1.length co9) x6_2)∧Aside0 (w'.heap[gb231]? =some (.cells #[.int .i64 0,(.slice none 0 0)] 26 (0,0)))∧Aside0 (Below w.heap.size w w'))
      case atStart=>exact⟨(x6_1),(0),qB216,H',⟨Nat.le_refl _⟩,⟨by (try simp only [hl6_1]);(with_reducible repeat(first|apply Kd.R_alloc|apply Kd.R_drewN|apply Kd.R_drew));exact HO_5.1⟩,⟨by (try simp only [hl6_1]);(with_reducible repeat(first|apply Kd.R_alloc|apply Kd.R_drewN|apply Kd.R_drew));exact HO_6.1⟩,⟨by (try simp only [hl6_1]);(with_reducible repeat(first|refine blk_drewN ?_ _|refine blk_drew ?_|refine blk_alloc ?_ _));exact BK231.1⟩,⟨by repeat(first|(with_reducible first|exact HB.1|apply below_alloc|apply pw_below_drewN|apply below_drew1|refine below_set ?_ GE231.1)|exact HB.1)⟩⟩
      case round=>
       clear H';try clear c1
       try clear p2
       try clear q2
       try clear hx2
       try clear p6
       try clear c7
       try clear c10
       try clear c10b0
       try clear c11
       try clear c11b0
       try clear c12
       try clear c12b0
       try clear hx238_0
       try clear p2
       try clear p238
       try clear p6
       try clear q238
       obtain⟨x6_2,x10_2,rfl,HA,HK2,HO_5,HO_6,BK231,HB⟩:=hrel;have hl6_2:=(Kd.R_reads' HO_6.1).1;rw [hl6_2] at HO_6
       (try simp only [hl6_2])
       (try simp only [hl6_2] at BK231)
       (try simp only [hl6_2] at HO_5)
       cases gk with
       |zero=>exact absurd HA.1 (by simp [spec_l01Reduce.l1])
       |succ k2=>
        have H:=HA.1;clear HA;simp only [spec_l01Reduce.l1] at H
        by_cases c13:x10_2≤(wrap64 ((t232.length:Int) - 1))
        ·rw [if_pos c13] at H;have c13b0:decide (x10_2≤(wrap64 ((t232.length:Int) - 1)))=true:=decide_eq_true c13;clear c13;obtain⟨ji14,hji14⟩:∃j_:Int,(wrap64 ((wrap64 (x8_1 - (wrap64 ((t232.length:Int) - 1))))+x10_2))=j_:=⟨_,rfl⟩
         replace H:(if 0≤(ji14) then (if (ji14)<(x6_2.length:Int) then (if 0≤x10_2 then (if x10_2<(t232.length:Int) then (spec_l01Reduce.l1 k2 a0 t232 (x6_2.set ((ji14):Int).toNat (wrap64 ((rd x6_2 (ji14)) - (wrap64 ((rd x6_1 x8_1)*(rd t232 x10_2)))))) (wrap64 ((t232.length:Int) - 1)) x8_1 (rd x6_1 x8_1) (wrap64 (x10_2+1))) else (none)) else (none)) else (none)) else (none))=some (r1,r2):=by first|(rw [hji14] at H;exact H)|(simp only [hji14] at H ⊢;exact H)
         have hji14w:(IntKind.i64.wrap ((wrap64 (x8_1 - (wrap64 ((t232.length:Int) - 1))))+x10_2))=ji14:=(i64_w _).trans hji14
         by_cases c15:0≤(ji14)
         ·rw [if_pos c15] at H;have c15b0:decide (0≤(ji14))=true:=decide_eq_true c15;clear c15
          by_cases c16:(ji14)<(x6_2.length:Int)
          ·rw [if_pos c16] at H;have c16b0:decide ((ji14)<(x6_2.length:Int))=true:=decide_eq_true c16;clear c16
           by_cases c17:0≤x10_2
           ·rw [if_pos c17] at H;have c17b0:decide (0≤x10_2)=true:=decide_eq_true c17;clear c17
            by_cases c18:x10_2<(t232.length:Int)
            ·rw [if_pos c18] at H;have c18b0:decide (x10_2<(t232.length:Int))=true:=decide_eq_true c18;clear c18;obtain⟨y241,hy241⟩:∃y_:List Int,y_=(x6_2.set ((ji14):Int).toNat (wrap64 ((rd x6_2 (ji14)) - (wrap64 ((rd x6_1 x8_1)*(rd t232 x10_2)))))):=⟨_,rfl⟩
             replace H:(spec_l01Reduce.l1 k2 a0 t232 y241 (wrap64 ((t232.length:Int) - 1)) x8_1 (rd x6_1 x8_1) (wrap64 (x10_2+1)))=some (r1,r2):=by first|(rw [hy241];with_reducible exact H)|(have H2_:=(Option.bind_some _ _).symm.trans H;rw [hy241];with_reducible exact H2_)|(have H2_:=(Option.bind_some _ _).symm.trans H;with_reducible exact H2_)|with_reducible exact H|(rw [hy241];exact H)|exact H
             have Ny241:=qAm hy241;clear hy241;have H':=qAm H;clear H;try go_wp2
             have n0_:=qAm (Kd.R_drew HO_5.1);have n1_:=qAm (Kd.R_drew HO_6.1);have n2_:=qAm (blk_drew BK231.1);have n3_:=qAm (below_drew1 HB.1);clear HO_5 HO_6 BK231 HB;have HO_5:=n0_;have HO_6:=n1_;have BK231:=n2_;have HB:=n3_;clear n0_ n1_ n2_ n3_;have p239:0≤((ji14):Int):=of_decide_eq_true qB215;have q239:(ji14)<(x6_2.length:Int):=of_decide_eq_true qB215;obtain⟨ad239,e239,hx239_0⟩:=Kd.at_int (Kd.R_reads' HO_6.1).2.2 (ji14) p239 q239;obtain rfl:ad238=ad239:=(by injection e239)
             replace p239:=eq_true p239;replace q239:=eq_true q239;have p240:0≤(x10_2:Int):=of_decide_eq_true qB215;have q240:x10_2<(t232.length:Int):=of_decide_eq_true qB215;obtain⟨ad240,e240,hx240_0⟩:=Kd.at_int (Kd.R_reads' HO_5.1).2.2 x10_2 p240 q240;cases e240
             replace p240:=eq_true p240;replace q240:=eq_true q240;have p19:0≤((ji14):Int):=of_decide_eq_true qB215;have q19:((ji14):Int)<((x6_2.length:Int):Int):=of_decide_eq_true qB215;obtain⟨go19,co19,eo19,gb19,gl19,cl19,HG19⟩:=Kd.R_form HO_6.1 (by omega)
             (first|cases eo19|(injection eo19 with ea_ en_ ec_;(first|subst ea_|(injection ea_ with ea_;subst ea_));subst ec_;clear en_))
             have GB19:=qAm gb19;have GG19:=qAm HG19;clear gb19 gl19 HG19
             (first|simp only [add_plain] at hx238_0|skip)
             (first|simp only [add_plain] at hx239_0|skip)
             obtain⟨hx19_0,hf19_0⟩:=Kd.R_celln 0 HO_6.1 ((ji14):Int) p19 q19;replace p19:=eq_true p19;replace q19:=eq_true q19;have HP21:=Kd.R_putn HO_6.1 ((ji14):Int) (wrap64 ((rd x6_2 (ji14)) - (wrap64 ((rd x6_1 x8_1)*(rd t232 x10_2)))));rw [← Ny241.1] at HP21;have HQ21:=qAm HP21;clear HP21;refine start_ (n:=23) (S:=fun w'=>w'.cell? ⟨go19,((ji14)).toNat,none⟩=some (.int .i64 (rd x6_2 (ji14)))∧w'.cell? (ad240.add (x10_2).toNat)=some (.int .i64 (rd t232 x10_2))) (ds:=[22]) #[false,false,false,false,false,false,false,false,false,false,false,false,false,false,false,false,false,false,false,false,false,false,false] (by kernel_rfl) rfl rfl ⟨hx239_0,hx240_0⟩ (fun hHeld=>?_);refine with_tabW spec_l01Reduce.tab10 spec_l01Reduce.bits10 (fun HT_ HW_=>?_)
             (first|generalize wr.drew=w20 at HO_5 HO_6 BK231 HB GG19 HQ21 hf19_0 hx19_0 hx238_0 hx239_0 hx240_0 hHeld ⊢|generalize wr.drew=w20 at HO_5 HO_6 BK231 HB GG19 HQ21 hf19_0 hx19_0 hx239_0 hx240_0 hHeld ⊢)
             refine pure_ (i:=0) (N:=some 37) (v:=?_) (a':=?_) #[true,false,false,false,false,false,false,false,false,false,false,false,false,false,false,false,false,false,false,false,false,false,false] rfl rfl (any_of HT_.1 (by kernel_rfl)) (fun _ _ _ h=>h) (Or.inl ⟨by rfl,?_⟩) ?_ ?_;rotate_left
             ·intro w';go_simp;with_reducible rfl
             rotate_left
             ·exact qU
             refine pure_ (i:=1) (N:=some 38) (v:=?_) (a':=?_) #[true,true,false,false,false,false,false,false,false,false,false,false,false,false,false,false,false,false,false,false,false,false,false] rfl rfl (any_of HT_.1 (by kernel_rfl)) (fun _ _ _ h=>h) (Or.inl ⟨by rfl,?_⟩) ?_ ?_;rotate_left
             ·intro w';go_simp;with_reducible rfl
             rotate_left
             ·exact qU
             refine pure_ (i:=2) (N:=some 39) (v:=?_) (a':=?_) #[true,true,true,false,false,false,false,false,false,false,false,false,false,false,false,false,false,false,false,false,false,false,false] rfl rfl (any_of HT_.1 (by kernel_rfl)) (fun _ _ _ h=>h) (Or.inl ⟨by rfl,?_⟩) ?_ ?_;rotate_left
             ·intro w';go_simp;with_reducible rfl
             rotate_left
             ·exact qU
             refine pure_ (i:=3) (N:=some 40) (v:=?_) (a':=?_) #[true,true,true,true,false,false,false,false,false,false,false,false,false,false,false,false,false,false,false,false,false,false,false] rfl rfl (any_of HT_.1 (by kernel_rfl)) (fun _ _ _ h=>h) (Or.inl ⟨by rfl,?_⟩) ?_ ?_;rotate_left
             ·intro w';go_simp;with_reducible rfl
             rotate_left
             ·exact qU
             refine pure_ (i:=4) (N:=some 41) (v:=?_) (a':=?_) #[true,true,true,true,true,false,false,false,false,false,false,false,false,false,false,false,false,false,false,false,false,false,false] rfl rfl (any_of HT_.1 (by kernel_rfl)) (fun _ _ _ h=>h) (Or.inl ⟨by rfl,?_⟩) ?_ ?_;rotate_left
             ·intro w';go_simp;with_reducible rfl
             rotate_left
             ·exact qU
             refine pure_ (i:=5) (N:=some 42) (v:=?_) (a':=?_) #[true,true,true,true,true,true,false,false,false,false,false,false,false,false,false,false,false,false,false,false,false,false,false] rfl rfl (any_of HT_.1 (by kernel_rfl)) (fun _ _ _ h=>h) (Or.inl ⟨by rfl,?_⟩) ?_ ?_;rotate_left
             ·intro w';go_simp;with_reducible rfl
             rotate_left
             ·exact qU
             refine pure_ (i:=6) (N:=some 43) (v:=?_) (a':=?_) #[true,true,true,true,true,true,true,false,false,false,false,false,false,false,false,false,false,false,false,false,false,false,false] rfl rfl (any_of HT_.1 (by kernel_rfl)) (fun _ _ _ h=>h) (Or.inl ⟨by rfl,?_⟩) ?_ ?_;rotate_left
             ·intro w';go_simp;with_reducible rfl
             rotate_left
             ·exact qU
             refine pure_ (i:=7) (N:=some 44) (v:=?_) (a':=?_) #[true,true,true,true,true,true,true,true,false,false,false,false,false,false,false,false,false,false,false,false,false,false,false] rfl rfl (any_of HT_.1 (by kernel_rfl)) (fun _ _ _ h=>h) (Or.inl ⟨by rfl,?_⟩) ?_ ?_;rotate_left
             ·intro w';go_simp;with_reducible rfl
             rotate_left
             ·exact qU
             refine pure_ (i:=8) (N:=some 45) (v:=?_) (a':=?_) #[true,true,true,true,true,true,true,true,true,false,false,false,false,false,false,false,false,false,false,false,false,false,false] rfl rfl (any_of HT_.1 (by kernel_rfl)) (fun _ _ _ h=>h) (Or.inl ⟨by rfl,?_⟩) ?_ ?_;rotate_left
             ·intro w';go_simp;with_reducible rfl
             rotate_left
             ·exact qU
             refine pure_ (i:=9) (N:=some 46) (v:=?_) (a':=?_) #[true,true,true,true,true,true,true,true,true,true,false,false,false,false,false,false,false,false,false,false,false,false,false] rfl rfl (any_of HT_.1 (by kernel_rfl)) (fun _ _ _ h=>h) (Or.inl ⟨by rfl,?_⟩) ?_ ?_;rotate_left
             ·intro w';go_simp;with_reducible rfl
             rotate_left
             ·exact qU
             refine pure_ (i:=10) (N:=some 47) (v:=?_) (a':=?_) #[true,true,true,true,true,true,true,true,true,true,true,false,false,false,false,false,false,false,false,false,false,false,false] rfl rfl (any_of HT_.1 (by kernel_rfl)) (fun _ _ _ h=>h) (Or.inl ⟨by rfl,?_⟩) ?_ ?_;rotate_left
             ·intro w';go_simp;with_reducible rfl
             rotate_left
             ·exact qU
             refine pure_ (i:=11) (N:=some 48) (v:=?_) (a':=?_) #[true,true,true,true,true,true,true,true,true,true,true,true,false,false,false,false,false,false,false,false,false,false,false] rfl rfl (any_of HT_.1 (by kernel_rfl)) (fun _ _ _ h=>h) (Or.inl ⟨by rfl,?_⟩) ?_ ?_;rotate_left
             ·intro w';go_simp;with_reducible rfl
             rotate_left
             ·exact qU
             refine pure_ (i:=12) (N:=some 49) (v:=?_) (a':=?_) #[true,true,true,true,true,true,true,true,true,true,true,true,true,false,false,false,false,false,false,false,false,false,false] rfl rfl (any_of HT_.1 (by kernel_rfl)) (fun _ _ _ h=>h) (Or.inl ⟨by rfl,?_⟩) ?_ ?_;rotate_left
             ·intro w';go_simp;with_reducible rfl
             rotate_left
             ·exact qU
             refine pure_ (i:=14) (N:=some 51) (v:=?_) (a':=?_) #[true,true,true,true,true,true,true,true,true,true,true,true,true,false,true,false,false,false,false,false,false,false,false] rfl rfl (any_of HT_.1 (by kernel_rfl)) (fun _ _ _ h=>h) (Or.inl ⟨by rfl,?_⟩) ?_ ?_;rotate_left
             ·intro w';go_simp;with_reducible rfl
             rotate_left
             ·exact qU
             refine pure_ (i:=15) (N:=some 52) (v:=?_) (a':=?_) #[true,true,true,true,true,true,true,true,true,true,true,true,true,false,true,true,false,false,false,false,false,false,false] rfl rfl (any_of HT_.1 (by kernel_rfl)) (fun _ _ _ h=>h) (Or.inl ⟨by rfl,?_⟩) ?_ ?_;rotate_left
             ·intro w';go_simp;with_reducible rfl
             rotate_left
             ·exact qU
             refine pure_ (i:=16) (N:=some 53) (v:=?_) (a':=?_) #[true,true,true,true,true,true,true,true,true,true,true,true,true,false,true,true,true,false,false,false,false,false,false] rfl rfl (any_of HT_.1 (by kernel_rfl)) (fun _ _ _ h=>h) (Or.inl ⟨by rfl,?_⟩) ?_ ?_;rotate_left
             ·intro w';go_simp;with_reducible rfl
             rotate_left
             ·exact qU
             refine pure_ (i:=17) (N:=some 54) (v:=?_) (a':=?_) #[true,true,true,true,true,true,true,true,true,true,true,true,true,false,true,true,true,true,false,false,false,false,false] rfl rfl (any_of HT_.1 (by kernel_rfl)) (fun _ _ _ h=>h) (Or.inl ⟨by rfl,?_⟩) ?_ ?_;rotate_left
             ·intro w';go_simp;with_reducible rfl
             rotate_left
             ·exact qU
             refine take_ (i:=13) (N:=some 50) (v:=?_) (a':=?_) #[true,true,true,true,true,true,true,true,true,true,true,true,true,true,true,true,true,true,false,false,false,false,false] rfl rfl (take_ofW HT_.1 HW_.1 (by kernel_rfl)) (fun _ _ _ h=>h) (Or.inl ⟨by rfl,?_⟩) hHeld ?_ ?_;rotate_left
             ·rintro w' ⟨s0,s1⟩;go_simp;with_reducible rfl
             rotate_left
             ·exact qU
             refine take_ (i:=18) (N:=some 55) (v:=?_) (a':=?_) #[true,true,true,true,true,true,true,true,true,true,true,true,true,true,true,true,true,true,true,false,false,false,false] rfl rfl (take_ofW HT_.1 HW_.1 (by kernel_rfl)) (fun _ _ _ h=>h) (Or.inl ⟨by rfl,?_⟩) hHeld ?_ ?_;rotate_left
             ·rintro w' ⟨s0,s1⟩;go_simp;with_reducible rfl
             rotate_left
             ·exact qU
             refine pure_ (i:=19) (N:=some 56) (v:=?_) (a':=?_) #[true,true,true,true,true,true,true,true,true,true,true,true,true,true,true,true,true,true,true,true,false,false,false] rfl rfl (any_of HT_.1 (by kernel_rfl)) (fun _ _ _ h=>h) (Or.inl ⟨by rfl,?_⟩) ?_ ?_;rotate_left
             ·intro w';go_simp;with_reducible rfl
             rotate_left
             ·exact qU
             refine pure_ (i:=20) (N:=some 57) (v:=?_) (a':=?_) #[true,true,true,true,true,true,true,true,true,true,true,true,true,true,true,true,true,true,true,true,true,false,false] rfl rfl (any_of HT_.1 (by kernel_rfl)) (fun _ _ _ h=>h) (Or.inl ⟨by rfl,?_⟩) ?_ ?_;rotate_left
             ·intro w';go_simp;with_reducible rfl
             rotate_left
             ·exact qU
             refine pure_ (i:=21) (N:=some 58) (v:=?_) (a':=?_) #[true,true,true,true,true,true,true,true,true,true,true,true,true,true,true,true,true,true,true,true,true,true,false] rfl rfl (any_of HT_.1 (by kernel_rfl)) (fun _ _ _ h=>h) (Or.inl ⟨by rfl,?_⟩) ?_ ?_;rotate_left
             ·intro w';go_simp;with_reducible rfl
             rotate_left
             ·exact qU
             refine last_ (i:=22) (N:=none) #[true,true,true,true,true,true,true,true,true,true,true,true,true,true,true,true,true,true,true,true,true,true,true] rfl rfl (one_of HT_.1 (by kernel_rfl)) (by decide) (fun K hK=>?_);refine skip_ (w1:=?_) (by rfl) rfl ?_ ?_;rotate_left
             ·go_simp;rfl
             refine hK.out _ _ ?_;clear hK K;refine done_ (done_of HT_.1 (by kernel_rfl)) ?_;try go_wp2
             (try simp only [← hl6_2])
             (first|go_roundg k2|((try simp only [add_plain] at *);go_roundg k2))
             case measure=>have:=HK1.1;have:=HK2.1;omega
             case rel=>exact⟨(y241),(wrap64 (x10_2+1)),qB216,H',⟨by have:=HK1.1;have:=HK2.1;omega⟩,⟨by (try simp only [hl6_1]);(try simp only [hl6_2]);(with_reducible repeat(first|apply Kd.R_alloc|apply Kd.R_drewN|apply Kd.R_drew));exact Kd.R_mono (Kd.R_far (p:=⟨go19,((ji14):Int).toNat,none⟩) (Kd.R_mono HO_5.1 (fun k_ hk=>(⟨hk,fun e_=>hk (by rw [e_];rfl)⟩:_∧k_≠go19))) (fun _ hk=>hk.2) (.int .i64 (wrap64 ((rd x6_2 (ji14)) - (wrap64 ((rd x6_1 x8_1)*(rd t232 x10_2))))))) (fun _ hk=>hk.1)⟩,⟨by (try simp only [hl6_1]);(try simp only [hl6_2]);(with_reducible repeat(first|apply Kd.R_alloc|apply Kd.R_drewN|apply Kd.R_drew));exact HQ21.1⟩,⟨by (try simp only [hl6_1]);(try simp only [hl6_2]);(with_reducible repeat(first|refine blk_drewN ?_ _|refine blk_drew ?_|refine blk_alloc ?_ _));refine blk_far ?_ (by have h_:=Kd.R_ne HO_6.1 BK231.1 (by decide);intro e_;exact h_ (by rw [e_];rfl)) _;(with_reducible repeat(first|refine blk_drewN ?_ _|refine blk_drew ?_|refine blk_alloc ?_ _));exact BK231.1⟩,⟨by repeat(first|(with_reducible first|exact HB.1|apply below_alloc|apply pw_below_drewN|apply below_drew1|refine below_set ?_ GB19.1|refine below_set ?_ GE231.1)|exact HB.1)⟩⟩
            ·rw [if_neg c18] at H;exact absurd H (by simp)
           ·rw [if_neg c17] at H;exact absurd H (by simp)
          ·rw [if_neg c16] at H;exact absurd H (by simp)
         ·rw [if_neg c15] at H;exact absurd H (by simp)
        ·rw [if_neg c13] at H;have c13b0:decide (x10_2≤(wrap64 ((t232.length:Int) - 1)))=false:=decide_eq_false c13;have c13b0_0:=c13b0
         (try rw [hl6_1] at c13b0_0)
         have c13b0_1:=c13b0
         (try rw [hl6_2] at c13b0_1)
         clear c13;have H':=qAm H;clear H;go_wp2
         (try simp only [← hl6_1,← hl6_2])
         (first|go_roundg k2|((try simp only [add_plain] at *);go_roundg k2))
         case measure=>have:=HK1.1;have:=HK2.1;omega
         case rel=>exact⟨(x6_2),(wrap64 (x8_1 - 1)),qB216,H',⟨by have:=HK1.1;have:=HK2.1;omega⟩,⟨by (try simp only [hl6_1]);(try simp only [hl6_2]);(with_reducible repeat(first|apply Kd.R_alloc|apply Kd.R_drewN|apply Kd.R_drew));exact HO_5.1⟩,⟨by (try simp only [hl6_1]);(try simp only [hl6_2]);(with_reducible repeat(first|apply Kd.R_alloc|apply Kd.R_drewN|apply Kd.R_drew));exact HO_6.1⟩,⟨by (try simp only [hl6_1]);(try simp only [hl6_2]);(with_reducible repeat(first|refine blk_drewN ?_ _|refine blk_drew ?_|refine blk_alloc ?_ _));exact BK231.1⟩,⟨by repeat(first|(with_reducible first|exact HB.1|apply below_alloc|apply pw_below_drewN|apply below_drew1|refine below_set ?_ GE231.1)|exact HB.1)⟩⟩
     ·rw [if_neg c12] at H;exact absurd H (by simp)
    ·rw [if_neg c11] at H;exact absurd H (by simp)
   ·rw [if_neg c10] at H;have c10b0:decide ((wrap64 ((t232.length:Int) - 1))≤x8_1)=false:=decide_eq_false c10;have c10b0_0:=c10b0
    (try rw [hl6_1] at c10b0_0)
    clear c10;replace H:=qOb H;obtain⟨⟨t242,t243⟩,A220,H⟩:=H;replace H:(spec_l01Reduce.l2 k1 x6_1 (wrap64 ((t232.length:Int) - 1)) 0 t242 t243)=some (r1,r2):=H;have A22:=qAm A220;clear A220;have H':=qAm H;clear H;go_wp2_with (first|((with_reducible refine gate_callee (f:=78) rfl ?_);refine goesL_ (some 60) rfl rfl Try.func78 (by kernel_rfl) rfl #[.int .i64 a0] rfl qB108 ?_;(with_reducible refine(spec_l01Zero.calls k1 a0 t242 t243 _ A22.1).mono ?_);rintro e w23 ⟨v244,rfl,ho0,hb⟩;refine⟨_,rfl,?_⟩;have n0_:=qAm (Kd.R_elder' qB206 (Kd.R_base ho0) hb);have n1_:=qAm (Kd.R_elder' qB207 (Kd.R_base ho0) hb);have n2_:=qAm (Kd.R_lower (Kd.R_new' (Kd.R_new' ho0 (Kd.R_lt qB206)) (Kd.R_lt qB207)) (below_size qB89));have n3_:=qAm (blk_below (g:=gb231) (o:=.cells #[.int .i64 0,.slice none 0 0] 26 (0,0)) qB128 hb);have n4_:=qAm (below_step qB89 hb);clear HO_5;clear HO_6;clear BK231;clear HB;have HO_5:=n0_;have HO_6:=n1_;have HO245:=n2_;have BK231:=n3_;have HB:=n4_;clear n0_ n1_ n2_ n3_ n4_;(try clear hb);(try clear hb2);(try clear hk);(try clear hi);(try clear ho0))|((with_reducible refine gate_dst (N:=11) rfl ?_);(try(refine gate_guard (by rfl) ?_;dsimp only));refine box_event qL (N:=11) qL (cs:=#[.int .i64 0,.slice none 0 0]) (t:=26) qR ?_;intro gb246 hg w24 hbox hb;have n0_:=qAm (Kd.R_below qB206 hb);have n1_:=qAm (Kd.R_below qB207 hb);have n2_:=qAm (Kd.R_below (by (with_reducible repeat(first|apply Kd.R_alloc|apply Kd.R_drewN|apply Kd.R_drew));exact HO245.1) hb);have n3_:=qAm (blk_below (g:=gb231) (o:=.cells #[.int .i64 0,.slice none 0 0] 26 (0,0)) qB128 hb);have n4_:=qAm (below_step qB89 hb);have n5_:=qAm (hbox);have n6_:=qAm ((by rw [hg];exact(below_size qB89):w.heap.size≤gb246));have n7_:=qAm ((by rw [hg];exact(below_size qB89):w.heap.size≤gb246));have n8_:=qAm ((by rw [hg];exact Nat.ne_of_lt (blk_lt (g:=gb231) (o:=.cells #[.int .i64 0,.slice none 0 0] 26 (0,0)) qB128):gb231≠gb246));have n9_:=qAm ((by rw [hg];exact Nat.ne_of_gt (blk_lt (g:=gb231) (o:=.cells #[.int .i64 0,.slice none 0 0] 26 (0,0)) qB128):gb246≠gb231));clear HO_5;clear HO_6;clear HO245;clear BK231;clear HB;have HO_5:=n0_;have HO_6:=n1_;have HO245:=n2_;have BK231:=n3_;have HB:=n4_;have BK246:=n5_;have GW246:=n6_;have GE246:=n7_;have NB231_246:=n8_;have NB246_231:=n9_;clear n0_ n1_ n2_ n3_ n4_ n5_ n6_ n7_ n8_ n9_;clear hb hbox hg;have hnb25:=NB246_231.1;have hnc25:=NB231_246.1;have hcz26_0:w24.cell? ⟨gb246,0,none⟩=some (.int .i64 0):=(blk_cell BK246.1 0).trans rfl;have hcz26_1:w24.cell? ⟨gb246,1,none⟩=some (.slice none 0 0):=(blk_cell BK246.1 1).trans rfl;have hfz26_0:=blk_frozen BK246.1 0;have hfz26_1:=blk_frozen BK246.1 1;obtain⟨Ao27,co27,eo27⟩:=Kd.R_slice HO245.1;subst eo27));try simp only [Act.put,qSa,qSc,qSb]
    go_loopg [12] k1 (fun kq v12 w'=>∃(x6_2:List Int) (x12_2:Int) (x247001_2:List Int) (u247001:Value),v12=.int .i64 x12_2∧Aside0 (spec_l01Reduce.l2 kq x6_2 (wrap64 ((t232.length:Int) - 1)) x12_2 t242 x247001_2=some (r1,r2))∧Aside0 (kq≤k1)∧Aside0 (Kd.R (Kd.int .i64) 2 w' w.heap.size (fun k_=>some k_≠(u247001:Value).ownBlock) (.slice Ao9 x6_1.length co9) x6_2)∧Aside0 (Kd.R (Kd.int .i64) 2 w' w.heap.size (fun k_=>some k_≠((.slice Ao9 x6_1.length co9):Value).ownBlock) u247001 x247001_2)∧Aside0 (w'.heap[gb231]? =some (.cells #[.int .i64 0,(.slice none 0 0)] 26 (0,0)))∧Aside0 (w'.heap[gb246]? =some (.cells #[.int .i64 t242,u247001] 26 (0,0)))∧Aside0 (Below w.heap.size w w'))
    case atStart=>exact⟨(x6_1),(0),(t243),(.slice Ao27 t243.length co27),qB216,H',⟨Nat.le_refl _⟩,⟨by (try simp only [hl6_1]);(with_reducible repeat(first|apply Kd.R_alloc|apply Kd.R_drewN|apply Kd.R_drew));exact Kd.R_mono (Kd.R_far (p:=⟨gb246,1,none⟩) (Kd.R_far (p:=⟨gb246,0,none⟩) (Kd.R_types HO_6.1 BK246.1 (by decide)) (fun _ hk=>hk.2) (.int .i64 t242)) (fun _ hk=>hk.2) (.slice Ao27 t243.length co27)) (fun _ hk=>hk.1.2)⟩,⟨by (try simp only [hl6_1]);(with_reducible repeat(first|apply Kd.R_alloc|apply Kd.R_drewN|apply Kd.R_drew));exact Kd.R_mono (Kd.R_far (p:=⟨gb246,1,none⟩) (Kd.R_far (p:=⟨gb246,0,none⟩) (Kd.R_types HO245.1 BK246.1 (by decide)) (fun _ hk=>hk.2) (.int .i64 t242)) (fun _ hk=>hk.2) (.slice Ao27 t243.length co27)) (fun _ hk=>hk.1.2)⟩,⟨by (try simp only [hl6_1]);(with_reducible repeat(first|refine blk_drewN ?_ _|refine blk_drew ?_|refine blk_alloc ?_ _));refine blk_far ?_ NB231_246.1 _;(with_reducible repeat(first|refine blk_drewN ?_ _|refine blk_drew ?_|refine blk_alloc ?_ _));refine blk_far ?_ NB231_246.1 _;(with_reducible repeat(first|refine blk_drewN ?_ _|refine blk_drew ?_|refine blk_alloc ?_ _));exact BK231.1⟩,⟨by (try simp only [hl6_1]);(with_reducible repeat(first|refine blk_drewN ?_ _|refine blk_drew ?_|refine blk_alloc ?_ _));refine blk_put (cs:=#[.int .i64 t242,.slice none 0 0]) ?_ 1 _ rfl;(with_reducible repeat(first|refine blk_drewN ?_ _|refine blk_drew ?_|refine blk_alloc ?_ _));refine blk_put (cs:=#[.int .i64 0,.slice none 0 0]) ?_ 0 _ rfl;(with_reducible repeat(first|refine blk_drewN ?_ _|refine blk_drew ?_|refine blk_alloc ?_ _));exact BK246.1⟩,⟨by repeat(first|(with_reducible first|exact HB.1|apply below_alloc|apply pw_below_drewN|apply below_drew1|refine below_set ?_ GE231.1|refine below_set ?_ GE246.1)|exact HB.1)⟩⟩
    case round=>
     clear H';try clear c1
     try clear p1
     try clear q1
     try clear hx1
     try clear c2
     try clear p2
     try clear q2
     try clear hx2
     try clear p6
     try clear c7
     try clear c10
     try clear c10b0
     try clear c11
     try clear c11b0
     try clear c12
     try clear c12b0
     try clear c13
     try clear c13b0
     try clear c15
     try clear c15b0
     try clear c16
     try clear c16b0
     try clear c17
     try clear c17b0
     try clear c18
     try clear c18b0
     try clear p19
     try clear q19
     try clear hx19
     try clear hf19
     try clear p23
     try clear q23
     try clear hx23
     try clear p24
     try clear q24
     try clear hx24
     try clear c25
     try clear hcz26_0
     try clear hcz26_1
     try clear hfz26_0
     try clear hfz26_1
     try clear hx19_0
     try clear hx238_0
     try clear hx239_0
     try clear hx240_0
     try clear p19
     try clear p2
     try clear p238
     try clear p239
     try clear p240
     try clear p6
     try clear q19
     try clear q2
     try clear q238
     try clear q239
     try clear q240
     obtain⟨x6_2,x12_2,x247001_2,u247001,rfl,HA,HK2,HO_6,HO_247001,BK231,BK246,HB⟩:=hrel;have hl6_2:=(Kd.R_reads' HO_6.1).1;rw [hl6_2] at HO_6
     (try simp only [hl6_2])
     (try simp only [hl6_2] at BK231)
     (try simp only [hl6_2] at BK246)
     (try simp only [hl6_2] at HO_247001)
     cases gk with
     |zero=>exact absurd HA.1 (by simp [spec_l01Reduce.l2])
     |succ k2=>
      have H:=HA.1;clear HA;simp only [spec_l01Reduce.l2] at H
      by_cases c28:x12_2<(wrap64 ((t232.length:Int) - 1))
      ·rw [if_pos c28] at H;have c28b0:decide (x12_2<(wrap64 ((t232.length:Int) - 1)))=true:=decide_eq_true c28;clear c28
       by_cases c29:x12_2<(x6_2.length:Int)
       ·rw [if_pos c29] at H;have c29b0:decide (x12_2<(x6_2.length:Int))=true:=decide_eq_true c29;clear c29
        by_cases c30:0≤x12_2
        ·rw [if_pos c30] at H;have c30b0:decide (0≤x12_2)=true:=decide_eq_true c30;clear c30
         by_cases c31:x12_2<(x247001_2.length:Int)
         ·rw [if_pos c31] at H;have c31b0:decide (x12_2<(x247001_2.length:Int))=true:=decide_eq_true c31;clear c31;obtain⟨y248,hy248⟩:∃y_:List Int,y_=(x247001_2.set (x12_2:Int).toNat (rd x6_2 x12_2)):=⟨_,rfl⟩
          replace H:(spec_l01Reduce.l2 k2 x6_2 (wrap64 ((t232.length:Int) - 1)) (wrap64 (x12_2+1)) t242 y248)=some (r1,r2):=by first|(rw [hy248];with_reducible exact H)|(have H2_:=(Option.bind_some _ _).symm.trans H;rw [hy248];with_reducible exact H2_)|(have H2_:=(Option.bind_some _ _).symm.trans H;with_reducible exact H2_)|with_reducible exact H|(rw [hy248];exact H)|exact H
          have Ny248:=qAm hy248;clear hy248;have H':=qAm H;clear H;try go_wp2
          have n0_:=qAm (Kd.R_drew HO_6.1);have n1_:=qAm (Kd.R_drew HO_247001.1);have n2_:=qAm (blk_drew BK231.1);have n3_:=qAm (blk_drew BK246.1);have n4_:=qAm (below_drew1 HB.1);clear HO_6 HO_247001 BK231 BK246 HB;have HO_6:=n0_;have HO_247001:=n1_;have BK231:=n2_;have BK246:=n3_;have HB:=n4_;clear n0_ n1_ n2_ n3_ n4_;have p247:0≤(x12_2:Int):=of_decide_eq_true qB215;have q247:x12_2<(x6_2.length:Int):=of_decide_eq_true qB215;obtain⟨ad247,e247,hx247_0⟩:=Kd.at_int (Kd.R_reads' HO_6.1).2.2 x12_2 p247 q247;cases e247
          replace p247:=eq_true p247;replace q247:=eq_true q247;have p32:0≤(x12_2:Int):=of_decide_eq_true qB215;have q32:(x12_2:Int)<((x247001_2.length:Int):Int):=of_decide_eq_true qB215;obtain⟨go32,co32,eo32,gb32,gl32,cl32,HG32⟩:=Kd.R_form HO_247001.1 (by omega)
          (first|cases eo32|(injection eo32 with ea_ en_ ec_;(first|subst ea_|(injection ea_ with ea_;subst ea_));subst ec_;clear en_))
          have GB32:=qAm gb32;have GG32:=qAm HG32;clear gb32 gl32 HG32;obtain⟨hx32_0,hf32_0⟩:=Kd.R_celln 0 HO_247001.1 (x12_2:Int) p32 q32;replace p32:=eq_true p32;replace q32:=eq_true q32;have HP34:=Kd.R_putn HO_247001.1 (x12_2:Int) (rd x6_2 x12_2);rw [← Ny248.1] at HP34;have HQ34:=qAm HP34;clear HP34;refine start_ (n:=9) (S:=fun w'=>w'.cell? ⟨gb246,0,none⟩=some (.int .i64 t242)∧w'.cell? ⟨gb246,1,none⟩=some (.slice (some ⟨go32,0,none⟩) x247001_2.length co32)∧w'.cell? (ad247.add (x12_2).toNat)=some (.int .i64 (rd x6_2 x12_2))) (ds:=[8]) #[false,false,false,false,false,false,false,false,false] (by kernel_rfl) rfl rfl ⟨(blk_cell BK246.1 0).trans rfl,(blk_cell BK246.1 1).trans rfl,hx247_0⟩ (fun hHeld=>?_);refine with_tabW spec_l01Reduce.tab15 spec_l01Reduce.bits15 (fun HT_ HW_=>?_);generalize wr.drew=w33 at HO_6 HO_247001 BK231 BK246 HB GG32 HQ34 hf32_0 hx247_0 hx32_0 hHeld ⊢;refine pure_ (i:=0) (N:=some 72) (v:=?_) (a':=?_) #[true,false,false,false,false,false,false,false,false] rfl rfl (any_of HT_.1 (by kernel_rfl)) (fun _ _ _ h=>h) (Or.inl ⟨by rfl,?_⟩) ?_ ?_;rotate_left
          ·intro w';go_simp;with_reducible rfl
          rotate_left
          ·exact qU
          refine pure_ (i:=2) (N:=some 74) (v:=?_) (a':=?_) #[true,false,true,false,false,false,false,false,false] rfl rfl (any_of HT_.1 (by kernel_rfl)) (fun _ _ _ h=>h) (Or.inl ⟨by rfl,?_⟩) ?_ ?_;rotate_left
          ·intro w';go_simp;with_reducible rfl
          rotate_left
          ·exact qU
          refine pure_ (i:=3) (N:=some 75) (v:=?_) (a':=?_) #[true,false,true,true,false,false,false,false,false] rfl rfl (any_of HT_.1 (by kernel_rfl)) (fun _ _ _ h=>h) (Or.inl ⟨by rfl,?_⟩) ?_ ?_;rotate_left
          ·intro w';go_simp;with_reducible rfl
          rotate_left
          ·exact qU
          refine pure_ (i:=4) (N:=some 76) (v:=?_) (a':=?_) #[true,false,true,true,true,false,false,false,false] rfl rfl (any_of HT_.1 (by kernel_rfl)) (fun _ _ _ h=>h) (Or.inl ⟨by rfl,?_⟩) ?_ ?_;rotate_left
          ·intro w';go_simp;with_reducible rfl
          rotate_left
          ·exact qU
          refine pure_ (i:=5) (N:=some 77) (v:=?_) (a':=?_) #[true,false,true,true,true,true,false,false,false] rfl rfl (any_of HT_.1 (by kernel_rfl)) (fun _ _ _ h=>h) (Or.inl ⟨by rfl,?_⟩) ?_ ?_;rotate_left
          ·intro w';go_simp;with_reducible rfl
          rotate_left
          ·exact qU
          refine take_ (i:=1) (N:=some 73) (v:=?_) (a':=?_) #[true,true,true,true,true,true,false,false,false] rfl rfl (take_ofW HT_.1 HW_.1 (by kernel_rfl)) (fun _ _ _ h=>h) (Or.inl ⟨by rfl,?_⟩) hHeld ?_ ?_;rotate_left
          ·rintro w' ⟨s0,s1,s2⟩;go_simp;with_reducible rfl
          rotate_left
          ·exact qU
          refine take_ (i:=6) (N:=some 78) (v:=?_) (a':=?_) #[true,true,true,true,true,true,true,false,false] rfl rfl (take_ofW HT_.1 HW_.1 (by kernel_rfl)) (fun _ _ _ h=>h) (Or.inl ⟨by rfl,?_⟩) hHeld ?_ ?_;rotate_left
          ·rintro w' ⟨s0,s1,s2⟩;go_simp;with_reducible rfl
          rotate_left
          ·exact qU
          refine pure_ (i:=7) (N:=some 79) (v:=?_) (a':=?_) #[true,true,true,true,true,true,true,true,false] rfl rfl (any_of HT_.1 (by kernel_rfl)) (fun _ _ _ h=>h) (Or.inl ⟨by rfl,?_⟩) ?_ ?_;rotate_left
          ·intro w';go_simp;with_reducible rfl
          rotate_left
          ·exact qU
          refine last_ (i:=8) (N:=none) #[true,true,true,true,true,true,true,true,true] rfl rfl (one_of HT_.1 (by kernel_rfl)) (by decide) (fun K hK=>?_);refine skip_ (w1:=?_) (by rfl) rfl ?_ ?_;rotate_left
          ·go_simp;rfl
          refine hK.out _ _ ?_;clear hK K;refine done_ (done_of HT_.1 (by kernel_rfl)) ?_;try go_wp2
          (try simp only [← hl6_2])
          (first|go_roundg k2|((try simp only [add_plain] at *);go_roundg k2))
          case measure=>have:=HK1.1;have:=HK2.1;omega
          case rel=>exact⟨(x6_2),(wrap64 (x12_2+1)),(y248),(.slice (some ⟨go32,0,none⟩) x247001_2.length co32),qB216,H',⟨by have:=HK1.1;have:=HK2.1;omega⟩,⟨by (try simp only [hl6_1]);(try simp only [hl6_2]);(with_reducible repeat(first|apply Kd.R_alloc|apply Kd.R_drewN|apply Kd.R_drew));exact Kd.R_mono (Kd.R_far (p:=⟨go32,(x12_2:Int).toNat,none⟩) (Kd.R_mono HO_6.1 (fun k_ hk=>(⟨hk,fun e_=>hk (by rw [e_];rfl)⟩:_∧k_≠go32))) (fun _ hk=>hk.2) (.int .i64 (rd x6_2 x12_2))) (fun _ hk=>hk.1)⟩,⟨by (try simp only [hl6_1]);(try simp only [hl6_2]);(with_reducible repeat(first|apply Kd.R_alloc|apply Kd.R_drewN|apply Kd.R_drew));exact HQ34.1⟩,⟨by (try simp only [hl6_1]);(try simp only [hl6_2]);(with_reducible repeat(first|refine blk_drewN ?_ _|refine blk_drew ?_|refine blk_alloc ?_ _));refine blk_far ?_ (by have h_:=Kd.R_ne HO_247001.1 BK231.1 (by decide);intro e_;exact h_ (by rw [e_];rfl)) _;(with_reducible repeat(first|refine blk_drewN ?_ _|refine blk_drew ?_|refine blk_alloc ?_ _));exact BK231.1⟩,⟨by (try simp only [hl6_1]);(try simp only [hl6_2]);(with_reducible repeat(first|refine blk_drewN ?_ _|refine blk_drew ?_|refine blk_alloc ?_ _));refine blk_far ?_ (by have h_:=Kd.R_ne HO_247001.1 BK246.1 (by decide);intro e_;exact h_ (by rw [e_];rfl)) _;(with_reducible repeat(first|refine blk_drewN ?_ _|refine blk_drew ?_|refine blk_alloc ?_ _));exact BK246.1⟩,⟨by repeat(first|(with_reducible first|exact HB.1|apply below_alloc|apply pw_below_drewN|apply below_drew1|refine below_set ?_ GB32.1|refine below_set ?_ GE231.1|refine below_set ?_ GE246.1)|exact HB.1)⟩⟩
         ·rw [if_neg c31] at H;exact absurd H (by simp)
        ·rw [if_neg c30] at H;exact absurd H (by simp)
       ·rw [if_neg c29] at H;have c29b0:decide (x12_2<(x6_2.length:Int))=false:=decide_eq_false c29;have c29b0_0:=c29b0
        (try rw [hl6_1] at c29b0_0)
        have c29b0_1:=c29b0
        (try rw [hl6_2] at c29b0_1)
        clear c29;simp only [Option.some.injEq,Prod.mk.injEq] at H;obtain⟨rfl,rfl⟩:=H;have hnb35:=NB246_231.1;have hnc35:=NB231_246.1;have hcz36_0:wr.cell? ⟨gb246,0,none⟩=some (.int .i64 t242):=(blk_cell BK246.1 0).trans rfl;have hcz36_1:wr.cell? ⟨gb246,1,none⟩=some (u247001):=(blk_cell BK246.1 1).trans rfl;have hfz36_0:=blk_frozen BK246.1 0;have hfz36_1:=blk_frozen BK246.1 1;have hcz37_0:wr.cell? ⟨gb231,0,none⟩=some (.int .i64 0):=(blk_cell BK231.1 0).trans rfl;have hcz37_1:wr.cell? ⟨gb231,1,none⟩=some (.slice none 0 0):=(blk_cell BK231.1 1).trans rfl;have hfz37_0:=blk_frozen BK231.1 0;have hfz37_1:=blk_frozen BK231.1 1;obtain⟨Ao38,co38,eo38⟩:=Kd.R_slice HO_247001.1;subst eo38;go_wp2;refine bodyPost_ret (results_cell_row rfl _ _ gb231 26 #[.int .i64 t242,.slice Ao38 x247001_2.length co38] (0,0) _ rfl qB24 Try.underlying26 rfl (by kernel_rfl)) rfl ?_;exact⟨_,by first|rfl|(simp [errW_none,errW_some] <;> rfl)|(simp [*,errW_none,errW_some] <;> rfl),by (with_reducible repeat(first|apply Kd.R_alloc|apply Kd.R_drewN|apply Kd.R_drew));exact Kd.R_mono (Kd.R_far (p:=⟨gb231,1,none⟩) (Kd.R_far (p:=⟨gb231,0,none⟩) (Kd.R_types HO_247001.1 BK231.1 (by decide)) (fun _ hk=>hk.2) (.int .i64 t242)) (fun _ hk=>hk.2) (.slice Ao38 x247001_2.length co38)) (fun _ hk=>trivial),by repeat(first|(with_reducible first|exact HB.1|apply below_alloc|apply pw_below_drewN|apply below_drew1|refine below_set ?_ GE231.1|refine below_set ?_ GE246.1)|exact HB.1)⟩
      ·rw [if_neg c28] at H;have c28b0:decide (x12_2<(wrap64 ((t232.length:Int) - 1)))=false:=decide_eq_false c28;have c28b0_0:=c28b0
       (try rw [hl6_1] at c28b0_0)
       have c28b0_1:=c28b0
       (try rw [hl6_2] at c28b0_1)
       clear c28;simp only [Option.some.injEq,Prod.mk.injEq] at H;obtain⟨rfl,rfl⟩:=H;have hnb39:=NB246_231.1;have hnc39:=NB231_246.1;have hcz40_0:wr.cell? ⟨gb246,0,none⟩=some (.int .i64 t242):=(blk_cell BK246.1 0).trans rfl;have hcz40_1:wr.cell? ⟨gb246,1,none⟩=some (u247001):=(blk_cell BK246.1 1).trans rfl;have hfz40_0:=blk_frozen BK246.1 0;have hfz40_1:=blk_frozen BK246.1 1;have hcz41_0:wr.cell? ⟨gb231,0,none⟩=some (.int .i64 0):=(blk_cell BK231.1 0).trans rfl;have hcz41_1:wr.cell? ⟨gb231,1,none⟩=some (.slice none 0 0):=(blk_cell BK231.1 1).trans rfl;have hfz41_0:=blk_frozen BK231.1 0;have hfz41_1:=blk_frozen BK231.1 1;obtain⟨Ao42,co42,eo42⟩:=Kd.R_slice HO_247001.1;subst eo42;go_wp2;refine bodyPost_ret (results_cell_row rfl _ _ gb231 26 #[.int .i64 t242,.slice Ao42 x247001_2.length co42] (0,0) _ rfl qB24 Try.underlying26 rfl (by kernel_rfl)) rfl ?_;exact⟨_,by first|rfl|(simp [errW_none,errW_some] <;> rfl)|(simp [*,errW_none,errW_some] <;> rfl),by (with_reducible repeat(first|apply Kd.R_alloc|apply Kd.R_drewN|apply Kd.R_drew));exact Kd.R_mono (Kd.R_far (p:=⟨gb231,1,none⟩) (Kd.R_far (p:=⟨gb231,0,none⟩) (Kd.R_types HO_247001.1 BK231.1 (by decide)) (fun _ hk=>hk.2) (.int .i64 t242)) (fun _ hk=>hk.2) (.slice Ao42 x247001_2.length co42)) (fun _ hk=>trivial),by repeat(first|(with_reducible first|exact HB.1|apply below_alloc|apply pw_below_drewN|apply below_drew1|refine below_set ?_ GE231.1|refine below_set ?_ GE246.1)|exact HB.1)⟩

/-! ### spec_l01Unit: function 62 -/
def spec_l01Unit.f (k:Nat) (a0:Int) (a1:Int):Option (Int×List Int):=if a0=0 then (none) else (if 0≤(wrap64 ((Int.tmod (wrap64 ((Int.tmod a1 a0)+a0)) a0)+1)) then (if (wrap64 ((Int.tmod (wrap64 ((Int.tmod a1 a0)+a0)) a0)+1):Int).toNat≤35184372088832 then ((some (List.replicate (wrap64 ((Int.tmod (wrap64 ((Int.tmod a1 a0)+a0)) a0)+1):Int).toNat 0:List Int)).bind fun y250=>(if 0≤(Int.tmod (wrap64 ((Int.tmod a1 a0)+a0)) a0) then (if (Int.tmod (wrap64 ((Int.tmod a1 a0)+a0)) a0)<(y250.length:Int) then ((spec_l01Reduce.f k a0 (y250.set ((Int.tmod (wrap64 ((Int.tmod a1 a0)+a0)) a0):Int).toNat 1)).bind fun bt254=>(some (bt254.1,bt254.2))) else (none)) else (none))) else (none)) else (none))
theorem spec_l01Unit.mono:∀a0 a1 k,LeO (spec_l01Unit.f k a0 a1) (spec_l01Unit.f (k+1) a0 a1):=by
 intro a0 a1 k;unfold spec_l01Unit.f;repeat' first
   |(with_reducible exact spec_l01Reduce.mono _ _ _)
   |(with_reducible exact LeO.refl _)
   |(with_reducible exact LeO.none _)
   |(with_reducible refine LeO.ite ?_ ?_)
   |(with_reducible refine LeO.bind ?_ (fun _=>?_))
   |exact spec_l01Reduce.mono _ _ _
   |exact LeO.none _
   |refine LeO.ite ?_ ?_
   |refine LeO.bind ?_ (fun _=>?_)
set_option maxHeartbeats 8000000 in
set_option maxRecDepth 100000 in
theorem spec_l01Unit.calls (k:Nat) (a0:Int) (a1:Int) (r1:Int) (r2:List Int) (w:World) (h:spec_l01Unit.f k a0 a1=some (r1,r2)):
  Calls Try.prog 62 #[.int .i64 a0,.int .i64 a1] w fun e w'=>∃v1_:Value,e=.returned (.agg #[.int .i64 r1,v1_])∧Kd.R (Kd.int .i64) 2 w' w.heap.size (fun _=>True) v1_ r2∧Below w.heap.size w w':=by
 have hu26:=Try.underlying26;have HB:=qAm (Below.refl w.heap.size w);have H:(if a0=0 then (none) else (if 0≤(wrap64 ((Int.tmod (wrap64 ((Int.tmod a1 a0)+a0)) a0)+1)) then (if (wrap64 ((Int.tmod (wrap64 ((Int.tmod a1 a0)+a0)) a0)+1):Int).toNat≤35184372088832 then ((some (List.replicate (wrap64 ((Int.tmod (wrap64 ((Int.tmod a1 a0)+a0)) a0)+1):Int).toNat 0:List Int)).bind fun y250=>(if 0≤(Int.tmod (wrap64 ((Int.tmod a1 a0)+a0)) a0) then (if (Int.tmod (wrap64 ((Int.tmod a1 a0)+a0)) a0)<(y250.length:Int) then ((spec_l01Reduce.f k a0 (y250.set ((Int.tmod (wrap64 ((Int.tmod a1 a0)+a0)) a0):Int).toNat 1)).bind fun bt254=>(some (bt254.1,bt254.2))) else (none)) else (none))) else (none)) else (none)))=some (r1,r2):=h;clear h
 by_cases c3:a0=0
 ·rw [if_pos c3] at H;exact absurd H (by simp)
 ·rw [if_neg c3] at H;have c3b0:(a0==0)=false:=beq_eq_false_iff_ne.mpr c3;have c3b1:(a0 !=0)=true:=bne_iff_ne.mpr c3;obtain⟨ji4,hji4⟩:∃j_:Int,(wrap64 ((Int.tmod (wrap64 ((Int.tmod a1 a0)+a0)) a0)+1))=j_:=⟨_,rfl⟩
  replace H:(if 0≤(ji4) then (if (ji4:Int).toNat≤35184372088832 then ((some (List.replicate (ji4:Int).toNat 0:List Int)).bind fun y250=>(if 0≤(Int.tmod (wrap64 ((Int.tmod a1 a0)+a0)) a0) then (if (Int.tmod (wrap64 ((Int.tmod a1 a0)+a0)) a0)<(y250.length:Int) then ((spec_l01Reduce.f k a0 (y250.set ((Int.tmod (wrap64 ((Int.tmod a1 a0)+a0)) a0):Int).toNat 1)).bind fun bt254=>(some (bt254.1,bt254.2))) else (none)) else (none))) else (none)) else (none))=some (r1,r2):=by first|(rw [hji4] at H;exact H)|(simp only [hji4] at H ⊢;exact H)
  have hji4w:(IntKind.i64.wrap ((Int.tmod (wrap64 ((Int.tmod a1 a0)+a0)) a0)+1))=ji4:=(i64_w _).trans hji4
  by_cases c5:0≤(ji4)
  ·rw [if_pos c5] at H;have c5b0:=eq_true c5;have c5b1:decide (0≤(ji4))=true:=decide_eq_true c5;clear c5
   by_cases c6:(ji4:Int).toNat≤35184372088832
   ·rw [if_pos c6] at H;have c6b0:=eq_true c6;have c6b1:decide ((ji4:Int).toNat≤35184372088832)=true:=decide_eq_true c6;clear c6;obtain⟨y250,hy250⟩:∃y_:List Int,y_=(List.replicate (ji4:Int).toNat 0):=⟨_,rfl⟩
    replace H:(if 0≤(Int.tmod (wrap64 ((Int.tmod a1 a0)+a0)) a0) then (if (Int.tmod (wrap64 ((Int.tmod a1 a0)+a0)) a0)<(y250.length:Int) then ((spec_l01Reduce.f k a0 (y250.set ((Int.tmod (wrap64 ((Int.tmod a1 a0)+a0)) a0):Int).toNat 1)).bind fun bt254=>(some (bt254.1,bt254.2))) else (none)) else (none))=some (r1,r2):=by first|(rw [hy250];with_reducible exact H)|(have H2_:=(Option.bind_some _ _).symm.trans H;rw [hy250];with_reducible exact H2_)|(have H2_:=(Option.bind_some _ _).symm.trans H;with_reducible exact H2_)|with_reducible exact H|(rw [hy250];exact H)|exact H
    have Ny250:=qAm hy250;clear hy250;obtain⟨ji7,hji7⟩:∃j_:Int,(Int.tmod (wrap64 ((Int.tmod a1 a0)+a0)) a0)=j_:=⟨_,rfl⟩
    have hji4_ji7:(wrap64 (ji7+1))=ji4:=by rw [← hji7];exact hji4
    have hji4_ji7w:(IntKind.i64.wrap (ji7+1))=ji4:=(i64_w _).trans hji4_ji7;replace H:(if 0≤(ji7) then (if (ji7)<(y250.length:Int) then ((spec_l01Reduce.f k a0 (y250.set ((ji7):Int).toNat 1)).bind fun bt254=>(some (bt254.1,bt254.2))) else (none)) else (none))=some (r1,r2):=by first|(rw [hji7] at H;exact H)|(simp only [hji7] at H ⊢;exact H)
    by_cases c8:0≤(ji7)
    ·rw [if_pos c8] at H;have c8b0:decide (0≤(ji7))=true:=decide_eq_true c8;clear c8
     by_cases c9:(ji7)<(y250.length:Int)
     ·rw [if_pos c9] at H;have c9b0:decide ((ji7)<(y250.length:Int))=true:=decide_eq_true c9;clear c9;obtain⟨y253,hy253⟩:∃y_:List Int,y_=(y250.set ((ji7):Int).toNat 1):=⟨_,rfl⟩
      replace H:((spec_l01Reduce.f k a0 y253).bind fun bt254=>(some (bt254.1,bt254.2)))=some (r1,r2):=by first|(rw [hy253];with_reducible exact H)|(have H2_:=(Option.bind_some _ _).symm.trans H;rw [hy253];with_reducible exact H2_)|(have H2_:=(Option.bind_some _ _).symm.trans H;with_reducible exact H2_)|with_reducible exact H|(rw [hy253];exact H)|exact H
      have Ny253:=qAm hy253;clear hy253;replace H:=qOb H;obtain⟨⟨t254,t255⟩,A110,H⟩:=H;replace H:(some (t254,t255))=some (r1,r2):=H;have A11:=qAm A110;clear A110;simp only [Option.some.injEq,Prod.mk.injEq] at H;obtain⟨rfl,rfl⟩:=H;go_enter Try.func62,Try.ntmps62;go_wp2_with (first|((with_reducible refine gate_dst (N:=4) rfl ?_);refine box_event qL (N:=4) qL (cs:=#[.int .i64 0,.slice none 0 0]) (t:=26) qR ?_;intro gb249 hg w12 hbox hb;have n0_:=qAm (below_step qB111 hb);have n1_:=qAm (hbox);have n2_:=qAm ((by rw [hg];exact(below_size qB111):w.heap.size≤gb249));have n3_:=qAm ((by rw [hg];exact(below_size qB111):w.heap.size≤gb249));clear HB;have HB:=n0_;have BK249:=n1_;have GW249:=n2_;have GE249:=n3_;clear n0_ n1_ n2_ n3_;clear hb hbox hg)|((with_reducible refine gate_dst (N:=15) rfl ?_);refine Kd.R_make (Kd.int .i64) _ 2 rfl (N:=15) rfl 22 _ _ rfl ji4 rfl rfl Try.underlying22 (.int .i64 0) 8 info2 rfl (by decide) (by omega) 0 (ok:=fun _=>True) (okp:=fun _=>True) rfl (fun _ hk=>hk) trivial (of_decide_eq_true qB215) (Nat.le_trans (Nat.mul_le_mul_right _ (of_decide_eq_true qB215:ji4.toNat≤35184372088832)) (by omega)) (Below.refl _ _) (Nat.le_refl _) ?_;intro v251 w13 ho14 hb hg_ hnew_;clear hg_ hnew_;(first|rw [← Ny250.1] at ho14|(simp only [Int.reduceToNat] at ho14;rw [← Ny250.1] at ho14));have n0_:=qAm (Kd.R_lower ho14 (below_size qB90));have n1_:=qAm (blk_below (g:=gb249) (o:=.cells #[.int .i64 0,.slice none 0 0] 26 (0,0)) qB129 hb);have n2_:=qAm (below_step qB90 hb);clear BK249;clear HB;have HO252:=n0_;have BK249:=n1_;have HB:=n2_;clear n0_ n1_ n2_;clear hb ho14;have p10:0≤((ji7):Int):=of_decide_eq_true qB215;have q10:((ji7):Int)<((y250.length:Int):Int):=of_decide_eq_true qB215;obtain⟨go10,co10,eo10,gb10,gl10,cl10,HG10⟩:=Kd.R_form HO252.1 (by omega);(first|cases eo10|(injection eo10 with ea_ en_ ec_;(first|subst ea_|(injection ea_ with ea_;subst ea_));subst ec_;clear en_));have GB10:=qAm gb10;have GG10:=qAm HG10;clear gb10 gl10 HG10;obtain⟨hx10_0,hf10_0⟩:=Kd.R_celln 0 HO252.1 ((ji7):Int) p10 q10;replace p10:=eq_true p10;replace q10:=eq_true q10;obtain⟨hy15_,hz15_⟩:=Kd.R_celln 0 HO252.1 ((ji7):Int) (of_decide_eq_true qB215) (of_decide_eq_true qB215);have HP15:=Kd.R_putg HO252.1 ((ji7):Int) 1)|((with_reducible refine gate_store (t:=2) (p:=18) rfl ?_);refine store_event (t:=2) (p:=18) (v:=?vo_w16) (w1:=(w13.setCell ⟨go10,((ji7):Int).toNat,none⟩ (.int .i64 1))) ?hg ?ho ?hn ?hr ?_;(case ho=>rfl);(case hg=>rfl);(case hn=>rfl);(case hr=>first|(go_simp;done)|(go_simp;rfl));intro w16 hw;have hg:w13.grownBy w16 (some go10):=(by rw [hw];exact HP15.2);have hp_:Kd.R (Kd.int .i64) 2 w16 w.heap.size (fun _=>True) (.slice (some ⟨go10,0,none⟩) y250.length co10) y253:=(by rw [hw,Ny253.1];exact HP15.1);clear HP15;have n0_:=qAm (blk_grown (g:=gb249) (o:=.cells #[.int .i64 0,.slice none 0 0] 26 (0,0)) qB129 hg (Kd.R_ne HO252.1 BK249.1 (by decide)));have n1_:=qAm (hp_);have n2_:=qAm ((by rw [hw];exact below_set (HB.1) GB10.1:Below w.heap.size w w16));clear BK249;clear HO252;clear HB;have BK249:=n0_;have HO252:=n1_;have HB:=n2_;clear n0_ n1_ n2_;clear hg hw hp_)|((with_reducible refine gate_callee (f:=70) rfl ?_);refine goesL_ (some 21) rfl rfl Try.func70 (by kernel_rfl) rfl #[.int .i64 a0,.slice (some ⟨go10,0,none⟩) y253.length co10] rfl (by (try simp only [List.map_toArray,List.map_cons,List.map_nil]);first|done|(rw [show y253.length=y250.length from (Kd.R_reads' HO252.1).1.symm] <;> rfl)|rfl|(simp only [List.length_drop,List.length_take];rfl)) ?_;(with_reducible refine(spec_l01Reduce.calls k a0 _ _ y253 t254 t255 _ ?side1 ?side2 A11.1).mono ?_);(case side1=>repeat(first|exact(Kd.R_reads' HO252.1).2.2|(with_reducible refine Kd.C_alloc ?_ _)|(with_reducible refine Kd.C_drewN ?_ _)|(with_reducible refine Kd.C_drew ?_)));(case side2=>rw [show y253.length=y250.length from (Kd.R_reads' HO252.1).1.symm];exact(Kd.R_reads' HO252.1).2.1);rintro e w17 ⟨v256,rfl,ho0,hb⟩;refine⟨_,rfl,?_⟩;have n0_:=qAm (Kd.R_elder' qB182 (Kd.R_base ho0) hb);have n1_:=qAm (Kd.R_lower (Kd.R_new' ho0 (Kd.R_lt qB182)) (below_size qB90));have n2_:=qAm (blk_below (g:=gb249) (o:=.cells #[.int .i64 0,.slice none 0 0] 26 (0,0)) qB129 hb);have n3_:=qAm (below_step qB90 hb);clear HO252;clear BK249;clear HB;have HO252:=n0_;have HO257:=n1_;have BK249:=n2_;have HB:=n3_;clear n0_ n1_ n2_ n3_;(try clear hb);(try clear hb2);(try clear hk);(try clear hi);(try clear ho0);have hcz18_0:w17.cell? ⟨gb249,0,none⟩=some (.int .i64 0):=(blk_cell BK249.1 0).trans rfl;have hcz18_1:w17.cell? ⟨gb249,1,none⟩=some (.slice none 0 0):=(blk_cell BK249.1 1).trans rfl;have hfz18_0:=blk_frozen BK249.1 0;have hfz18_1:=blk_frozen BK249.1 1;obtain⟨Ao19,co19,eo19⟩:=Kd.R_slice HO257.1;subst eo19));refine bodyPost_ret (results_cell_row rfl _ _ gb249 26 #[.int .i64 t254,.slice Ao19 t255.length co19] (0,0) _ rfl (by (with_reducible repeat(first|refine blk_drewN ?_ _|refine blk_drew ?_|refine blk_alloc ?_ _));refine blk_put (cs:=#[.int .i64 t254,.slice none 0 0]) ?_ 1 _ rfl;(with_reducible repeat(first|refine blk_drewN ?_ _|refine blk_drew ?_|refine blk_alloc ?_ _));refine blk_put (cs:=#[.int .i64 0,.slice none 0 0]) ?_ 0 _ rfl;(with_reducible repeat(first|refine blk_drewN ?_ _|refine blk_drew ?_|refine blk_alloc ?_ _));exact BK249.1) Try.underlying26 rfl (by kernel_rfl)) rfl ?_;exact⟨_,by first|rfl|(simp [errW_none,errW_some] <;> rfl)|(simp only [← hji4,← hji7];first|rfl|(simp [errW_none,errW_some] <;> rfl))|(simp [*,errW_none,errW_some] <;> rfl),by (with_reducible repeat(first|apply Kd.R_alloc|apply Kd.R_drewN|apply Kd.R_drew));exact Kd.R_mono (Kd.R_far (p:=⟨gb249,1,none⟩) (Kd.R_far (p:=⟨gb249,0,none⟩) (Kd.R_types HO257.1 BK249.1 (by decide)) (fun _ hk=>hk.2) (.int .i64 t254)) (fun _ hk=>hk.2) (.slice Ao19 t255.length co19)) (fun _ hk=>trivial),by repeat(first|(with_reducible first|exact HB.1|apply below_alloc|apply pw_below_drewN|apply below_drew1|refine below_set ?_ GE249.1)|exact HB.1)⟩
     ·rw [if_neg c9] at H;exact absurd H (by simp)
    ·rw [if_neg c8] at H;exact absurd H (by simp)
   ·rw [if_neg c6] at H;exact absurd H (by simp)
  ·rw [if_neg c5] at H;exact absurd H (by simp)

/-! ### spec_l09Divided: function 63 -/
def spec_l09Divided.f (a0_0:Int) (l0_1:List Int) (a1_0:Int) (l1_1:List Int):Option (Bool):=(spec_l09Divide.f a0_0 l0_1 a1_0 l1_1).bind fun bt260=>((spec_l09Norm.f bt260.2.2.1 bt260.2.2.2).bind fun t270=>(some (t270==0)))
set_option maxHeartbeats 8000000 in
set_option maxRecDepth 100000 in
theorem spec_l09Divided.calls (a0_0:Int) (A0_1:Option Addr) (c0_1:Nat) (l0_1:List Int) (a1_0:Int) (A1_1:Option Addr) (c1_1:Nat) (l1_1:List Int) (r:Bool) (w:World) (hr0_1:Kd.C (Kd.int .i64) w A0_1 l0_1.length l0_1) (hc0_1:l0_1.length≤c0_1) (hr1_1:Kd.C (Kd.int .i64) w A1_1 l1_1.length l1_1) (hc1_1:l1_1.length≤c1_1) (h:spec_l09Divided.f a0_0 l0_1 a1_0 l1_1=some r):
  Calls Try.prog 63 #[.agg #[.int .i64 a0_0,.slice A0_1 l0_1.length c0_1],.agg #[.int .i64 a1_0,.slice A1_1 l1_1.length c1_1]] w fun e w'=>e=.returned (.bool r)∧Below w.heap.size w w':=by
 have hu26:=Try.underlying26;have HR0_1:=qAm hr0_1;have HC0_1:=qAm hc0_1;clear hr0_1 hc0_1;have HR1_1:=qAm hr1_1;have HC1_1:=qAm hc1_1;clear hr1_1 hc1_1;have HB:=qAm (Below.refl w.heap.size w);have H:((spec_l09Divide.f a0_0 l0_1 a1_0 l1_1).bind fun bt260=>((spec_l09Norm.f bt260.2.2.1 bt260.2.2.2).bind fun t270=>(some (t270==0))))=some r:=h;clear h;replace H:=qOb H;obtain⟨⟨t260,t261,t264,t265⟩,A30,H⟩:=H;replace H:((spec_l09Norm.f t264 t265).bind fun t270=>(some (t270==0)))=some r:=H;have A3:=qAm A30;clear A30;replace H:=qOb H;obtain⟨t270,A40,H⟩:=H;replace H:(some (t270==0))=some r:=H;have A4:=qAm A40;clear A40;obtain rfl:=Option.some.inj H;go_enter Try.func63,Try.ntmps63;go_wp2_with (first|((with_reducible refine gate_dst (N:=2) rfl ?_);refine box_event qL (N:=2) qL (cs:=#[.int .i64 a0_0,.slice A0_1 l0_1.length c0_1]) (t:=26) qR ?_;intro gb258 hg w5 hbox hb;have n0_:=qAm (below_step qB111 hb);have n1_:=qAm (hbox);have n2_:=qAm ((by rw [hg];exact(below_size qB111):w.heap.size≤gb258));have n3_:=qAm ((by rw [hg];exact(below_size qB111):w.heap.size≤gb258));clear HB;have HB:=n0_;have BK258:=n1_;have GW258:=n2_;have GE258:=n3_;clear n0_ n1_ n2_ n3_;clear hb hbox hg)|((with_reducible refine gate_dst (N:=3) rfl ?_);refine box_event qL (N:=3) qL (cs:=#[.int .i64 a1_0,.slice A1_1 l1_1.length c1_1]) (t:=26) qR ?_;intro gb259 hg w6 hbox hb;have n0_:=qAm (blk_below (g:=gb258) (o:=.cells #[.int .i64 a0_0,.slice A0_1 l0_1.length c0_1] 26 (0,0)) qB130 hb);have n1_:=qAm (below_step qB91 hb);have n2_:=qAm (hbox);have n3_:=qAm ((by rw [hg];exact(below_size qB91):w.heap.size≤gb259));have n4_:=qAm ((by rw [hg];exact(below_size qB91):w.heap.size≤gb259));have n5_:=qAm ((by rw [hg];exact Nat.ne_of_lt (blk_lt (g:=gb258) (o:=.cells #[.int .i64 a0_0,.slice A0_1 l0_1.length c0_1] 26 (0,0)) qB130):gb258≠gb259));have n6_:=qAm ((by rw [hg];exact Nat.ne_of_gt (blk_lt (g:=gb258) (o:=.cells #[.int .i64 a0_0,.slice A0_1 l0_1.length c0_1] 26 (0,0)) qB130):gb259≠gb258));clear BK258;clear HB;have BK258:=n0_;have HB:=n1_;have BK259:=n2_;have GW259:=n3_;have GE259:=n4_;have NB258_259:=n5_;have NB259_258:=n6_;clear n0_ n1_ n2_ n3_ n4_ n5_ n6_;clear hb hbox hg;have hnb7:=NB258_259.1;have hnc7:=NB259_258.1;have hcz8_0:w6.cell? ⟨gb258,0,none⟩=some (.int .i64 a0_0):=(blk_cell BK258.1 0).trans rfl;have hcz8_1:w6.cell? ⟨gb258,1,none⟩=some (.slice A0_1 l0_1.length c0_1):=(blk_cell BK258.1 1).trans rfl;have hfz8_0:=blk_frozen BK258.1 0;have hfz8_1:=blk_frozen BK258.1 1;have hcz9_0:w6.cell? ⟨gb259,0,none⟩=some (.int .i64 a1_0):=(blk_cell BK259.1 0).trans rfl;have hcz9_1:w6.cell? ⟨gb259,1,none⟩=some (.slice A1_1 l1_1.length c1_1):=(blk_cell BK259.1 1).trans rfl;have hfz9_0:=blk_frozen BK259.1 0;have hfz9_1:=blk_frozen BK259.1 1)|((with_reducible refine gate_callee (f:=26) rfl ?_);refine goesL_ (some 10) rfl rfl Try.func26 (by kernel_rfl) rfl #[.agg #[.int .i64 a0_0,.slice A0_1 l0_1.length c0_1],.agg #[.int .i64 a1_0,.slice A1_1 l1_1.length c1_1]] rfl qB108 ?_;(with_reducible refine(spec_l09Divide.calls a0_0 _ _ l0_1 a1_0 _ _ l1_1 t260 t261 t264 t265 _ ?side1 ?side2 ?side3 ?side4 A3.1).mono ?_);(case side1=>repeat(first|exact(Kd.C_below HR0_1.1 HB.1)|(with_reducible refine Kd.C_alloc ?_ _)|(with_reducible refine Kd.C_drewN ?_ _)|(with_reducible refine Kd.C_drew ?_)));(case side2=>exact HC0_1.1);(case side3=>repeat(first|exact(Kd.C_below HR1_1.1 HB.1)|(with_reducible refine Kd.C_alloc ?_ _)|(with_reducible refine Kd.C_drewN ?_ _)|(with_reducible refine Kd.C_drew ?_)));(case side4=>exact HC1_1.1);rintro e w10 ⟨v262,v266,rfl,ho0,ho1,hb⟩;refine⟨_,rfl,?_⟩;have n0_:=qAm (Kd.R_lower ho0 (below_size qB71));have n1_:=qAm (Kd.R_lower ho1 (below_size qB71));have n2_:=qAm (blk_below (g:=gb258) (o:=.cells #[.int .i64 a0_0,.slice A0_1 l0_1.length c0_1] 26 (0,0)) qB130 hb);have n3_:=qAm (blk_below (g:=gb259) (o:=.cells #[.int .i64 a1_0,.slice A1_1 l1_1.length c1_1] 26 (0,0)) qB131 hb);have n4_:=qAm (below_step qB71 hb);clear BK258;clear BK259;clear HB;have HO263:=n0_;have HO267:=n1_;have BK258:=n2_;have BK259:=n3_;have HB:=n4_;clear n0_ n1_ n2_ n3_ n4_;(try clear hb);(try clear hb2);(try clear hk);(try clear hi);(try clear ho0);(try clear ho1))|((with_reducible refine gate_dst (N:=5) rfl ?_);refine box_event qL (N:=5) qL (cs:=#[.int .i64 0,.slice none 0 0]) (t:=26) qR ?_;intro gb268 hg w11 hbox hb;have n0_:=qAm (Kd.R_below qB183 hb);have n1_:=qAm (Kd.R_below qB184 hb);have n2_:=qAm (blk_below (g:=gb258) (o:=.cells #[.int .i64 a0_0,.slice A0_1 l0_1.length c0_1] 26 (0,0)) qB130 hb);have n3_:=qAm (blk_below (g:=gb259) (o:=.cells #[.int .i64 a1_0,.slice A1_1 l1_1.length c1_1] 26 (0,0)) qB131 hb);have n4_:=qAm (below_step qB71 hb);have n5_:=qAm (hbox);have n6_:=qAm ((by rw [hg];exact(below_size qB71):w.heap.size≤gb268));have n7_:=qAm ((by rw [hg];exact(below_size qB71):w.heap.size≤gb268));have n8_:=qAm ((by rw [hg];exact Nat.ne_of_lt (blk_lt (g:=gb258) (o:=.cells #[.int .i64 a0_0,.slice A0_1 l0_1.length c0_1] 26 (0,0)) qB130):gb258≠gb268));have n9_:=qAm ((by rw [hg];exact Nat.ne_of_gt (blk_lt (g:=gb258) (o:=.cells #[.int .i64 a0_0,.slice A0_1 l0_1.length c0_1] 26 (0,0)) qB130):gb268≠gb258));have n10_:=qAm ((by rw [hg];exact Nat.ne_of_lt (blk_lt (g:=gb259) (o:=.cells #[.int .i64 a1_0,.slice A1_1 l1_1.length c1_1] 26 (0,0)) qB131):gb259≠gb268));have n11_:=qAm ((by rw [hg];exact Nat.ne_of_gt (blk_lt (g:=gb259) (o:=.cells #[.int .i64 a1_0,.slice A1_1 l1_1.length c1_1] 26 (0,0)) qB131):gb268≠gb259));clear HO263;clear HO267;clear BK258;clear BK259;clear HB;have HO263:=n0_;have HO267:=n1_;have BK258:=n2_;have BK259:=n3_;have HB:=n4_;have BK268:=n5_;have GW268:=n6_;have GE268:=n7_;have NB258_268:=n8_;have NB268_258:=n9_;have NB259_268:=n10_;have NB268_259:=n11_;clear n0_ n1_ n2_ n3_ n4_ n5_ n6_ n7_ n8_ n9_ n10_ n11_;clear hb hbox hg)|((with_reducible refine gate_dst (N:=6) rfl ?_);refine box_event qL (N:=6) qL (cs:=#[.int .i64 0,.slice none 0 0]) (t:=26) qR ?_;intro gb269 hg w12 hbox hb;have n0_:=qAm (Kd.R_below qB183 hb);have n1_:=qAm (Kd.R_below qB184 hb);have n2_:=qAm (blk_below (g:=gb258) (o:=.cells #[.int .i64 a0_0,.slice A0_1 l0_1.length c0_1] 26 (0,0)) qB130 hb);have n3_:=qAm (blk_below (g:=gb259) (o:=.cells #[.int .i64 a1_0,.slice A1_1 l1_1.length c1_1] 26 (0,0)) qB131 hb);have n4_:=qAm (blk_below (g:=gb268) (o:=.cells #[.int .i64 0,.slice none 0 0] 26 (0,0)) qB132 hb);have n5_:=qAm (below_step qB55 hb);have n6_:=qAm (hbox);have n7_:=qAm ((by rw [hg];exact(below_size qB55):w.heap.size≤gb269));have n8_:=qAm ((by rw [hg];exact(below_size qB55):w.heap.size≤gb269));have n9_:=qAm ((by rw [hg];exact Nat.ne_of_lt (blk_lt (g:=gb258) (o:=.cells #[.int .i64 a0_0,.slice A0_1 l0_1.length c0_1] 26 (0,0)) qB130):gb258≠gb269));have n10_:=qAm ((by rw [hg];exact Nat.ne_of_gt (blk_lt (g:=gb258) (o:=.cells #[.int .i64 a0_0,.slice A0_1 l0_1.length c0_1] 26 (0,0)) qB130):gb269≠gb258));have n11_:=qAm ((by rw [hg];exact Nat.ne_of_lt (blk_lt (g:=gb259) (o:=.cells #[.int .i64 a1_0,.slice A1_1 l1_1.length c1_1] 26 (0,0)) qB131):gb259≠gb269));have n12_:=qAm ((by rw [hg];exact Nat.ne_of_gt (blk_lt (g:=gb259) (o:=.cells #[.int .i64 a1_0,.slice A1_1 l1_1.length c1_1] 26 (0,0)) qB131):gb269≠gb259));have n13_:=qAm ((by rw [hg];exact Nat.ne_of_lt (blk_lt (g:=gb268) (o:=.cells #[.int .i64 0,.slice none 0 0] 26 (0,0)) qB132):gb268≠gb269));have n14_:=qAm ((by rw [hg];exact Nat.ne_of_gt (blk_lt (g:=gb268) (o:=.cells #[.int .i64 0,.slice none 0 0] 26 (0,0)) qB132):gb269≠gb268));clear HO263;clear HO267;clear BK258;clear BK259;clear BK268;clear HB;have HO263:=n0_;have HO267:=n1_;have BK258:=n2_;have BK259:=n3_;have BK268:=n4_;have HB:=n5_;have BK269:=n6_;have GW269:=n7_;have GE269:=n8_;have NB258_269:=n9_;have NB269_258:=n10_;have NB259_269:=n11_;have NB269_259:=n12_;have NB268_269:=n13_;have NB269_268:=n14_;clear n0_ n1_ n2_ n3_ n4_ n5_ n6_ n7_ n8_ n9_ n10_ n11_ n12_ n13_ n14_;clear hb hbox hg;have hnb13:=NB268_258.1;have hnc13:=NB258_268.1;have hnb14:=NB268_259.1;have hnc14:=NB259_268.1;have hnb15:=NB268_269.1;have hnc15:=NB269_268.1;have hcz16_0:w12.cell? ⟨gb268,0,none⟩=some (.int .i64 0):=(blk_cell BK268.1 0).trans rfl;have hcz16_1:w12.cell? ⟨gb268,1,none⟩=some (.slice none 0 0):=(blk_cell BK268.1 1).trans rfl;have hfz16_0:=blk_frozen BK268.1 0;have hfz16_1:=blk_frozen BK268.1 1;obtain⟨Ao17,co17,eo17⟩:=Kd.R_slice HO263.1;subst eo17;have hnb18:=NB269_258.1;have hnc18:=NB258_269.1;have hnb19:=NB269_259.1;have hnc19:=NB259_269.1;have hcz20_0:w12.cell? ⟨gb269,0,none⟩=some (.int .i64 0):=(blk_cell BK269.1 0).trans rfl;have hcz20_1:w12.cell? ⟨gb269,1,none⟩=some (.slice none 0 0):=(blk_cell BK269.1 1).trans rfl;have hfz20_0:=blk_frozen BK269.1 0;have hfz20_1:=blk_frozen BK269.1 1;obtain⟨Ao21,co21,eo21⟩:=Kd.R_slice HO267.1;subst eo21)|((with_reducible refine gate_callee (f:=25) rfl ?_);refine goesL_ (some 14) rfl rfl Try.func25 (by kernel_rfl) rfl #[.agg #[.int .i64 t264,.slice Ao21 t265.length co21]] rfl qB108 ?_;(with_reducible refine(spec_l09Norm.calls t264 _ _ t265 t270 _ ?side1 ?side2 A4.1).mono ?_);(case side1=>refine(Kd.R_reads' (e:=2) (base:=w.heap.size) (ok:=fun k_=>some k_≠(.slice Ao17 t261.length co17:Value).ownBlock) (n:=t265.length) (c:=co21) ?_).2.2;exact qB20);(case side2=>exact(Kd.R_reads' HO267.1).2.1);rintro e w22 ⟨rfl,hb⟩;refine⟨_,rfl,?_⟩;have n0_:=qAm (Kd.R_below (by (with_reducible repeat(first|apply Kd.R_alloc|apply Kd.R_drewN|apply Kd.R_drew));exact(Kd.R_mono (Kd.R_mono (Kd.R_far (p:=⟨gb269,1,none⟩) (Kd.R_far (p:=⟨gb269,0,none⟩) (Kd.R_far (p:=⟨gb268,1,none⟩) (Kd.R_far (p:=⟨gb268,0,none⟩) (Kd.R_types (Kd.R_types HO263.1 BK268.1 (by decide)) BK269.1 (by decide)) (fun _ hk=>hk.1.2) (.int .i64 t260)) (fun _ hk=>hk.1.2) (.slice Ao17 t261.length co17)) (fun _ hk=>hk.2) (.int .i64 t264)) (fun _ hk=>hk.2) (.slice Ao21 t265.length co21)) (fun _ h_=>h_.1)) (fun _ h_=>h_.1))) hb);have n1_:=qAm (Kd.R_below qB20 hb);have n2_:=qAm (blk_below (g:=gb258) (o:=.cells #[.int .i64 a0_0,.slice A0_1 l0_1.length c0_1] 26 (0,0)) (by (with_reducible repeat(first|refine blk_drewN ?_ _|refine blk_drew ?_|refine blk_alloc ?_ _));refine blk_far ?_ NB258_269.1 _;(with_reducible repeat(first|refine blk_drewN ?_ _|refine blk_drew ?_|refine blk_alloc ?_ _));refine blk_far ?_ NB258_269.1 _;(with_reducible repeat(first|refine blk_drewN ?_ _|refine blk_drew ?_|refine blk_alloc ?_ _));refine blk_far ?_ NB258_268.1 _;(with_reducible repeat(first|refine blk_drewN ?_ _|refine blk_drew ?_|refine blk_alloc ?_ _));refine blk_far ?_ NB258_268.1 _;(with_reducible repeat(first|refine blk_drewN ?_ _|refine blk_drew ?_|refine blk_alloc ?_ _));exact BK258.1) hb);have n3_:=qAm (blk_below (g:=gb259) (o:=.cells #[.int .i64 a1_0,.slice A1_1 l1_1.length c1_1] 26 (0,0)) (by (with_reducible repeat(first|refine blk_drewN ?_ _|refine blk_drew ?_|refine blk_alloc ?_ _));refine blk_far ?_ NB259_269.1 _;(with_reducible repeat(first|refine blk_drewN ?_ _|refine blk_drew ?_|refine blk_alloc ?_ _));refine blk_far ?_ NB259_269.1 _;(with_reducible repeat(first|refine blk_drewN ?_ _|refine blk_drew ?_|refine blk_alloc ?_ _));refine blk_far ?_ NB259_268.1 _;(with_reducible repeat(first|refine blk_drewN ?_ _|refine blk_drew ?_|refine blk_alloc ?_ _));refine blk_far ?_ NB259_268.1 _;(with_reducible repeat(first|refine blk_drewN ?_ _|refine blk_drew ?_|refine blk_alloc ?_ _));exact BK259.1) hb);have n4_:=qAm (blk_below (g:=gb268) (o:=.cells #[.int .i64 t260,.slice Ao17 t261.length co17] 26 (0,0)) (by (with_reducible repeat(first|refine blk_drewN ?_ _|refine blk_drew ?_|refine blk_alloc ?_ _));refine blk_far ?_ NB268_269.1 _;(with_reducible repeat(first|refine blk_drewN ?_ _|refine blk_drew ?_|refine blk_alloc ?_ _));refine blk_far ?_ NB268_269.1 _;(with_reducible repeat(first|refine blk_drewN ?_ _|refine blk_drew ?_|refine blk_alloc ?_ _));refine blk_put (cs:=#[.int .i64 t260,.slice none 0 0]) ?_ 1 _ rfl;(with_reducible repeat(first|refine blk_drewN ?_ _|refine blk_drew ?_|refine blk_alloc ?_ _));refine blk_put (cs:=#[.int .i64 0,.slice none 0 0]) ?_ 0 _ rfl;(with_reducible repeat(first|refine blk_drewN ?_ _|refine blk_drew ?_|refine blk_alloc ?_ _));exact BK268.1) hb);have n5_:=qAm (blk_below (g:=gb269) (o:=.cells #[.int .i64 t264,.slice Ao21 t265.length co21] 26 (0,0)) (by (with_reducible repeat(first|refine blk_drewN ?_ _|refine blk_drew ?_|refine blk_alloc ?_ _));refine blk_put (cs:=#[.int .i64 t264,.slice none 0 0]) ?_ 1 _ rfl;(with_reducible repeat(first|refine blk_drewN ?_ _|refine blk_drew ?_|refine blk_alloc ?_ _));refine blk_put (cs:=#[.int .i64 0,.slice none 0 0]) ?_ 0 _ rfl;(with_reducible repeat(first|refine blk_drewN ?_ _|refine blk_drew ?_|refine blk_alloc ?_ _));refine blk_far ?_ NB269_268.1 _;(with_reducible repeat(first|refine blk_drewN ?_ _|refine blk_drew ?_|refine blk_alloc ?_ _));refine blk_far ?_ NB269_268.1 _;(with_reducible repeat(first|refine blk_drewN ?_ _|refine blk_drew ?_|refine blk_alloc ?_ _));exact BK269.1) hb);have n6_:=qAm (below_step (by repeat(first|(with_reducible first|exact HB.1|apply below_alloc|apply pw_below_drewN|apply below_drew1|refine below_set ?_ GE258.1|refine below_set ?_ GE259.1|refine below_set ?_ GE268.1|refine below_set ?_ GE269.1)|exact HB.1)) hb);clear HO263;clear HO267;clear BK258;clear BK259;clear BK268;clear BK269;clear HB;have HO263:=n0_;have HO267:=n1_;have BK258:=n2_;have BK259:=n3_;have BK268:=n4_;have BK269:=n5_;have HB:=n6_;clear n0_ n1_ n2_ n3_ n4_ n5_ n6_;(try clear hb);(try clear hb2);(try clear hk);(try clear hi)));go_ret;exact⟨by first|rfl|(simp [errW_none,errW_some] <;> rfl)|(simp [*,errW_none,errW_some] <;> rfl),by repeat(first|(with_reducible first|exact HB.1|apply below_alloc|apply pw_below_drewN|apply below_drew1|refine below_set ?_ GE258.1|refine below_set ?_ GE259.1|refine below_set ?_ GE268.1|refine below_set ?_ GE269.1)|exact HB.1)⟩

end Go.Proofs.Ytejpliodhnglbaa.PFnExactCubicSymbol
