/- The functions that the law reaches, as plain functions, each with the proof that the program comes to it; no condition. Written by a program of this session (wip/mp.py) over the printing of the kit; what is marked HAND is told by hand. -/
import Derived.Test.YthljmbobccaalaaPFnExactPowerCyclox0
import Derived.Test.YthljmbobccaalaaPFnExactPowerCyclox1
import Derived.Test.YthljmbobccaalaaPFnExactPowerCyclox7
import Derived.Test.YthljmbobccaalaaPFnExactPowerCyclox12
namespace Go.Proofs.Ythljmbobccaalaa.PFnExactPowerCyclo
open Go.RowKit Go.Proofs.YthljmbobccaalaaW.PrintWords Go.Proofs.YthljmbobccaalaaW.PrintLast Go.Proofs.YthljmbobccaalaaW.PrintMore
attribute [local go_sem] max2_int min2_int max_two min_two max_three min_three max_four min_four   -- for this text's walks alone
set_option linter.unusedVariables false
set_option linter.unusedSimpArgs false

/-! ### laws_FnExactPowerCyclo: function 4 -/
mutual
def laws_FnExactPowerCyclo.j0:Nat→Int→Int→Int→Bool→Int→List Int→Int→List Int→Int→List Int→Int→List Int→Option (Bool)
 |0,_,_,_,_,_,_,_,_,_,_,_,_=>none
 |k+1,x1,x7,x10,x44,x344000,x344001,x355000,x355001,x360000,x360001,x366000,x366001=>if x44=true then (some false) else ((laws_toCyclo.f k x344000 x344001).bind fun bt367=>((laws_eqCyclo.f k x360000 x360001 bt367.1 bt367.2).bind fun t371=>(if t371=true then ((laws_markCyclo.f k x360000 x360001 1).bind fun bt372=>(if bt372.1<0 then (laws_FnExactPowerCyclo.j1 k x1 x7 true x344000 x344001 x355000 x355001 x366000 x366001) else ((laws_eqCyclo.f k x366000 x366001 x355000 x355001).bind fun t374=>(if t374=true then (laws_FnExactPowerCyclo.j1 k x1 x7 (x10 !=x7) x344000 x344001 x355000 x355001 x366000 x366001) else (laws_FnExactPowerCyclo.j1 k x1 x7 true x344000 x344001 x355000 x355001 x366000 x366001))))) else (some false))))
def laws_FnExactPowerCyclo.j1:Nat→Int→Int→Bool→Int→List Int→Int→List Int→Int→List Int→Option (Bool)
 |0,_,_,_,_,_,_,_,_,_=>none
 |k+1,x1,x7,x65,x344000,x344001,x355000,x355001,x366000,x366001=>if x65=true then (some false) else ((laws_markCyclo.f k x366000 x366001 1).bind fun bt375=>((laws_heldCyclo.f k x366000 bt375.2 1).bind fun t377=>(if t377<0 then (some false) else (if t377=bt375.1 then ((laws_toCyclo.f k x344000 x344001).bind fun bt378=>((impl_PowerCyclo.f k bt378.1 bt378.2 x1).bind fun bt382=>((laws_eqCyclo.f k bt382.1 bt382.2.1 x355000 x355001).bind fun t388=>(if t388=true then (laws_FnExactPowerCyclo.j2 k bt375.1 (bt382.2.2 !=x7) x366000 bt375.2) else (laws_FnExactPowerCyclo.j2 k bt375.1 true x366000 bt375.2))))) else (some false)))))
def laws_FnExactPowerCyclo.j2:Nat→Int→Bool→Int→List Int→Option (Bool)
 |0,_,_,_,_=>none
 |k+1,x12,x92,x366000,x366001=>if x92=true then (some false) else ((laws_heldCyclo.f k x366000 x366001 1).bind fun t389=>(if t389<0 then (some false) else (if t389=x12 then (some true) else (some false))))
end
def laws_FnExactPowerCyclo.f (k:Nat) (a0_0:Int) (l0_1:List Int) (a1:Int):Option (Bool):=(laws_szCyclo.f a0_0 l0_1 1048576).bind fun t344=>(if t344<0 then (some true) else ((laws_toCyclo.f k a0_0 l0_1).bind fun bt345=>((spec_PowerCyclo.f k bt345.1 bt345.2 a1).bind fun bt349=>((laws_toCyclo.f k a0_0 l0_1).bind fun bt355=>((impl_PowerCyclo.f k bt355.1 bt355.2 a1).bind fun bt360=>((laws_eqCyclo.f k bt360.1 bt360.2.1 bt349.1 bt349.2.1).bind fun t366=>(if t366=true then (laws_FnExactPowerCyclo.j0 k a1 bt349.2.2 bt360.2.2 (bt360.2.2 !=bt349.2.2) a0_0 l0_1 bt349.1 bt349.2.1 bt355.1 bt355.2 bt360.1 bt360.2.1) else (laws_FnExactPowerCyclo.j0 k a1 bt349.2.2 bt360.2.2 true a0_0 l0_1 bt349.1 bt349.2.1 bt355.1 bt355.2 bt360.1 bt360.2.1))))))))
theorem laws_FnExactPowerCyclo.mono_l:∀k,(∀y0 y1 y2 y3 y4 y5 y6 y7 y8 y9 y10 y11,LeO (laws_FnExactPowerCyclo.j0 k y0 y1 y2 y3 y4 y5 y6 y7 y8 y9 y10 y11) (laws_FnExactPowerCyclo.j0 (k+1) y0 y1 y2 y3 y4 y5 y6 y7 y8 y9 y10 y11))∧(∀y0 y1 y2 y3 y4 y5 y6 y7 y8,LeO (laws_FnExactPowerCyclo.j1 k y0 y1 y2 y3 y4 y5 y6 y7 y8) (laws_FnExactPowerCyclo.j1 (k+1) y0 y1 y2 y3 y4 y5 y6 y7 y8))∧(∀y0 y1 y2 y3,LeO (laws_FnExactPowerCyclo.j2 k y0 y1 y2 y3) (laws_FnExactPowerCyclo.j2 (k+1) y0 y1 y2 y3))
 |0=>⟨fun _ _ _ _ _ _ _ _ _ _ _ _ r h=>by simp [laws_FnExactPowerCyclo.j0] at h,fun _ _ _ _ _ _ _ _ _ r h=>by simp [laws_FnExactPowerCyclo.j1] at h,fun _ _ _ _ r h=>by simp [laws_FnExactPowerCyclo.j2] at h⟩
 |k+1=>by
  obtain⟨ih0,ih1,ih2⟩:=laws_FnExactPowerCyclo.mono_l k;refine⟨?_,?_,?_⟩
  ·intro y0 y1 y2 y3 y4 y5 y6 y7 y8 y9 y10 y11;unfold laws_FnExactPowerCyclo.j0;repeat' first
   |(with_reducible exact ih0 _ _ _ _ _ _ _ _ _ _ _ _)
   |(with_reducible exact ih1 _ _ _ _ _ _ _ _ _)
   |(with_reducible exact ih2 _ _ _ _)
   |(with_reducible exact impl_PowerCyclo.mono _ _ _ _)
   |(with_reducible exact laws_eqCyclo.mono _ _ _ _ _)
   |(with_reducible exact laws_heldCyclo.mono _ _ _ _)
   |(with_reducible exact laws_markCyclo.mono _ _ _ _)
   |(with_reducible exact laws_toCyclo.mono _ _ _)
   |(with_reducible exact spec_PowerCyclo.mono _ _ _ _)
   |(with_reducible exact LeO.refl _)
   |(with_reducible exact LeO.none _)
   |(with_reducible refine LeO.ite ?_ ?_)
   |(with_reducible refine LeO.bind ?_ (fun _=>?_))
   |exact ih0 _ _ _ _ _ _ _ _ _ _ _ _
   |exact ih1 _ _ _ _ _ _ _ _ _
   |exact ih2 _ _ _ _
   |exact impl_PowerCyclo.mono _ _ _ _
   |exact laws_eqCyclo.mono _ _ _ _ _
   |exact laws_heldCyclo.mono _ _ _ _
   |exact laws_markCyclo.mono _ _ _ _
   |exact laws_toCyclo.mono _ _ _
   |exact spec_PowerCyclo.mono _ _ _ _
   |exact LeO.none _
   |refine LeO.ite ?_ ?_
   |refine LeO.bind ?_ (fun _=>?_)
  ·intro y0 y1 y2 y3 y4 y5 y6 y7 y8;unfold laws_FnExactPowerCyclo.j1;repeat' first
   |(with_reducible exact ih0 _ _ _ _ _ _ _ _ _ _ _ _)
   |(with_reducible exact ih1 _ _ _ _ _ _ _ _ _)
   |(with_reducible exact ih2 _ _ _ _)
   |(with_reducible exact impl_PowerCyclo.mono _ _ _ _)
   |(with_reducible exact laws_eqCyclo.mono _ _ _ _ _)
   |(with_reducible exact laws_heldCyclo.mono _ _ _ _)
   |(with_reducible exact laws_markCyclo.mono _ _ _ _)
   |(with_reducible exact laws_toCyclo.mono _ _ _)
   |(with_reducible exact spec_PowerCyclo.mono _ _ _ _)
   |(with_reducible exact LeO.refl _)
   |(with_reducible exact LeO.none _)
   |(with_reducible refine LeO.ite ?_ ?_)
   |(with_reducible refine LeO.bind ?_ (fun _=>?_))
   |exact ih0 _ _ _ _ _ _ _ _ _ _ _ _
   |exact ih1 _ _ _ _ _ _ _ _ _
   |exact ih2 _ _ _ _
   |exact impl_PowerCyclo.mono _ _ _ _
   |exact laws_eqCyclo.mono _ _ _ _ _
   |exact laws_heldCyclo.mono _ _ _ _
   |exact laws_markCyclo.mono _ _ _ _
   |exact laws_toCyclo.mono _ _ _
   |exact spec_PowerCyclo.mono _ _ _ _
   |exact LeO.none _
   |refine LeO.ite ?_ ?_
   |refine LeO.bind ?_ (fun _=>?_)
  ·intro y0 y1 y2 y3;unfold laws_FnExactPowerCyclo.j2;repeat' first
   |(with_reducible exact ih0 _ _ _ _ _ _ _ _ _ _ _ _)
   |(with_reducible exact ih1 _ _ _ _ _ _ _ _ _)
   |(with_reducible exact ih2 _ _ _ _)
   |(with_reducible exact impl_PowerCyclo.mono _ _ _ _)
   |(with_reducible exact laws_eqCyclo.mono _ _ _ _ _)
   |(with_reducible exact laws_heldCyclo.mono _ _ _ _)
   |(with_reducible exact laws_markCyclo.mono _ _ _ _)
   |(with_reducible exact laws_toCyclo.mono _ _ _)
   |(with_reducible exact spec_PowerCyclo.mono _ _ _ _)
   |(with_reducible exact LeO.refl _)
   |(with_reducible exact LeO.none _)
   |(with_reducible refine LeO.ite ?_ ?_)
   |(with_reducible refine LeO.bind ?_ (fun _=>?_))
   |exact ih0 _ _ _ _ _ _ _ _ _ _ _ _
   |exact ih1 _ _ _ _ _ _ _ _ _
   |exact ih2 _ _ _ _
   |exact impl_PowerCyclo.mono _ _ _ _
   |exact laws_eqCyclo.mono _ _ _ _ _
   |exact laws_heldCyclo.mono _ _ _ _
   |exact laws_markCyclo.mono _ _ _ _
   |exact laws_toCyclo.mono _ _ _
   |exact spec_PowerCyclo.mono _ _ _ _
   |exact LeO.none _
   |refine LeO.ite ?_ ?_
   |refine LeO.bind ?_ (fun _=>?_)
theorem laws_FnExactPowerCyclo.mono:∀a0 a1 a2 k,LeO (laws_FnExactPowerCyclo.f k a0 a1 a2) (laws_FnExactPowerCyclo.f (k+1) a0 a1 a2):=by
 intro a0 a1 a2 k;obtain⟨ih0,ih1,ih2⟩:=laws_FnExactPowerCyclo.mono_l k;unfold laws_FnExactPowerCyclo.f;repeat' first
   |(with_reducible exact ih0 _ _ _ _ _ _ _ _ _ _ _ _)
   |(with_reducible exact ih1 _ _ _ _ _ _ _ _ _)
   |(with_reducible exact ih2 _ _ _ _)
   |(with_reducible exact impl_PowerCyclo.mono _ _ _ _)
   |(with_reducible exact laws_eqCyclo.mono _ _ _ _ _)
   |(with_reducible exact laws_heldCyclo.mono _ _ _ _)
   |(with_reducible exact laws_markCyclo.mono _ _ _ _)
   |(with_reducible exact laws_toCyclo.mono _ _ _)
   |(with_reducible exact spec_PowerCyclo.mono _ _ _ _)
   |(with_reducible exact LeO.refl _)
   |(with_reducible exact LeO.none _)
   |(with_reducible refine LeO.ite ?_ ?_)
   |(with_reducible refine LeO.bind ?_ (fun _=>?_))
   |exact ih0 _ _ _ _ _ _ _ _ _ _ _ _
   |exact ih1 _ _ _ _ _ _ _ _ _
   |exact ih2 _ _ _ _
   |exact impl_PowerCyclo.mono _ _ _ _
   |exact laws_eqCyclo.mono _ _ _ _ _
   |exact laws_heldCyclo.mono _ _ _ _
   |exact laws_markCyclo.mono _ _ _ _
   |exact laws_toCyclo.mono _ _ _
   |exact spec_PowerCyclo.mono _ _ _ _
   |exact LeO.none _
   |refine LeO.ite ?_ ?_
   |refine LeO.bind ?_ (fun _=>?_)
-- TRUE ALONE
theorem laws_FnExactPowerCyclo.j0_no (k:Nat) (y0:Int) (y1:Int) (y2:Int) (y4:Int) (y5:List Int) (y6:Int) (y7:List Int) (y8:Int) (y9:List Int) (y10:Int) (y11:List Int) (h:laws_FnExactPowerCyclo.j0 k y0 y1 y2 true y4 y5 y6 y7 y8 y9 y10 y11=some true):False:=by
 cases k with
 |zero=>first|(simp only [laws_FnExactPowerCyclo.j0] at h;done)|(simp only [laws_FnExactPowerCyclo.j0] at h;cases h)
 |succ k=>rw [laws_FnExactPowerCyclo.j0,if_pos rfl] at h;cases h
theorem laws_FnExactPowerCyclo.j1_no (k:Nat) (y0:Int) (y1:Int) (y3:Int) (y4:List Int) (y5:Int) (y6:List Int) (y7:Int) (y8:List Int) (h:laws_FnExactPowerCyclo.j1 k y0 y1 true y3 y4 y5 y6 y7 y8=some true):False:=by
 cases k with
 |zero=>first|(simp only [laws_FnExactPowerCyclo.j1] at h;done)|(simp only [laws_FnExactPowerCyclo.j1] at h;cases h)
 |succ k=>rw [laws_FnExactPowerCyclo.j1,if_pos rfl] at h;cases h
theorem laws_FnExactPowerCyclo.j2_no (k:Nat) (y0:Int) (y2:Int) (y3:List Int) (h:laws_FnExactPowerCyclo.j2 k y0 true y2 y3=some true):False:=by
 cases k with
 |zero=>first|(simp only [laws_FnExactPowerCyclo.j2] at h;done)|(simp only [laws_FnExactPowerCyclo.j2] at h;cases h)
 |succ k=>rw [laws_FnExactPowerCyclo.j2,if_pos rfl] at h;cases h
set_option maxHeartbeats 8000000 in
set_option maxRecDepth 100000 in
theorem laws_FnExactPowerCyclo.calls (k:Nat) (a0_0:Int) (A0_1:Option Addr) (c0_1:Nat) (l0_1:List Int) (a1:Int) (w:World) (hr0_1:Kd.C (Kd.int .i64) w A0_1 l0_1.length l0_1) (hc0_1:l0_1.length≤c0_1) (h:laws_FnExactPowerCyclo.f k a0_0 l0_1 a1=some true):
  Calls Try.prog 4 #[.agg #[.int .i64 a0_0,.slice A0_1 l0_1.length c0_1],.int .i64 a1] w fun e w'=>e=.returned (.bool true)∧Below w.heap.size w w':=by
 have hu24:=Try.underlying24;have hu26:=Try.underlying26;have HR0_1:=qAm hr0_1;have HC0_1:=qAm hc0_1;clear hr0_1 hc0_1;have HB:=qAm (Below.refl w.heap.size w);have H:((laws_szCyclo.f a0_0 l0_1 1048576).bind fun t344=>(if t344<0 then (some true) else ((laws_toCyclo.f k a0_0 l0_1).bind fun bt345=>((spec_PowerCyclo.f k bt345.1 bt345.2 a1).bind fun bt349=>((laws_toCyclo.f k a0_0 l0_1).bind fun bt355=>((impl_PowerCyclo.f k bt355.1 bt355.2 a1).bind fun bt360=>((laws_eqCyclo.f k bt360.1 bt360.2.1 bt349.1 bt349.2.1).bind fun t366=>(if t366=true then (laws_FnExactPowerCyclo.j0 k a1 bt349.2.2 bt360.2.2 (bt360.2.2 !=bt349.2.2) a0_0 l0_1 bt349.1 bt349.2.1 bt355.1 bt355.2 bt360.1 bt360.2.1) else (laws_FnExactPowerCyclo.j0 k a1 bt349.2.2 bt360.2.2 true a0_0 l0_1 bt349.1 bt349.2.1 bt355.1 bt355.2 bt360.1 bt360.2.1)))))))))=some true:=h;clear h;replace H:=qOb H;obtain⟨t344,A30,H⟩:=H;replace H:(if t344<0 then (some true) else ((laws_toCyclo.f k a0_0 l0_1).bind fun bt345=>((spec_PowerCyclo.f k bt345.1 bt345.2 a1).bind fun bt349=>((laws_toCyclo.f k a0_0 l0_1).bind fun bt355=>((impl_PowerCyclo.f k bt355.1 bt355.2 a1).bind fun bt360=>((laws_eqCyclo.f k bt360.1 bt360.2.1 bt349.1 bt349.2.1).bind fun t366=>(if t366=true then (laws_FnExactPowerCyclo.j0 k a1 bt349.2.2 bt360.2.2 (bt360.2.2 !=bt349.2.2) a0_0 l0_1 bt349.1 bt349.2.1 bt355.1 bt355.2 bt360.1 bt360.2.1) else (laws_FnExactPowerCyclo.j0 k a1 bt349.2.2 bt360.2.2 true a0_0 l0_1 bt349.1 bt349.2.1 bt355.1 bt355.2 bt360.1 bt360.2.1))))))))=some true:=H;have A3:=qAm A30;clear A30
 by_cases c4:t344<0
 ·rw [if_pos c4] at H;have c4b0:decide (t344<0)=true:=decide_eq_true c4;clear c4 H;go_enter Try.func4,Try.ntmps4;go_wp2_with (first|((with_reducible refine gate_dst (N:=2) rfl ?_);refine box_event ?hg (N:=2) ?hd (cs:=#[.int .i64 a0_0,.slice A0_1 l0_1.length c0_1]) (t:=24) ?hr ?_;(case hd=>rfl);(case hg=>rfl);(case hr=>first|(go_simp;done)|(go_simp;rfl));intro gb343 hg w5 hbox hb;have n0_:=qAm (below_step qB61 hb);have n1_:=qAm (hbox);have n2_:=qAm ((by rw [hg];exact(below_size qB61):w.heap.size≤gb343));have n3_:=qAm ((by rw [hg];exact(below_size qB61):w.heap.size≤gb343));clear HB;have HB:=n0_;have BK343:=n1_;have GW343:=n2_;have GE343:=n3_;clear n0_ n1_ n2_ n3_;clear hb hbox hg;have hcz6_0:w5.cell? ⟨gb343,0,none⟩=some (.int .i64 a0_0):=(blk_cell BK343.1 0).trans rfl;have hcz6_1:w5.cell? ⟨gb343,1,none⟩=some (.slice A0_1 l0_1.length c0_1):=(blk_cell BK343.1 1).trans rfl;have hfz6_0:=blk_frozen BK343.1 0;have hfz6_1:=blk_frozen BK343.1 1)|((with_reducible refine gate_callee (f:=11) rfl ?_);refine goesL_ (some 18) rfl rfl Try.func11 (by kernel_rfl) rfl #[.agg #[.int .i64 a0_0,.slice A0_1 l0_1.length c0_1],.int .i64 1048576] rfl qB60 ?_;(with_reducible refine(laws_szCyclo.calls a0_0 _ _ l0_1 1048576 t344 _ ?side1 ?side2 A3.1).mono ?_);(case side1=>repeat(first|exact(Kd.C_below HR0_1.1 HB.1)|(with_reducible refine Kd.C_alloc ?_ _)|(with_reducible refine Kd.C_drewN ?_ _)|(with_reducible refine Kd.C_drew ?_)));(case side2=>exact HC0_1.1);rintro e w7 ⟨rfl,hb⟩;refine⟨_,rfl,?_⟩;have n0_:=qAm (blk_below (g:=gb343) (o:=.cells #[.int .i64 a0_0,.slice A0_1 l0_1.length c0_1] 24 (0,0)) qB84 hb);have n1_:=qAm (below_step qB50 hb);clear BK343;clear HB;have BK343:=n0_;have HB:=n1_;clear n0_ n1_;(try clear hb);(try clear hb2);(try clear hk);(try clear hi)));go_ret;exact⟨by first|rfl|(simp [errW_none,errW_some] <;> rfl)|(simp [*,errW_none,errW_some] <;> rfl),by repeat(first|(with_reducible first|exact HB.1|apply below_alloc|apply pw_below_drewN|apply below_drew1|refine below_set ?_ GE343.1)|exact HB.1)⟩
 ·rw [if_neg c4] at H;have c4b0:decide (t344<0)=false:=decide_eq_false c4;clear c4;replace H:=qOb H;obtain⟨⟨t345,t346⟩,A80,H⟩:=H;replace H:((spec_PowerCyclo.f k t345 t346 a1).bind fun bt349=>((laws_toCyclo.f k a0_0 l0_1).bind fun bt355=>((impl_PowerCyclo.f k bt355.1 bt355.2 a1).bind fun bt360=>((laws_eqCyclo.f k bt360.1 bt360.2.1 bt349.1 bt349.2.1).bind fun t366=>(if t366=true then (laws_FnExactPowerCyclo.j0 k a1 bt349.2.2 bt360.2.2 (bt360.2.2 !=bt349.2.2) a0_0 l0_1 bt349.1 bt349.2.1 bt355.1 bt355.2 bt360.1 bt360.2.1) else (laws_FnExactPowerCyclo.j0 k a1 bt349.2.2 bt360.2.2 true a0_0 l0_1 bt349.1 bt349.2.1 bt355.1 bt355.2 bt360.1 bt360.2.1))))))=some true:=H;have A8:=qAm A80;clear A80;replace H:=qOb H;obtain⟨⟨t349,t350,t353⟩,A90,H⟩:=H;replace H:((laws_toCyclo.f k a0_0 l0_1).bind fun bt355=>((impl_PowerCyclo.f k bt355.1 bt355.2 a1).bind fun bt360=>((laws_eqCyclo.f k bt360.1 bt360.2.1 t349 t350).bind fun t366=>(if t366=true then (laws_FnExactPowerCyclo.j0 k a1 t353 bt360.2.2 (bt360.2.2 !=t353) a0_0 l0_1 t349 t350 bt355.1 bt355.2 bt360.1 bt360.2.1) else (laws_FnExactPowerCyclo.j0 k a1 t353 bt360.2.2 true a0_0 l0_1 t349 t350 bt355.1 bt355.2 bt360.1 bt360.2.1)))))=some true:=H;have A9:=qAm A90;clear A90;replace H:=qOb H;obtain⟨⟨t355,t356⟩,A100,H⟩:=H;replace H:((impl_PowerCyclo.f k t355 t356 a1).bind fun bt360=>((laws_eqCyclo.f k bt360.1 bt360.2.1 t349 t350).bind fun t366=>(if t366=true then (laws_FnExactPowerCyclo.j0 k a1 t353 bt360.2.2 (bt360.2.2 !=t353) a0_0 l0_1 t349 t350 t355 t356 bt360.1 bt360.2.1) else (laws_FnExactPowerCyclo.j0 k a1 t353 bt360.2.2 true a0_0 l0_1 t349 t350 t355 t356 bt360.1 bt360.2.1))))=some true:=H;have A10:=qAm A100;clear A100;replace H:=qOb H;obtain⟨⟨t360,t361,t364⟩,A110,H⟩:=H;replace H:((laws_eqCyclo.f k t360 t361 t349 t350).bind fun t366=>(if t366=true then (laws_FnExactPowerCyclo.j0 k a1 t353 t364 (t364 !=t353) a0_0 l0_1 t349 t350 t355 t356 t360 t361) else (laws_FnExactPowerCyclo.j0 k a1 t353 t364 true a0_0 l0_1 t349 t350 t355 t356 t360 t361)))=some true:=H;have A11:=qAm A110;clear A110;have HC12:=qAm H;clear H;go_enter Try.func4,Try.ntmps4;go_upto_region 8 with (first|((with_reducible refine gate_dst (N:=2) rfl ?_);refine box_event ?hg (N:=2) ?hd (cs:=#[.int .i64 a0_0,.slice A0_1 l0_1.length c0_1]) (t:=24) ?hr ?_;(case hd=>rfl);(case hg=>rfl);(case hr=>first|(go_simp;done)|(go_simp;rfl));intro gb343 hg w13 hbox hb;have n0_:=qAm (below_step qB61 hb);have n1_:=qAm (hbox);have n2_:=qAm ((by rw [hg];exact(below_size qB61):w.heap.size≤gb343));have n3_:=qAm ((by rw [hg];exact(below_size qB61):w.heap.size≤gb343));clear HB;have HB:=n0_;have BK343:=n1_;have GW343:=n2_;have GE343:=n3_;clear n0_ n1_ n2_ n3_;clear hb hbox hg;have hcz14_0:w13.cell? ⟨gb343,0,none⟩=some (.int .i64 a0_0):=(blk_cell BK343.1 0).trans rfl;have hcz14_1:w13.cell? ⟨gb343,1,none⟩=some (.slice A0_1 l0_1.length c0_1):=(blk_cell BK343.1 1).trans rfl;have hfz14_0:=blk_frozen BK343.1 0;have hfz14_1:=blk_frozen BK343.1 1)|((with_reducible refine gate_callee (f:=11) rfl ?_);refine goesL_ (some 18) rfl rfl Try.func11 (by kernel_rfl) rfl #[.agg #[.int .i64 a0_0,.slice A0_1 l0_1.length c0_1],.int .i64 1048576] rfl qB60 ?_;(with_reducible refine(laws_szCyclo.calls a0_0 _ _ l0_1 1048576 t344 _ ?side1 ?side2 A3.1).mono ?_);(case side1=>repeat(first|exact(Kd.C_below HR0_1.1 HB.1)|(with_reducible refine Kd.C_alloc ?_ _)|(with_reducible refine Kd.C_drewN ?_ _)|(with_reducible refine Kd.C_drew ?_)));(case side2=>exact HC0_1.1);rintro e w15 ⟨rfl,hb⟩;refine⟨_,rfl,?_⟩;have n0_:=qAm (blk_below (g:=gb343) (o:=.cells #[.int .i64 a0_0,.slice A0_1 l0_1.length c0_1] 24 (0,0)) qB84 hb);have n1_:=qAm (below_step qB50 hb);clear BK343;clear HB;have BK343:=n0_;have HB:=n1_;clear n0_ n1_;(try clear hb);(try clear hb2);(try clear hk);(try clear hi);have hcz16_0:w15.cell? ⟨gb343,0,none⟩=some (.int .i64 a0_0):=(blk_cell BK343.1 0).trans rfl;have hcz16_1:w15.cell? ⟨gb343,1,none⟩=some (.slice A0_1 l0_1.length c0_1):=(blk_cell BK343.1 1).trans rfl;have hfz16_0:=blk_frozen BK343.1 0;have hfz16_1:=blk_frozen BK343.1 1)|((with_reducible refine gate_callee (f:=13) rfl ?_);refine goesL_ (some 23) rfl rfl Try.func13 (by kernel_rfl) rfl #[.agg #[.int .i64 a0_0,.slice A0_1 l0_1.length c0_1]] rfl qB60 ?_;(with_reducible refine(laws_toCyclo.calls k a0_0 _ _ l0_1 t345 t346 _ ?side1 ?side2 A8.1).mono ?_);(case side1=>repeat(first|exact(Kd.C_below HR0_1.1 HB.1)|(with_reducible refine Kd.C_alloc ?_ _)|(with_reducible refine Kd.C_drewN ?_ _)|(with_reducible refine Kd.C_drew ?_)));(case side2=>exact HC0_1.1);rintro e w17 ⟨v347,rfl,ho0,hb⟩;refine⟨_,rfl,?_⟩;have n0_:=qAm (Kd.R_lower ho0 (below_size qB50));have n1_:=qAm (blk_below (g:=gb343) (o:=.cells #[.int .i64 a0_0,.slice A0_1 l0_1.length c0_1] 24 (0,0)) qB84 hb);have n2_:=qAm (below_step qB50 hb);clear BK343;clear HB;have HO348:=n0_;have BK343:=n1_;have HB:=n2_;clear n0_ n1_ n2_;(try clear hb);(try clear hb2);(try clear hk);(try clear hi);(try clear ho0);obtain⟨Ao18,co18,eo18⟩:=Kd.R_slice HO348.1;subst eo18)|((with_reducible refine gate_callee (f:=18) rfl ?_);refine goesL_ (some 25) rfl rfl Try.func18 (by kernel_rfl) rfl #[.agg #[.int .i64 t345,.slice Ao18 t346.length co18],.int .i64 a1] rfl qB60 ?_;(with_reducible refine(spec_PowerCyclo.calls k t345 _ _ t346 a1 t349 t350 t353 _ ?side1 ?side2 A9.1).mono ?_);(case side1=>repeat(first|exact(Kd.R_reads' HO348.1).2.2|(with_reducible refine Kd.C_alloc ?_ _)|(with_reducible refine Kd.C_drewN ?_ _)|(with_reducible refine Kd.C_drew ?_)));(case side2=>exact(Kd.R_reads' HO348.1).2.1);rintro e w19 ⟨v351,rfl,ho0,hb⟩;refine⟨_,rfl,?_⟩;have n0_:=qAm (Kd.R_elder' qB106 (Kd.R_base ho0) hb);have n1_:=qAm (Kd.R_lower (Kd.R_new' ho0 (Kd.R_lt qB106)) (below_size qB50));have n2_:=qAm (blk_below (g:=gb343) (o:=.cells #[.int .i64 a0_0,.slice A0_1 l0_1.length c0_1] 24 (0,0)) qB84 hb);have n3_:=qAm (below_step qB50 hb);clear HO348;clear BK343;clear HB;have HO348:=n0_;have HO352:=n1_;have BK343:=n2_;have HB:=n3_;clear n0_ n1_ n2_ n3_;(try clear hb);(try clear hb2);(try clear hk);(try clear hi);(try clear ho0))|((with_reducible refine gate_dst (N:=6) rfl ?_);refine box_event ?hg (N:=6) ?hd (cs:=#[.int .i64 0,.slice none 0 0]) (t:=26) ?hr ?_;(case hd=>rfl);(case hg=>rfl);(case hr=>first|(go_simp;done)|(go_simp;rfl));intro gb354 hg w20 hbox hb;have n0_:=qAm (Kd.R_below qB106 hb);have n1_:=qAm (Kd.R_below qB107 hb);have n2_:=qAm (blk_below (g:=gb343) (o:=.cells #[.int .i64 a0_0,.slice A0_1 l0_1.length c0_1] 24 (0,0)) qB84 hb);have n3_:=qAm (below_step qB50 hb);have n4_:=qAm (hbox);have n5_:=qAm ((by rw [hg];exact(below_size qB50):w.heap.size≤gb354));have n6_:=qAm ((by rw [hg];exact(below_size qB50):w.heap.size≤gb354));have n7_:=qAm ((by rw [hg];exact Nat.ne_of_lt (blk_lt (g:=gb343) (o:=.cells #[.int .i64 a0_0,.slice A0_1 l0_1.length c0_1] 24 (0,0)) qB84):gb343≠gb354));have n8_:=qAm ((by rw [hg];exact Nat.ne_of_gt (blk_lt (g:=gb343) (o:=.cells #[.int .i64 a0_0,.slice A0_1 l0_1.length c0_1] 24 (0,0)) qB84):gb354≠gb343));clear HO348;clear HO352;clear BK343;clear HB;have HO348:=n0_;have HO352:=n1_;have BK343:=n2_;have HB:=n3_;have BK354:=n4_;have GW354:=n5_;have GE354:=n6_;have NB343_354:=n7_;have NB354_343:=n8_;clear n0_ n1_ n2_ n3_ n4_ n5_ n6_ n7_ n8_;clear hb hbox hg;have hnb21:=NB354_343.1;have hnc21:=NB343_354.1;have hcz22_0:w20.cell? ⟨gb354,0,none⟩=some (.int .i64 0):=(blk_cell BK354.1 0).trans rfl;have hcz22_1:w20.cell? ⟨gb354,1,none⟩=some (.slice none 0 0):=(blk_cell BK354.1 1).trans rfl;have hfz22_0:=blk_frozen BK354.1 0;have hfz22_1:=blk_frozen BK354.1 1;obtain⟨Ao23,co23,eo23⟩:=Kd.R_slice HO352.1;subst eo23;have hcz24_0:w20.cell? ⟨gb343,0,none⟩=some (.int .i64 a0_0):=(blk_cell BK343.1 0).trans rfl;have hcz24_1:w20.cell? ⟨gb343,1,none⟩=some (.slice A0_1 l0_1.length c0_1):=(blk_cell BK343.1 1).trans rfl;have hfz24_0:=blk_frozen BK343.1 0;have hfz24_1:=blk_frozen BK343.1 1)|((with_reducible refine gate_callee (f:=13) rfl ?_);refine goesL_ (some 29) rfl rfl Try.func13 (by kernel_rfl) rfl #[.agg #[.int .i64 a0_0,.slice A0_1 l0_1.length c0_1]] rfl qB60 ?_;(with_reducible refine(laws_toCyclo.calls k a0_0 _ _ l0_1 t355 t356 _ ?side1 ?side2 A10.1).mono ?_);(case side1=>exact Kd.C_below HR0_1.1 qB34);(case side2=>exact HC0_1.1);rintro e w25 ⟨v357,rfl,ho0,hb⟩;refine⟨_,rfl,?_⟩;have n0_:=qAm (Kd.R_elder' qB10 (Kd.R_base ho0) hb);have n1_:=qAm (Kd.R_elder' qB11 (Kd.R_base ho0) hb);have n2_:=qAm (Kd.R_lower (Kd.R_new' (Kd.R_new' ho0 (Kd.R_lt qB10)) (Kd.R_lt qB11)) (below_size qB34));have n3_:=qAm (blk_below (g:=gb343) (o:=.cells #[.int .i64 a0_0,.slice A0_1 l0_1.length c0_1] 24 (0,0)) (by (with_reducible repeat(first|refine blk_drewN ?_ _|refine blk_drew ?_|refine blk_alloc ?_ _));refine blk_far ?_ NB343_354.1 _;(with_reducible repeat(first|refine blk_drewN ?_ _|refine blk_drew ?_|refine blk_alloc ?_ _));refine blk_far ?_ NB343_354.1 _;(with_reducible repeat(first|refine blk_drewN ?_ _|refine blk_drew ?_|refine blk_alloc ?_ _));exact BK343.1) hb);have n4_:=qAm (blk_below (g:=gb354) (o:=.cells #[.int .i64 t349,.slice Ao23 t350.length co23] 26 (0,0)) (by (with_reducible repeat(first|refine blk_drewN ?_ _|refine blk_drew ?_|refine blk_alloc ?_ _));refine blk_put (cs:=#[.int .i64 t349,.slice none 0 0]) ?_ 1 _ rfl;(with_reducible repeat(first|refine blk_drewN ?_ _|refine blk_drew ?_|refine blk_alloc ?_ _));refine blk_put (cs:=#[.int .i64 0,.slice none 0 0]) ?_ 0 _ rfl;(with_reducible repeat(first|refine blk_drewN ?_ _|refine blk_drew ?_|refine blk_alloc ?_ _));exact BK354.1) hb);have n5_:=qAm (below_step qB34 hb);clear HO348;clear HO352;clear BK343;clear BK354;clear HB;have HO348:=n0_;have HO352:=n1_;have HO358:=n2_;have BK343:=n3_;have BK354:=n4_;have HB:=n5_;clear n0_ n1_ n2_ n3_ n4_ n5_;(try clear hb);(try clear hb2);(try clear hk);(try clear hi);(try clear ho0))|((with_reducible refine gate_dst (N:=8) rfl ?_);refine box_event ?hg (N:=8) ?hd (cs:=#[.int .i64 0,.slice none 0 0]) (t:=26) ?hr ?_;(case hd=>rfl);(case hg=>rfl);(case hr=>first|(go_simp;done)|(go_simp;rfl));intro gb359 hg w26 hbox hb;have n0_:=qAm (Kd.R_below qB106 hb);have n1_:=qAm (Kd.R_below qB107 hb);have n2_:=qAm (Kd.R_below qB108 hb);have n3_:=qAm (blk_below (g:=gb343) (o:=.cells #[.int .i64 a0_0,.slice A0_1 l0_1.length c0_1] 24 (0,0)) qB84 hb);have n4_:=qAm (blk_below (g:=gb354) (o:=.cells #[.int .i64 t349,.slice Ao23 t350.length co23] 26 (0,0)) qB85 hb);have n5_:=qAm (below_step qB34 hb);have n6_:=qAm (hbox);have n7_:=qAm ((by rw [hg];exact(below_size qB34):w.heap.size≤gb359));have n8_:=qAm ((by rw [hg];exact(below_size qB34):w.heap.size≤gb359));have n9_:=qAm ((by rw [hg];exact Nat.ne_of_lt (blk_lt (g:=gb343) (o:=.cells #[.int .i64 a0_0,.slice A0_1 l0_1.length c0_1] 24 (0,0)) qB84):gb343≠gb359));have n10_:=qAm ((by rw [hg];exact Nat.ne_of_gt (blk_lt (g:=gb343) (o:=.cells #[.int .i64 a0_0,.slice A0_1 l0_1.length c0_1] 24 (0,0)) qB84):gb359≠gb343));have n11_:=qAm ((by rw [hg];exact Nat.ne_of_lt (blk_lt (g:=gb354) (o:=.cells #[.int .i64 t349,.slice Ao23 t350.length co23] 26 (0,0)) qB85):gb354≠gb359));have n12_:=qAm ((by rw [hg];exact Nat.ne_of_gt (blk_lt (g:=gb354) (o:=.cells #[.int .i64 t349,.slice Ao23 t350.length co23] 26 (0,0)) qB85):gb359≠gb354));clear HO348;clear HO352;clear HO358;clear BK343;clear BK354;clear HB;have HO348:=n0_;have HO352:=n1_;have HO358:=n2_;have BK343:=n3_;have BK354:=n4_;have HB:=n5_;have BK359:=n6_;have GW359:=n7_;have GE359:=n8_;have NB343_359:=n9_;have NB359_343:=n10_;have NB354_359:=n11_;have NB359_354:=n12_;clear n0_ n1_ n2_ n3_ n4_ n5_ n6_ n7_ n8_ n9_ n10_ n11_ n12_;clear hb hbox hg;have hnb27:=NB359_343.1;have hnc27:=NB343_359.1;have hnb28:=NB359_354.1;have hnc28:=NB354_359.1;have hcz29_0:w26.cell? ⟨gb359,0,none⟩=some (.int .i64 0):=(blk_cell BK359.1 0).trans rfl;have hcz29_1:w26.cell? ⟨gb359,1,none⟩=some (.slice none 0 0):=(blk_cell BK359.1 1).trans rfl;have hfz29_0:=blk_frozen BK359.1 0;have hfz29_1:=blk_frozen BK359.1 1;obtain⟨Ao30,co30,eo30⟩:=Kd.R_slice HO358.1;subst eo30)|((with_reducible refine gate_callee (f:=19) rfl ?_);refine goesL_ (some 33) rfl rfl Try.func19 (by kernel_rfl) rfl #[.agg #[.int .i64 t355,.slice Ao30 t356.length co30],.int .i64 a1] rfl qB60 ?_;(with_reducible refine(impl_PowerCyclo.calls k t355 _ _ t356 a1 t360 t361 t364 _ ?side1 ?side2 A11.1).mono ?_);(case side1=>refine(Kd.R_reads' (e:=2) (base:=w.heap.size) (ok:=fun k_=>((True∧some k_≠(.slice Ao18 t346.length co18:Value).ownBlock)∧some k_≠(.slice Ao23 t350.length co23:Value).ownBlock)) (n:=t356.length) (c:=co30) ?_).2.2;exact qB12);(case side2=>exact(Kd.R_reads' HO358.1).2.1);rintro e w31 ⟨v362,rfl,ho0,hb⟩;refine⟨_,rfl,?_⟩;have n0_:=qAm (Kd.R_elder' qB13 (Kd.R_base ho0) hb);have n1_:=qAm (Kd.R_elder' qB14 (Kd.R_base ho0) hb);have n2_:=qAm (Kd.R_elder' qB12 (Kd.R_base ho0) hb);have n3_:=qAm (Kd.R_lower (Kd.R_new' (Kd.R_new' (Kd.R_new' ho0 (Kd.R_lt qB13)) (Kd.R_lt qB14)) (Kd.R_lt qB12)) (below_size qB27));have n4_:=qAm (blk_below (g:=gb343) (o:=.cells #[.int .i64 a0_0,.slice A0_1 l0_1.length c0_1] 24 (0,0)) (by (with_reducible repeat(first|refine blk_drewN ?_ _|refine blk_drew ?_|refine blk_alloc ?_ _));refine blk_far ?_ NB343_359.1 _;(with_reducible repeat(first|refine blk_drewN ?_ _|refine blk_drew ?_|refine blk_alloc ?_ _));refine blk_far ?_ NB343_359.1 _;(with_reducible repeat(first|refine blk_drewN ?_ _|refine blk_drew ?_|refine blk_alloc ?_ _));exact BK343.1) hb);have n5_:=qAm (blk_below (g:=gb354) (o:=.cells #[.int .i64 t349,.slice Ao23 t350.length co23] 26 (0,0)) (by (with_reducible repeat(first|refine blk_drewN ?_ _|refine blk_drew ?_|refine blk_alloc ?_ _));refine blk_far ?_ NB354_359.1 _;(with_reducible repeat(first|refine blk_drewN ?_ _|refine blk_drew ?_|refine blk_alloc ?_ _));refine blk_far ?_ NB354_359.1 _;(with_reducible repeat(first|refine blk_drewN ?_ _|refine blk_drew ?_|refine blk_alloc ?_ _));exact BK354.1) hb);have n6_:=qAm (blk_below (g:=gb359) (o:=.cells #[.int .i64 t355,.slice Ao30 t356.length co30] 26 (0,0)) (by (with_reducible repeat(first|refine blk_drewN ?_ _|refine blk_drew ?_|refine blk_alloc ?_ _));refine blk_put (cs:=#[.int .i64 t355,.slice none 0 0]) ?_ 1 _ rfl;(with_reducible repeat(first|refine blk_drewN ?_ _|refine blk_drew ?_|refine blk_alloc ?_ _));refine blk_put (cs:=#[.int .i64 0,.slice none 0 0]) ?_ 0 _ rfl;(with_reducible repeat(first|refine blk_drewN ?_ _|refine blk_drew ?_|refine blk_alloc ?_ _));exact BK359.1) hb);have n7_:=qAm (below_step qB27 hb);clear HO348;clear HO352;clear HO358;clear BK343;clear BK354;clear BK359;clear HB;have HO348:=n0_;have HO352:=n1_;have HO358:=n2_;have HO363:=n3_;have BK343:=n4_;have BK354:=n5_;have BK359:=n6_;have HB:=n7_;clear n0_ n1_ n2_ n3_ n4_ n5_ n6_ n7_;(try clear hb);(try clear hb2);(try clear hk);(try clear hi);(try clear ho0))|((with_reducible refine gate_dst (N:=9) rfl ?_);refine box_event ?hg (N:=9) ?hd (cs:=#[.int .i64 0,.slice none 0 0]) (t:=26) ?hr ?_;(case hd=>rfl);(case hg=>rfl);(case hr=>first|(go_simp;done)|(go_simp;rfl));intro gb365 hg w32 hbox hb;have n0_:=qAm (Kd.R_below qB106 hb);have n1_:=qAm (Kd.R_below qB107 hb);have n2_:=qAm (Kd.R_below qB108 hb);have n3_:=qAm (Kd.R_below (by (with_reducible repeat(first|apply Kd.R_alloc|apply Kd.R_drewN|apply Kd.R_drew));exact HO363.1) hb);have n4_:=qAm (blk_below (g:=gb343) (o:=.cells #[.int .i64 a0_0,.slice A0_1 l0_1.length c0_1] 24 (0,0)) qB84 hb);have n5_:=qAm (blk_below (g:=gb354) (o:=.cells #[.int .i64 t349,.slice Ao23 t350.length co23] 26 (0,0)) qB85 hb);have n6_:=qAm (blk_below (g:=gb359) (o:=.cells #[.int .i64 t355,.slice Ao30 t356.length co30] 26 (0,0)) qB86 hb);have n7_:=qAm (below_step qB27 hb);have n8_:=qAm (hbox);have n9_:=qAm ((by rw [hg];exact(below_size qB27):w.heap.size≤gb365));have n10_:=qAm ((by rw [hg];exact(below_size qB27):w.heap.size≤gb365));have n11_:=qAm ((by rw [hg];exact Nat.ne_of_lt (blk_lt (g:=gb343) (o:=.cells #[.int .i64 a0_0,.slice A0_1 l0_1.length c0_1] 24 (0,0)) qB84):gb343≠gb365));have n12_:=qAm ((by rw [hg];exact Nat.ne_of_gt (blk_lt (g:=gb343) (o:=.cells #[.int .i64 a0_0,.slice A0_1 l0_1.length c0_1] 24 (0,0)) qB84):gb365≠gb343));have n13_:=qAm ((by rw [hg];exact Nat.ne_of_lt (blk_lt (g:=gb354) (o:=.cells #[.int .i64 t349,.slice Ao23 t350.length co23] 26 (0,0)) qB85):gb354≠gb365));have n14_:=qAm ((by rw [hg];exact Nat.ne_of_gt (blk_lt (g:=gb354) (o:=.cells #[.int .i64 t349,.slice Ao23 t350.length co23] 26 (0,0)) qB85):gb365≠gb354));have n15_:=qAm ((by rw [hg];exact Nat.ne_of_lt (blk_lt (g:=gb359) (o:=.cells #[.int .i64 t355,.slice Ao30 t356.length co30] 26 (0,0)) qB86):gb359≠gb365));have n16_:=qAm ((by rw [hg];exact Nat.ne_of_gt (blk_lt (g:=gb359) (o:=.cells #[.int .i64 t355,.slice Ao30 t356.length co30] 26 (0,0)) qB86):gb365≠gb359));clear HO348;clear HO352;clear HO358;clear HO363;clear BK343;clear BK354;clear BK359;clear HB;have HO348:=n0_;have HO352:=n1_;have HO358:=n2_;have HO363:=n3_;have BK343:=n4_;have BK354:=n5_;have BK359:=n6_;have HB:=n7_;have BK365:=n8_;have GW365:=n9_;have GE365:=n10_;have NB343_365:=n11_;have NB365_343:=n12_;have NB354_365:=n13_;have NB365_354:=n14_;have NB359_365:=n15_;have NB365_359:=n16_;clear n0_ n1_ n2_ n3_ n4_ n5_ n6_ n7_ n8_ n9_ n10_ n11_ n12_ n13_ n14_ n15_ n16_;clear hb hbox hg;have hnb33:=NB365_343.1;have hnc33:=NB343_365.1;have hnb34:=NB365_354.1;have hnc34:=NB354_365.1;have hnb35:=NB365_359.1;have hnc35:=NB359_365.1;have hcz36_0:w32.cell? ⟨gb365,0,none⟩=some (.int .i64 0):=(blk_cell BK365.1 0).trans rfl;have hcz36_1:w32.cell? ⟨gb365,1,none⟩=some (.slice none 0 0):=(blk_cell BK365.1 1).trans rfl;have hfz36_0:=blk_frozen BK365.1 0;have hfz36_1:=blk_frozen BK365.1 1;obtain⟨Ao37,co37,eo37⟩:=Kd.R_slice HO363.1;subst eo37))
  (try simp only [Act.put,qSa,qSb,qSc])
  go_cut [44] (fun v44 wc=>∃(kq:Nat) (x44_11:Bool),v44=.bool x44_11∧Aside0 (laws_FnExactPowerCyclo.j0 kq a1 t353 t364 x44_11 a0_0 l0_1 t349 t350 t355 t356 t360 t361=some true)∧Aside0 (kq≤k)∧Aside0 (Kd.R (Kd.int .i64) 2 wc w.heap.size (fun k_=>some k_≠((.slice Ao30 t356.length co30):Value).ownBlock∧some k_≠((.slice Ao37 t361.length co37):Value).ownBlock) (.slice Ao23 t350.length co23) t350)∧Aside0 (Kd.R (Kd.int .i64) 2 wc w.heap.size (fun k_=>some k_≠((.slice Ao23 t350.length co23):Value).ownBlock∧some k_≠((.slice Ao37 t361.length co37):Value).ownBlock) (.slice Ao30 t356.length co30) t356)∧Aside0 (Kd.R (Kd.int .i64) 2 wc w.heap.size (fun k_=>some k_≠((.slice Ao23 t350.length co23):Value).ownBlock∧some k_≠((.slice Ao30 t356.length co30):Value).ownBlock) (.slice Ao37 t361.length co37) t361)∧Aside0 (wc.heap[gb343]? =some (.cells #[.int .i64 a0_0,(.slice A0_1 l0_1.length c0_1)] 24 (0,0)))∧Aside0 (wc.heap[gb354]? =some (.cells #[.int .i64 t349,(.slice Ao23 t350.length co23)] 26 (0,0)))∧Aside0 (wc.heap[gb359]? =some (.cells #[.int .i64 t355,(.slice Ao30 t356.length co30)] 26 (0,0)))∧Aside0 (wc.heap[gb365]? =some (.cells #[.int .i64 t360,(.slice Ao37 t361.length co37)] 26 (0,0)))∧Aside0 (Below w.heap.size w wc))
  case first=>
   have H:=HC12.1;clear HC12;replace H:=qOb H;obtain⟨t366,A380,H⟩:=H;replace H:(if t366=true then (laws_FnExactPowerCyclo.j0 k a1 t353 t364 (t364 !=t353) a0_0 l0_1 t349 t350 t355 t356 t360 t361) else (laws_FnExactPowerCyclo.j0 k a1 t353 t364 true a0_0 l0_1 t349 t350 t355 t356 t360 t361))=some true:=H;have A38:=qAm A380;clear A380
   by_cases c39:t366=true
   ·subst c39;have H1:(laws_FnExactPowerCyclo.j0 k a1 t353 t364 (t364 !=t353) a0_0 l0_1 t349 t350 t355 t356 t360 t361)=some true:=by rw [if_pos rfl] at H;exact H
    clear H;have H:=H1;clear H1;have H':=qAm H;clear H;have hnb40:=NB365_343.1;have hnc40:=NB343_365.1;have hnb41:=NB365_354.1;have hnc41:=NB354_365.1;have hnb42:=NB365_359.1;have hnc42:=NB359_365.1;have hcz43_0:w32.cell? ⟨gb365,0,none⟩=some (.int .i64 0):=(blk_cell BK365.1 0).trans rfl;have hcz43_1:w32.cell? ⟨gb365,1,none⟩=some (.slice none 0 0):=(blk_cell BK365.1 1).trans rfl;have hfz43_0:=blk_frozen BK365.1 0;have hfz43_1:=blk_frozen BK365.1 1;have hnb44:=NB354_343.1;have hnc44:=NB343_354.1;have hnb45:=NB354_359.1;have hnc45:=NB359_354.1;have hcz46_0:w32.cell? ⟨gb354,0,none⟩=some (.int .i64 t349):=(blk_cell BK354.1 0).trans rfl;have hcz46_1:w32.cell? ⟨gb354,1,none⟩=some (.slice Ao23 t350.length co23):=(blk_cell BK354.1 1).trans rfl;have hfz46_0:=blk_frozen BK354.1 0;have hfz46_1:=blk_frozen BK354.1 1;go_wp2_with (first|((with_reducible refine gate_callee (f:=15) rfl ?_);refine goesL_ (some 38) rfl rfl Try.func15 (by kernel_rfl) rfl #[.agg #[.int .i64 t360,.slice Ao37 t361.length co37],.agg #[.int .i64 t349,.slice Ao23 t350.length co23]] rfl qB60 ?_;(with_reducible refine(laws_eqCyclo.calls k t360 _ _ t361 t349 _ _ t350 true _ ?side1 ?side2 ?side3 ?side4 A38.1).mono ?_);(case side1=>refine(Kd.R_reads' (e:=2) (base:=w.heap.size) (ok:=fun k_=>(((True∧some k_≠(.slice Ao18 t346.length co18:Value).ownBlock)∧some k_≠(.slice Ao23 t350.length co23:Value).ownBlock)∧some k_≠(.slice Ao30 t356.length co30:Value).ownBlock)) (n:=t361.length) (c:=co37) ?_).2.2;exact qB15);(case side2=>exact(Kd.R_reads' HO363.1).2.1);(case side3=>refine(Kd.R_reads' (e:=2) (base:=w.heap.size) (ok:=fun k_=>(((True∧some k_≠(.slice Ao18 t346.length co18:Value).ownBlock)∧some k_≠(.slice Ao30 t356.length co30:Value).ownBlock)∧some k_≠(.slice Ao37 t361.length co37:Value).ownBlock)) (n:=t350.length) (c:=co23) ?_).2.2;exact qB16);(case side4=>exact(Kd.R_reads' HO352.1).2.1);rintro e w47 ⟨rfl,hb⟩;refine⟨_,rfl,?_⟩;have n0_:=qAm (Kd.R_below (by (with_reducible repeat(first|apply Kd.R_alloc|apply Kd.R_drewN|apply Kd.R_drew));exact(Kd.R_mono (Kd.R_far (p:=⟨gb365,1,none⟩) (Kd.R_far (p:=⟨gb365,0,none⟩) (Kd.R_types HO348.1 BK365.1 (by decide)) (fun _ hk=>hk.2) (.int .i64 t360)) (fun _ hk=>hk.2) (.slice Ao37 t361.length co37)) (fun _ h_=>h_.1))) hb);have n1_:=qAm (Kd.R_below qB16 hb);have n2_:=qAm (Kd.R_below (by (with_reducible repeat(first|apply Kd.R_alloc|apply Kd.R_drewN|apply Kd.R_drew));exact(Kd.R_mono (Kd.R_far (p:=⟨gb365,1,none⟩) (Kd.R_far (p:=⟨gb365,0,none⟩) (Kd.R_types HO358.1 BK365.1 (by decide)) (fun _ hk=>hk.2) (.int .i64 t360)) (fun _ hk=>hk.2) (.slice Ao37 t361.length co37)) (fun _ h_=>h_.1))) hb);have n3_:=qAm (Kd.R_below qB15 hb);have n4_:=qAm (blk_below (g:=gb343) (o:=.cells #[.int .i64 a0_0,.slice A0_1 l0_1.length c0_1] 24 (0,0)) (by (with_reducible repeat(first|refine blk_drewN ?_ _|refine blk_drew ?_|refine blk_alloc ?_ _));refine blk_far ?_ NB343_365.1 _;(with_reducible repeat(first|refine blk_drewN ?_ _|refine blk_drew ?_|refine blk_alloc ?_ _));refine blk_far ?_ NB343_365.1 _;(with_reducible repeat(first|refine blk_drewN ?_ _|refine blk_drew ?_|refine blk_alloc ?_ _));exact BK343.1) hb);have n5_:=qAm (blk_below (g:=gb354) (o:=.cells #[.int .i64 t349,.slice Ao23 t350.length co23] 26 (0,0)) (by (with_reducible repeat(first|refine blk_drewN ?_ _|refine blk_drew ?_|refine blk_alloc ?_ _));refine blk_far ?_ NB354_365.1 _;(with_reducible repeat(first|refine blk_drewN ?_ _|refine blk_drew ?_|refine blk_alloc ?_ _));refine blk_far ?_ NB354_365.1 _;(with_reducible repeat(first|refine blk_drewN ?_ _|refine blk_drew ?_|refine blk_alloc ?_ _));exact BK354.1) hb);have n6_:=qAm (blk_below (g:=gb359) (o:=.cells #[.int .i64 t355,.slice Ao30 t356.length co30] 26 (0,0)) (by (with_reducible repeat(first|refine blk_drewN ?_ _|refine blk_drew ?_|refine blk_alloc ?_ _));refine blk_far ?_ NB359_365.1 _;(with_reducible repeat(first|refine blk_drewN ?_ _|refine blk_drew ?_|refine blk_alloc ?_ _));refine blk_far ?_ NB359_365.1 _;(with_reducible repeat(first|refine blk_drewN ?_ _|refine blk_drew ?_|refine blk_alloc ?_ _));exact BK359.1) hb);have n7_:=qAm (blk_below (g:=gb365) (o:=.cells #[.int .i64 t360,.slice Ao37 t361.length co37] 26 (0,0)) (by (with_reducible repeat(first|refine blk_drewN ?_ _|refine blk_drew ?_|refine blk_alloc ?_ _));refine blk_put (cs:=#[.int .i64 t360,.slice none 0 0]) ?_ 1 _ rfl;(with_reducible repeat(first|refine blk_drewN ?_ _|refine blk_drew ?_|refine blk_alloc ?_ _));refine blk_put (cs:=#[.int .i64 0,.slice none 0 0]) ?_ 0 _ rfl;(with_reducible repeat(first|refine blk_drewN ?_ _|refine blk_drew ?_|refine blk_alloc ?_ _));exact BK365.1) hb);have n8_:=qAm (below_step qB23 hb);clear HO348;clear HO352;clear HO358;clear HO363;clear BK343;clear BK354;clear BK359;clear BK365;clear HB;have HO348:=n0_;have HO352:=n1_;have HO358:=n2_;have HO363:=n3_;have BK343:=n4_;have BK354:=n5_;have BK359:=n6_;have BK365:=n7_;have HB:=n8_;clear n0_ n1_ n2_ n3_ n4_ n5_ n6_ n7_ n8_;(try clear hb);(try clear hb2);(try clear hk);(try clear hi)));go_meet
    case rel=>exact⟨_,((t364 !=t353)),qB119,H',⟨by first|omega|exact Nat.le_refl _⟩,⟨by (with_reducible repeat(first|apply Kd.R_alloc|apply Kd.R_drewN|apply Kd.R_drew));exact Kd.R_mono HO352.1 (fun _ hk=>⟨hk.1.2,hk.2⟩)⟩,⟨by (with_reducible repeat(first|apply Kd.R_alloc|apply Kd.R_drewN|apply Kd.R_drew));exact Kd.R_mono HO358.1 (fun _ hk=>⟨hk.1.2,hk.2⟩)⟩,⟨by (with_reducible repeat(first|apply Kd.R_alloc|apply Kd.R_drewN|apply Kd.R_drew));exact Kd.R_mono HO363.1 (fun _ hk=>⟨hk.1.2,hk.2⟩)⟩,⟨by (with_reducible repeat(first|refine blk_drewN ?_ _|refine blk_drew ?_|refine blk_alloc ?_ _));exact BK343.1⟩,⟨by (with_reducible repeat(first|refine blk_drewN ?_ _|refine blk_drew ?_|refine blk_alloc ?_ _));exact BK354.1⟩,⟨by (with_reducible repeat(first|refine blk_drewN ?_ _|refine blk_drew ?_|refine blk_alloc ?_ _));exact BK359.1⟩,⟨by (with_reducible repeat(first|refine blk_drewN ?_ _|refine blk_drew ?_|refine blk_alloc ?_ _));exact BK365.1⟩,⟨by repeat(first|(with_reducible first|exact HB.1|apply below_alloc|apply pw_below_drewN|apply below_drew1|refine below_set ?_ GE343.1|refine below_set ?_ GE354.1|refine below_set ?_ GE359.1|refine below_set ?_ GE365.1)|exact HB.1)⟩⟩
   ·replace c39:=Bool.eq_false_iff.mpr c39;subst c39;have H1:(laws_FnExactPowerCyclo.j0 k a1 t353 t364 true a0_0 l0_1 t349 t350 t355 t356 t360 t361)=some true:=by rw [if_neg (show ¬(false=true) by decide)] at H;exact H
    exact(laws_FnExactPowerCyclo.j0_no _ _ _ _ _ _ _ _ _ _ _ _ H1).elim
  case rest=>
   clear HC12;try clear c1
   try clear c2
   try clear p2
   try clear c3
   try clear c4
   try clear c4b0
   try clear c5
   try clear c11
   try clear c13
   try clear c15
   try clear c18
   try clear c19
   try clear c21
   try clear c27
   try clear c28
   try clear c33
   try clear c34
   try clear c35
   try clear c39
   try clear c40
   try clear c41
   try clear c42
   try clear c44
   try clear c45
   try clear c48
   try clear c49
   try clear c50
   try clear c52
   try clear c53
   try clear hcz14_0
   try clear hcz14_1
   try clear hcz16_0
   try clear hcz16_1
   try clear hcz22_0
   try clear hcz22_1
   try clear hcz24_0
   try clear hcz24_1
   try clear hcz29_0
   try clear hcz29_1
   try clear hcz36_0
   try clear hcz36_1
   try clear hcz43_0
   try clear hcz43_1
   try clear hcz46_0
   try clear hcz46_1
   try clear hcz51_0
   try clear hcz51_1
   try clear hcz54_0
   try clear hcz54_1
   try clear hcz6_0
   try clear hcz6_1
   try clear hfz14_0
   try clear hfz14_1
   try clear hfz16_0
   try clear hfz16_1
   try clear hfz22_0
   try clear hfz22_1
   try clear hfz24_0
   try clear hfz24_1
   try clear hfz29_0
   try clear hfz29_1
   try clear hfz36_0
   try clear hfz36_1
   try clear hfz43_0
   try clear hfz43_1
   try clear hfz46_0
   try clear hfz46_1
   try clear hfz51_0
   try clear hfz51_1
   try clear hfz54_0
   try clear hfz54_1
   try clear hfz6_0
   try clear hfz6_1
   obtain⟨kq,x44_11,rfl,HA,HJ11,HO_355001,HO_360001,HO_366001,BK343,BK354,BK359,BK365,HB⟩:=hcut;cases kq with
   |zero=>exact absurd HA.1 (by simp [laws_FnExactPowerCyclo.j0])
   |succ kj11=>
    have H:=HA.1;clear HA;simp only [laws_FnExactPowerCyclo.j0] at H
    by_cases c56:x44_11=true
    ·subst c56;have H1:(some false)=some true:=by rw [if_pos rfl] at H;exact H
     cases H1
    ·replace c56:=Bool.eq_false_iff.mpr c56;subst c56;have H1:((laws_toCyclo.f kj11 a0_0 l0_1).bind fun bt367=>((laws_eqCyclo.f kj11 t355 t356 bt367.1 bt367.2).bind fun t371=>(if t371=true then ((laws_markCyclo.f kj11 t355 t356 1).bind fun bt372=>(if bt372.1<0 then (laws_FnExactPowerCyclo.j1 kj11 a1 t353 true a0_0 l0_1 t349 t350 t360 t361) else ((laws_eqCyclo.f kj11 t360 t361 t349 t350).bind fun t374=>(if t374=true then (laws_FnExactPowerCyclo.j1 kj11 a1 t353 (t364 !=t353) a0_0 l0_1 t349 t350 t360 t361) else (laws_FnExactPowerCyclo.j1 kj11 a1 t353 true a0_0 l0_1 t349 t350 t360 t361))))) else (some false))))=some true:=by rw [if_neg (show ¬(false=true) by decide)] at H;exact H
     clear H;have H:=H1;clear H1;replace H:=qOb H;obtain⟨⟨t367,t368⟩,A570,H⟩:=H;replace H:((laws_eqCyclo.f kj11 t355 t356 t367 t368).bind fun t371=>(if t371=true then ((laws_markCyclo.f kj11 t355 t356 1).bind fun bt372=>(if bt372.1<0 then (laws_FnExactPowerCyclo.j1 kj11 a1 t353 true a0_0 l0_1 t349 t350 t360 t361) else ((laws_eqCyclo.f kj11 t360 t361 t349 t350).bind fun t374=>(if t374=true then (laws_FnExactPowerCyclo.j1 kj11 a1 t353 (t364 !=t353) a0_0 l0_1 t349 t350 t360 t361) else (laws_FnExactPowerCyclo.j1 kj11 a1 t353 true a0_0 l0_1 t349 t350 t360 t361))))) else (some false)))=some true:=H;have A57:=qAm A570;clear A570;replace H:=qOb H;obtain⟨t371,A580,H⟩:=H;replace H:(if t371=true then ((laws_markCyclo.f kj11 t355 t356 1).bind fun bt372=>(if bt372.1<0 then (laws_FnExactPowerCyclo.j1 kj11 a1 t353 true a0_0 l0_1 t349 t350 t360 t361) else ((laws_eqCyclo.f kj11 t360 t361 t349 t350).bind fun t374=>(if t374=true then (laws_FnExactPowerCyclo.j1 kj11 a1 t353 (t364 !=t353) a0_0 l0_1 t349 t350 t360 t361) else (laws_FnExactPowerCyclo.j1 kj11 a1 t353 true a0_0 l0_1 t349 t350 t360 t361))))) else (some false))=some true:=H;have A58:=qAm A580;clear A580
     by_cases c59:t371=true
     ·subst c59;have H1:((laws_markCyclo.f kj11 t355 t356 1).bind fun bt372=>(if bt372.1<0 then (laws_FnExactPowerCyclo.j1 kj11 a1 t353 true a0_0 l0_1 t349 t350 t360 t361) else ((laws_eqCyclo.f kj11 t360 t361 t349 t350).bind fun t374=>(if t374=true then (laws_FnExactPowerCyclo.j1 kj11 a1 t353 (t364 !=t353) a0_0 l0_1 t349 t350 t360 t361) else (laws_FnExactPowerCyclo.j1 kj11 a1 t353 true a0_0 l0_1 t349 t350 t360 t361)))))=some true:=by rw [if_pos rfl] at H;exact H
      clear H;have H:=H1;clear H1;replace H:=qOb H;obtain⟨⟨t372,t373⟩,A600,H⟩:=H;replace H:(if t372<0 then (laws_FnExactPowerCyclo.j1 kj11 a1 t353 true a0_0 l0_1 t349 t350 t360 t361) else ((laws_eqCyclo.f kj11 t360 t361 t349 t350).bind fun t374=>(if t374=true then (laws_FnExactPowerCyclo.j1 kj11 a1 t353 (t364 !=t353) a0_0 l0_1 t349 t350 t360 t361) else (laws_FnExactPowerCyclo.j1 kj11 a1 t353 true a0_0 l0_1 t349 t350 t360 t361))))=some true:=H;have A60:=qAm A600;clear A600;have HC61:=qAm H;clear H;try go_wp2
      have n0_:=qAm (Kd.R_drew HO_355001.1);have n1_:=qAm (Kd.R_drew HO_360001.1);have n2_:=qAm (Kd.R_drew HO_366001.1);have n3_:=qAm (blk_drew BK343.1);have n4_:=qAm (blk_drew BK354.1);have n5_:=qAm (blk_drew BK359.1);have n6_:=qAm (blk_drew BK365.1);have n7_:=qAm (below_drew1 HB.1);clear HO_355001 HO_360001 HO_366001 BK343 BK354 BK359 BK365 HB;have HO_355001:=n0_;have HO_360001:=n1_;have HO_366001:=n2_;have BK343:=n3_;have BK354:=n4_;have BK359:=n5_;have BK365:=n6_;have HB:=n7_;clear n0_ n1_ n2_ n3_ n4_ n5_ n6_ n7_;refine start_ (n:=5) (S:=fun w'=>w'.cell? ⟨gb359,0,none⟩=some (.int .i64 t355)∧w'.cell? ⟨gb359,1,none⟩=some (.slice Ao30 t356.length co30)∧w'.cell? ⟨gb343,0,none⟩=some (.int .i64 a0_0)∧w'.cell? ⟨gb343,1,none⟩=some (.slice A0_1 l0_1.length c0_1)) (ds:=[]) #[false,false,false,false,false] (by kernel_rfl) rfl rfl ⟨(blk_cell BK359.1 0).trans rfl,(blk_cell BK359.1 1).trans rfl,(blk_cell BK343.1 0).trans rfl,(blk_cell BK343.1 1).trans rfl⟩ (fun hHeld=>?_);generalize wc.drew=w62 at HO_355001 HO_360001 HO_366001 BK343 BK354 BK359 BK365 HB hHeld ⊢;refine take_ (i:=0) (N:=some 45) (v:=?_) (a':=?_) #[true,false,false,false,false] rfl rfl (by kernel_rfl) (fun _ _ _ h=>h) (Or.inl ⟨by rfl,?_⟩) hHeld ?_ ?_;rotate_left
      ·rintro w' ⟨s0,s1,s2,s3⟩;go_simp;with_reducible rfl
      rotate_left
      ·simp only [Act.put,qSa,qSb,qSc,i64_w,i32_w];rfl
      refine take_ (i:=1) (N:=some 46) (v:=?_) (a':=?_) #[true,true,false,false,false] rfl rfl (by kernel_rfl) (fun _ _ _ h=>h) (Or.inl ⟨by rfl,?_⟩) hHeld ?_ ?_;rotate_left
      ·rintro w' ⟨s0,s1,s2,s3⟩;go_simp;with_reducible rfl
      rotate_left
      ·simp only [Act.put,qSa,qSb,qSc,i64_w,i32_w];rfl
      refine one_ (i:=2) (N:=some 47) #[true,true,true,false,false] rfl rfl (by kernel_rfl) (by decide) (fun K hK=>?_);refine goes_ Try.func13 (by kernel_rfl) rfl #[.agg #[.int .i64 a0_0,.slice A0_1 l0_1.length c0_1]] (by rfl) rfl rfl qB60 ?_;with_reducible refine(laws_toCyclo.calls kj11 a0_0 _ _ l0_1 t367 t368 _ ?side1 ?side2 A57.1).mono ?_
      (case side1=>repeat(first|exact(Kd.C_below HR0_1.1 HB.1)|(with_reducible refine Kd.C_alloc ?_ _)|(with_reducible refine Kd.C_drewN ?_ _)|(with_reducible refine Kd.C_drew ?_)))
      (case side2=>exact HC0_1.1)
      rintro e w63 ⟨v369,rfl,ho0,hb⟩;refine⟨_,rfl,?_⟩;have n0_:=qAm (Kd.R_elder' qB92 (Kd.R_base ho0) hb);have n1_:=qAm (Kd.R_elder' qB93 (Kd.R_base ho0) hb);have n2_:=qAm (Kd.R_elder' qB94 (Kd.R_base ho0) hb);have n3_:=qAm (Kd.R_lower (Kd.R_new' (Kd.R_new' (Kd.R_new' ho0 (Kd.R_lt qB92)) (Kd.R_lt qB93)) (Kd.R_lt qB94)) (below_size qB23));have n4_:=qAm (blk_below (g:=gb343) (o:=.cells #[.int .i64 a0_0,.slice A0_1 l0_1.length c0_1] 24 (0,0)) qB84 hb);have n5_:=qAm (blk_below (g:=gb354) (o:=.cells #[.int .i64 t349,.slice Ao23 t350.length co23] 26 (0,0)) qB85 hb);have n6_:=qAm (blk_below (g:=gb359) (o:=.cells #[.int .i64 t355,.slice Ao30 t356.length co30] 26 (0,0)) qB86 hb);have n7_:=qAm (blk_below (g:=gb365) (o:=.cells #[.int .i64 t360,.slice Ao37 t361.length co37] 26 (0,0)) qB87 hb);have n8_:=qAm (below_step qB23 hb);clear HO_355001 HO_360001 HO_366001 BK343 BK354 BK359 BK365 HB;have HO_355001:=n0_;have HO_360001:=n1_;have HO_366001:=n2_;have HO370:=n3_;have BK343:=n4_;have BK354:=n5_;have BK359:=n6_;have BK365:=n7_;have HB:=n8_;clear n0_ n1_ n2_ n3_ n4_ n5_ n6_ n7_ n8_
      (try clear hb)
      (try clear hb2)
      (try clear hk)
      (try clear hi)
      (try clear ho0)
      obtain⟨Ao64,co64,eo64⟩:=Kd.R_slice HO370.1
      (first|subst eo64|(injection eo64 with f1_ f2_ f3_;have f4_:=f1_.symm;have f5_:=f3_.symm;clear f1_ f2_ f3_;subst f4_;subst f5_))
      refine hK.out _ _ ⟨(blk_cell BK359.1 0).trans rfl,(blk_cell BK359.1 1).trans rfl,(blk_cell BK343.1 0).trans rfl,(blk_cell BK343.1 1).trans rfl⟩ (fun hHeld=>?_);clear hK K;refine norm_ (a':=?_) ?_ ?_;rotate_left
      ·show Act.put _ (some 47) _=_
       simp only [Act.put,qSa,qSb,qSc,i64_w,i32_w];rfl
      refine one_ (i:=3) (N:=some 48) #[true,true,true,true,false] rfl rfl (by kernel_rfl) (by decide) (fun K hK=>?_);refine goes_ Try.func15 (by kernel_rfl) rfl #[.agg #[.int .i64 t355,.slice Ao30 t356.length co30],.agg #[.int .i64 t367,.slice Ao64 t368.length co64]] (by rfl) rfl rfl qB60 ?_;with_reducible refine(laws_eqCyclo.calls kj11 t355 _ _ t356 t367 _ _ t368 true _ ?side1 ?side2 ?side3 ?side4 A58.1).mono ?_
      (case side1=>repeat(first|exact(Kd.R_reads' HO_360001.1).2.2|(with_reducible refine Kd.C_alloc ?_ _)|(with_reducible refine Kd.C_drewN ?_ _)|(with_reducible refine Kd.C_drew ?_)))
      (case side2=>exact(Kd.R_reads' HO_360001.1).2.1)
      (case side3=>repeat(first|exact(Kd.R_reads' HO370.1).2.2|(with_reducible refine Kd.C_alloc ?_ _)|(with_reducible refine Kd.C_drewN ?_ _)|(with_reducible refine Kd.C_drew ?_)))
      (case side4=>exact(Kd.R_reads' HO370.1).2.1)
      rintro e w65 ⟨rfl,hb⟩;refine⟨_,rfl,?_⟩;have n0_:=qAm (Kd.R_below qB92 hb);have n1_:=qAm (Kd.R_below qB93 hb);have n2_:=qAm (Kd.R_below qB94 hb);have n3_:=qAm (Kd.R_below qB109 hb);have n4_:=qAm (blk_below (g:=gb343) (o:=.cells #[.int .i64 a0_0,.slice A0_1 l0_1.length c0_1] 24 (0,0)) qB84 hb);have n5_:=qAm (blk_below (g:=gb354) (o:=.cells #[.int .i64 t349,.slice Ao23 t350.length co23] 26 (0,0)) qB85 hb);have n6_:=qAm (blk_below (g:=gb359) (o:=.cells #[.int .i64 t355,.slice Ao30 t356.length co30] 26 (0,0)) qB86 hb);have n7_:=qAm (blk_below (g:=gb365) (o:=.cells #[.int .i64 t360,.slice Ao37 t361.length co37] 26 (0,0)) qB87 hb);have n8_:=qAm (below_step qB23 hb);clear HO_355001 HO_360001 HO_366001 HO370 BK343 BK354 BK359 BK365 HB;have HO_355001:=n0_;have HO_360001:=n1_;have HO_366001:=n2_;have HO370:=n3_;have BK343:=n4_;have BK354:=n5_;have BK359:=n6_;have BK365:=n7_;have HB:=n8_;clear n0_ n1_ n2_ n3_ n4_ n5_ n6_ n7_ n8_
      (try clear hb)
      (try clear hb2)
      (try clear hk)
      (try clear hi)
      refine hK.out _ _ ⟨(blk_cell BK359.1 0).trans rfl,(blk_cell BK359.1 1).trans rfl,(blk_cell BK343.1 0).trans rfl,(blk_cell BK343.1 1).trans rfl⟩ (fun hHeld=>?_);clear hK K;refine norm_ (a':=?_) ?_ ?_;rotate_left
      ·show Act.put _ (some 48) _=_
       simp only [Act.put,qSa,qSb,qSc,i64_w,i32_w];rfl
      refine pure_ (i:=4) (N:=some 49) (v:=?_) (a':=?_) #[true,true,true,true,true] rfl rfl (by kernel_rfl) (fun _ _ _ h=>h) (Or.inl ⟨by rfl,?_⟩) ?_ ?_;rotate_left
      ·intro w';go_simp;with_reducible rfl
      rotate_left
      ·simp only [Act.put,qSa,qSb,qSc,i64_w,i32_w];rfl
      refine done_ (by kernel_rfl) ?_;have hnb66:=NB359_343.1;have hnc66:=NB343_359.1;have hnb67:=NB359_354.1;have hnc67:=NB354_359.1;have hnb68:=NB359_365.1;have hnc68:=NB365_359.1;have hcz69_0:w65.cell? ⟨gb359,0,none⟩=some (.int .i64 t355):=(blk_cell BK359.1 0).trans rfl;have hcz69_1:w65.cell? ⟨gb359,1,none⟩=some (.slice Ao30 t356.length co30):=(blk_cell BK359.1 1).trans rfl;have hfz69_0:=blk_frozen BK359.1 0;have hfz69_1:=blk_frozen BK359.1 1;go_upto_region 14 with (first|((with_reducible refine gate_callee (f:=16) rfl ?_);refine goesL_ (some 52) rfl rfl Try.func16 (by kernel_rfl) rfl #[.agg #[.int .i64 t355,.slice Ao30 t356.length co30],.int .i64 1] rfl qB60 ?_;(with_reducible refine(laws_markCyclo.calls kj11 t355 (fun k_=>some k_=(.slice Ao30 t356.length co30:Value).ownBlock) (.slice Ao30 t356.length co30) t356 1 t372 t373 w _ ?side1 ?side2 A60.1).mono ?_);(case side1=>repeat(first|(with_reducible first|exact HB.1|apply below_alloc|apply pw_below_drewN|apply below_drew1|refine below_set ?_ GE343.1|refine below_set ?_ GE354.1|refine below_set ?_ GE359.1|refine below_set ?_ GE365.1)|exact HB.1));(case side2=>exact Kd.R_tight rfl HO_360001.1);rintro e w70 ⟨rfl,hy0,hb,hkp⟩;refine⟨_,rfl,?_⟩;have n0_:=qAm (Kd.R_mono (ok':=fun k_=>some k_≠(.slice Ao30 t356.length co30:Value).ownBlock∧some k_≠(.slice Ao37 t361.length co37:Value).ownBlock∧some k_≠(.slice Ao64 t368.length co64:Value).ownBlock) (Kd.R_keptB (HO_355001.1) hkp (fun k_ hk_ hs_=>(hk_.1.1) hs_)) (fun k_ hk_=>⟨hk_.1.1.1,hk_.1.1.2,hk_.1.2⟩));have n1_:=qAm (Kd.R_reok rfl hy0 (fun k_ e_=>HO_360001.1.1 k_ e_));have n2_:=qAm (Kd.R_mono (ok':=fun k_=>some k_≠(.slice Ao23 t350.length co23:Value).ownBlock∧some k_≠(.slice Ao30 t356.length co30:Value).ownBlock∧some k_≠(.slice Ao64 t368.length co64:Value).ownBlock) (Kd.R_keptB (HO_366001.1) hkp (fun k_ hk_ hs_=>(hk_.1.2) hs_)) (fun k_ hk_=>⟨hk_.1.1.1,hk_.1.1.2,hk_.1.2⟩));have n3_:=qAm (blk_kept qB84 hkp (fun hs_=>(fun e_=>(Kd.R_ne HO_360001.1 BK343.1 (by decide)) e_) hs_));have n4_:=qAm (blk_kept qB85 hkp (fun hs_=>(fun e_=>(Kd.R_ne HO_360001.1 BK354.1 (by decide)) e_) hs_));have n5_:=qAm (blk_kept qB86 hkp (fun hs_=>(fun e_=>(Kd.R_ne HO_360001.1 BK359.1 (by decide)) e_) hs_));have n6_:=qAm (blk_kept qB87 hkp (fun hs_=>(fun e_=>(Kd.R_ne HO_360001.1 BK365.1 (by decide)) e_) hs_));have n7_:=qAm (Kd.R_mono (ok':=fun k_=>some k_≠(.slice Ao23 t350.length co23:Value).ownBlock∧some k_≠(.slice Ao30 t356.length co30:Value).ownBlock∧some k_≠(.slice Ao37 t361.length co37:Value).ownBlock) (Kd.R_keptB (HO370.1) hkp (fun k_ hk_ hs_=>(hk_.1.2) hs_)) (fun k_ hk_=>⟨hk_.1.1.1.2,hk_.1.1.2,hk_.1.2⟩));have n8_:=qAm (hb);clear HO_355001;clear HO_360001;clear HO_366001;clear BK343;clear BK354;clear BK359;clear BK365;clear HO370;clear HB;have HO_355001:=n0_;have HO_360001:=n1_;have HO_366001:=n2_;have BK343:=n3_;have BK354:=n4_;have BK359:=n5_;have BK365:=n6_;have HO370:=n7_;have HB:=n8_;clear n0_ n1_ n2_ n3_ n4_ n5_ n6_ n7_ n8_;(try clear hb);(try clear hkp);(try clear hy0)))
      (try simp only [Act.put,qSa,qSb,qSc])
      go_cut [65] (fun v65 wc=>∃(kq:Nat) (x65_60:Bool),v65=.bool x65_60∧Aside0 (laws_FnExactPowerCyclo.j1 kq a1 t353 x65_60 a0_0 l0_1 t349 t350 t360 t361=some true)∧Aside0 (kq≤kj11)∧Aside0 (Kd.R (Kd.int .i64) 2 wc w.heap.size (fun k_=>some k_≠((.slice Ao30 t356.length co30):Value).ownBlock∧some k_≠((.slice Ao37 t361.length co37):Value).ownBlock) (.slice Ao23 t350.length co23) t350)∧Aside0 (Kd.R (Kd.int .i64) 2 wc w.heap.size (fun k_=>some k_≠((.slice Ao23 t350.length co23):Value).ownBlock∧some k_≠((.slice Ao37 t361.length co37):Value).ownBlock) (.slice Ao30 t356.length co30) t373)∧Aside0 (Kd.R (Kd.int .i64) 2 wc w.heap.size (fun k_=>some k_≠((.slice Ao23 t350.length co23):Value).ownBlock∧some k_≠((.slice Ao30 t356.length co30):Value).ownBlock) (.slice Ao37 t361.length co37) t361)∧Aside0 (wc.heap[gb343]? =some (.cells #[.int .i64 a0_0,(.slice A0_1 l0_1.length c0_1)] 24 (0,0)))∧Aside0 (wc.heap[gb354]? =some (.cells #[.int .i64 t349,(.slice Ao23 t350.length co23)] 26 (0,0)))∧Aside0 (wc.heap[gb359]? =some (.cells #[.int .i64 t355,(.slice Ao30 t356.length co30)] 26 (0,0)))∧Aside0 (wc.heap[gb365]? =some (.cells #[.int .i64 t360,(.slice Ao37 t361.length co37)] 26 (0,0)))∧Aside0 (Below w.heap.size w wc))
      case first=>
       have H:=HC61.1;clear HC61
       by_cases c71:t372<0
       ·rw [if_pos c71] at H;exact(laws_FnExactPowerCyclo.j1_no _ _ _ _ _ _ _ _ _ H).elim
       ·rw [if_neg c71] at H;have c71b0:decide (t372<0)=false:=decide_eq_false c71;clear c71
        (first|rw [c71b0]|(simp only [i64_w,i32_w];rw [c71b0])|skip)
        replace H:=qOb H;obtain⟨t374,A720,H⟩:=H;replace H:(if t374=true then (laws_FnExactPowerCyclo.j1 kj11 a1 t353 (t364 !=t353) a0_0 l0_1 t349 t350 t360 t361) else (laws_FnExactPowerCyclo.j1 kj11 a1 t353 true a0_0 l0_1 t349 t350 t360 t361))=some true:=H;have A72:=qAm A720;clear A720
        by_cases c73:t374=true
        ·subst c73;have H1:(laws_FnExactPowerCyclo.j1 kj11 a1 t353 (t364 !=t353) a0_0 l0_1 t349 t350 t360 t361)=some true:=by rw [if_pos rfl] at H;exact H
         clear H;have H:=H1;clear H1;have H':=qAm H;clear H;have hnb74:=NB365_343.1;have hnc74:=NB343_365.1;have hnb75:=NB365_354.1;have hnc75:=NB354_365.1;have hnb76:=NB365_359.1;have hnc76:=NB359_365.1;have hcz77_0:w70.cell? ⟨gb365,0,none⟩=some (.int .i64 t360):=(blk_cell BK365.1 0).trans rfl;have hcz77_1:w70.cell? ⟨gb365,1,none⟩=some (.slice Ao37 t361.length co37):=(blk_cell BK365.1 1).trans rfl;have hfz77_0:=blk_frozen BK365.1 0;have hfz77_1:=blk_frozen BK365.1 1;have hnb78:=NB354_343.1;have hnc78:=NB343_354.1;have hnb79:=NB354_359.1;have hnc79:=NB359_354.1;have hcz80_0:w70.cell? ⟨gb354,0,none⟩=some (.int .i64 t349):=(blk_cell BK354.1 0).trans rfl;have hcz80_1:w70.cell? ⟨gb354,1,none⟩=some (.slice Ao23 t350.length co23):=(blk_cell BK354.1 1).trans rfl;have hfz80_0:=blk_frozen BK354.1 0;have hfz80_1:=blk_frozen BK354.1 1;go_wp2_with (first|(go_at_call 15;(with_reducible refine(laws_eqCyclo.calls kj11 t360 _ _ t361 t349 _ _ t350 true _ ?side1 ?side2 ?side3 ?side4 A72.1).mono ?_);(case side1=>repeat(first|exact(Kd.R_reads' HO_366001.1).2.2|(with_reducible refine Kd.C_alloc ?_ _)|(with_reducible refine Kd.C_drewN ?_ _)|(with_reducible refine Kd.C_drew ?_)));(case side2=>exact(Kd.R_reads' HO_366001.1).2.1);(case side3=>repeat(first|exact(Kd.R_reads' HO_355001.1).2.2|(with_reducible refine Kd.C_alloc ?_ _)|(with_reducible refine Kd.C_drewN ?_ _)|(with_reducible refine Kd.C_drew ?_)));(case side4=>exact(Kd.R_reads' HO_355001.1).2.1);rintro e w81 ⟨rfl,hb⟩;have n0_:=qAm (Kd.R_below qB92 hb);have n1_:=qAm (Kd.R_below qB93 hb);have n2_:=qAm (Kd.R_below qB94 hb);have n3_:=qAm (Kd.R_below qB109 hb);have n4_:=qAm (blk_below (g:=gb343) (o:=.cells #[.int .i64 a0_0,.slice A0_1 l0_1.length c0_1] 24 (0,0)) qB84 hb);have n5_:=qAm (blk_below (g:=gb354) (o:=.cells #[.int .i64 t349,.slice Ao23 t350.length co23] 26 (0,0)) qB85 hb);have n6_:=qAm (blk_below (g:=gb359) (o:=.cells #[.int .i64 t355,.slice Ao30 t356.length co30] 26 (0,0)) qB86 hb);have n7_:=qAm (blk_below (g:=gb365) (o:=.cells #[.int .i64 t360,.slice Ao37 t361.length co37] 26 (0,0)) qB87 hb);have n8_:=qAm (below_step qB23 hb);clear HO_355001;clear HO_360001;clear HO_366001;clear HO370;clear BK343;clear BK354;clear BK359;clear BK365;clear HB;have HO_355001:=n0_;have HO_360001:=n1_;have HO_366001:=n2_;have HO370:=n3_;have BK343:=n4_;have BK354:=n5_;have BK359:=n6_;have BK365:=n7_;have HB:=n8_;clear n0_ n1_ n2_ n3_ n4_ n5_ n6_ n7_ n8_;(try clear hb);(try clear hb2);(try clear hk);(try clear hi)));go_meet
         case rel=>exact⟨_,((t364 !=t353)),qB119,H',⟨by have:=HJ11.1;first|omega|exact Nat.le_refl _⟩,⟨by (with_reducible repeat(first|apply Kd.R_alloc|apply Kd.R_drewN|apply Kd.R_drew));exact Kd.R_mono HO_355001.1 (fun _ hk=>⟨hk.1,hk.2.1⟩)⟩,⟨by (with_reducible repeat(first|apply Kd.R_alloc|apply Kd.R_drewN|apply Kd.R_drew));exact Kd.R_mono HO_360001.1 (fun _ hk=>⟨hk.1.1,hk.1.2⟩)⟩,⟨by (with_reducible repeat(first|apply Kd.R_alloc|apply Kd.R_drewN|apply Kd.R_drew));exact Kd.R_mono HO_366001.1 (fun _ hk=>⟨hk.1,hk.2.1⟩)⟩,⟨by (with_reducible repeat(first|refine blk_drewN ?_ _|refine blk_drew ?_|refine blk_alloc ?_ _));exact BK343.1⟩,⟨by (with_reducible repeat(first|refine blk_drewN ?_ _|refine blk_drew ?_|refine blk_alloc ?_ _));exact BK354.1⟩,⟨by (with_reducible repeat(first|refine blk_drewN ?_ _|refine blk_drew ?_|refine blk_alloc ?_ _));exact BK359.1⟩,⟨by (with_reducible repeat(first|refine blk_drewN ?_ _|refine blk_drew ?_|refine blk_alloc ?_ _));exact BK365.1⟩,⟨by repeat(first|(with_reducible first|exact HB.1|apply below_alloc|apply pw_below_drewN|apply below_drew1|refine below_set ?_ GE343.1|refine below_set ?_ GE354.1|refine below_set ?_ GE359.1|refine below_set ?_ GE365.1)|exact HB.1)⟩⟩
        ·replace c73:=Bool.eq_false_iff.mpr c73;subst c73;have H1:(laws_FnExactPowerCyclo.j1 kj11 a1 t353 true a0_0 l0_1 t349 t350 t360 t361)=some true:=by rw [if_neg (show ¬(false=true) by decide)] at H;exact H
         exact(laws_FnExactPowerCyclo.j1_no _ _ _ _ _ _ _ _ _ H1).elim
      case rest=>
       clear HC61;try clear c1
       try clear c2
       try clear p2
       try clear c3
       try clear c4
       try clear c4b0
       try clear c5
       try clear c6
       try clear c7
       try clear c8
       try clear c11
       try clear c13
       try clear c15
       try clear c16
       try clear c18
       try clear c19
       try clear c21
       try clear c27
       try clear c28
       try clear c33
       try clear c34
       try clear c35
       try clear c39
       try clear c40
       try clear c41
       try clear c42
       try clear c44
       try clear c45
       try clear c48
       try clear c49
       try clear c50
       try clear c52
       try clear c53
       try clear c56
       try clear c59
       try clear c66
       try clear c67
       try clear c68
       try clear c71
       try clear c71b0
       try clear c73
       try clear c74
       try clear c75
       try clear c76
       try clear c78
       try clear c79
       try clear c82
       try clear c83
       try clear c84
       try clear c86
       try clear c87
       try clear hcz14_0
       try clear hcz14_1
       try clear hcz16_0
       try clear hcz16_1
       try clear hcz22_0
       try clear hcz22_1
       try clear hcz24_0
       try clear hcz24_1
       try clear hcz29_0
       try clear hcz29_1
       try clear hcz36_0
       try clear hcz36_1
       try clear hcz43_0
       try clear hcz43_1
       try clear hcz46_0
       try clear hcz46_1
       try clear hcz51_0
       try clear hcz51_1
       try clear hcz54_0
       try clear hcz54_1
       try clear hcz69_0
       try clear hcz69_1
       try clear hcz6_0
       try clear hcz6_1
       try clear hcz77_0
       try clear hcz77_1
       try clear hcz80_0
       try clear hcz80_1
       try clear hcz85_0
       try clear hcz85_1
       try clear hcz88_0
       try clear hcz88_1
       try clear hfz14_0
       try clear hfz14_1
       try clear hfz16_0
       try clear hfz16_1
       try clear hfz22_0
       try clear hfz22_1
       try clear hfz24_0
       try clear hfz24_1
       try clear hfz29_0
       try clear hfz29_1
       try clear hfz36_0
       try clear hfz36_1
       try clear hfz43_0
       try clear hfz43_1
       try clear hfz46_0
       try clear hfz46_1
       try clear hfz51_0
       try clear hfz51_1
       try clear hfz54_0
       try clear hfz54_1
       try clear hfz69_0
       try clear hfz69_1
       try clear hfz6_0
       try clear hfz6_1
       try clear hfz77_0
       try clear hfz77_1
       try clear hfz80_0
       try clear hfz80_1
       try clear hfz85_0
       try clear hfz85_1
       try clear hfz88_0
       try clear hfz88_1
       try clear p2
       obtain⟨kq,x65_60,rfl,HA,HJ60,HO_355001,HO_360001,HO_366001,BK343,BK354,BK359,BK365,HB⟩:=hcut;have hl360001_60:=(Kd.R_reads' HO_360001.1).1;rw [hl360001_60] at HO_360001
       (try simp only [hl360001_60])
       (try simp only [hl360001_60] at BK343)
       (try simp only [hl360001_60] at BK354)
       (try simp only [hl360001_60] at BK359)
       (try simp only [hl360001_60] at BK365)
       (try simp only [hl360001_60] at HO_355001)
       (try simp only [hl360001_60] at HO_366001)
       cases kq with
       |zero=>exact absurd HA.1 (by simp [laws_FnExactPowerCyclo.j1])
       |succ kj60=>
        have H:=HA.1;clear HA;simp only [laws_FnExactPowerCyclo.j1] at H
        by_cases c90:x65_60=true
        ·subst c90;have H1:(some false)=some true:=by rw [if_pos rfl] at H;exact H
         cases H1
        ·replace c90:=Bool.eq_false_iff.mpr c90;subst c90;have H1:((laws_markCyclo.f kj60 t360 t361 1).bind fun bt375=>((laws_heldCyclo.f kj60 t360 bt375.2 1).bind fun t377=>(if t377<0 then (some false) else (if t377=bt375.1 then ((laws_toCyclo.f kj60 a0_0 l0_1).bind fun bt378=>((impl_PowerCyclo.f kj60 bt378.1 bt378.2 a1).bind fun bt382=>((laws_eqCyclo.f kj60 bt382.1 bt382.2.1 t349 t350).bind fun t388=>(if t388=true then (laws_FnExactPowerCyclo.j2 kj60 bt375.1 (bt382.2.2 !=t353) t360 bt375.2) else (laws_FnExactPowerCyclo.j2 kj60 bt375.1 true t360 bt375.2))))) else (some false)))))=some true:=by rw [if_neg (show ¬(false=true) by decide)] at H;exact H
         clear H;have H:=H1;clear H1;replace H:=qOb H;obtain⟨⟨t375,t376⟩,A910,H⟩:=H;replace H:((laws_heldCyclo.f kj60 t360 t376 1).bind fun t377=>(if t377<0 then (some false) else (if t377=t375 then ((laws_toCyclo.f kj60 a0_0 l0_1).bind fun bt378=>((impl_PowerCyclo.f kj60 bt378.1 bt378.2 a1).bind fun bt382=>((laws_eqCyclo.f kj60 bt382.1 bt382.2.1 t349 t350).bind fun t388=>(if t388=true then (laws_FnExactPowerCyclo.j2 kj60 t375 (bt382.2.2 !=t353) t360 t376) else (laws_FnExactPowerCyclo.j2 kj60 t375 true t360 t376))))) else (some false))))=some true:=H;have A91:=qAm A910;clear A910;replace H:=qOb H;obtain⟨t377,A920,H⟩:=H;replace H:(if t377<0 then (some false) else (if t377=t375 then ((laws_toCyclo.f kj60 a0_0 l0_1).bind fun bt378=>((impl_PowerCyclo.f kj60 bt378.1 bt378.2 a1).bind fun bt382=>((laws_eqCyclo.f kj60 bt382.1 bt382.2.1 t349 t350).bind fun t388=>(if t388=true then (laws_FnExactPowerCyclo.j2 kj60 t375 (bt382.2.2 !=t353) t360 t376) else (laws_FnExactPowerCyclo.j2 kj60 t375 true t360 t376))))) else (some false)))=some true:=H;have A92:=qAm A920;clear A920
         by_cases c93:t377<0
         ·rw [if_pos c93] at H;cases H
         ·rw [if_neg c93] at H;have c93b0:decide (t377<0)=false:=decide_eq_false c93;clear c93
          by_cases c101:t377=t375
          ·rw [if_pos c101] at H;have c101b0:(t377==t375)=true:=beq_iff_eq.mpr c101;have c101b1:(t377 !=t375)=false:=bne_eq_false_iff_eq.mpr c101;clear c101;replace H:=qOb H;obtain⟨⟨t378,t379⟩,A1020,H⟩:=H;replace H:((impl_PowerCyclo.f kj60 t378 t379 a1).bind fun bt382=>((laws_eqCyclo.f kj60 bt382.1 bt382.2.1 t349 t350).bind fun t388=>(if t388=true then (laws_FnExactPowerCyclo.j2 kj60 t375 (bt382.2.2 !=t353) t360 t376) else (laws_FnExactPowerCyclo.j2 kj60 t375 true t360 t376))))=some true:=H;have A102:=qAm A1020;clear A1020;replace H:=qOb H;obtain⟨⟨t382,t383,t386⟩,A1030,H⟩:=H;replace H:((laws_eqCyclo.f kj60 t382 t383 t349 t350).bind fun t388=>(if t388=true then (laws_FnExactPowerCyclo.j2 kj60 t375 (t386 !=t353) t360 t376) else (laws_FnExactPowerCyclo.j2 kj60 t375 true t360 t376)))=some true:=H;have A103:=qAm A1030;clear A1030;have HC104:=qAm H;clear H;have hnb105:=NB365_343.1;have hnc105:=NB343_365.1;have hnb106:=NB365_354.1;have hnc106:=NB354_365.1;have hnb107:=NB365_359.1;have hnc107:=NB359_365.1;have hcz108_0:wc.cell? ⟨gb365,0,none⟩=some (.int .i64 t360):=(blk_cell BK365.1 0).trans rfl;have hcz108_1:wc.cell? ⟨gb365,1,none⟩=some (.slice Ao37 t361.length co37):=(blk_cell BK365.1 1).trans rfl;have hfz108_0:=blk_frozen BK365.1 0;have hfz108_1:=blk_frozen BK365.1 1;go_upto_region 25 with (first|((with_reducible refine gate_callee (f:=16) rfl ?_);refine goesL_ (some 68) rfl rfl Try.func16 (by kernel_rfl) rfl #[.agg #[.int .i64 t360,.slice Ao37 t361.length co37],.int .i64 1] rfl qB60 ?_;(with_reducible refine(laws_markCyclo.calls kj60 t360 (fun k_=>some k_=(.slice Ao37 t361.length co37:Value).ownBlock) (.slice Ao37 t361.length co37) t361 1 t375 t376 w _ ?side1 ?side2 A91.1).mono ?_);(case side1=>repeat(first|(with_reducible first|exact HB.1|apply below_alloc|apply pw_below_drewN|apply below_drew1|refine below_set ?_ GE343.1|refine below_set ?_ GE354.1|refine below_set ?_ GE359.1|refine below_set ?_ GE365.1)|exact HB.1));(case side2=>exact Kd.R_tight rfl HO_366001.1);rintro e w109 ⟨rfl,hy0,hb,hkp⟩;refine⟨_,rfl,?_⟩;have n0_:=qAm (Kd.R_mono (ok':=fun k_=>some k_≠(.slice Ao30 t373.length co30:Value).ownBlock∧some k_≠(.slice Ao37 t361.length co37:Value).ownBlock) (Kd.R_keptB (HO_355001.1) hkp (fun k_ hk_ hs_=>(hk_.2) hs_)) (fun k_ hk_=>⟨hk_.1.1,hk_.1.2⟩));have n1_:=qAm (Kd.R_mono (ok':=fun k_=>some k_≠(.slice Ao23 t350.length co23:Value).ownBlock∧some k_≠(.slice Ao37 t361.length co37:Value).ownBlock) (Kd.R_keptB (HO_360001.1) hkp (fun k_ hk_ hs_=>(hk_.2) hs_)) (fun k_ hk_=>⟨hk_.1.1,hk_.1.2⟩));have n2_:=qAm (Kd.R_reok rfl hy0 (fun k_ e_=>HO_366001.1.1 k_ e_));have n3_:=qAm (blk_kept qB84 hkp (fun hs_=>(fun e_=>(Kd.R_ne HO_366001.1 BK343.1 (by decide)) e_) hs_));have n4_:=qAm (blk_kept qB85 hkp (fun hs_=>(fun e_=>(Kd.R_ne HO_366001.1 BK354.1 (by decide)) e_) hs_));have n5_:=qAm (blk_kept qB86 hkp (fun hs_=>(fun e_=>(Kd.R_ne HO_366001.1 BK359.1 (by decide)) e_) hs_));have n6_:=qAm (blk_kept qB87 hkp (fun hs_=>(fun e_=>(Kd.R_ne HO_366001.1 BK365.1 (by decide)) e_) hs_));have n7_:=qAm (hb);clear HO_355001;clear HO_360001;clear HO_366001;clear BK343;clear BK354;clear BK359;clear BK365;clear HB;have HO_355001:=n0_;have HO_360001:=n1_;have HO_366001:=n2_;have BK343:=n3_;have BK354:=n4_;have BK359:=n5_;have BK365:=n6_;have HB:=n7_;clear n0_ n1_ n2_ n3_ n4_ n5_ n6_ n7_;(try clear hb);(try clear hkp);(try clear hy0);have hcz110_0:w109.cell? ⟨gb365,0,none⟩=some (.int .i64 t360):=(blk_cell BK365.1 0).trans rfl;have hcz110_1:w109.cell? ⟨gb365,1,none⟩=some (.slice Ao37 t361.length co37):=(blk_cell BK365.1 1).trans rfl;have hfz110_0:=blk_frozen BK365.1 0;have hfz110_1:=blk_frozen BK365.1 1)|((with_reducible refine gate_callee (f:=17) rfl ?_);refine goesL_ (some 71) rfl rfl Try.func17 (by kernel_rfl) rfl #[.agg #[.int .i64 t360,.slice Ao37 t376.length co37],.int .i64 1] rfl (by (try simp only [List.map_toArray,List.map_cons,List.map_nil]);first|done|(rw [show t376.length=t361.length from (Kd.R_reads' HO_366001.1).1.symm] <;> rfl)|rfl|(simp only [List.length_drop,List.length_take];rfl)) ?_;(with_reducible refine(laws_heldCyclo.calls kj60 t360 _ _ t376 1 t377 _ ?side1 ?side2 A92.1).mono ?_);(case side1=>repeat(first|exact(Kd.R_reads' HO_366001.1).2.2|(with_reducible refine Kd.C_alloc ?_ _)|(with_reducible refine Kd.C_drewN ?_ _)|(with_reducible refine Kd.C_drew ?_)));(case side2=>rw [show t376.length=t361.length from (Kd.R_reads' HO_366001.1).1.symm];exact(Kd.R_reads' HO_366001.1).2.1);rintro e w111 ⟨rfl,hb⟩;refine⟨_,rfl,?_⟩;have n0_:=qAm (Kd.R_below qB92 hb);have n1_:=qAm (Kd.R_below qB93 hb);have n2_:=qAm (Kd.R_below qB94 hb);have n3_:=qAm (blk_below (g:=gb343) (o:=.cells #[.int .i64 a0_0,.slice A0_1 l0_1.length c0_1] 24 (0,0)) qB84 hb);have n4_:=qAm (blk_below (g:=gb354) (o:=.cells #[.int .i64 t349,.slice Ao23 t350.length co23] 26 (0,0)) qB85 hb);have n5_:=qAm (blk_below (g:=gb359) (o:=.cells #[.int .i64 t355,.slice Ao30 t373.length co30] 26 (0,0)) qB86 hb);have n6_:=qAm (blk_below (g:=gb365) (o:=.cells #[.int .i64 t360,.slice Ao37 t361.length co37] 26 (0,0)) qB87 hb);have n7_:=qAm (below_step qB23 hb);clear HO_355001;clear HO_360001;clear HO_366001;clear BK343;clear BK354;clear BK359;clear BK365;clear HB;have HO_355001:=n0_;have HO_360001:=n1_;have HO_366001:=n2_;have BK343:=n3_;have BK354:=n4_;have BK359:=n5_;have BK365:=n6_;have HB:=n7_;clear n0_ n1_ n2_ n3_ n4_ n5_ n6_ n7_;(try clear hb);(try clear hb2);(try clear hk);(try clear hi);have hnb112:=NB343_354.1;have hnc112:=NB354_343.1;have hnb113:=NB343_359.1;have hnc113:=NB359_343.1;have hcz114_0:w111.cell? ⟨gb343,0,none⟩=some (.int .i64 a0_0):=(blk_cell BK343.1 0).trans rfl;have hcz114_1:w111.cell? ⟨gb343,1,none⟩=some (.slice A0_1 l0_1.length c0_1):=(blk_cell BK343.1 1).trans rfl;have hfz114_0:=blk_frozen BK343.1 0;have hfz114_1:=blk_frozen BK343.1 1)|((with_reducible refine gate_callee (f:=13) rfl ?_);refine goesL_ (some 79) rfl rfl Try.func13 (by kernel_rfl) rfl #[.agg #[.int .i64 a0_0,.slice A0_1 l0_1.length c0_1]] rfl qB60 ?_;(with_reducible refine(laws_toCyclo.calls kj60 a0_0 _ _ l0_1 t378 t379 _ ?side1 ?side2 A102.1).mono ?_);(case side1=>repeat(first|exact(Kd.C_below HR0_1.1 HB.1)|(with_reducible refine Kd.C_alloc ?_ _)|(with_reducible refine Kd.C_drewN ?_ _)|(with_reducible refine Kd.C_drew ?_)));(case side2=>exact HC0_1.1);rintro e w115 ⟨v380,rfl,ho0,hb⟩;refine⟨_,rfl,?_⟩;have n0_:=qAm (Kd.R_elder' qB92 (Kd.R_base ho0) hb);have n1_:=qAm (Kd.R_elder' qB93 (Kd.R_base ho0) hb);have n2_:=qAm (Kd.R_elder' qB94 (Kd.R_base ho0) hb);have n3_:=qAm (Kd.R_lower (Kd.R_new' (Kd.R_new' (Kd.R_new' ho0 (Kd.R_lt qB92)) (Kd.R_lt qB93)) (Kd.R_lt qB94)) (below_size qB23));have n4_:=qAm (blk_below (g:=gb343) (o:=.cells #[.int .i64 a0_0,.slice A0_1 l0_1.length c0_1] 24 (0,0)) qB84 hb);have n5_:=qAm (blk_below (g:=gb354) (o:=.cells #[.int .i64 t349,.slice Ao23 t350.length co23] 26 (0,0)) qB85 hb);have n6_:=qAm (blk_below (g:=gb359) (o:=.cells #[.int .i64 t355,.slice Ao30 t373.length co30] 26 (0,0)) qB86 hb);have n7_:=qAm (blk_below (g:=gb365) (o:=.cells #[.int .i64 t360,.slice Ao37 t361.length co37] 26 (0,0)) qB87 hb);have n8_:=qAm (below_step qB23 hb);clear HO_355001;clear HO_360001;clear HO_366001;clear BK343;clear BK354;clear BK359;clear BK365;clear HB;have HO_355001:=n0_;have HO_360001:=n1_;have HO_366001:=n2_;have HO381:=n3_;have BK343:=n4_;have BK354:=n5_;have BK359:=n6_;have BK365:=n7_;have HB:=n8_;clear n0_ n1_ n2_ n3_ n4_ n5_ n6_ n7_ n8_;(try clear hb);(try clear hb2);(try clear hk);(try clear hi);(try clear ho0);obtain⟨Ao116,co116,eo116⟩:=Kd.R_slice HO381.1;subst eo116)|((with_reducible refine gate_callee (f:=19) rfl ?_);refine goesL_ (some 81) rfl rfl Try.func19 (by kernel_rfl) rfl #[.agg #[.int .i64 t378,.slice Ao116 t379.length co116],.int .i64 a1] rfl qB60 ?_;(with_reducible refine(impl_PowerCyclo.calls kj60 t378 _ _ t379 a1 t382 t383 t386 _ ?side1 ?side2 A103.1).mono ?_);(case side1=>repeat(first|exact(Kd.R_reads' HO381.1).2.2|(with_reducible refine Kd.C_alloc ?_ _)|(with_reducible refine Kd.C_drewN ?_ _)|(with_reducible refine Kd.C_drew ?_)));(case side2=>exact(Kd.R_reads' HO381.1).2.1);rintro e w117 ⟨v384,rfl,ho0,hb⟩;refine⟨_,rfl,?_⟩;have n0_:=qAm (Kd.R_elder' qB92 (Kd.R_base ho0) hb);have n1_:=qAm (Kd.R_elder' qB93 (Kd.R_base ho0) hb);have n2_:=qAm (Kd.R_elder' qB94 (Kd.R_base ho0) hb);have n3_:=qAm (Kd.R_elder' qB110 (Kd.R_base ho0) hb);have n4_:=qAm (Kd.R_lower (Kd.R_new' (Kd.R_new' (Kd.R_new' (Kd.R_new' ho0 (Kd.R_lt qB92)) (Kd.R_lt qB93)) (Kd.R_lt qB94)) (Kd.R_lt qB110)) (below_size qB23));have n5_:=qAm (blk_below (g:=gb343) (o:=.cells #[.int .i64 a0_0,.slice A0_1 l0_1.length c0_1] 24 (0,0)) qB84 hb);have n6_:=qAm (blk_below (g:=gb354) (o:=.cells #[.int .i64 t349,.slice Ao23 t350.length co23] 26 (0,0)) qB85 hb);have n7_:=qAm (blk_below (g:=gb359) (o:=.cells #[.int .i64 t355,.slice Ao30 t373.length co30] 26 (0,0)) qB86 hb);have n8_:=qAm (blk_below (g:=gb365) (o:=.cells #[.int .i64 t360,.slice Ao37 t361.length co37] 26 (0,0)) qB87 hb);have n9_:=qAm (below_step qB23 hb);clear HO_355001;clear HO_360001;clear HO_366001;clear HO381;clear BK343;clear BK354;clear BK359;clear BK365;clear HB;have HO_355001:=n0_;have HO_360001:=n1_;have HO_366001:=n2_;have HO381:=n3_;have HO385:=n4_;have BK343:=n5_;have BK354:=n6_;have BK359:=n7_;have BK365:=n8_;have HB:=n9_;clear n0_ n1_ n2_ n3_ n4_ n5_ n6_ n7_ n8_ n9_;(try clear hb);(try clear hb2);(try clear hk);(try clear hi);(try clear ho0))|((with_reducible refine gate_dst (N:=14) rfl ?_);refine box_event ?hg (N:=14) ?hd (cs:=#[.int .i64 0,.slice none 0 0]) (t:=26) ?hr ?_;(case hd=>rfl);(case hg=>rfl);(case hr=>first|(go_simp;done)|(go_simp;rfl));intro gb387 hg w118 hbox hb;have n0_:=qAm (Kd.R_below qB92 hb);have n1_:=qAm (Kd.R_below qB93 hb);have n2_:=qAm (Kd.R_below qB94 hb);have n3_:=qAm (Kd.R_below qB110 hb);have n4_:=qAm (Kd.R_below (by (with_reducible repeat(first|apply Kd.R_alloc|apply Kd.R_drewN|apply Kd.R_drew));exact HO385.1) hb);have n5_:=qAm (blk_below (g:=gb343) (o:=.cells #[.int .i64 a0_0,.slice A0_1 l0_1.length c0_1] 24 (0,0)) qB84 hb);have n6_:=qAm (blk_below (g:=gb354) (o:=.cells #[.int .i64 t349,.slice Ao23 t350.length co23] 26 (0,0)) qB85 hb);have n7_:=qAm (blk_below (g:=gb359) (o:=.cells #[.int .i64 t355,.slice Ao30 t373.length co30] 26 (0,0)) qB86 hb);have n8_:=qAm (blk_below (g:=gb365) (o:=.cells #[.int .i64 t360,.slice Ao37 t361.length co37] 26 (0,0)) qB87 hb);have n9_:=qAm (below_step qB23 hb);have n10_:=qAm (hbox);have n11_:=qAm ((by rw [hg];exact(below_size qB23):w.heap.size≤gb387));have n12_:=qAm ((by rw [hg];exact(below_size qB23):w.heap.size≤gb387));have n13_:=qAm ((by rw [hg];exact Nat.ne_of_lt (blk_lt (g:=gb343) (o:=.cells #[.int .i64 a0_0,.slice A0_1 l0_1.length c0_1] 24 (0,0)) qB84):gb343≠gb387));have n14_:=qAm ((by rw [hg];exact Nat.ne_of_gt (blk_lt (g:=gb343) (o:=.cells #[.int .i64 a0_0,.slice A0_1 l0_1.length c0_1] 24 (0,0)) qB84):gb387≠gb343));have n15_:=qAm ((by rw [hg];exact Nat.ne_of_lt (blk_lt (g:=gb354) (o:=.cells #[.int .i64 t349,.slice Ao23 t350.length co23] 26 (0,0)) qB85):gb354≠gb387));have n16_:=qAm ((by rw [hg];exact Nat.ne_of_gt (blk_lt (g:=gb354) (o:=.cells #[.int .i64 t349,.slice Ao23 t350.length co23] 26 (0,0)) qB85):gb387≠gb354));have n17_:=qAm ((by rw [hg];exact Nat.ne_of_lt (blk_lt (g:=gb359) (o:=.cells #[.int .i64 t355,.slice Ao30 t373.length co30] 26 (0,0)) qB86):gb359≠gb387));have n18_:=qAm ((by rw [hg];exact Nat.ne_of_gt (blk_lt (g:=gb359) (o:=.cells #[.int .i64 t355,.slice Ao30 t373.length co30] 26 (0,0)) qB86):gb387≠gb359));have n19_:=qAm ((by rw [hg];exact Nat.ne_of_lt (blk_lt (g:=gb365) (o:=.cells #[.int .i64 t360,.slice Ao37 t361.length co37] 26 (0,0)) qB87):gb365≠gb387));have n20_:=qAm ((by rw [hg];exact Nat.ne_of_gt (blk_lt (g:=gb365) (o:=.cells #[.int .i64 t360,.slice Ao37 t361.length co37] 26 (0,0)) qB87):gb387≠gb365));clear HO_355001;clear HO_360001;clear HO_366001;clear HO381;clear HO385;clear BK343;clear BK354;clear BK359;clear BK365;clear HB;have HO_355001:=n0_;have HO_360001:=n1_;have HO_366001:=n2_;have HO381:=n3_;have HO385:=n4_;have BK343:=n5_;have BK354:=n6_;have BK359:=n7_;have BK365:=n8_;have HB:=n9_;have BK387:=n10_;have GW387:=n11_;have GE387:=n12_;have NB343_387:=n13_;have NB387_343:=n14_;have NB354_387:=n15_;have NB387_354:=n16_;have NB359_387:=n17_;have NB387_359:=n18_;have NB365_387:=n19_;have NB387_365:=n20_;clear n0_ n1_ n2_ n3_ n4_ n5_ n6_ n7_ n8_ n9_ n10_ n11_ n12_ n13_ n14_ n15_ n16_ n17_ n18_ n19_ n20_;clear hb hbox hg;have hnb119:=NB387_343.1;have hnc119:=NB343_387.1;have hnb120:=NB387_354.1;have hnc120:=NB354_387.1;have hnb121:=NB387_359.1;have hnc121:=NB359_387.1;have hnb122:=NB387_365.1;have hnc122:=NB365_387.1;have hcz123_0:w118.cell? ⟨gb387,0,none⟩=some (.int .i64 0):=(blk_cell BK387.1 0).trans rfl;have hcz123_1:w118.cell? ⟨gb387,1,none⟩=some (.slice none 0 0):=(blk_cell BK387.1 1).trans rfl;have hfz123_0:=blk_frozen BK387.1 0;have hfz123_1:=blk_frozen BK387.1 1;obtain⟨Ao124,co124,eo124⟩:=Kd.R_slice HO385.1;subst eo124))
           (try simp only [Act.put,qSa,qSb,qSc])
           go_cut [92] (fun v92 wc=>∃(kq:Nat) (x92_103:Bool),v92=.bool x92_103∧Aside0 (laws_FnExactPowerCyclo.j2 kq t375 x92_103 t360 t376=some true)∧Aside0 (kq≤kj60)∧Aside0 (Kd.R (Kd.int .i64) 2 wc w.heap.size (fun k_=>some k_≠((.slice Ao30 t373.length co30):Value).ownBlock∧some k_≠((.slice Ao37 t361.length co37):Value).ownBlock∧some k_≠((.slice Ao124 t383.length co124):Value).ownBlock) (.slice Ao23 t350.length co23) t350)∧Aside0 (Kd.R (Kd.int .i64) 2 wc w.heap.size (fun k_=>some k_≠((.slice Ao23 t350.length co23):Value).ownBlock∧some k_≠((.slice Ao37 t361.length co37):Value).ownBlock∧some k_≠((.slice Ao124 t383.length co124):Value).ownBlock) (.slice Ao30 t373.length co30) t373)∧Aside0 (Kd.R (Kd.int .i64) 2 wc w.heap.size (fun k_=>some k_≠((.slice Ao23 t350.length co23):Value).ownBlock∧some k_≠((.slice Ao30 t373.length co30):Value).ownBlock∧some k_≠((.slice Ao124 t383.length co124):Value).ownBlock) (.slice Ao37 t361.length co37) t376)∧Aside0 (Kd.R (Kd.int .i64) 2 wc w.heap.size (fun k_=>some k_≠((.slice Ao23 t350.length co23):Value).ownBlock∧some k_≠((.slice Ao30 t373.length co30):Value).ownBlock∧some k_≠((.slice Ao37 t361.length co37):Value).ownBlock) (.slice Ao124 t383.length co124) t383)∧Aside0 (wc.heap[gb343]? =some (.cells #[.int .i64 a0_0,(.slice A0_1 l0_1.length c0_1)] 24 (0,0)))∧Aside0 (wc.heap[gb354]? =some (.cells #[.int .i64 t349,(.slice Ao23 t350.length co23)] 26 (0,0)))∧Aside0 (wc.heap[gb359]? =some (.cells #[.int .i64 t355,(.slice Ao30 t373.length co30)] 26 (0,0)))∧Aside0 (wc.heap[gb365]? =some (.cells #[.int .i64 t360,(.slice Ao37 t361.length co37)] 26 (0,0)))∧Aside0 (wc.heap[gb387]? =some (.cells #[.int .i64 t382,(.slice Ao124 t383.length co124)] 26 (0,0)))∧Aside0 (Below w.heap.size w wc))
           case first=>
            have H:=HC104.1;clear HC104;replace H:=qOb H;obtain⟨t388,A1250,H⟩:=H;replace H:(if t388=true then (laws_FnExactPowerCyclo.j2 kj60 t375 (t386 !=t353) t360 t376) else (laws_FnExactPowerCyclo.j2 kj60 t375 true t360 t376))=some true:=H;have A125:=qAm A1250;clear A1250
            by_cases c126:t388=true
            ·subst c126;have H1:(laws_FnExactPowerCyclo.j2 kj60 t375 (t386 !=t353) t360 t376)=some true:=by rw [if_pos rfl] at H;exact H
             clear H;have H:=H1;clear H1;have H':=qAm H;clear H;have hnb127:=NB387_343.1;have hnc127:=NB343_387.1;have hnb128:=NB387_354.1;have hnc128:=NB354_387.1;have hnb129:=NB387_359.1;have hnc129:=NB359_387.1;have hnb130:=NB387_365.1;have hnc130:=NB365_387.1;have hcz131_0:w118.cell? ⟨gb387,0,none⟩=some (.int .i64 0):=(blk_cell BK387.1 0).trans rfl;have hcz131_1:w118.cell? ⟨gb387,1,none⟩=some (.slice none 0 0):=(blk_cell BK387.1 1).trans rfl;have hfz131_0:=blk_frozen BK387.1 0;have hfz131_1:=blk_frozen BK387.1 1;have hnb132:=NB354_343.1;have hnc132:=NB343_354.1;have hnb133:=NB354_359.1;have hnc133:=NB359_354.1;have hnb134:=NB354_365.1;have hnc134:=NB365_354.1;have hcz135_0:w118.cell? ⟨gb354,0,none⟩=some (.int .i64 t349):=(blk_cell BK354.1 0).trans rfl;have hcz135_1:w118.cell? ⟨gb354,1,none⟩=some (.slice Ao23 t350.length co23):=(blk_cell BK354.1 1).trans rfl;have hfz135_0:=blk_frozen BK354.1 0;have hfz135_1:=blk_frozen BK354.1 1;go_wp2_with (first|((with_reducible refine gate_callee (f:=15) rfl ?_);refine goesL_ (some 86) rfl rfl Try.func15 (by kernel_rfl) rfl #[.agg #[.int .i64 t382,.slice Ao124 t383.length co124],.agg #[.int .i64 t349,.slice Ao23 t350.length co23]] rfl qB60 ?_;(with_reducible refine(laws_eqCyclo.calls kj60 t382 _ _ t383 t349 _ _ t350 true _ ?side1 ?side2 ?side3 ?side4 A125.1).mono ?_);(case side1=>refine(Kd.R_reads' (e:=2) (base:=w.heap.size) (ok:=fun k_=>((((True∧some k_≠(.slice Ao23 t350.length co23:Value).ownBlock)∧some k_≠(.slice Ao30 t373.length co30:Value).ownBlock)∧some k_≠(.slice Ao37 t361.length co37:Value).ownBlock)∧some k_≠(.slice Ao116 t379.length co116:Value).ownBlock)) (n:=t383.length) (c:=co124) ?_).2.2;exact qB9);(case side2=>exact(Kd.R_reads' HO385.1).2.1);(case side3=>refine(Kd.R_reads' (e:=2) (base:=w.heap.size) (ok:=fun k_=>(((some k_≠(.slice Ao30 t373.length co30:Value).ownBlock∧some k_≠(.slice Ao37 t361.length co37:Value).ownBlock)∧some k_≠(.slice Ao116 t379.length co116:Value).ownBlock)∧some k_≠(.slice Ao124 t383.length co124:Value).ownBlock)) (n:=t350.length) (c:=co23) ?_).2.2;exact qB8);(case side4=>exact(Kd.R_reads' HO_355001.1).2.1);rintro e w136 ⟨rfl,hb⟩;refine⟨_,rfl,?_⟩;have n0_:=qAm (Kd.R_below qB8 hb);have n1_:=qAm (Kd.R_below (by (with_reducible repeat(first|apply Kd.R_alloc|apply Kd.R_drewN|apply Kd.R_drew));exact(Kd.R_mono (Kd.R_far (p:=⟨gb387,1,none⟩) (Kd.R_far (p:=⟨gb387,0,none⟩) (Kd.R_types HO_360001.1 BK387.1 (by decide)) (fun _ hk=>hk.2) (.int .i64 t382)) (fun _ hk=>hk.2) (.slice Ao124 t383.length co124)) (fun _ h_=>h_.1))) hb);have n2_:=qAm (Kd.R_below (by (with_reducible repeat(first|apply Kd.R_alloc|apply Kd.R_drewN|apply Kd.R_drew));exact(Kd.R_mono (Kd.R_far (p:=⟨gb387,1,none⟩) (Kd.R_far (p:=⟨gb387,0,none⟩) (Kd.R_types HO_366001.1 BK387.1 (by decide)) (fun _ hk=>hk.2) (.int .i64 t382)) (fun _ hk=>hk.2) (.slice Ao124 t383.length co124)) (fun _ h_=>h_.1))) hb);have n3_:=qAm (Kd.R_below (by (with_reducible repeat(first|apply Kd.R_alloc|apply Kd.R_drewN|apply Kd.R_drew));exact(Kd.R_mono (Kd.R_far (p:=⟨gb387,1,none⟩) (Kd.R_far (p:=⟨gb387,0,none⟩) (Kd.R_types HO381.1 BK387.1 (by decide)) (fun _ hk=>hk.2) (.int .i64 t382)) (fun _ hk=>hk.2) (.slice Ao124 t383.length co124)) (fun _ h_=>h_.1))) hb);have n4_:=qAm (Kd.R_below qB9 hb);have n5_:=qAm (blk_below (g:=gb343) (o:=.cells #[.int .i64 a0_0,.slice A0_1 l0_1.length c0_1] 24 (0,0)) (by (with_reducible repeat(first|refine blk_drewN ?_ _|refine blk_drew ?_|refine blk_alloc ?_ _));refine blk_far ?_ NB343_387.1 _;(with_reducible repeat(first|refine blk_drewN ?_ _|refine blk_drew ?_|refine blk_alloc ?_ _));refine blk_far ?_ NB343_387.1 _;(with_reducible repeat(first|refine blk_drewN ?_ _|refine blk_drew ?_|refine blk_alloc ?_ _));exact BK343.1) hb);have n6_:=qAm (blk_below (g:=gb354) (o:=.cells #[.int .i64 t349,.slice Ao23 t350.length co23] 26 (0,0)) (by (with_reducible repeat(first|refine blk_drewN ?_ _|refine blk_drew ?_|refine blk_alloc ?_ _));refine blk_far ?_ NB354_387.1 _;(with_reducible repeat(first|refine blk_drewN ?_ _|refine blk_drew ?_|refine blk_alloc ?_ _));refine blk_far ?_ NB354_387.1 _;(with_reducible repeat(first|refine blk_drewN ?_ _|refine blk_drew ?_|refine blk_alloc ?_ _));exact BK354.1) hb);have n7_:=qAm (blk_below (g:=gb359) (o:=.cells #[.int .i64 t355,.slice Ao30 t373.length co30] 26 (0,0)) (by (with_reducible repeat(first|refine blk_drewN ?_ _|refine blk_drew ?_|refine blk_alloc ?_ _));refine blk_far ?_ NB359_387.1 _;(with_reducible repeat(first|refine blk_drewN ?_ _|refine blk_drew ?_|refine blk_alloc ?_ _));refine blk_far ?_ NB359_387.1 _;(with_reducible repeat(first|refine blk_drewN ?_ _|refine blk_drew ?_|refine blk_alloc ?_ _));exact BK359.1) hb);have n8_:=qAm (blk_below (g:=gb365) (o:=.cells #[.int .i64 t360,.slice Ao37 t361.length co37] 26 (0,0)) (by (with_reducible repeat(first|refine blk_drewN ?_ _|refine blk_drew ?_|refine blk_alloc ?_ _));refine blk_far ?_ NB365_387.1 _;(with_reducible repeat(first|refine blk_drewN ?_ _|refine blk_drew ?_|refine blk_alloc ?_ _));refine blk_far ?_ NB365_387.1 _;(with_reducible repeat(first|refine blk_drewN ?_ _|refine blk_drew ?_|refine blk_alloc ?_ _));exact BK365.1) hb);have n9_:=qAm (blk_below (g:=gb387) (o:=.cells #[.int .i64 t382,.slice Ao124 t383.length co124] 26 (0,0)) (by (with_reducible repeat(first|refine blk_drewN ?_ _|refine blk_drew ?_|refine blk_alloc ?_ _));refine blk_put (cs:=#[.int .i64 t382,.slice none 0 0]) ?_ 1 _ rfl;(with_reducible repeat(first|refine blk_drewN ?_ _|refine blk_drew ?_|refine blk_alloc ?_ _));refine blk_put (cs:=#[.int .i64 0,.slice none 0 0]) ?_ 0 _ rfl;(with_reducible repeat(first|refine blk_drewN ?_ _|refine blk_drew ?_|refine blk_alloc ?_ _));exact BK387.1) hb);have n10_:=qAm (below_step qB20 hb);clear HO_355001;clear HO_360001;clear HO_366001;clear HO381;clear HO385;clear BK343;clear BK354;clear BK359;clear BK365;clear BK387;clear HB;have HO_355001:=n0_;have HO_360001:=n1_;have HO_366001:=n2_;have HO381:=n3_;have HO385:=n4_;have BK343:=n5_;have BK354:=n6_;have BK359:=n7_;have BK365:=n8_;have BK387:=n9_;have HB:=n10_;clear n0_ n1_ n2_ n3_ n4_ n5_ n6_ n7_ n8_ n9_ n10_;(try clear hb);(try clear hb2);(try clear hk);(try clear hi)));go_meet
             case rel=>exact⟨_,((t386 !=t353)),qB119,H',⟨by have:=HJ11.1;have:=HJ60.1;first|omega|exact Nat.le_refl _⟩,⟨by (try simp only [hl360001_60]);(with_reducible repeat(first|apply Kd.R_alloc|apply Kd.R_drewN|apply Kd.R_drew));exact Kd.R_mono HO_355001.1 (fun _ hk=>⟨hk.1.1.1,⟨hk.1.1.2,hk.2⟩⟩)⟩,⟨by (try simp only [hl360001_60]);(with_reducible repeat(first|apply Kd.R_alloc|apply Kd.R_drewN|apply Kd.R_drew));exact Kd.R_mono HO_360001.1 (fun _ hk=>⟨hk.1.1.1,⟨hk.1.1.2,hk.2⟩⟩)⟩,⟨by (try simp only [hl360001_60]);(with_reducible repeat(first|apply Kd.R_alloc|apply Kd.R_drewN|apply Kd.R_drew));exact Kd.R_mono HO_366001.1 (fun _ hk=>⟨hk.1.1.1,⟨hk.1.1.2,hk.2⟩⟩)⟩,⟨by (try simp only [hl360001_60]);(with_reducible repeat(first|apply Kd.R_alloc|apply Kd.R_drewN|apply Kd.R_drew));exact Kd.R_mono HO385.1 (fun _ hk=>⟨hk.1.1.1.2,⟨hk.1.1.2,hk.1.2⟩⟩)⟩,⟨by (try simp only [hl360001_60]);(with_reducible repeat(first|refine blk_drewN ?_ _|refine blk_drew ?_|refine blk_alloc ?_ _));exact BK343.1⟩,⟨by (try simp only [hl360001_60]);(with_reducible repeat(first|refine blk_drewN ?_ _|refine blk_drew ?_|refine blk_alloc ?_ _));exact BK354.1⟩,⟨by (try simp only [hl360001_60]);(with_reducible repeat(first|refine blk_drewN ?_ _|refine blk_drew ?_|refine blk_alloc ?_ _));exact BK359.1⟩,⟨by (try simp only [hl360001_60]);(with_reducible repeat(first|refine blk_drewN ?_ _|refine blk_drew ?_|refine blk_alloc ?_ _));exact BK365.1⟩,⟨by (try simp only [hl360001_60]);(with_reducible repeat(first|refine blk_drewN ?_ _|refine blk_drew ?_|refine blk_alloc ?_ _));exact BK387.1⟩,⟨by repeat(first|(with_reducible first|exact HB.1|apply below_alloc|apply pw_below_drewN|apply below_drew1|refine below_set ?_ GE343.1|refine below_set ?_ GE354.1|refine below_set ?_ GE359.1|refine below_set ?_ GE365.1|refine below_set ?_ GE387.1)|exact HB.1)⟩⟩
            ·replace c126:=Bool.eq_false_iff.mpr c126;subst c126;have H1:(laws_FnExactPowerCyclo.j2 kj60 t375 true t360 t376)=some true:=by rw [if_neg (show ¬(false=true) by decide)] at H;exact H
             exact(laws_FnExactPowerCyclo.j2_no _ _ _ _ H1).elim
           case rest=>
            clear HC104;try clear c1
            try clear c2
            try clear p2
            try clear c3
            try clear c4
            try clear c4b0
            try clear c5
            try clear c6
            try clear c7
            try clear c8
            try clear c9
            try clear c10
            try clear c11
            try clear c12
            try clear c13
            try clear c14
            try clear c15
            try clear c16
            try clear c17
            try clear c18
            try clear c19
            try clear c21
            try clear c27
            try clear c28
            try clear c33
            try clear c34
            try clear c35
            try clear c39
            try clear c40
            try clear c41
            try clear c42
            try clear c44
            try clear c45
            try clear c48
            try clear c49
            try clear c50
            try clear c52
            try clear c53
            try clear c56
            try clear c59
            try clear c66
            try clear c67
            try clear c68
            try clear c71
            try clear c71b0
            try clear c73
            try clear c74
            try clear c75
            try clear c76
            try clear c78
            try clear c79
            try clear c82
            try clear c83
            try clear c84
            try clear c86
            try clear c87
            try clear c90
            try clear c93
            try clear c93b0
            try clear c94
            try clear c95
            try clear c96
            try clear c101
            try clear c101b0
            try clear c101b1
            try clear c105
            try clear c106
            try clear c107
            try clear c112
            try clear c113
            try clear c119
            try clear c120
            try clear c121
            try clear c122
            try clear c126
            try clear c127
            try clear c128
            try clear c129
            try clear c130
            try clear c132
            try clear c133
            try clear c134
            try clear c137
            try clear c138
            try clear c139
            try clear c140
            try clear c142
            try clear c143
            try clear c144
            try clear hcz108_0
            try clear hcz108_1
            try clear hcz110_0
            try clear hcz110_1
            try clear hcz114_0
            try clear hcz114_1
            try clear hcz123_0
            try clear hcz123_1
            try clear hcz131_0
            try clear hcz131_1
            try clear hcz135_0
            try clear hcz135_1
            try clear hcz141_0
            try clear hcz141_1
            try clear hcz145_0
            try clear hcz145_1
            try clear hcz14_0
            try clear hcz14_1
            try clear hcz16_0
            try clear hcz16_1
            try clear hcz22_0
            try clear hcz22_1
            try clear hcz24_0
            try clear hcz24_1
            try clear hcz29_0
            try clear hcz29_1
            try clear hcz36_0
            try clear hcz36_1
            try clear hcz43_0
            try clear hcz43_1
            try clear hcz46_0
            try clear hcz46_1
            try clear hcz51_0
            try clear hcz51_1
            try clear hcz54_0
            try clear hcz54_1
            try clear hcz69_0
            try clear hcz69_1
            try clear hcz6_0
            try clear hcz6_1
            try clear hcz77_0
            try clear hcz77_1
            try clear hcz80_0
            try clear hcz80_1
            try clear hcz85_0
            try clear hcz85_1
            try clear hcz88_0
            try clear hcz88_1
            try clear hcz97_0
            try clear hcz97_1
            try clear hcz99_0
            try clear hcz99_1
            try clear hfz108_0
            try clear hfz108_1
            try clear hfz110_0
            try clear hfz110_1
            try clear hfz114_0
            try clear hfz114_1
            try clear hfz123_0
            try clear hfz123_1
            try clear hfz131_0
            try clear hfz131_1
            try clear hfz135_0
            try clear hfz135_1
            try clear hfz141_0
            try clear hfz141_1
            try clear hfz145_0
            try clear hfz145_1
            try clear hfz14_0
            try clear hfz14_1
            try clear hfz16_0
            try clear hfz16_1
            try clear hfz22_0
            try clear hfz22_1
            try clear hfz24_0
            try clear hfz24_1
            try clear hfz29_0
            try clear hfz29_1
            try clear hfz36_0
            try clear hfz36_1
            try clear hfz43_0
            try clear hfz43_1
            try clear hfz46_0
            try clear hfz46_1
            try clear hfz51_0
            try clear hfz51_1
            try clear hfz54_0
            try clear hfz54_1
            try clear hfz69_0
            try clear hfz69_1
            try clear hfz6_0
            try clear hfz6_1
            try clear hfz77_0
            try clear hfz77_1
            try clear hfz80_0
            try clear hfz80_1
            try clear hfz85_0
            try clear hfz85_1
            try clear hfz88_0
            try clear hfz88_1
            try clear hfz97_0
            try clear hfz97_1
            try clear hfz99_0
            try clear hfz99_1
            try clear p2
            obtain⟨kq,x92_103,rfl,HA,HJ103,HO_355001,HO_360001,HO_366001,HO_388001,BK343,BK354,BK359,BK365,BK387,HB⟩:=hcut;have hl366001_103:=(Kd.R_reads' HO_366001.1).1;rw [hl366001_103] at HO_366001
            (try simp only [hl366001_103])
            (try simp only [hl366001_103] at BK343)
            (try simp only [hl366001_103] at BK354)
            (try simp only [hl366001_103] at BK359)
            (try simp only [hl366001_103] at BK365)
            (try simp only [hl366001_103] at BK387)
            (try simp only [hl366001_103] at HO_355001)
            (try simp only [hl366001_103] at HO_360001)
            (try simp only [hl366001_103] at HO_388001)
            cases kq with
            |zero=>exact absurd HA.1 (by simp [laws_FnExactPowerCyclo.j2])
            |succ kj103=>
             have H:=HA.1;clear HA;simp only [laws_FnExactPowerCyclo.j2] at H
             by_cases c147:x92_103=true
             ·subst c147;have H1:(some false)=some true:=by rw [if_pos rfl] at H;exact H
              cases H1
             ·replace c147:=Bool.eq_false_iff.mpr c147;subst c147;have H1:((laws_heldCyclo.f kj103 t360 t376 1).bind fun t389=>(if t389<0 then (some false) else (if t389=t375 then (some true) else (some false))))=some true:=by rw [if_neg (show ¬(false=true) by decide)] at H;exact H
              clear H;have H:=H1;clear H1;replace H:=qOb H;obtain⟨t389,A1480,H⟩:=H;replace H:(if t389<0 then (some false) else (if t389=t375 then (some true) else (some false)))=some true:=H;have A148:=qAm A1480;clear A1480
              by_cases c149:t389<0
              ·rw [if_pos c149] at H;cases H
              ·rw [if_neg c149] at H;have c149b0:decide (t389<0)=false:=decide_eq_false c149;clear c149
               by_cases c156:t389=t375
               ·rw [if_pos c156] at H;have c156b0:(t389==t375)=true:=beq_iff_eq.mpr c156;have c156b1:(t389 !=t375)=false:=bne_eq_false_iff_eq.mpr c156;clear c156 H;have hnb157:=NB365_343.1;have hnc157:=NB343_365.1;have hnb158:=NB365_354.1;have hnc158:=NB354_365.1;have hnb159:=NB365_359.1;have hnc159:=NB359_365.1;have hnb160:=NB365_387.1;have hnc160:=NB387_365.1;have hcz161_0:wc.cell? ⟨gb365,0,none⟩=some (.int .i64 t360):=(blk_cell BK365.1 0).trans rfl;have hcz161_1:wc.cell? ⟨gb365,1,none⟩=some (.slice Ao37 t376.length co37):=(blk_cell BK365.1 1).trans rfl;have hfz161_0:=blk_frozen BK365.1 0;have hfz161_1:=blk_frozen BK365.1 1;go_wp2_with (first|((with_reducible refine gate_callee (f:=17) rfl ?_);refine goesL_ (some 95) rfl rfl Try.func17 (by kernel_rfl) rfl #[.agg #[.int .i64 t360,.slice Ao37 t376.length co37],.int .i64 1] rfl qB60 ?_;(with_reducible refine(laws_heldCyclo.calls kj103 t360 _ _ t376 1 t389 _ ?side1 ?side2 A148.1).mono ?_);(case side1=>repeat(first|exact(Kd.R_reads' HO_366001.1).2.2|(with_reducible refine Kd.C_alloc ?_ _)|(with_reducible refine Kd.C_drewN ?_ _)|(with_reducible refine Kd.C_drew ?_)));(case side2=>exact(Kd.R_reads' HO_366001.1).2.1);rintro e w162 ⟨rfl,hb⟩;refine⟨_,rfl,?_⟩;have n0_:=qAm (Kd.R_below qB92 hb);have n1_:=qAm (Kd.R_below qB93 hb);have n2_:=qAm (Kd.R_below qB94 hb);have n3_:=qAm (Kd.R_below (by (with_reducible repeat(first|apply Kd.R_alloc|apply Kd.R_drewN|apply Kd.R_drew));exact HO_388001.1) hb);have n4_:=qAm (blk_below (g:=gb343) (o:=.cells #[.int .i64 a0_0,.slice A0_1 l0_1.length c0_1] 24 (0,0)) qB84 hb);have n5_:=qAm (blk_below (g:=gb354) (o:=.cells #[.int .i64 t349,.slice Ao23 t350.length co23] 26 (0,0)) qB85 hb);have n6_:=qAm (blk_below (g:=gb359) (o:=.cells #[.int .i64 t355,.slice Ao30 t373.length co30] 26 (0,0)) qB86 hb);have n7_:=qAm (blk_below (g:=gb365) (o:=.cells #[.int .i64 t360,.slice Ao37 t376.length co37] 26 (0,0)) qB87 hb);have n8_:=qAm (blk_below (g:=gb387) (o:=.cells #[.int .i64 t382,.slice Ao124 t383.length co124] 26 (0,0)) (by (with_reducible repeat(first|refine blk_drewN ?_ _|refine blk_drew ?_|refine blk_alloc ?_ _));exact BK387.1) hb);have n9_:=qAm (below_step qB20 hb);clear HO_355001;clear HO_360001;clear HO_366001;clear HO_388001;clear BK343;clear BK354;clear BK359;clear BK365;clear BK387;clear HB;have HO_355001:=n0_;have HO_360001:=n1_;have HO_366001:=n2_;have HO_388001:=n3_;have BK343:=n4_;have BK354:=n5_;have BK359:=n6_;have BK365:=n7_;have BK387:=n8_;have HB:=n9_;clear n0_ n1_ n2_ n3_ n4_ n5_ n6_ n7_ n8_ n9_;(try clear hb);(try clear hb2);(try clear hk);(try clear hi)));go_ret;exact⟨by first|rfl|(simp [errW_none,errW_some] <;> rfl)|(simp [*,errW_none,errW_some] <;> rfl),by repeat(first|(with_reducible first|exact HB.1|apply below_alloc|apply pw_below_drewN|apply below_drew1|refine below_set ?_ GE343.1|refine below_set ?_ GE354.1|refine below_set ?_ GE359.1|refine below_set ?_ GE365.1|refine below_set ?_ GE387.1)|exact HB.1)⟩
               ·rw [if_neg c156] at H;cases H
          ·rw [if_neg c101] at H;cases H
     ·replace c59:=Bool.eq_false_iff.mpr c59;subst c59;have H1:(some false)=some true:=by rw [if_neg (show ¬(false=true) by decide)] at H;exact H
      cases H1

/-- THE ONE PURE STATEMENT of laws_FnExactPowerCyclo. -/
def laws_FnExactPowerCyclo.Pure:Prop:=∀(a0_0:Int) (l0_1:List Int) (a1:Int),(Lit.int .i64 a0_0).wf=true→l0_1.length≤maxLen→(∀x∈l0_1,(Lit.int .i64 x).wf=true)→(Lit.int .i64 a1).wf=true→∃k,laws_FnExactPowerCyclo.f k a0_0 l0_1 a1=some true
theorem laws_FnExactPowerCyclo.walk (P:laws_FnExactPowerCyclo.Pure) (a0_0:Int) (a0_1:Option Addr) (len0_1 cap0_1:Nat) (z0_1:List Int) (a1:Int) (w:World) (w0_0:(Lit.int .i64 a0_0).wf=true) (w0_1:(a0_1=none∧len0_1=0∧cap0_1=0∧z0_1=[])∨∃x,a0_1=some x∧len0_1≤cap0_1∧cap0_1≤maxLen∧z0_1.length=cap0_1∧(∀i,i<z0_1.length→w.cell? (x.add i)=some (.int .i64 (z0_1.getD i 0)))∧∀n∈z0_1,(Lit.int .i64 n).wf=true) (w1:(Lit.int .i64 a1).wf=true):
  Calls Try.prog 4 #[.agg #[.int .i64 a0_0,.slice a0_1 len0_1 cap0_1],.int .i64 a1] w fun e w'=>e=.returned (.bool true)∧Below w.heap.size w w':=by
 obtain⟨l0_1,rfl,hr0_1,hm0_1,hw0_1,hc0_1⟩:=ReadsInt.ofRowC w0_1;obtain⟨k,h⟩:=P a0_0 l0_1 a1 w0_0 hm0_1 hw0_1 w1;refine(laws_FnExactPowerCyclo.calls k a0_0 _ _ l0_1 a1 w (Kd.C_of_reads (d:=(0:Int)) (h1:=fun _=>rfl) hr0_1) hc0_1 h).mono ?_;rintro e w' ⟨rfl,hd⟩;exact⟨rfl,hd⟩

end Go.Proofs.Ythljmbobccaalaa.PFnExactPowerCyclo
